-- by a program of this claim
import Derived.Test.YtmmbgbchimangaaPQx0
import Derived.Test.YtmmbgbchimangaaPQx2
import Derived.Test.YtmmbgbchimangaaPQx4
import Derived.Test.YtmmbgbchimangaaPQx5
namespace Go.Proofs.Ytmmbgbchimangaa.PQ
open Go.RowKit Go.Proofs.YtmmbgbchimangaaW.PrintWords Go.Proofs.YtmmbgbchimangaaW.PrintLast Go.Proofs.YtmmbgbchimangaaW.PrintMore Go.Proofs.Ytmmbgbchimangaa.Z
attribute [local go_sem] max2_int min2_int max_two min_two max_three min_three max_four min_four   -- for this text's walks alone
set_option linter.unusedVariables false
set_option linter.unusedSimpArgs false

/-! ### soft_Div: function 34 -/
mutual
def soft_Div.j0:Nat→Bool→Bool→Int→Int→Int→Bool→Int→Int→Int→Bool→Int→Int→Option (Int×Int)
 | 0,_,_,_,_,_,_,_,_,_,_,_,_=>none
 | k+1,e,n,a,b,c,g,h,i,d,j,l,m=>if n=true then ((round_NaN.f a b).bind fun o=>(some (o,0))) else (if c=3 then (soft_Div.j1 k e true a b c g h i d j l m) else (soft_Div.j1 k e (d==1) a b c g h i d j l m))
def soft_Div.j1:Nat→Bool→Bool→Int→Int→Int→Bool→Int→Int→Int→Bool→Int→Int→Option (Int×Int)
 | 0,_,_,_,_,_,_,_,_,_,_,_,_=>none
 | k+1,a,l,b,c,m,t,n,e,o,u,p,h=>if l=true then ((round_Inf.f b c a).bind fun q=>(some (q,0))) else (if m=1 then ((round_Zero.f b c a).bind fun r=>(some (r,0))) else (if o=3 then ((round_Zero.f b c a).bind fun s=>(some (s,0))) else ((bits_LeadingZeros64.f k e).bind fun d=>((bits_LeadingZeros64.f k h).bind fun g=>(if 0≤d then (if 0≤g then ((bits_Div64.f k ((shl .u64 e d)/2) (IntKind.u64.wrap ((shl .u64 e d)*9223372036854775808)) (shl .u64 h g)).bind fun i=>((round_Pack.f k b c a 0 i.1 (wrap64 ((wrap64 ((wrap64 ((wrap64 (n-d))-p))+g))-63)) (i.2 != 0)).bind fun j=>(some (j.1,j.2)))) else (none)) else (none))))))
end
def soft_Div.f (k:Nat) (a0_0:Int) (a0_1:Int) (a1:Int) (a2:Int):Option (Int×Int):=(soft_two.f k a0_0 a0_1 a1 a2).bind fun a=>(if a.2.2.2.2.2.2.2.2=0 then ((soft_odd.f a.1 a.2.1 a.2.2.1 a.2.2.2.1 a.2.2.2.2.1 a.2.2.2.2.2.1 a.2.2.2.2.2.2.1 a.2.2.2.2.2.2.2.1).bind fun b=>(if b=true then (soft_Div.j0 k (a.2.1 != a.2.2.2.2.2.1) true a0_0 a0_1 a.1 a.2.1 a.2.2.1 a.2.2.2.1 a.2.2.2.2.1 a.2.2.2.2.2.1 a.2.2.2.2.2.2.1 a.2.2.2.2.2.2.2.1) else (if a.1=a.2.2.2.2.1 then (soft_Div.j0 k (a.2.1 != a.2.2.2.2.2.1) (a.1 != 2) a0_0 a0_1 a.1 a.2.1 a.2.2.1 a.2.2.2.1 a.2.2.2.2.1 a.2.2.2.2.2.1 a.2.2.2.2.2.2.1 a.2.2.2.2.2.2.2.1) else (soft_Div.j0 k (a.2.1 != a.2.2.2.2.2.1) false a0_0 a0_1 a.1 a.2.1 a.2.2.1 a.2.2.2.1 a.2.2.2.2.1 a.2.2.2.2.2.1 a.2.2.2.2.2.2.1 a.2.2.2.2.2.2.2.1)))) else (some (0,a.2.2.2.2.2.2.2.2)))
theorem soft_Div.mono_l:∀ k,(∀ y0 y1 y2 y3 y4 y5 y6 y7 y8 y9 y10 y11,LeO (soft_Div.j0 k y0 y1 y2 y3 y4 y5 y6 y7 y8 y9 y10 y11) (soft_Div.j0 (k+1) y0 y1 y2 y3 y4 y5 y6 y7 y8 y9 y10 y11))∧(∀ y0 y1 y2 y3 y4 y5 y6 y7 y8 y9 y10 y11,LeO (soft_Div.j1 k y0 y1 y2 y3 y4 y5 y6 y7 y8 y9 y10 y11) (soft_Div.j1 (k+1) y0 y1 y2 y3 y4 y5 y6 y7 y8 y9 y10 y11))
 | 0=>⟨fun _ _ _ _ _ _ _ _ _ _ _ _ r h=>by simp[soft_Div.j0] at h,fun _ _ _ _ _ _ _ _ _ _ _ _ r h=>by simp[soft_Div.j1] at h⟩
 | k+1=>by
  obtain⟨ih0,ih1⟩:=soft_Div.mono_l k
  refine⟨?_,?_⟩ <;> intros <;> (first|unfold soft_Div.j0|unfold soft_Div.j1) <;> (repeat' first|(with_reducible first|apply ih0|apply ih1|apply bits_Div64.mono|apply bits_LeadingZeros64.mono|apply round_Pack.mono|apply soft_two.mono|exact LeO.refl _|exact LeO.none _|refine LeO.ite ?_ ?_|refine LeO.bind ?_ (fun _=>?_))|refine LeO.ite ?_ ?_|refine LeO.bind ?_ (fun _=>?_))
theorem soft_Div.mono:∀ a0 a1 a2 a3 k,LeO (soft_Div.f k a0 a1 a2 a3) (soft_Div.f (k+1) a0 a1 a2 a3):=by
 intro a0 a1 a2 a3 k
 obtain⟨ih0,ih1⟩:=soft_Div.mono_l k
 unfold soft_Div.f
 repeat' first|(with_reducible first|apply ih0|apply ih1|apply bits_Div64.mono|apply bits_LeadingZeros64.mono|apply round_Pack.mono|apply soft_two.mono|exact LeO.refl _|exact LeO.none _|refine LeO.ite ?_ ?_|refine LeO.bind ?_ (fun _=>?_))|refine LeO.ite ?_ ?_|refine LeO.bind ?_ (fun _=>?_)
set_option maxHeartbeats 8000000 in
set_option maxRecDepth 100000 in
theorem soft_Div.calls {k:Nat} {n:Int} {p:Int} {a1:Int} {a2:Int} {r1:Int} {r2:Int} {w:World} (h:soft_Div.f k n p a1 a2=some (r1,r2)) :
  Calls Try.prog 34 #[.agg #[.int .i64 n,.int .i64 p],.int .u64 a1,.int .u64 a2] w fun e w'=>e=.returned (.tuple #[.int .u64 r1,.int .i64 r2])∧Below w.heap.size w w':=by
 have hu23:=Try.underlying23
 have hu34:=Try.underlying34
 have HB:=Aside0.mk (Below.refl w.heap.size w)
 have H:=h
 unfold soft_Div.f at H
 clear h
 obtain⟨⟨q,y,z,u,v,B,C,s,c6⟩,A4,H⟩:=oB H
 try dsimp only at H
 obtain⟨nb1_,bD⟩:∃ b_:Bool,(y != B)=b_:=⟨_,rfl⟩
 simp only[bD] at H
 have hcnb1_:(!(y==B))=nb1_:=bD
 by_cases c5:c6=0
 rotate_left
 ·rw[if_neg c5] at H
  obtain⟨bE,bF⟩:=zf c5
  simp only[Option.some.injEq,Prod.mk.injEq] at H
  obtain⟨rfl,rfl⟩:=H
  go_enter Try.func34,Try.ntmps34
  go_wp2_with (first|((with_reducible refine gate_dst (N:=3) rfl ?_);refine zbox (N:=3) (cs:=#[.int .i64 n,.int .i64 p]) (t:=23) ?_;intro F hg eC hbox hb;have a:=Aside0.mk hbox;have aj:=zge hg HB;have ak:=zge hg HB;replace HB:=zbs HB hb;clear hb hbox hg;obtain⟨bp,bq,br,bs⟩:=zc2 a)|(go_at_call 47;(with_reducible refine (soft_two.calls A4.out).mono ?_);rintro e eD ⟨rfl,hb⟩;obtain⟨a,HB⟩:=zu1 a HB hb;clear hb)|((with_reducible refine gate_dst (N:=8) rfl ?_);refine zbox (N:=8) (cs:=#[.int .i64 0,.bool false,.int .i64 0,.int .u64 0]) (t:=34) ?_;intro G hg eE hbox hb;have b:=Aside0.mk hbox;have al:=zge hg HB;have am:=zge hg HB;have m:=znl hg a;have g:=zng hg a;obtain⟨a,HB⟩:=zu1 a HB hb;clear hb hbox hg)|((with_reducible refine gate_dst (N:=9) rfl ?_);refine zbox (N:=9) (cs:=#[.int .i64 0,.bool false,.int .i64 0,.int .u64 0]) (t:=34) ?_;intro I hg cM hbox hb;have c:=Aside0.mk hbox;have an:=zge hg HB;have ao:=zge hg HB;have l:=znl hg a;have j:=zng hg a;have i:=znl hg b;have D:=zng hg b;obtain⟨a,b,HB⟩:=zu2 a b HB hb;clear hb hbox hg;obtain⟨bu,bv⟩:=z2 g;obtain⟨bw,bx⟩:=z2 i;obtain⟨a3,a4,a5,a6,a7,a8,a9,ba⟩:=zc4 b;obtain⟨bz,bA⟩:=z2 j;obtain⟨bb,bc,bd,be,bf,bg,bh,bi⟩:=zc4 c))
  repeat (go_quiet (first|((with_reducible refine gate_dst (N:=3) rfl ?_);refine zbox (N:=3) (cs:=#[.int .i64 n,.int .i64 p]) (t:=23) ?_;intro F hg eC hbox hb;have a:=Aside0.mk hbox;have aj:=zge hg HB;have ak:=zge hg HB;replace HB:=zbs HB hb;clear hb hbox hg;obtain⟨bp,bq,br,bs⟩:=zc2 a)|(go_at_call 47;(with_reducible refine (soft_two.calls A4.out).mono ?_);rintro e eD ⟨rfl,hb⟩;obtain⟨a,HB⟩:=zu1 a HB hb;clear hb)|((with_reducible refine gate_dst (N:=8) rfl ?_);refine zbox (N:=8) (cs:=#[.int .i64 0,.bool false,.int .i64 0,.int .u64 0]) (t:=34) ?_;intro G hg eE hbox hb;have b:=Aside0.mk hbox;have al:=zge hg HB;have am:=zge hg HB;have m:=znl hg a;have g:=zng hg a;obtain⟨a,HB⟩:=zu1 a HB hb;clear hb hbox hg)|((with_reducible refine gate_dst (N:=9) rfl ?_);refine zbox (N:=9) (cs:=#[.int .i64 0,.bool false,.int .i64 0,.int .u64 0]) (t:=34) ?_;intro I hg cM hbox hb;have c:=Aside0.mk hbox;have an:=zge hg HB;have ao:=zge hg HB;have l:=znl hg a;have j:=zng hg a;have i:=znl hg b;have D:=zng hg b;obtain⟨a,b,HB⟩:=zu2 a b HB hb;clear hb hbox hg;obtain⟨bu,bv⟩:=z2 g;obtain⟨bw,bx⟩:=z2 i;obtain⟨a3,a4,a5,a6,a7,a8,a9,ba⟩:=zc4 b;obtain⟨bz,bA⟩:=z2 j;obtain⟨bb,bc,bd,be,bf,bg,bh,bi⟩:=zc4 c));try go_wp2_with (first|((with_reducible refine gate_dst (N:=3) rfl ?_);refine zbox (N:=3) (cs:=#[.int .i64 n,.int .i64 p]) (t:=23) ?_;intro F hg eC hbox hb;have a:=Aside0.mk hbox;have aj:=zge hg HB;have ak:=zge hg HB;replace HB:=zbs HB hb;clear hb hbox hg;obtain⟨bp,bq,br,bs⟩:=zc2 a)|(go_at_call 47;(with_reducible refine (soft_two.calls A4.out).mono ?_);rintro e eD ⟨rfl,hb⟩;obtain⟨a,HB⟩:=zu1 a HB hb;clear hb)|((with_reducible refine gate_dst (N:=8) rfl ?_);refine zbox (N:=8) (cs:=#[.int .i64 0,.bool false,.int .i64 0,.int .u64 0]) (t:=34) ?_;intro G hg eE hbox hb;have b:=Aside0.mk hbox;have al:=zge hg HB;have am:=zge hg HB;have m:=znl hg a;have g:=zng hg a;obtain⟨a,HB⟩:=zu1 a HB hb;clear hb hbox hg)|((with_reducible refine gate_dst (N:=9) rfl ?_);refine zbox (N:=9) (cs:=#[.int .i64 0,.bool false,.int .i64 0,.int .u64 0]) (t:=34) ?_;intro I hg cM hbox hb;have c:=Aside0.mk hbox;have an:=zge hg HB;have ao:=zge hg HB;have l:=znl hg a;have j:=zng hg a;have i:=znl hg b;have D:=zng hg b;obtain⟨a,b,HB⟩:=zu2 a b HB hb;clear hb hbox hg;obtain⟨bu,bv⟩:=z2 g;obtain⟨bw,bx⟩:=z2 i;obtain⟨a3,a4,a5,a6,a7,a8,a9,ba⟩:=zc4 b;obtain⟨bz,bA⟩:=z2 j;obtain⟨bb,bc,bd,be,bf,bg,bh,bi⟩:=zc4 c)))
  go_ret2
  exact zr HB

 rw[if_pos c5] at H
 obtain⟨bE,bF⟩:=zt c5
 clear c5
 have cP:=Aside0.mk H
 clear H
 go_enter Try.func34,Try.ntmps34
 go_upto_region 5 with (first|((with_reducible refine gate_dst (N:=3) rfl ?_);refine zbox (N:=3) (cs:=#[.int .i64 n,.int .i64 p]) (t:=23) ?_;intro F hg w7 hbox hb;have a:=Aside0.mk hbox;have aj:=zge hg HB;have ak:=zge hg HB;replace HB:=zbs HB hb;clear hb hbox hg;obtain⟨ae,af,ag,ah⟩:=zc2 a)|(go_at_call 47;(with_reducible refine (soft_two.calls A4.out).mono ?_);rintro e w9 ⟨rfl,hb⟩;obtain⟨a,HB⟩:=zu1 a HB hb;clear hb)|((with_reducible refine gate_dst (N:=8) rfl ?_);refine zbox (N:=8) (cs:=#[.int .i64 0,.bool false,.int .i64 0,.int .u64 0]) (t:=34) ?_;intro G hg c8 hbox hb;have b:=Aside0.mk hbox;have al:=zge hg HB;have am:=zge hg HB;have m:=znl hg a;have g:=zng hg a;obtain⟨a,HB⟩:=zu1 a HB hb;clear hb hbox hg)|((with_reducible refine gate_dst (N:=9) rfl ?_);refine zbox (N:=9) (cs:=#[.int .i64 0,.bool false,.int .i64 0,.int .u64 0]) (t:=34) ?_;intro I hg c9 hbox hb;have c:=Aside0.mk hbox;have an:=zge hg HB;have ao:=zge hg HB;have l:=znl hg a;have j:=zng hg a;have i:=znl hg b;have D:=zng hg b;obtain⟨a,b,HB⟩:=zu2 a b HB hb;clear hb hbox hg;obtain⟨bG,bH⟩:=z2 g;obtain⟨bI,bJ⟩:=z2 i;obtain⟨L,M,O,P,Q,R,S,T⟩:=zc4 b;obtain⟨bK,bL⟩:=z2 j;obtain⟨U,V,W,X,Y,Z,aa,ab⟩:=zc4 c))
 repeat (go_quiet (first|((with_reducible refine gate_dst (N:=3) rfl ?_);refine zbox (N:=3) (cs:=#[.int .i64 n,.int .i64 p]) (t:=23) ?_;intro F hg w7 hbox hb;have a:=Aside0.mk hbox;have aj:=zge hg HB;have ak:=zge hg HB;replace HB:=zbs HB hb;clear hb hbox hg;obtain⟨ae,af,ag,ah⟩:=zc2 a)|(go_at_call 47;(with_reducible refine (soft_two.calls A4.out).mono ?_);rintro e w9 ⟨rfl,hb⟩;obtain⟨a,HB⟩:=zu1 a HB hb;clear hb)|((with_reducible refine gate_dst (N:=8) rfl ?_);refine zbox (N:=8) (cs:=#[.int .i64 0,.bool false,.int .i64 0,.int .u64 0]) (t:=34) ?_;intro G hg c8 hbox hb;have b:=Aside0.mk hbox;have al:=zge hg HB;have am:=zge hg HB;have m:=znl hg a;have g:=zng hg a;obtain⟨a,HB⟩:=zu1 a HB hb;clear hb hbox hg)|((with_reducible refine gate_dst (N:=9) rfl ?_);refine zbox (N:=9) (cs:=#[.int .i64 0,.bool false,.int .i64 0,.int .u64 0]) (t:=34) ?_;intro I hg c9 hbox hb;have c:=Aside0.mk hbox;have an:=zge hg HB;have ao:=zge hg HB;have l:=znl hg a;have j:=zng hg a;have i:=znl hg b;have D:=zng hg b;obtain⟨a,b,HB⟩:=zu2 a b HB hb;clear hb hbox hg;obtain⟨bG,bH⟩:=z2 g;obtain⟨bI,bJ⟩:=z2 i;obtain⟨L,M,O,P,Q,R,S,T⟩:=zc4 b;obtain⟨bK,bL⟩:=z2 j;obtain⟨U,V,W,X,Y,Z,aa,ab⟩:=zc4 c));go_upto_region 5 with (first|((with_reducible refine gate_dst (N:=3) rfl ?_);refine zbox (N:=3) (cs:=#[.int .i64 n,.int .i64 p]) (t:=23) ?_;intro F hg w7 hbox hb;have a:=Aside0.mk hbox;have aj:=zge hg HB;have ak:=zge hg HB;replace HB:=zbs HB hb;clear hb hbox hg;obtain⟨ae,af,ag,ah⟩:=zc2 a)|(go_at_call 47;(with_reducible refine (soft_two.calls A4.out).mono ?_);rintro e w9 ⟨rfl,hb⟩;obtain⟨a,HB⟩:=zu1 a HB hb;clear hb)|((with_reducible refine gate_dst (N:=8) rfl ?_);refine zbox (N:=8) (cs:=#[.int .i64 0,.bool false,.int .i64 0,.int .u64 0]) (t:=34) ?_;intro G hg c8 hbox hb;have b:=Aside0.mk hbox;have al:=zge hg HB;have am:=zge hg HB;have m:=znl hg a;have g:=zng hg a;obtain⟨a,HB⟩:=zu1 a HB hb;clear hb hbox hg)|((with_reducible refine gate_dst (N:=9) rfl ?_);refine zbox (N:=9) (cs:=#[.int .i64 0,.bool false,.int .i64 0,.int .u64 0]) (t:=34) ?_;intro I hg c9 hbox hb;have c:=Aside0.mk hbox;have an:=zge hg HB;have ao:=zge hg HB;have l:=znl hg a;have j:=zng hg a;have i:=znl hg b;have D:=zng hg b;obtain⟨a,b,HB⟩:=zu2 a b HB hb;clear hb hbox hg;obtain⟨bG,bH⟩:=z2 g;obtain⟨bI,bJ⟩:=z2 i;obtain⟨L,M,O,P,Q,R,S,T⟩:=zc4 b;obtain⟨bK,bL⟩:=z2 j;obtain⟨U,V,W,X,Y,Z,aa,ab⟩:=zc4 c)))
 (try simp only[Act.put,List.setIfInBounds_toArray,List.set_cons_zero,List.set_cons_succ])
 go_cut [34] (fun v34 wc=>∃ (kq:Nat) (bj:Bool),v34=.bool bj∧Aside0 (soft_Div.j0 kq nb1_ bj n p q y z u v B C s=some (r1,r2))∧Aside0 (kq≤k)∧Aside0 (wc.heap[F]?=some (.cells #[.int .i64 n,.int .i64 p] 23 (0,0)))∧Aside0 (wc.heap[G]?=some (.cells #[.int .i64 q,.bool y,.int .i64 z,.int .u64 u] 34 (0,0)))∧Aside0 (wc.heap[I]?=some (.cells #[.int .i64 v,.bool B,.int .i64 C,.int .u64 s] 34 (0,0)))∧Aside0 (Below w.heap.size w wc))
 case first =>
  have H:=cP.out
  clear cP
  obtain⟨bC,bk,H⟩:=oB H
  by_cases bM:bC=true
  ·subst bM
   rw[if_pos rfl] at H
   have H':=Aside0.mk H
   clear H
   obtain⟨eL,eM⟩:=z2 g
   obtain⟨eN,eO⟩:=z2 i
   obtain⟨bN,bO,bP,bQ,bR,bS,bT,bU⟩:=zc4 b
   obtain⟨eP,eQ⟩:=z2 j
   obtain⟨bV,bW,bX,bY,bZ,b0,b1,b2⟩:=zc4 c
   go_wp2_with (first|(go_at_call 48;(with_reducible refine (soft_odd.calls bk.out).mono ?_);rintro e da ⟨rfl,hb⟩;replace a:=zkb a hb;replace b:=zkbo (o:=.cells #[.int .i64 q,.bool y,.int .i64 z,.int .u64 u] 34 (0,0)) b hb;replace c:=zkbo (o:=.cells #[.int .i64 v,.bool B,.int .i64 C,.int .u64 s] 34 (0,0)) c hb;replace HB:=zbs HB hb;clear hb))
   repeat (go_quiet (first|(go_at_call 48;(with_reducible refine (soft_odd.calls bk.out).mono ?_);rintro e da ⟨rfl,hb⟩;replace a:=zkb a hb;replace b:=zkbo (o:=.cells #[.int .i64 q,.bool y,.int .i64 z,.int .u64 u] 34 (0,0)) b hb;replace c:=zkbo (o:=.cells #[.int .i64 v,.bool B,.int .i64 C,.int .u64 s] 34 (0,0)) c hb;replace HB:=zbs HB hb;clear hb));try go_wp2_with (first|(go_at_call 48;(with_reducible refine (soft_odd.calls bk.out).mono ?_);rintro e da ⟨rfl,hb⟩;replace a:=zkb a hb;replace b:=zkbo (o:=.cells #[.int .i64 q,.bool y,.int .i64 z,.int .u64 u] 34 (0,0)) b hb;replace c:=zkbo (o:=.cells #[.int .i64 v,.bool B,.int .i64 C,.int .u64 s] 34 (0,0)) c hb;replace HB:=zbs HB hb;clear hb)))
   go_meet
   case rel=>exact⟨_,(true),(by first|rfl|(simp[*];done)),H',⟨by omega⟩,⟨zk a⟩,⟨zk b⟩,⟨zk c⟩,⟨zb HB⟩⟩
  replace bM:=Bool.eq_false_iff.mpr bM
  subst bM
  rw[if_neg nft] at H
  by_cases bB:q=v
  ·rw[if_pos bB] at H
   obtain⟨ac,b3⟩:=zt bB
   clear bB
   (first|rw[ac]|(simp only[i64_w,i32_w];rw[ac])|skip)
   have H':=Aside0.mk H
   clear H
   obtain⟨eR,eS⟩:=z2 g
   obtain⟨eT,eU⟩:=z2 i
   obtain⟨b4,b5,b6,b7,b8,b9,ca,cb⟩:=zc4 b
   obtain⟨eV,eW⟩:=z2 j
   obtain⟨cc,cd,ce,cf,cg,ch,ci,cj⟩:=zc4 c
   go_wp2_with (first|(go_at_call 48;(with_reducible refine (soft_odd.calls bk.out).mono ?_);rintro e db ⟨rfl,hb⟩;replace a:=zkb a hb;replace b:=zkbo (o:=.cells #[.int .i64 q,.bool y,.int .i64 z,.int .u64 u] 34 (0,0)) b hb;replace c:=zkbo (o:=.cells #[.int .i64 v,.bool B,.int .i64 C,.int .u64 s] 34 (0,0)) c hb;replace HB:=zbs HB hb;clear hb;obtain⟨ap,aq,ar,au,av,aw,ax,ay⟩:=zc4 b;obtain⟨az,aA,aB,aC,aD,aE,aF,aG⟩:=zc4 c))
   repeat (go_quiet (first|(go_at_call 48;(with_reducible refine (soft_odd.calls bk.out).mono ?_);rintro e db ⟨rfl,hb⟩;replace a:=zkb a hb;replace b:=zkbo (o:=.cells #[.int .i64 q,.bool y,.int .i64 z,.int .u64 u] 34 (0,0)) b hb;replace c:=zkbo (o:=.cells #[.int .i64 v,.bool B,.int .i64 C,.int .u64 s] 34 (0,0)) c hb;replace HB:=zbs HB hb;clear hb;obtain⟨ap,aq,ar,au,av,aw,ax,ay⟩:=zc4 b;obtain⟨az,aA,aB,aC,aD,aE,aF,aG⟩:=zc4 c));try go_wp2_with (first|(go_at_call 48;(with_reducible refine (soft_odd.calls bk.out).mono ?_);rintro e db ⟨rfl,hb⟩;replace a:=zkb a hb;replace b:=zkbo (o:=.cells #[.int .i64 q,.bool y,.int .i64 z,.int .u64 u] 34 (0,0)) b hb;replace c:=zkbo (o:=.cells #[.int .i64 v,.bool B,.int .i64 C,.int .u64 s] 34 (0,0)) c hb;replace HB:=zbs HB hb;clear hb;obtain⟨ap,aq,ar,au,av,aw,ax,ay⟩:=zc4 b;obtain⟨az,aA,aB,aC,aD,aE,aF,aG⟩:=zc4 c)))
   go_meet
   case rel=>exact⟨_,((q != 2)),(by first|rfl|(simp[*];done)),H',⟨by omega⟩,⟨zk a⟩,⟨zk b⟩,⟨zk c⟩,⟨zb HB⟩⟩
  rw[if_neg bB] at H
  obtain⟨ac,b3⟩:=zf bB
  (first|rw[ac]|(simp only[i64_w,i32_w];rw[ac])|skip)
  have H':=Aside0.mk H
  clear H
  obtain⟨eX,eY⟩:=z2 g
  obtain⟨eZ,e0⟩:=z2 i
  obtain⟨ck,cl,cm,cn,co,cp,cq,cr⟩:=zc4 b
  obtain⟨e1,e2⟩:=z2 j
  obtain⟨ct,cu,cv,cw,cx,cy,cz,cA⟩:=zc4 c
  go_wp2_with (first|(go_at_call 48;(with_reducible refine (soft_odd.calls bk.out).mono ?_);rintro e dc ⟨rfl,hb⟩;replace a:=zkb a hb;replace b:=zkbo (o:=.cells #[.int .i64 q,.bool y,.int .i64 z,.int .u64 u] 34 (0,0)) b hb;replace c:=zkbo (o:=.cells #[.int .i64 v,.bool B,.int .i64 C,.int .u64 s] 34 (0,0)) c hb;replace HB:=zbs HB hb;clear hb;obtain⟨aH,aI,aJ,aK,aL,aM,aN,aO⟩:=zc4 b;obtain⟨aP,aQ,aR,aS,aT,aU,aV,aW⟩:=zc4 c))
  repeat (go_quiet (first|(go_at_call 48;(with_reducible refine (soft_odd.calls bk.out).mono ?_);rintro e dc ⟨rfl,hb⟩;replace a:=zkb a hb;replace b:=zkbo (o:=.cells #[.int .i64 q,.bool y,.int .i64 z,.int .u64 u] 34 (0,0)) b hb;replace c:=zkbo (o:=.cells #[.int .i64 v,.bool B,.int .i64 C,.int .u64 s] 34 (0,0)) c hb;replace HB:=zbs HB hb;clear hb;obtain⟨aH,aI,aJ,aK,aL,aM,aN,aO⟩:=zc4 b;obtain⟨aP,aQ,aR,aS,aT,aU,aV,aW⟩:=zc4 c));try go_wp2_with (first|(go_at_call 48;(with_reducible refine (soft_odd.calls bk.out).mono ?_);rintro e dc ⟨rfl,hb⟩;replace a:=zkb a hb;replace b:=zkbo (o:=.cells #[.int .i64 q,.bool y,.int .i64 z,.int .u64 u] 34 (0,0)) b hb;replace c:=zkbo (o:=.cells #[.int .i64 v,.bool B,.int .i64 C,.int .u64 s] 34 (0,0)) c hb;replace HB:=zbs HB hb;clear hb;obtain⟨aH,aI,aJ,aK,aL,aM,aN,aO⟩:=zc4 b;obtain⟨aP,aQ,aR,aS,aT,aU,aV,aW⟩:=zc4 c)))
  go_meet
  case rel=>exact⟨_,(false),(by first|rfl|(simp[*];done)),H',⟨by omega⟩,⟨zk a⟩,⟨zk b⟩,⟨zk c⟩,⟨zb HB⟩⟩
 case rest =>
  clear cP
  try clear bE bF L M O P U V W X ae af Q R S T Y Z aa ab ag ah
  obtain⟨kq,bj,rfl,HA,dd,a,b,c,HB⟩:=hcut
  cases kq with
  | zero=>exact absurd HA.out (by simp[soft_Div.j0])
  | succ e3 =>
   have H:=HA.out
   clear HA
   simp only[soft_Div.j0] at H
   by_cases cB:bj=true
   ·subst cB
    rw[if_pos rfl] at H
    obtain⟨fK,cQ,H⟩:=oB H
    simp only[Option.some.injEq,Prod.mk.injEq] at H
    obtain⟨rfl,rfl⟩:=H
    obtain⟨e4,e5⟩:=z2 m
    obtain⟨e6,e7⟩:=z2 l
    obtain⟨de,df,dg,dh⟩:=zc2 a
    go_wp2_with (first|(go_at_call 49;(with_reducible refine (round_NaN.calls cQ.out).mono ?_);rintro e di ⟨rfl,hb⟩;obtain⟨a,b,c,HB⟩:=zu3 a b c HB hb;clear hb))
    repeat (go_quiet (first|(go_at_call 49;(with_reducible refine (round_NaN.calls cQ.out).mono ?_);rintro e di ⟨rfl,hb⟩;obtain⟨a,b,c,HB⟩:=zu3 a b c HB hb;clear hb));try go_wp2_with (first|(go_at_call 49;(with_reducible refine (round_NaN.calls cQ.out).mono ?_);rintro e di ⟨rfl,hb⟩;obtain⟨a,b,c,HB⟩:=zu3 a b c HB hb;clear hb)))
    go_ret2
    exact zr HB
   replace cB:=Bool.eq_false_iff.mpr cB
   subst cB
   rw[if_neg nft] at H
   have cC:=Aside0.mk H
   clear H
   go_upto_region 7 with (fail)
   repeat (go_quiet (fail);go_upto_region 7 with (fail))
   go_cut [52] (fun v52 wc=>∃ (kq:Nat) (ai:Bool),v52=.bool ai∧Aside0 (soft_Div.j1 kq nb1_ ai n p q y z u v B C s=some (r1,r2))∧Aside0 (kq≤e3)∧Aside0 (wc.heap[F]?=some (.cells #[.int .i64 n,.int .i64 p] 23 (0,0)))∧Aside0 (wc.heap[G]?=some (.cells #[.int .i64 q,.bool y,.int .i64 z,.int .u64 u] 34 (0,0)))∧Aside0 (wc.heap[I]?=some (.cells #[.int .i64 v,.bool B,.int .i64 C,.int .u64 s] 34 (0,0)))∧Aside0 (Below w.heap.size w wc))
   case first =>
    have H:=cC.out
    clear cC
    by_cases cD:q=3
    ·rw[if_pos cD] at H
     obtain⟨aX,cR⟩:=zt cD
     clear cD
     (first|rw[aX]|(simp only[i64_w,i32_w];rw[aX])|skip)
     have H':=Aside0.mk H
     clear H
     obtain⟨e8,e9⟩:=z2 g
     obtain⟨fa,fb⟩:=z2 i
     obtain⟨dj,dk,dl,dm,dn,dp,dq,dr⟩:=zc4 b
     go_wp2
     repeat (go_quiet (fail);try go_wp2)
     go_meet
     case rel=>exact⟨_,(true),(by first|rfl|(simp[*];done)),H',⟨by have:=dd.out;first|omega|exact Nat.le_refl _⟩,⟨zk a⟩,⟨zk b⟩,⟨zk c⟩,⟨zb HB⟩⟩
    rw[if_neg cD] at H
    obtain⟨aX,cR⟩:=zf cD
    (first|rw[aX]|(simp only[i64_w,i32_w];rw[aX])|skip)
    have H':=Aside0.mk H
    clear H
    obtain⟨fc,fd⟩:=z2 g
    obtain⟨fe,ff⟩:=z2 i
    obtain⟨ds,dt,du,dv,dw,dx,dy,dz⟩:=zc4 b
    obtain⟨fg,fh⟩:=z2 j
    obtain⟨dA,dB,dC,dD,dE,dF,dG,dH⟩:=zc4 c
    go_wp2
    repeat (go_quiet (fail);try go_wp2)
    go_meet
    case rel=>exact⟨_,((v==1)),(by first|rfl|(simp[*];done)),H',⟨by have:=dd.out;first|omega|exact Nat.le_refl _⟩,⟨zk a⟩,⟨zk b⟩,⟨zk c⟩,⟨zb HB⟩⟩
   case rest =>
    clear cC
    try clear c1 c2 p2 c3 bE bF fU fV fW bM fX fY fZ bB ac b3 f0 f1 f2 f3 f4 f5 cB L M O P U V W X bN bO bP bQ bV bW bX bY b4 b5 b6 b7 cc cd ce cf ap aq ar au az aA aB aC ck cl cm cn ct cu cv cw aH aI aJ aK aP aQ aR aS ae af Q R S T Y Z aa ab bR bS bT bU bZ b0 b1 b2 b8 b9 ca cb cg ch ci cj av aw ax ay aD aE aF aG co cp cq cr cx cy cz cA aL aM aN aO aT aU aV aW ag ah p2
    obtain⟨kq,ai,rfl,HA,fL,a,b,c,HB⟩:=hcut
    cases kq with
    | zero=>exact absurd HA.out (by simp[soft_Div.j1])
    | succ bt =>
     have H:=HA.out
     clear HA
     simp only[soft_Div.j1] at H
     by_cases cL:ai=true
     ·subst cL
      rw[if_pos rfl] at H
      obtain⟨fM,cS,H⟩:=oB H
      simp only[Option.some.injEq,Prod.mk.injEq] at H
      obtain⟨rfl,rfl⟩:=H
      obtain⟨fi,fj⟩:=z2 m
      obtain⟨fk,fl⟩:=z2 l
      obtain⟨dI,dJ,dK,dL⟩:=zc2 a
      go_wp2_with (first|(go_at_call 78;(with_reducible refine (round_Inf.calls cS.out).mono ?_);rintro e dM ⟨rfl,hb⟩;obtain⟨a,b,c,HB⟩:=zu3 a b c HB hb;clear hb))
      repeat (go_quiet (first|(go_at_call 78;(with_reducible refine (round_Inf.calls cS.out).mono ?_);rintro e dM ⟨rfl,hb⟩;obtain⟨a,b,c,HB⟩:=zu3 a b c HB hb;clear hb));try go_wp2_with (first|(go_at_call 78;(with_reducible refine (round_Inf.calls cS.out).mono ?_);rintro e dM ⟨rfl,hb⟩;obtain⟨a,b,c,HB⟩:=zu3 a b c HB hb;clear hb)))
      go_ret2
      exact zr HB
     replace cL:=Bool.eq_false_iff.mpr cL
     subst cL
     rw[if_neg nft] at H
     by_cases cE:q=1
     ·rw[if_pos cE] at H
      obtain⟨cT,cU⟩:=zt cE
      clear cE
      obtain⟨fN,cV,H⟩:=oB H
      simp only[Option.some.injEq,Prod.mk.injEq] at H
      obtain⟨rfl,rfl⟩:=H
      obtain⟨fm,fn⟩:=z2 g
      obtain⟨fo,fp⟩:=z2 i
      obtain⟨dN,dO,dP,dQ,dR,dS,dT,dU⟩:=zc4 b
      obtain⟨fq,fr⟩:=z2 l
      obtain⟨dV,dW,dX,dY⟩:=zc2 a
      go_wp2_with (first|(go_at_call 50;(with_reducible refine (round_Zero.calls cV.out).mono ?_);rintro e dZ ⟨rfl,hb⟩;obtain⟨a,b,c,HB⟩:=zu3 a b c HB hb;clear hb))
      repeat (go_quiet (first|(go_at_call 50;(with_reducible refine (round_Zero.calls cV.out).mono ?_);rintro e dZ ⟨rfl,hb⟩;obtain⟨a,b,c,HB⟩:=zu3 a b c HB hb;clear hb));try go_wp2_with (first|(go_at_call 50;(with_reducible refine (round_Zero.calls cV.out).mono ?_);rintro e dZ ⟨rfl,hb⟩;obtain⟨a,b,c,HB⟩:=zu3 a b c HB hb;clear hb)))
      go_ret2
      exact zr HB
     rw[if_neg cE] at H
     obtain⟨cT,cU⟩:=zf cE
     by_cases cF:v=3
     ·rw[if_pos cF] at H
      obtain⟨cW,cX⟩:=zt cF
      clear cF
      obtain⟨fO,cY,H⟩:=oB H
      simp only[Option.some.injEq,Prod.mk.injEq] at H
      obtain⟨rfl,rfl⟩:=H
      obtain⟨fs,ft⟩:=z2 g
      obtain⟨fu,fv⟩:=z2 i
      obtain⟨d0,d1,d2,d3,d4,d5,d6,d7⟩:=zc4 b
      obtain⟨fw,fx⟩:=z2 j
      obtain⟨d8,d9,ea,eb,ec,ed,ee,ef⟩:=zc4 c
      obtain⟨eg,eh,ei,ej⟩:=zc2 a
      go_wp2_with (first|(go_at_call 50;(with_reducible refine (round_Zero.calls cY.out).mono ?_);rintro e ek ⟨rfl,hb⟩;obtain⟨a,b,c,HB⟩:=zu3 a b c HB hb;clear hb))
      repeat (go_quiet (first|(go_at_call 50;(with_reducible refine (round_Zero.calls cY.out).mono ?_);rintro e ek ⟨rfl,hb⟩;obtain⟨a,b,c,HB⟩:=zu3 a b c HB hb;clear hb));try go_wp2_with (first|(go_at_call 50;(with_reducible refine (round_Zero.calls cY.out).mono ?_);rintro e ek ⟨rfl,hb⟩;obtain⟨a,b,c,HB⟩:=zu3 a b c HB hb;clear hb)))
      go_ret2
      exact zr HB
     rw[if_neg cF] at H
     obtain⟨cW,cX⟩:=zf cF
     obtain⟨ad,cG,H⟩:=oB H
     obtain⟨E,cH,H⟩:=oB H
     by_cases cI:0≤ad
     rotate_left
     ·rw[if_neg cI] at H
      exact absurd H (by simp)
     rw[if_pos cI] at H
     have fy:=eq_true cI
     have fz:decide (0≤ad)=true:=decide_eq_true cI
     clear cI
     obtain⟨a0,J⟩:∃ j_:Int,(shl .u64 u ad)=j_:=⟨_,rfl⟩
     first|rw[J] at H|simp only[J] at H
     (try rw[J] at cG)
     (try rw[J] at cH)
     have eF:(IntKind.u64.wrap (u*2^min ad.toNat 64))=a0:=J
     have eG:ad≤64→(IntKind.u64.wrap (u*2^ad.toNat))=a0:=shl_small J
     by_cases cJ:0≤E
     ·rw[if_pos cJ] at H
      have fA:=eq_true cJ
      have fB:decide (0≤E)=true:=decide_eq_true cJ
      clear cJ
      obtain⟨cK,K⟩:∃ j_:Int,(shl .u64 s E)=j_:=⟨_,rfl⟩
      first|rw[K] at H|simp only[K] at H
      (try rw[K] at cG)
      (try rw[K] at cH)
      have eH:(IntKind.u64.wrap (s*2^min E.toNat 64))=cK:=K
      have eI:E≤64→(IntKind.u64.wrap (s*2^E.toNat))=cK:=shl_small K
      obtain⟨⟨fP,fQ⟩,cZ,H⟩:=oB H
      try dsimp only at H
      obtain⟨⟨fR,fS⟩,c0,H⟩:=oB H
      try dsimp only at H
      simp only[Option.some.injEq,Prod.mk.injEq] at H
      obtain⟨rfl,rfl⟩:=H
      obtain⟨fC,fD⟩:=z2 g
      obtain⟨fE,fF⟩:=z2 i
      obtain⟨el,em,en,eo,ep,eq,er,es⟩:=zc4 b
      obtain⟨fG,fH⟩:=z2 j
      obtain⟨et,eu,ev,ew,ex,ey,ez,eA⟩:=zc4 c
      go_wp2_with (first|(go_at_call 69;(with_reducible refine (bits_LeadingZeros64.calls cG.out).mono ?_);rintro e w' ⟨rfl,⟨nd,rfl⟩⟩;(try first|exact⟨rfl,_,World.drewN_drewN _ _ _⟩|exact⟨rfl,_,Eq.trans (World.drewN_drewN _ _ _) (congrArg (World.drewN _) (Nat.add_assoc _ _ _))⟩))|(go_at_call 69;(with_reducible refine (bits_LeadingZeros64.calls cH.out).mono ?_);rintro e w' ⟨rfl,⟨nd,rfl⟩⟩;(try first|exact⟨rfl,_,World.drewN_drewN _ _ _⟩|exact⟨rfl,_,Eq.trans (World.drewN_drewN _ _ _) (congrArg (World.drewN _) (Nat.add_assoc _ _ _))⟩))|(go_at_call 79;(with_reducible refine (bits_Div64.calls cZ.out).mono ?_);rintro e w' ⟨rfl,⟨nd,rfl⟩⟩;(try first|exact⟨rfl,_,World.drewN_drewN _ _ _⟩|exact⟨rfl,_,Eq.trans (World.drewN_drewN _ _ _) (congrArg (World.drewN _) (Nat.add_assoc _ _ _))⟩);obtain⟨bl,bm,bn,bo⟩:=zc2 a)|(go_at_call 51;(with_reducible refine (round_Pack.calls c0.out).mono ?_);rintro e eB ⟨rfl,hb⟩;obtain⟨a,b,c,HB⟩:=zu3 a b c HB hb;clear hb))
      repeat (go_quiet (first|(go_at_call 69;(with_reducible refine (bits_LeadingZeros64.calls cG.out).mono ?_);rintro e w' ⟨rfl,⟨nd,rfl⟩⟩;(try first|exact⟨rfl,_,World.drewN_drewN _ _ _⟩|exact⟨rfl,_,Eq.trans (World.drewN_drewN _ _ _) (congrArg (World.drewN _) (Nat.add_assoc _ _ _))⟩))|(go_at_call 69;(with_reducible refine (bits_LeadingZeros64.calls cH.out).mono ?_);rintro e w' ⟨rfl,⟨nd,rfl⟩⟩;(try first|exact⟨rfl,_,World.drewN_drewN _ _ _⟩|exact⟨rfl,_,Eq.trans (World.drewN_drewN _ _ _) (congrArg (World.drewN _) (Nat.add_assoc _ _ _))⟩))|(go_at_call 79;(with_reducible refine (bits_Div64.calls cZ.out).mono ?_);rintro e w' ⟨rfl,⟨nd,rfl⟩⟩;(try first|exact⟨rfl,_,World.drewN_drewN _ _ _⟩|exact⟨rfl,_,Eq.trans (World.drewN_drewN _ _ _) (congrArg (World.drewN _) (Nat.add_assoc _ _ _))⟩);obtain⟨bl,bm,bn,bo⟩:=zc2 a)|(go_at_call 51;(with_reducible refine (round_Pack.calls c0.out).mono ?_);rintro e eB ⟨rfl,hb⟩;obtain⟨a,b,c,HB⟩:=zu3 a b c HB hb;clear hb));try go_wp2_with (first|(go_at_call 69;(with_reducible refine (bits_LeadingZeros64.calls cG.out).mono ?_);rintro e w' ⟨rfl,⟨nd,rfl⟩⟩;(try first|exact⟨rfl,_,World.drewN_drewN _ _ _⟩|exact⟨rfl,_,Eq.trans (World.drewN_drewN _ _ _) (congrArg (World.drewN _) (Nat.add_assoc _ _ _))⟩))|(go_at_call 69;(with_reducible refine (bits_LeadingZeros64.calls cH.out).mono ?_);rintro e w' ⟨rfl,⟨nd,rfl⟩⟩;(try first|exact⟨rfl,_,World.drewN_drewN _ _ _⟩|exact⟨rfl,_,Eq.trans (World.drewN_drewN _ _ _) (congrArg (World.drewN _) (Nat.add_assoc _ _ _))⟩))|(go_at_call 79;(with_reducible refine (bits_Div64.calls cZ.out).mono ?_);rintro e w' ⟨rfl,⟨nd,rfl⟩⟩;(try first|exact⟨rfl,_,World.drewN_drewN _ _ _⟩|exact⟨rfl,_,Eq.trans (World.drewN_drewN _ _ _) (congrArg (World.drewN _) (Nat.add_assoc _ _ _))⟩);obtain⟨bl,bm,bn,bo⟩:=zc2 a)|(go_at_call 51;(with_reducible refine (round_Pack.calls c0.out).mono ?_);rintro e eB ⟨rfl,hb⟩;obtain⟨a,b,c,HB⟩:=zu3 a b c HB hb;clear hb)))
      go_ret2
      exact⟨by first|rfl|(simp[errW_none,errW_some] <;> rfl)|(simp only[←J,←K];first|rfl|(simp[errW_none,errW_some] <;> rfl))|(simp[*,errW_none,errW_some] <;> rfl),zb HB⟩
     rw[if_neg cJ] at H
     exact absurd H (by simp)
/-! ### soft_whole: function 83 -/
def soft_whole.f (a0_0:Int) (a0_1:Bool) (a0_2:Int) (a0_3:Int):Option (Int×Int):=if (wrap64 (-a0_2))>63 then (some (0,1)) else (if 0≤(wrap64 (-a0_2)) then (if (Go.bits .and .u64 a0_3 (IntKind.u64.wrap ((shl .u64 1 (wrap64 (-a0_2)))-1)))=0 then (some (shr .u64 a0_3 (wrap64 (-a0_2)),0)) else (if (Go.bits .and .u64 a0_3 (IntKind.u64.wrap ((shl .u64 1 (wrap64 (-a0_2)))-1)))<((shl .u64 1 (wrap64 (-a0_2)))/2) then (some (shr .u64 a0_3 (wrap64 (-a0_2)),1)) else (if (Go.bits .and .u64 a0_3 (IntKind.u64.wrap ((shl .u64 1 (wrap64 (-a0_2)))-1)))=((shl .u64 1 (wrap64 (-a0_2)))/2) then (some (shr .u64 a0_3 (wrap64 (-a0_2)),2)) else (some (shr .u64 a0_3 (wrap64 (-a0_2)),3))))) else (none))
set_option maxHeartbeats 8000000 in
set_option maxRecDepth 100000 in
theorem soft_whole.calls {l:Int} {m:Bool} {c:Int} {a:Int} {r1:Int} {r2:Int} {w:World} (h:soft_whole.f l m c a=some (r1,r2)) :
  Calls Try.prog 83 #[.agg #[.int .i64 l,.bool m,.int .i64 c,.int .u64 a]] w fun e w'=>e=.returned (.tuple #[.int .u64 r1,.int .i64 r2])∧Below w.heap.size w w':=by
 have hu34:=Try.underlying34
 have HB:=Aside0.mk (Below.refl w.heap.size w)
 have H:=h
 unfold soft_whole.f at H
 clear h
 by_cases c2:(wrap64 (-c))>63
 ·rw[if_pos c2] at H
  have aA:decide (63<(wrap64 (-c)))=true:=decide_eq_true c2
  clear c2
  simp only[Option.some.injEq,Prod.mk.injEq] at H
  obtain⟨rfl,rfl⟩:=H
  go_enter Try.func83,Try.ntmps83
  go_wp2_with (first|((with_reducible refine gate_dst (N:=1) rfl ?_);refine zbox (N:=1) (cs:=#[.int .i64 l,.bool m,.int .i64 c,.int .u64 a]) (t:=34) ?_;intro g hg w3 hbox hb;have b:=Aside0.mk hbox;have i:=zge hg HB;have j:=zge hg HB;replace HB:=zbs HB hb;clear hb hbox hg;obtain⟨ah,ai,aj,ak,al,am,an,ao⟩:=zc4 b))
  repeat (go_quiet (first|((with_reducible refine gate_dst (N:=1) rfl ?_);refine zbox (N:=1) (cs:=#[.int .i64 l,.bool m,.int .i64 c,.int .u64 a]) (t:=34) ?_;intro g hg w3 hbox hb;have b:=Aside0.mk hbox;have i:=zge hg HB;have j:=zge hg HB;replace HB:=zbs HB hb;clear hb hbox hg;obtain⟨ah,ai,aj,ak,al,am,an,ao⟩:=zc4 b));try go_wp2_with (first|((with_reducible refine gate_dst (N:=1) rfl ?_);refine zbox (N:=1) (cs:=#[.int .i64 l,.bool m,.int .i64 c,.int .u64 a]) (t:=34) ?_;intro g hg w3 hbox hb;have b:=Aside0.mk hbox;have i:=zge hg HB;have j:=zge hg HB;replace HB:=zbs HB hb;clear hb hbox hg;obtain⟨ah,ai,aj,ak,al,am,an,ao⟩:=zc4 b)))
  go_ret2
  exact zr HB
 rw[if_neg c2] at H
 have aA:decide (63<(wrap64 (-c)))=false:=decide_eq_false c2
 clear c2
 obtain⟨d,o⟩:∃ j_:Int,(wrap64 (-c))=j_:=⟨_,rfl⟩
 first|rw[o] at H|simp only[o] at H
 (try rw[o] at aA)
 have aW:(IntKind.i64.wrap (-c))=d:=(i64_w _).trans o
 by_cases c6:0≤(d)
 rotate_left
 ·rw[if_neg c6] at H
  exact absurd H (by simp)

 rw[if_pos c6] at H
 have a4:=eq_true c6
 have a5:decide (0≤(d))=true:=decide_eq_true c6
 clear c6
 obtain⟨n,p⟩:∃ j_:Int,(shl .u64 1 (d))=j_:=⟨_,rfl⟩
 first|rw[p] at H|simp only[p] at H
 have aB:(IntKind.u64.wrap (1*2^min (d).toNat 64))=n:=p
 have aC:(d)≤64→(IntKind.u64.wrap (1*2^(d).toNat))=n:=shl_small p
 have aX:(IntKind.u64.wrap (2^min (d).toNat 64))=n:=by have h_:=aB;rw[Int.one_mul] at h_;exact h_
 have aY:(d)≤64→(IntKind.u64.wrap (2^(d).toNat))=n:=fun hle_=>by have h_:=aC hle_;rw[Int.one_mul] at h_;exact h_
 have a6:=eq_true (of_decide_eq_true (by first|(with_reducible assumption)|assumption):0≤(d))
 by_cases aq:(Go.bits .and .u64 a (IntKind.u64.wrap ((n)-1)))=0
 ·rw[if_pos aq] at H
  obtain⟨aD,aE⟩:=zt aq
  clear aq
  have aZ:=eq_true (of_decide_eq_true (by first|(with_reducible assumption)|assumption):0≤(d))
  obtain⟨ar,q⟩:∃ j_:Int,(shr .u64 a (d))=j_:=⟨_,rfl⟩
  first|rw[q] at H|simp only[q] at H
  have aO:(a/2^min (d).toNat 64)=ar:=q
  have aP:(d)≤64→(a/2^(d).toNat)=ar:=shr_small q
  simp only[Option.some.injEq,Prod.mk.injEq] at H
  obtain⟨rfl,rfl⟩:=H
  go_enter Try.func83,Try.ntmps83
  go_wp2_with (first|((with_reducible refine gate_dst (N:=1) rfl ?_);refine zbox (N:=1) (cs:=#[.int .i64 l,.bool m,.int .i64 c,.int .u64 a]) (t:=34) ?_;intro g hg aK hbox hb;have b:=Aside0.mk hbox;have i:=zge hg HB;have j:=zge hg HB;replace HB:=zbs HB hb;clear hb hbox hg;obtain⟨y,z,B,C,D,E,F,G⟩:=zc4 b))
  repeat (go_quiet (first|((with_reducible refine gate_dst (N:=1) rfl ?_);refine zbox (N:=1) (cs:=#[.int .i64 l,.bool m,.int .i64 c,.int .u64 a]) (t:=34) ?_;intro g hg aK hbox hb;have b:=Aside0.mk hbox;have i:=zge hg HB;have j:=zge hg HB;replace HB:=zbs HB hb;clear hb hbox hg;obtain⟨y,z,B,C,D,E,F,G⟩:=zc4 b));try go_wp2_with (first|((with_reducible refine gate_dst (N:=1) rfl ?_);refine zbox (N:=1) (cs:=#[.int .i64 l,.bool m,.int .i64 c,.int .u64 a]) (t:=34) ?_;intro g hg aK hbox hb;have b:=Aside0.mk hbox;have i:=zge hg HB;have j:=zge hg HB;replace HB:=zbs HB hb;clear hb hbox hg;obtain⟨y,z,B,C,D,E,F,G⟩:=zc4 b)))
  go_ret2
  exact⟨by first|rfl|(simp[errW_none,errW_some] <;> rfl)|(simp only[←o,←p,←q];first|rfl|(simp[errW_none,errW_some] <;> rfl))|(simp[*,errW_none,errW_some] <;> rfl),zb HB⟩
 rw[if_neg aq] at H
 obtain⟨aD,aE⟩:=zf aq
 by_cases ap:(Go.bits .and .u64 a (IntKind.u64.wrap ((n)-1)))<((n)/2)
 ·rw[if_pos ap] at H
  have aF:decide ((Go.bits .and .u64 a (IntKind.u64.wrap ((n)-1)))<((n)/2))=true:=decide_eq_true ap
  clear ap
  have a0:=eq_true (of_decide_eq_true (by first|(with_reducible assumption)|assumption):0≤(d))
  obtain⟨au,s⟩:∃ j_:Int,(shr .u64 a (d))=j_:=⟨_,rfl⟩
  first|rw[s] at H|simp only[s] at H
  have aQ:(a/2^min (d).toNat 64)=au:=s
  have aR:(d)≤64→(a/2^(d).toNat)=au:=shr_small s
  simp only[Option.some.injEq,Prod.mk.injEq] at H
  obtain⟨rfl,rfl⟩:=H
  go_enter Try.func83,Try.ntmps83
  go_wp2_with (first|((with_reducible refine gate_dst (N:=1) rfl ?_);refine zbox (N:=1) (cs:=#[.int .i64 l,.bool m,.int .i64 c,.int .u64 a]) (t:=34) ?_;intro g hg aL hbox hb;have b:=Aside0.mk hbox;have i:=zge hg HB;have j:=zge hg HB;replace HB:=zbs HB hb;clear hb hbox hg;obtain⟨I,J,K,L,M,O,P,Q⟩:=zc4 b))
  repeat (go_quiet (first|((with_reducible refine gate_dst (N:=1) rfl ?_);refine zbox (N:=1) (cs:=#[.int .i64 l,.bool m,.int .i64 c,.int .u64 a]) (t:=34) ?_;intro g hg aL hbox hb;have b:=Aside0.mk hbox;have i:=zge hg HB;have j:=zge hg HB;replace HB:=zbs HB hb;clear hb hbox hg;obtain⟨I,J,K,L,M,O,P,Q⟩:=zc4 b));try go_wp2_with (first|((with_reducible refine gate_dst (N:=1) rfl ?_);refine zbox (N:=1) (cs:=#[.int .i64 l,.bool m,.int .i64 c,.int .u64 a]) (t:=34) ?_;intro g hg aL hbox hb;have b:=Aside0.mk hbox;have i:=zge hg HB;have j:=zge hg HB;replace HB:=zbs HB hb;clear hb hbox hg;obtain⟨I,J,K,L,M,O,P,Q⟩:=zc4 b)))
  go_ret2
  exact⟨by first|rfl|(simp[errW_none,errW_some] <;> rfl)|(simp only[←o,←p,←s];first|rfl|(simp[errW_none,errW_some] <;> rfl))|(simp[*,errW_none,errW_some] <;> rfl),zb HB⟩
 rw[if_neg ap] at H
 have aF:decide ((Go.bits .and .u64 a (IntKind.u64.wrap ((n)-1)))<((n)/2))=false:=decide_eq_false ap
 clear ap
 by_cases av:(Go.bits .and .u64 a (IntKind.u64.wrap ((n)-1)))=((n)/2)
 ·rw[if_pos av] at H
  obtain⟨aG,aH⟩:=zt av
  clear av
  have a1:=eq_true (of_decide_eq_true (by first|(with_reducible assumption)|assumption):0≤(d))
  obtain⟨aw,u⟩:∃ j_:Int,(shr .u64 a (d))=j_:=⟨_,rfl⟩
  first|rw[u] at H|simp only[u] at H
  have aS:(a/2^min (d).toNat 64)=aw:=u
  have aT:(d)≤64→(a/2^(d).toNat)=aw:=shr_small u
  simp only[Option.some.injEq,Prod.mk.injEq] at H
  obtain⟨rfl,rfl⟩:=H
  go_enter Try.func83,Try.ntmps83
  go_wp2_with (first|((with_reducible refine gate_dst (N:=1) rfl ?_);refine zbox (N:=1) (cs:=#[.int .i64 l,.bool m,.int .i64 c,.int .u64 a]) (t:=34) ?_;intro g hg aM hbox hb;have b:=Aside0.mk hbox;have i:=zge hg HB;have j:=zge hg HB;replace HB:=zbs HB hb;clear hb hbox hg;obtain⟨R,S,T,U,V,W,X,Y⟩:=zc4 b))
  repeat (go_quiet (first|((with_reducible refine gate_dst (N:=1) rfl ?_);refine zbox (N:=1) (cs:=#[.int .i64 l,.bool m,.int .i64 c,.int .u64 a]) (t:=34) ?_;intro g hg aM hbox hb;have b:=Aside0.mk hbox;have i:=zge hg HB;have j:=zge hg HB;replace HB:=zbs HB hb;clear hb hbox hg;obtain⟨R,S,T,U,V,W,X,Y⟩:=zc4 b));try go_wp2_with (first|((with_reducible refine gate_dst (N:=1) rfl ?_);refine zbox (N:=1) (cs:=#[.int .i64 l,.bool m,.int .i64 c,.int .u64 a]) (t:=34) ?_;intro g hg aM hbox hb;have b:=Aside0.mk hbox;have i:=zge hg HB;have j:=zge hg HB;replace HB:=zbs HB hb;clear hb hbox hg;obtain⟨R,S,T,U,V,W,X,Y⟩:=zc4 b)))
  go_ret2
  exact⟨by first|rfl|(simp[errW_none,errW_some] <;> rfl)|(simp only[←o,←p,←u];first|rfl|(simp[errW_none,errW_some] <;> rfl))|(simp[*,errW_none,errW_some] <;> rfl),zb HB⟩
 rw[if_neg av] at H
 obtain⟨aG,aH⟩:=zf av
 have a2:=eq_true (of_decide_eq_true (by first|(with_reducible assumption)|assumption):0≤(d))
 obtain⟨ax,v⟩:∃ j_:Int,(shr .u64 a (d))=j_:=⟨_,rfl⟩
 first|rw[v] at H|simp only[v] at H
 have aU:(a/2^min (d).toNat 64)=ax:=v
 have aV:(d)≤64→(a/2^(d).toNat)=ax:=shr_small v
 simp only[Option.some.injEq,Prod.mk.injEq] at H
 obtain⟨rfl,rfl⟩:=H
 go_enter Try.func83,Try.ntmps83
 go_wp2_with (first|((with_reducible refine gate_dst (N:=1) rfl ?_);refine zbox (N:=1) (cs:=#[.int .i64 l,.bool m,.int .i64 c,.int .u64 a]) (t:=34) ?_;intro g hg aN hbox hb;have b:=Aside0.mk hbox;have i:=zge hg HB;have j:=zge hg HB;replace HB:=zbs HB hb;clear hb hbox hg;obtain⟨Z,aa,ab,ac,ad,ae,af,ag⟩:=zc4 b))
 repeat (go_quiet (first|((with_reducible refine gate_dst (N:=1) rfl ?_);refine zbox (N:=1) (cs:=#[.int .i64 l,.bool m,.int .i64 c,.int .u64 a]) (t:=34) ?_;intro g hg aN hbox hb;have b:=Aside0.mk hbox;have i:=zge hg HB;have j:=zge hg HB;replace HB:=zbs HB hb;clear hb hbox hg;obtain⟨Z,aa,ab,ac,ad,ae,af,ag⟩:=zc4 b));try go_wp2_with (first|((with_reducible refine gate_dst (N:=1) rfl ?_);refine zbox (N:=1) (cs:=#[.int .i64 l,.bool m,.int .i64 c,.int .u64 a]) (t:=34) ?_;intro g hg aN hbox hb;have b:=Aside0.mk hbox;have i:=zge hg HB;have j:=zge hg HB;replace HB:=zbs HB hb;clear hb hbox hg;obtain⟨Z,aa,ab,ac,ad,ae,af,ag⟩:=zc4 b)))
 go_ret2
 exact⟨by first|rfl|(simp[errW_none,errW_some] <;> rfl)|(simp only[←o,←p,←v];first|rfl|(simp[errW_none,errW_some] <;> rfl))|(simp[*,errW_none,errW_some] <;> rfl),zb HB⟩
end Go.Proofs.Ytmmbgbchimangaa.PQ
