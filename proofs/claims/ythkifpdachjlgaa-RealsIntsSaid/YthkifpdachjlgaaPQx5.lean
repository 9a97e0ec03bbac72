-- by a program of this claim
import Derived.Test.YthkifpdachjlgaaPQx0
import Derived.Test.YthkifpdachjlgaaPQx1
import Derived.Test.YthkifpdachjlgaaPQx2
import Derived.Test.YthkifpdachjlgaaPQx4
namespace Go.Proofs.Ythkifpdachjlgaa.PQ
open Go.RowKit Go.Proofs.YthkifpdachjlgaaW.PrintWords Go.Proofs.YthkifpdachjlgaaW.PrintLast Go.Proofs.YthkifpdachjlgaaW.PrintMore Go.Proofs.Ythkifpdachjlgaa.Z
attribute [local go_sem] max2_int min2_int max_two min_two max_three min_three max_four min_four   -- for this text's walks alone
set_option linter.unusedVariables false
set_option linter.unusedSimpArgs false

/-! ### soft_Div: function 61 -/
mutual
def soft_Div.j0:Nat→Bool→Bool→Int→Int→Int→Bool→Int→Int→Int→Bool→Int→Int→Option (Int×Int)
 | 0,_,_,_,_,_,_,_,_,_,_,_,_=>none
 | k+1,e,n,a,b,c,g,h,i,d,j,l,m=>if n=true then ((round_NaN.f a b).bind fun o=>(some (o,0))) else (if c=3 then (soft_Div.j1 k e true a b c g h i d j l m) else (soft_Div.j1 k e (d==1) a b c g h i d j l m))
def soft_Div.j1:Nat→Bool→Bool→Int→Int→Int→Bool→Int→Int→Int→Bool→Int→Int→Option (Int×Int)
 | 0,_,_,_,_,_,_,_,_,_,_,_,_=>none
 | k+1,a,l,b,c,m,t,n,e,o,u,p,h=>if l=true then ((round_Inf.f b c a).bind fun q=>(some (q,0))) else (if m=1 then ((round_Zero.f b c a).bind fun r=>(some (r,0))) else (if o=3 then ((round_Zero.f b c a).bind fun s=>(some (s,0))) else ((bits_LeadingZeros64.f k e).bind fun d=>((bits_LeadingZeros64.f k h).bind fun g=>(if 0≤d then (if 0≤g then ((bits_Div64.f k ((shl .u64 e d)/2) (IntKind.u64.wrap ((shl .u64 e d)*9223372036854775808)) (shl .u64 h g)).bind fun i=>((round_Pack.f k b c a 0 i.1 (wrap64 ((wrap64 ((wrap64 ((wrap64 (n-d))-p))+g))-63)) (i.2 != 0)).bind fun j=>(some (j.1,j.2)))) else (none)) else (none))))))
end
def soft_Div.f (k:Nat) (a0_0:Int) (a0_1:Int) (a1:Int) (a2:Int):Option (Int×Int):=(soft_two.f k a0_0 a0_1 a1 a2).bind fun a=>(if a.2.2.2.2.2.2.2.2=0 then ((soft_odd.f a.1 a.2.1 a.2.2.1 a.2.2.2.1 a.2.2.2.2.1 a.2.2.2.2.2.1 a.2.2.2.2.2.2.1 a.2.2.2.2.2.2.2.1).bind fun b=>(if b=true then (soft_Div.j0 k (a.2.1 != a.2.2.2.2.2.1) true a0_0 a0_1 a.1 a.2.1 a.2.2.1 a.2.2.2.1 a.2.2.2.2.1 a.2.2.2.2.2.1 a.2.2.2.2.2.2.1 a.2.2.2.2.2.2.2.1) else (if a.1=a.2.2.2.2.1 then (soft_Div.j0 k (a.2.1 != a.2.2.2.2.2.1) (a.1 != 2) a0_0 a0_1 a.1 a.2.1 a.2.2.1 a.2.2.2.1 a.2.2.2.2.1 a.2.2.2.2.2.1 a.2.2.2.2.2.2.1 a.2.2.2.2.2.2.2.1) else (soft_Div.j0 k (a.2.1 != a.2.2.2.2.2.1) false a0_0 a0_1 a.1 a.2.1 a.2.2.1 a.2.2.2.1 a.2.2.2.2.1 a.2.2.2.2.2.1 a.2.2.2.2.2.2.1 a.2.2.2.2.2.2.2.1)))) else (some (0,a.2.2.2.2.2.2.2.2)))
theorem soft_Div.mono_l:∀ k,(∀ y0 y1 y2 y3 y4 y5 y6 y7 y8 y9 y10 y11,LeO (soft_Div.j0 k y0 y1 y2 y3 y4 y5 y6 y7 y8 y9 y10 y11) (soft_Div.j0 (k+1) y0 y1 y2 y3 y4 y5 y6 y7 y8 y9 y10 y11))∧(∀ y0 y1 y2 y3 y4 y5 y6 y7 y8 y9 y10 y11,LeO (soft_Div.j1 k y0 y1 y2 y3 y4 y5 y6 y7 y8 y9 y10 y11) (soft_Div.j1 (k+1) y0 y1 y2 y3 y4 y5 y6 y7 y8 y9 y10 y11))
 | 0=>⟨fun _ _ _ _ _ _ _ _ _ _ _ _ r h=>by simp[soft_Div.j0] at h,fun _ _ _ _ _ _ _ _ _ _ _ _ r h=>by simp[soft_Div.j1] at h⟩
 | k+1=>by
  obtain⟨ih0,ih1⟩:=soft_Div.mono_l k
  refine⟨?_,?_⟩ <;> intros <;> (first|unfold soft_Div.j0|unfold soft_Div.j1) <;> (repeat' first|(with_reducible first|apply ih0|apply ih1|apply bits_Div64.mono|apply bits_LeadingZeros64.mono|apply round_Pack.mono|apply soft_two.mono|exact LeO.refl _|exact LeO.none _|refine LeO.ite ?_ ?_|refine LeO.bind ?_ (fun _=>?_))|refine LeO.ite ?_ ?_|refine LeO.bind ?_ (fun _=>?_))
theorem soft_Div.mono:∀ a0 a1 a2 a3 k,LeO (soft_Div.f k a0 a1 a2 a3) (soft_Div.f (k+1) a0 a1 a2 a3):=by
 intro a0 a1 a2 a3 k
 obtain⟨ih0,ih1⟩:=soft_Div.mono_l k
 unfold soft_Div.f
 repeat' first|(with_reducible first|apply ih0|apply ih1|apply bits_Div64.mono|apply bits_LeadingZeros64.mono|apply round_Pack.mono|apply soft_two.mono|exact LeO.refl _|exact LeO.none _|refine LeO.ite ?_ ?_|refine LeO.bind ?_ (fun _=>?_))|refine LeO.ite ?_ ?_|refine LeO.bind ?_ (fun _=>?_)
set_option maxHeartbeats 8000000 in
set_option maxRecDepth 100000 in
theorem soft_Div.calls {k:Nat} {n:Int} {p:Int} {a1:Int} {a2:Int} {r1:Int} {r2:Int} {w:World} (h:soft_Div.f k n p a1 a2=some (r1,r2)) :
  Calls Try.prog 61 #[.agg #[.int .i64 n,.int .i64 p],.int .u64 a1,.int .u64 a2] w fun e w'=>e=.returned (.tuple #[.int .u64 r1,.int .i64 r2])∧Below w.heap.size w w':=by
 have hu58:=Try.underlying58
 have hu89:=Try.underlying89
 have HB:=Aside0.mk (Below.refl w.heap.size w)
 have H:=h
 unfold soft_Div.f at H
 clear h
 obtain⟨⟨q,y,z,u,v,B,C,s,c7⟩,A4,H⟩:=oB H
 try dsimp only at H
 obtain⟨nb1_,bD⟩:∃ b_:Bool,(y != B)=b_:=⟨_,rfl⟩
 simp only[bD] at H
 have hcnb1_:(!(y==B))=nb1_:=bD
 by_cases c5:c7=0
 ·rw[if_pos c5] at H
  obtain⟨bE,bF⟩:=zt c5
  clear c5
  have cP:=Aside0.mk H
  clear H
  go_enter Try.func61,Try.ntmps61
  go_upto_region 5 with (first|((with_reducible refine gate_dst (N:=3) rfl ?_);refine zbox (N:=3) (cs:=#[.int .i64 n,.int .i64 p]) (t:=58) ?_;intro F hg w7 hbox hb;have a:=Aside0.mk hbox;have aj:=zge hg HB;have ak:=zge hg HB;replace HB:=zbs HB hb;clear hb hbox hg;obtain⟨ae,af,ag,ah⟩:=zc2 a)|(go_at_call 100;(with_reducible refine (soft_two.calls A4.out).mono ?_);rintro e w9 ⟨rfl,hb⟩;obtain⟨a,HB⟩:=zu1 a HB hb;clear hb)|((with_reducible refine gate_dst (N:=8) rfl ?_);refine zbox (N:=8) (cs:=#[.int .i64 0,.bool false,.int .i64 0,.int .u64 0]) (t:=89) ?_;intro G hg c9 hbox hb;have b:=Aside0.mk hbox;have al:=zge hg HB;have am:=zge hg HB;have m:=znl hg a;have g:=zng hg a;obtain⟨a,HB⟩:=zu1 a HB hb;clear hb hbox hg)|((with_reducible refine gate_dst (N:=9) rfl ?_);refine zbox (N:=9) (cs:=#[.int .i64 0,.bool false,.int .i64 0,.int .u64 0]) (t:=89) ?_;intro I hg da hbox hb;have c:=Aside0.mk hbox;have an:=zge hg HB;have ao:=zge hg HB;have l:=znl hg a;have j:=zng hg a;have i:=znl hg b;have D:=zng hg b;obtain⟨a,b,HB⟩:=zu2 a b HB hb;clear hb hbox hg;obtain⟨bG,bH⟩:=z2 g;obtain⟨bI,bJ⟩:=z2 i;obtain⟨L,M,O,P,Q,R,S,T⟩:=zc4 b;obtain⟨bK,bL⟩:=z2 j;obtain⟨U,V,W,X,Y,Z,aa,ab⟩:=zc4 c))
  repeat (go_quiet (first|((with_reducible refine gate_dst (N:=3) rfl ?_);refine zbox (N:=3) (cs:=#[.int .i64 n,.int .i64 p]) (t:=58) ?_;intro F hg w7 hbox hb;have a:=Aside0.mk hbox;have aj:=zge hg HB;have ak:=zge hg HB;replace HB:=zbs HB hb;clear hb hbox hg;obtain⟨ae,af,ag,ah⟩:=zc2 a)|(go_at_call 100;(with_reducible refine (soft_two.calls A4.out).mono ?_);rintro e w9 ⟨rfl,hb⟩;obtain⟨a,HB⟩:=zu1 a HB hb;clear hb)|((with_reducible refine gate_dst (N:=8) rfl ?_);refine zbox (N:=8) (cs:=#[.int .i64 0,.bool false,.int .i64 0,.int .u64 0]) (t:=89) ?_;intro G hg c9 hbox hb;have b:=Aside0.mk hbox;have al:=zge hg HB;have am:=zge hg HB;have m:=znl hg a;have g:=zng hg a;obtain⟨a,HB⟩:=zu1 a HB hb;clear hb hbox hg)|((with_reducible refine gate_dst (N:=9) rfl ?_);refine zbox (N:=9) (cs:=#[.int .i64 0,.bool false,.int .i64 0,.int .u64 0]) (t:=89) ?_;intro I hg da hbox hb;have c:=Aside0.mk hbox;have an:=zge hg HB;have ao:=zge hg HB;have l:=znl hg a;have j:=zng hg a;have i:=znl hg b;have D:=zng hg b;obtain⟨a,b,HB⟩:=zu2 a b HB hb;clear hb hbox hg;obtain⟨bG,bH⟩:=z2 g;obtain⟨bI,bJ⟩:=z2 i;obtain⟨L,M,O,P,Q,R,S,T⟩:=zc4 b;obtain⟨bK,bL⟩:=z2 j;obtain⟨U,V,W,X,Y,Z,aa,ab⟩:=zc4 c));go_upto_region 5 with (first|((with_reducible refine gate_dst (N:=3) rfl ?_);refine zbox (N:=3) (cs:=#[.int .i64 n,.int .i64 p]) (t:=58) ?_;intro F hg w7 hbox hb;have a:=Aside0.mk hbox;have aj:=zge hg HB;have ak:=zge hg HB;replace HB:=zbs HB hb;clear hb hbox hg;obtain⟨ae,af,ag,ah⟩:=zc2 a)|(go_at_call 100;(with_reducible refine (soft_two.calls A4.out).mono ?_);rintro e w9 ⟨rfl,hb⟩;obtain⟨a,HB⟩:=zu1 a HB hb;clear hb)|((with_reducible refine gate_dst (N:=8) rfl ?_);refine zbox (N:=8) (cs:=#[.int .i64 0,.bool false,.int .i64 0,.int .u64 0]) (t:=89) ?_;intro G hg c9 hbox hb;have b:=Aside0.mk hbox;have al:=zge hg HB;have am:=zge hg HB;have m:=znl hg a;have g:=zng hg a;obtain⟨a,HB⟩:=zu1 a HB hb;clear hb hbox hg)|((with_reducible refine gate_dst (N:=9) rfl ?_);refine zbox (N:=9) (cs:=#[.int .i64 0,.bool false,.int .i64 0,.int .u64 0]) (t:=89) ?_;intro I hg da hbox hb;have c:=Aside0.mk hbox;have an:=zge hg HB;have ao:=zge hg HB;have l:=znl hg a;have j:=zng hg a;have i:=znl hg b;have D:=zng hg b;obtain⟨a,b,HB⟩:=zu2 a b HB hb;clear hb hbox hg;obtain⟨bG,bH⟩:=z2 g;obtain⟨bI,bJ⟩:=z2 i;obtain⟨L,M,O,P,Q,R,S,T⟩:=zc4 b;obtain⟨bK,bL⟩:=z2 j;obtain⟨U,V,W,X,Y,Z,aa,ab⟩:=zc4 c)))
  (try simp only[Act.put,List.setIfInBounds_toArray,List.set_cons_zero,List.set_cons_succ])
  go_cut [34] (fun v34 wc=>∃ (kq:Nat) (bj:Bool),v34=.bool bj∧Aside0 (soft_Div.j0 kq nb1_ bj n p q y z u v B C s=some (r1,r2))∧Aside0 (kq≤k)∧Aside0 (wc.heap[F]?=some (.cells #[.int .i64 n,.int .i64 p] 58 (0,0)))∧Aside0 (wc.heap[G]?=some (.cells #[.int .i64 q,.bool y,.int .i64 z,.int .u64 u] 89 (0,0)))∧Aside0 (wc.heap[I]?=some (.cells #[.int .i64 v,.bool B,.int .i64 C,.int .u64 s] 89 (0,0)))∧Aside0 (Below w.heap.size w wc))
  case first =>
   have H:=cP.out
   clear cP
   obtain⟨bC,bk,H⟩:=oB H
   by_cases bM:bC=true
   ·subst bM
    rw[if_pos rfl] at H
    have H':=Aside0.mk H
    clear H
    obtain⟨eM,eN⟩:=z2 g
    obtain⟨eO,eP⟩:=z2 i
    obtain⟨bN,bO,bP,bQ,bR,bS,bT,bU⟩:=zc4 b
    obtain⟨eQ,eR⟩:=z2 j
    obtain⟨bV,bW,bX,bY,bZ,b0,b1,b2⟩:=zc4 c
    go_wp2_with (first|(go_at_call 101;(with_reducible refine (soft_odd.calls bk.out).mono ?_);rintro e db ⟨rfl,hb⟩;replace a:=zkb a hb;replace b:=zkbo (o:=.cells #[.int .i64 q,.bool y,.int .i64 z,.int .u64 u] 89 (0,0)) b hb;replace c:=zkbo (o:=.cells #[.int .i64 v,.bool B,.int .i64 C,.int .u64 s] 89 (0,0)) c hb;replace HB:=zbs HB hb;clear hb))
    repeat (go_quiet (first|(go_at_call 101;(with_reducible refine (soft_odd.calls bk.out).mono ?_);rintro e db ⟨rfl,hb⟩;replace a:=zkb a hb;replace b:=zkbo (o:=.cells #[.int .i64 q,.bool y,.int .i64 z,.int .u64 u] 89 (0,0)) b hb;replace c:=zkbo (o:=.cells #[.int .i64 v,.bool B,.int .i64 C,.int .u64 s] 89 (0,0)) c hb;replace HB:=zbs HB hb;clear hb));try go_wp2_with (first|(go_at_call 101;(with_reducible refine (soft_odd.calls bk.out).mono ?_);rintro e db ⟨rfl,hb⟩;replace a:=zkb a hb;replace b:=zkbo (o:=.cells #[.int .i64 q,.bool y,.int .i64 z,.int .u64 u] 89 (0,0)) b hb;replace c:=zkbo (o:=.cells #[.int .i64 v,.bool B,.int .i64 C,.int .u64 s] 89 (0,0)) c hb;replace HB:=zbs HB hb;clear hb)))
    go_meet
    case rel=>exact⟨_,(true),(by first|rfl|(simp[*];done)),H',⟨by omega⟩,⟨zk a⟩,⟨zk b⟩,⟨zk c⟩,⟨zb HB⟩⟩
   replace bM:=Bool.eq_false_iff.mpr bM
   subst bM
   rw[if_neg nft] at H
   by_cases bB:q=v
   ·rw[if_pos bB] at H
    obtain⟨ac,b3⟩:=zt bB
    clear bB
    (first|rw[ac]|(simp only[i64_w,i32_w];rw[ac])|skip)
    have H':=Aside0.mk H
    clear H
    obtain⟨eS,eT⟩:=z2 g
    obtain⟨eU,eV⟩:=z2 i
    obtain⟨b4,b5,b6,b7,b8,b9,ca,cb⟩:=zc4 b
    obtain⟨eW,eX⟩:=z2 j
    obtain⟨cc,cd,ce,cf,cg,ch,ci,cj⟩:=zc4 c
    go_wp2_with (first|(go_at_call 101;(with_reducible refine (soft_odd.calls bk.out).mono ?_);rintro e dc ⟨rfl,hb⟩;replace a:=zkb a hb;replace b:=zkbo (o:=.cells #[.int .i64 q,.bool y,.int .i64 z,.int .u64 u] 89 (0,0)) b hb;replace c:=zkbo (o:=.cells #[.int .i64 v,.bool B,.int .i64 C,.int .u64 s] 89 (0,0)) c hb;replace HB:=zbs HB hb;clear hb;obtain⟨ap,aq,ar,au,av,aw,ax,ay⟩:=zc4 b;obtain⟨az,aA,aB,aC,aD,aE,aF,aG⟩:=zc4 c))
    repeat (go_quiet (first|(go_at_call 101;(with_reducible refine (soft_odd.calls bk.out).mono ?_);rintro e dc ⟨rfl,hb⟩;replace a:=zkb a hb;replace b:=zkbo (o:=.cells #[.int .i64 q,.bool y,.int .i64 z,.int .u64 u] 89 (0,0)) b hb;replace c:=zkbo (o:=.cells #[.int .i64 v,.bool B,.int .i64 C,.int .u64 s] 89 (0,0)) c hb;replace HB:=zbs HB hb;clear hb;obtain⟨ap,aq,ar,au,av,aw,ax,ay⟩:=zc4 b;obtain⟨az,aA,aB,aC,aD,aE,aF,aG⟩:=zc4 c));try go_wp2_with (first|(go_at_call 101;(with_reducible refine (soft_odd.calls bk.out).mono ?_);rintro e dc ⟨rfl,hb⟩;replace a:=zkb a hb;replace b:=zkbo (o:=.cells #[.int .i64 q,.bool y,.int .i64 z,.int .u64 u] 89 (0,0)) b hb;replace c:=zkbo (o:=.cells #[.int .i64 v,.bool B,.int .i64 C,.int .u64 s] 89 (0,0)) c hb;replace HB:=zbs HB hb;clear hb;obtain⟨ap,aq,ar,au,av,aw,ax,ay⟩:=zc4 b;obtain⟨az,aA,aB,aC,aD,aE,aF,aG⟩:=zc4 c)))
    go_meet
    case rel=>exact⟨_,((q != 2)),(by first|rfl|(simp[*];done)),H',⟨by omega⟩,⟨zk a⟩,⟨zk b⟩,⟨zk c⟩,⟨zb HB⟩⟩
   rw[if_neg bB] at H
   obtain⟨ac,b3⟩:=zf bB
   (first|rw[ac]|(simp only[i64_w,i32_w];rw[ac])|skip)
   have H':=Aside0.mk H
   clear H
   obtain⟨eY,eZ⟩:=z2 g
   obtain⟨e0,e1⟩:=z2 i
   obtain⟨ck,cl,cm,cn,co,cp,cq,cr⟩:=zc4 b
   obtain⟨e2,e3⟩:=z2 j
   obtain⟨ct,cu,cv,cw,cx,cy,cz,cA⟩:=zc4 c
   go_wp2_with (first|(go_at_call 101;(with_reducible refine (soft_odd.calls bk.out).mono ?_);rintro e dd ⟨rfl,hb⟩;replace a:=zkb a hb;replace b:=zkbo (o:=.cells #[.int .i64 q,.bool y,.int .i64 z,.int .u64 u] 89 (0,0)) b hb;replace c:=zkbo (o:=.cells #[.int .i64 v,.bool B,.int .i64 C,.int .u64 s] 89 (0,0)) c hb;replace HB:=zbs HB hb;clear hb;obtain⟨aH,aI,aJ,aK,aL,aM,aN,aO⟩:=zc4 b;obtain⟨aP,aQ,aR,aS,aT,aU,aV,aW⟩:=zc4 c))
   repeat (go_quiet (first|(go_at_call 101;(with_reducible refine (soft_odd.calls bk.out).mono ?_);rintro e dd ⟨rfl,hb⟩;replace a:=zkb a hb;replace b:=zkbo (o:=.cells #[.int .i64 q,.bool y,.int .i64 z,.int .u64 u] 89 (0,0)) b hb;replace c:=zkbo (o:=.cells #[.int .i64 v,.bool B,.int .i64 C,.int .u64 s] 89 (0,0)) c hb;replace HB:=zbs HB hb;clear hb;obtain⟨aH,aI,aJ,aK,aL,aM,aN,aO⟩:=zc4 b;obtain⟨aP,aQ,aR,aS,aT,aU,aV,aW⟩:=zc4 c));try go_wp2_with (first|(go_at_call 101;(with_reducible refine (soft_odd.calls bk.out).mono ?_);rintro e dd ⟨rfl,hb⟩;replace a:=zkb a hb;replace b:=zkbo (o:=.cells #[.int .i64 q,.bool y,.int .i64 z,.int .u64 u] 89 (0,0)) b hb;replace c:=zkbo (o:=.cells #[.int .i64 v,.bool B,.int .i64 C,.int .u64 s] 89 (0,0)) c hb;replace HB:=zbs HB hb;clear hb;obtain⟨aH,aI,aJ,aK,aL,aM,aN,aO⟩:=zc4 b;obtain⟨aP,aQ,aR,aS,aT,aU,aV,aW⟩:=zc4 c)))
   go_meet
   case rel=>exact⟨_,(false),(by first|rfl|(simp[*];done)),H',⟨by omega⟩,⟨zk a⟩,⟨zk b⟩,⟨zk c⟩,⟨zb HB⟩⟩
  case rest =>
   clear cP
   try clear bE bF L M O P U V W X ae af Q R S T Y Z aa ab ag ah
   obtain⟨kq,bj,rfl,HA,de,a,b,c,HB⟩:=hcut
   cases kq with
   | zero=>exact absurd HA.out (by simp[soft_Div.j0])
   | succ e4 =>
    have H:=HA.out
    clear HA
    simp only[soft_Div.j0] at H
    by_cases cB:bj=true
    ·subst cB
     rw[if_pos rfl] at H
     obtain⟨fL,cQ,H⟩:=oB H
     simp only[Option.some.injEq,Prod.mk.injEq] at H
     obtain⟨rfl,rfl⟩:=H
     obtain⟨e5,e6⟩:=z2 m
     obtain⟨e7,e8⟩:=z2 l
     obtain⟨df,dg,dh,di⟩:=zc2 a
     go_wp2_with (first|(go_at_call 97;(with_reducible refine (round_NaN.calls cQ.out).mono ?_);rintro e dj ⟨rfl,hb⟩;obtain⟨a,b,c,HB⟩:=zu3 a b c HB hb;clear hb))
     repeat (go_quiet (first|(go_at_call 97;(with_reducible refine (round_NaN.calls cQ.out).mono ?_);rintro e dj ⟨rfl,hb⟩;obtain⟨a,b,c,HB⟩:=zu3 a b c HB hb;clear hb));try go_wp2_with (first|(go_at_call 97;(with_reducible refine (round_NaN.calls cQ.out).mono ?_);rintro e dj ⟨rfl,hb⟩;obtain⟨a,b,c,HB⟩:=zu3 a b c HB hb;clear hb)))
     go_ret2
     exact zr HB
    replace cB:=Bool.eq_false_iff.mpr cB
    subst cB
    rw[if_neg nft] at H
    have cC:=Aside0.mk H
    clear H
    go_upto_region 7 with (fail)
    repeat (go_quiet (fail);go_upto_region 7 with (fail))
    go_cut [52] (fun v52 wc=>∃ (kq:Nat) (ai:Bool),v52=.bool ai∧Aside0 (soft_Div.j1 kq nb1_ ai n p q y z u v B C s=some (r1,r2))∧Aside0 (kq≤e4)∧Aside0 (wc.heap[F]?=some (.cells #[.int .i64 n,.int .i64 p] 58 (0,0)))∧Aside0 (wc.heap[G]?=some (.cells #[.int .i64 q,.bool y,.int .i64 z,.int .u64 u] 89 (0,0)))∧Aside0 (wc.heap[I]?=some (.cells #[.int .i64 v,.bool B,.int .i64 C,.int .u64 s] 89 (0,0)))∧Aside0 (Below w.heap.size w wc))
    case first =>
     have H:=cC.out
     clear cC
     by_cases cD:q=3
     ·rw[if_pos cD] at H
      obtain⟨aX,cR⟩:=zt cD
      clear cD
      (first|rw[aX]|(simp only[i64_w,i32_w];rw[aX])|skip)
      have H':=Aside0.mk H
      clear H
      obtain⟨e9,fa⟩:=z2 g
      obtain⟨fb,fc⟩:=z2 i
      obtain⟨dk,dl,dm,dn,dp,dq,dr,ds⟩:=zc4 b
      go_wp2
      repeat (go_quiet (fail);try go_wp2)
      go_meet
      case rel=>exact⟨_,(true),(by first|rfl|(simp[*];done)),H',⟨by have:=de.out;first|omega|exact Nat.le_refl _⟩,⟨zk a⟩,⟨zk b⟩,⟨zk c⟩,⟨zb HB⟩⟩
     rw[if_neg cD] at H
     obtain⟨aX,cR⟩:=zf cD
     (first|rw[aX]|(simp only[i64_w,i32_w];rw[aX])|skip)
     have H':=Aside0.mk H
     clear H
     obtain⟨fd,fe⟩:=z2 g
     obtain⟨ff,fg⟩:=z2 i
     obtain⟨dt,du,dv,dw,dx,dy,dz,dA⟩:=zc4 b
     obtain⟨fh,fi⟩:=z2 j
     obtain⟨dB,dC,dD,dE,dF,dG,dH,dI⟩:=zc4 c
     go_wp2
     repeat (go_quiet (fail);try go_wp2)
     go_meet
     case rel=>exact⟨_,((v==1)),(by first|rfl|(simp[*];done)),H',⟨by have:=de.out;first|omega|exact Nat.le_refl _⟩,⟨zk a⟩,⟨zk b⟩,⟨zk c⟩,⟨zb HB⟩⟩
    case rest =>
     clear cC
     try clear c1 c2 p2 c3 bE bF c6 fV fW fX bM fY fZ f0 bB ac b3 f1 f2 f3 f4 f5 f6 cB L M O P U V W X bN bO bP bQ bV bW bX bY b4 b5 b6 b7 cc cd ce cf ap aq ar au az aA aB aC ck cl cm cn ct cu cv cw aH aI aJ aK aP aQ aR aS ae af Q R S T Y Z aa ab bR bS bT bU bZ b0 b1 b2 b8 b9 ca cb cg ch ci cj av aw ax ay aD aE aF aG co cp cq cr cx cy cz cA aL aM aN aO aT aU aV aW ag ah p2
     obtain⟨kq,ai,rfl,HA,fM,a,b,c,HB⟩:=hcut
     cases kq with
     | zero=>exact absurd HA.out (by simp[soft_Div.j1])
     | succ bt =>
      have H:=HA.out
      clear HA
      simp only[soft_Div.j1] at H
      by_cases cL:ai=true
      ·subst cL
       rw[if_pos rfl] at H
       obtain⟨fN,cS,H⟩:=oB H
       simp only[Option.some.injEq,Prod.mk.injEq] at H
       obtain⟨rfl,rfl⟩:=H
       obtain⟨fj,fk⟩:=z2 m
       obtain⟨fl,fm⟩:=z2 l
       obtain⟨dJ,dK,dL,dM⟩:=zc2 a
       go_wp2_with (first|(go_at_call 98;(with_reducible refine (round_Inf.calls cS.out).mono ?_);rintro e dN ⟨rfl,hb⟩;obtain⟨a,b,c,HB⟩:=zu3 a b c HB hb;clear hb))
       repeat (go_quiet (first|(go_at_call 98;(with_reducible refine (round_Inf.calls cS.out).mono ?_);rintro e dN ⟨rfl,hb⟩;obtain⟨a,b,c,HB⟩:=zu3 a b c HB hb;clear hb));try go_wp2_with (first|(go_at_call 98;(with_reducible refine (round_Inf.calls cS.out).mono ?_);rintro e dN ⟨rfl,hb⟩;obtain⟨a,b,c,HB⟩:=zu3 a b c HB hb;clear hb)))
       go_ret2
       exact zr HB
      replace cL:=Bool.eq_false_iff.mpr cL
      subst cL
      rw[if_neg nft] at H
      by_cases cE:q=1
      ·rw[if_pos cE] at H
       obtain⟨cT,cU⟩:=zt cE
       clear cE
       obtain⟨fO,cV,H⟩:=oB H
       simp only[Option.some.injEq,Prod.mk.injEq] at H
       obtain⟨rfl,rfl⟩:=H
       obtain⟨fn,fo⟩:=z2 g
       obtain⟨fp,fq⟩:=z2 i
       obtain⟨dO,dP,dQ,dR,dS,dT,dU,dV⟩:=zc4 b
       obtain⟨fr,fs⟩:=z2 l
       obtain⟨dW,dX,dY,dZ⟩:=zc2 a
       go_wp2_with (first|(go_at_call 102;(with_reducible refine (round_Zero.calls cV.out).mono ?_);rintro e d0 ⟨rfl,hb⟩;obtain⟨a,b,c,HB⟩:=zu3 a b c HB hb;clear hb))
       repeat (go_quiet (first|(go_at_call 102;(with_reducible refine (round_Zero.calls cV.out).mono ?_);rintro e d0 ⟨rfl,hb⟩;obtain⟨a,b,c,HB⟩:=zu3 a b c HB hb;clear hb));try go_wp2_with (first|(go_at_call 102;(with_reducible refine (round_Zero.calls cV.out).mono ?_);rintro e d0 ⟨rfl,hb⟩;obtain⟨a,b,c,HB⟩:=zu3 a b c HB hb;clear hb)))
       go_ret2
       exact zr HB
      rw[if_neg cE] at H
      obtain⟨cT,cU⟩:=zf cE
      by_cases cF:v=3
      ·rw[if_pos cF] at H
       obtain⟨cW,cX⟩:=zt cF
       clear cF
       obtain⟨fP,cY,H⟩:=oB H
       simp only[Option.some.injEq,Prod.mk.injEq] at H
       obtain⟨rfl,rfl⟩:=H
       obtain⟨ft,fu⟩:=z2 g
       obtain⟨fv,fw⟩:=z2 i
       obtain⟨d1,d2,d3,d4,d5,d6,d7,d8⟩:=zc4 b
       obtain⟨fx,fy⟩:=z2 j
       obtain⟨d9,ea,eb,ec,ed,ee,ef,eg⟩:=zc4 c
       obtain⟨eh,ei,ej,ek⟩:=zc2 a
       go_wp2_with (first|(go_at_call 102;(with_reducible refine (round_Zero.calls cY.out).mono ?_);rintro e el ⟨rfl,hb⟩;obtain⟨a,b,c,HB⟩:=zu3 a b c HB hb;clear hb))
       repeat (go_quiet (first|(go_at_call 102;(with_reducible refine (round_Zero.calls cY.out).mono ?_);rintro e el ⟨rfl,hb⟩;obtain⟨a,b,c,HB⟩:=zu3 a b c HB hb;clear hb));try go_wp2_with (first|(go_at_call 102;(with_reducible refine (round_Zero.calls cY.out).mono ?_);rintro e el ⟨rfl,hb⟩;obtain⟨a,b,c,HB⟩:=zu3 a b c HB hb;clear hb)))
       go_ret2
       exact zr HB
      rw[if_neg cF] at H
      obtain⟨cW,cX⟩:=zf cF
      obtain⟨ad,cG,H⟩:=oB H
      obtain⟨E,cH,H⟩:=oB H
      by_cases cI:0≤ad
      ·rw[if_pos cI] at H
       have fz:=eq_true cI
       have fA:decide (0≤ad)=true:=decide_eq_true cI
       clear cI
       obtain⟨a0,J⟩:∃ j_:Int,(shl .u64 u ad)=j_:=⟨_,rfl⟩
       first|rw[J] at H|simp only[J] at H
       (try rw[J] at cG)
       (try rw[J] at cH)
       have eG:(IntKind.u64.wrap (u*2^min ad.toNat 64))=a0:=J
       have eH:ad≤64→(IntKind.u64.wrap (u*2^ad.toNat))=a0:=shl_small J
       by_cases cJ:0≤E
       ·rw[if_pos cJ] at H
        have fB:=eq_true cJ
        have fC:decide (0≤E)=true:=decide_eq_true cJ
        clear cJ
        obtain⟨cK,K⟩:∃ j_:Int,(shl .u64 s E)=j_:=⟨_,rfl⟩
        first|rw[K] at H|simp only[K] at H
        (try rw[K] at cG)
        (try rw[K] at cH)
        have eI:(IntKind.u64.wrap (s*2^min E.toNat 64))=cK:=K
        have eJ:E≤64→(IntKind.u64.wrap (s*2^E.toNat))=cK:=shl_small K
        obtain⟨⟨fQ,fR⟩,cZ,H⟩:=oB H
        try dsimp only at H
        obtain⟨⟨fS,fT⟩,c0,H⟩:=oB H
        try dsimp only at H
        simp only[Option.some.injEq,Prod.mk.injEq] at H
        obtain⟨rfl,rfl⟩:=H
        obtain⟨fD,fE⟩:=z2 g
        obtain⟨fF,fG⟩:=z2 i
        obtain⟨em,en,eo,ep,eq,er,es,et⟩:=zc4 b
        obtain⟨fH,fI⟩:=z2 j
        obtain⟨eu,ev,ew,ex,ey,ez,eA,eB⟩:=zc4 c
        go_wp2_with (first|(go_at_call 105;(with_reducible refine (bits_LeadingZeros64.calls cG.out).mono ?_);rintro e w' ⟨rfl,⟨nd,rfl⟩⟩;(try first|exact⟨rfl,_,World.drewN_drewN _ _ _⟩|exact⟨rfl,_,Eq.trans (World.drewN_drewN _ _ _) (congrArg (World.drewN _) (Nat.add_assoc _ _ _))⟩))|(go_at_call 105;(with_reducible refine (bits_LeadingZeros64.calls cH.out).mono ?_);rintro e w' ⟨rfl,⟨nd,rfl⟩⟩;(try first|exact⟨rfl,_,World.drewN_drewN _ _ _⟩|exact⟨rfl,_,Eq.trans (World.drewN_drewN _ _ _) (congrArg (World.drewN _) (Nat.add_assoc _ _ _))⟩))|(go_at_call 106;(with_reducible refine (bits_Div64.calls cZ.out).mono ?_);rintro e w' ⟨rfl,⟨nd,rfl⟩⟩;(try first|exact⟨rfl,_,World.drewN_drewN _ _ _⟩|exact⟨rfl,_,Eq.trans (World.drewN_drewN _ _ _) (congrArg (World.drewN _) (Nat.add_assoc _ _ _))⟩);obtain⟨bl,bm,bn,bo⟩:=zc2 a)|(go_at_call 87;(with_reducible refine (round_Pack.calls c0.out).mono ?_);rintro e eC ⟨rfl,hb⟩;obtain⟨a,b,c,HB⟩:=zu3 a b c HB hb;clear hb))
        repeat (go_quiet (first|(go_at_call 105;(with_reducible refine (bits_LeadingZeros64.calls cG.out).mono ?_);rintro e w' ⟨rfl,⟨nd,rfl⟩⟩;(try first|exact⟨rfl,_,World.drewN_drewN _ _ _⟩|exact⟨rfl,_,Eq.trans (World.drewN_drewN _ _ _) (congrArg (World.drewN _) (Nat.add_assoc _ _ _))⟩))|(go_at_call 105;(with_reducible refine (bits_LeadingZeros64.calls cH.out).mono ?_);rintro e w' ⟨rfl,⟨nd,rfl⟩⟩;(try first|exact⟨rfl,_,World.drewN_drewN _ _ _⟩|exact⟨rfl,_,Eq.trans (World.drewN_drewN _ _ _) (congrArg (World.drewN _) (Nat.add_assoc _ _ _))⟩))|(go_at_call 106;(with_reducible refine (bits_Div64.calls cZ.out).mono ?_);rintro e w' ⟨rfl,⟨nd,rfl⟩⟩;(try first|exact⟨rfl,_,World.drewN_drewN _ _ _⟩|exact⟨rfl,_,Eq.trans (World.drewN_drewN _ _ _) (congrArg (World.drewN _) (Nat.add_assoc _ _ _))⟩);obtain⟨bl,bm,bn,bo⟩:=zc2 a)|(go_at_call 87;(with_reducible refine (round_Pack.calls c0.out).mono ?_);rintro e eC ⟨rfl,hb⟩;obtain⟨a,b,c,HB⟩:=zu3 a b c HB hb;clear hb));try go_wp2_with (first|(go_at_call 105;(with_reducible refine (bits_LeadingZeros64.calls cG.out).mono ?_);rintro e w' ⟨rfl,⟨nd,rfl⟩⟩;(try first|exact⟨rfl,_,World.drewN_drewN _ _ _⟩|exact⟨rfl,_,Eq.trans (World.drewN_drewN _ _ _) (congrArg (World.drewN _) (Nat.add_assoc _ _ _))⟩))|(go_at_call 105;(with_reducible refine (bits_LeadingZeros64.calls cH.out).mono ?_);rintro e w' ⟨rfl,⟨nd,rfl⟩⟩;(try first|exact⟨rfl,_,World.drewN_drewN _ _ _⟩|exact⟨rfl,_,Eq.trans (World.drewN_drewN _ _ _) (congrArg (World.drewN _) (Nat.add_assoc _ _ _))⟩))|(go_at_call 106;(with_reducible refine (bits_Div64.calls cZ.out).mono ?_);rintro e w' ⟨rfl,⟨nd,rfl⟩⟩;(try first|exact⟨rfl,_,World.drewN_drewN _ _ _⟩|exact⟨rfl,_,Eq.trans (World.drewN_drewN _ _ _) (congrArg (World.drewN _) (Nat.add_assoc _ _ _))⟩);obtain⟨bl,bm,bn,bo⟩:=zc2 a)|(go_at_call 87;(with_reducible refine (round_Pack.calls c0.out).mono ?_);rintro e eC ⟨rfl,hb⟩;obtain⟨a,b,c,HB⟩:=zu3 a b c HB hb;clear hb)))
        go_ret2
        exact⟨by first|rfl|(simp[errW_none,errW_some] <;> rfl)|(simp only[←J,←K];first|rfl|(simp[errW_none,errW_some] <;> rfl))|(simp[*,errW_none,errW_some] <;> rfl),zb HB⟩
       rw[if_neg cJ] at H
       exact absurd H (by simp)
      rw[if_neg cI] at H
      exact absurd H (by simp)
 rw[if_neg c5] at H
 obtain⟨bE,bF⟩:=zf c5
 simp only[Option.some.injEq,Prod.mk.injEq] at H
 obtain⟨rfl,rfl⟩:=H
 go_enter Try.func61,Try.ntmps61
 go_wp2_with (first|((with_reducible refine gate_dst (N:=3) rfl ?_);refine zbox (N:=3) (cs:=#[.int .i64 n,.int .i64 p]) (t:=58) ?_;intro F hg eD hbox hb;have a:=Aside0.mk hbox;have aj:=zge hg HB;have ak:=zge hg HB;replace HB:=zbs HB hb;clear hb hbox hg;obtain⟨bp,bq,br,bs⟩:=zc2 a)|(go_at_call 100;(with_reducible refine (soft_two.calls A4.out).mono ?_);rintro e eE ⟨rfl,hb⟩;obtain⟨a,HB⟩:=zu1 a HB hb;clear hb)|((with_reducible refine gate_dst (N:=8) rfl ?_);refine zbox (N:=8) (cs:=#[.int .i64 0,.bool false,.int .i64 0,.int .u64 0]) (t:=89) ?_;intro G hg eF hbox hb;have b:=Aside0.mk hbox;have al:=zge hg HB;have am:=zge hg HB;have m:=znl hg a;have g:=zng hg a;obtain⟨a,HB⟩:=zu1 a HB hb;clear hb hbox hg)|((with_reducible refine gate_dst (N:=9) rfl ?_);refine zbox (N:=9) (cs:=#[.int .i64 0,.bool false,.int .i64 0,.int .u64 0]) (t:=89) ?_;intro I hg cM hbox hb;have c:=Aside0.mk hbox;have an:=zge hg HB;have ao:=zge hg HB;have l:=znl hg a;have j:=zng hg a;have i:=znl hg b;have D:=zng hg b;obtain⟨a,b,HB⟩:=zu2 a b HB hb;clear hb hbox hg;obtain⟨bu,bv⟩:=z2 g;obtain⟨bw,bx⟩:=z2 i;obtain⟨a3,a4,a5,a6,a7,a8,a9,ba⟩:=zc4 b;obtain⟨bz,bA⟩:=z2 j;obtain⟨bb,bc,bd,be,bf,bg,bh,bi⟩:=zc4 c))
 repeat (go_quiet (first|((with_reducible refine gate_dst (N:=3) rfl ?_);refine zbox (N:=3) (cs:=#[.int .i64 n,.int .i64 p]) (t:=58) ?_;intro F hg eD hbox hb;have a:=Aside0.mk hbox;have aj:=zge hg HB;have ak:=zge hg HB;replace HB:=zbs HB hb;clear hb hbox hg;obtain⟨bp,bq,br,bs⟩:=zc2 a)|(go_at_call 100;(with_reducible refine (soft_two.calls A4.out).mono ?_);rintro e eE ⟨rfl,hb⟩;obtain⟨a,HB⟩:=zu1 a HB hb;clear hb)|((with_reducible refine gate_dst (N:=8) rfl ?_);refine zbox (N:=8) (cs:=#[.int .i64 0,.bool false,.int .i64 0,.int .u64 0]) (t:=89) ?_;intro G hg eF hbox hb;have b:=Aside0.mk hbox;have al:=zge hg HB;have am:=zge hg HB;have m:=znl hg a;have g:=zng hg a;obtain⟨a,HB⟩:=zu1 a HB hb;clear hb hbox hg)|((with_reducible refine gate_dst (N:=9) rfl ?_);refine zbox (N:=9) (cs:=#[.int .i64 0,.bool false,.int .i64 0,.int .u64 0]) (t:=89) ?_;intro I hg cM hbox hb;have c:=Aside0.mk hbox;have an:=zge hg HB;have ao:=zge hg HB;have l:=znl hg a;have j:=zng hg a;have i:=znl hg b;have D:=zng hg b;obtain⟨a,b,HB⟩:=zu2 a b HB hb;clear hb hbox hg;obtain⟨bu,bv⟩:=z2 g;obtain⟨bw,bx⟩:=z2 i;obtain⟨a3,a4,a5,a6,a7,a8,a9,ba⟩:=zc4 b;obtain⟨bz,bA⟩:=z2 j;obtain⟨bb,bc,bd,be,bf,bg,bh,bi⟩:=zc4 c));try go_wp2_with (first|((with_reducible refine gate_dst (N:=3) rfl ?_);refine zbox (N:=3) (cs:=#[.int .i64 n,.int .i64 p]) (t:=58) ?_;intro F hg eD hbox hb;have a:=Aside0.mk hbox;have aj:=zge hg HB;have ak:=zge hg HB;replace HB:=zbs HB hb;clear hb hbox hg;obtain⟨bp,bq,br,bs⟩:=zc2 a)|(go_at_call 100;(with_reducible refine (soft_two.calls A4.out).mono ?_);rintro e eE ⟨rfl,hb⟩;obtain⟨a,HB⟩:=zu1 a HB hb;clear hb)|((with_reducible refine gate_dst (N:=8) rfl ?_);refine zbox (N:=8) (cs:=#[.int .i64 0,.bool false,.int .i64 0,.int .u64 0]) (t:=89) ?_;intro G hg eF hbox hb;have b:=Aside0.mk hbox;have al:=zge hg HB;have am:=zge hg HB;have m:=znl hg a;have g:=zng hg a;obtain⟨a,HB⟩:=zu1 a HB hb;clear hb hbox hg)|((with_reducible refine gate_dst (N:=9) rfl ?_);refine zbox (N:=9) (cs:=#[.int .i64 0,.bool false,.int .i64 0,.int .u64 0]) (t:=89) ?_;intro I hg cM hbox hb;have c:=Aside0.mk hbox;have an:=zge hg HB;have ao:=zge hg HB;have l:=znl hg a;have j:=zng hg a;have i:=znl hg b;have D:=zng hg b;obtain⟨a,b,HB⟩:=zu2 a b HB hb;clear hb hbox hg;obtain⟨bu,bv⟩:=z2 g;obtain⟨bw,bx⟩:=z2 i;obtain⟨a3,a4,a5,a6,a7,a8,a9,ba⟩:=zc4 b;obtain⟨bz,bA⟩:=z2 j;obtain⟨bb,bc,bd,be,bf,bg,bh,bi⟩:=zc4 c)))
 go_ret2
 exact zr HB

/-! ### soft_divided: function 107 -/
def soft_divided.l0:Nat→Int→Int→Int→Int→Bool→Int→Option (Int×Int×Bool×Int)
 | 0,_,_,_,_,_,_=>none
 | k+1,a,d,b,e,f,c=>if d>0 then (if (IntKind.u64.wrap (c*2))≥a then (if (b/4611686018427387904)=0 then (soft_divided.l0 k a (wrap64 (d-1)) (Go.bits .or .u64 (IntKind.u64.wrap (b*2)) 1) e f (IntKind.u64.wrap ((IntKind.u64.wrap (c*2))-a))) else (if f=true then (soft_divided.l0 k a (wrap64 (d-1)) b (wrap64 (e+1)) true (IntKind.u64.wrap ((IntKind.u64.wrap (c*2))-a))) else (soft_divided.l0 k a (wrap64 (d-1)) b (wrap64 (e+1)) (1==1) (IntKind.u64.wrap ((IntKind.u64.wrap (c*2))-a))))) else (if (b/4611686018427387904)=0 then (soft_divided.l0 k a (wrap64 (d-1)) (Go.bits .or .u64 (IntKind.u64.wrap (b*2)) 0) e f (IntKind.u64.wrap (c*2))) else (if f=true then (soft_divided.l0 k a (wrap64 (d-1)) b (wrap64 (e+1)) true (IntKind.u64.wrap (c*2))) else (soft_divided.l0 k a (wrap64 (d-1)) b (wrap64 (e+1)) (0==1) (IntKind.u64.wrap (c*2)))))) else (some (b,e,f,c))
def soft_divided.f (k:Nat) (a0:Int) (a1:Int) (a2:Int):Option (Int×Int×Bool×Int):=if a1=0 then (none) else (soft_divided.l0 k a1 a2 (IntKind.u64.wrap (Int.tdiv a0 a1)) 0 false (Int.tmod a0 a1))
theorem soft_divided.mono_l:∀ k,(∀ y0 y1 y2 y3 y4 y5,LeO (soft_divided.l0 k y0 y1 y2 y3 y4 y5) (soft_divided.l0 (k+1) y0 y1 y2 y3 y4 y5))
 | 0=>fun _ _ _ _ _ _ r h=>by simp[soft_divided.l0] at h
 | k+1=>by
  have ih0:=soft_divided.mono_l k
  intros;unfold soft_divided.l0;repeat' first|(with_reducible first|apply ih0|exact LeO.refl _|exact LeO.none _|refine LeO.ite ?_ ?_|refine LeO.bind ?_ (fun _=>?_))|refine LeO.ite ?_ ?_|refine LeO.bind ?_ (fun _=>?_)
theorem soft_divided.mono:∀ a0 a1 a2 k,LeO (soft_divided.f k a0 a1 a2) (soft_divided.f (k+1) a0 a1 a2):=by
 intro a0 a1 a2 k
 have ih0:=soft_divided.mono_l k
 unfold soft_divided.f
 repeat' first|(with_reducible first|apply ih0|exact LeO.refl _|exact LeO.none _|refine LeO.ite ?_ ?_|refine LeO.bind ?_ (fun _=>?_))|refine LeO.ite ?_ ?_|refine LeO.bind ?_ (fun _=>?_)
set_option maxHeartbeats 8000000 in
set_option maxRecDepth 100000 in
theorem soft_divided.calls {k:Nat} {m:Int} {j:Int} {E:Int} {F:Int} {G:Int} {I:Bool} {J:Int} {w:World} (h:soft_divided.f k m j E=some (F,G,I,J)) :
  Calls Try.prog 107 #[.int .u64 m,.int .u64 j,.int .i64 E] w fun e w'=>e=.returned (.tuple #[.int .u64 F,.int .i64 G,.bool I,.int .u64 J])∧Drawn0 w w':=by
 have H:=h
 unfold soft_divided.f at H
 clear h
 by_cases K:j=0
 ·rw[if_pos K] at H
  exact absurd H (by simp)
 rw[if_neg K] at H
 obtain⟨p,q⟩:=zf K
 have H':=Aside0.mk H
 clear H
 go_enter Try.func107,Try.ntmps107
 go_wp2
 repeat (go_quiet (fail);try go_wp2)
 go_loopg [2,6,7,8,9] k (fun kq v2 v6 v7 v8 v9 w'=>∃ (a:Int) (c:Int) (d:Int) (i:Bool) (b:Int),v2=.int .i64 a∧v6=.int .u64 c∧v7=.int .i64 d∧v8=.bool i∧v9=.int .u64 b∧Aside0 (soft_divided.l0 kq j a c d i b=some (F,G,I,J))∧Aside0 (kq≤k)∧Drawn0 w w')
 case atStart=>exact⟨(E),(IntKind.u64.wrap (Int.tdiv m j)),(0),(false),(Int.tmod m j),(by first|rfl|(simp[*];done)),(by first|rfl|(simp[*];done)),(by first|rfl|(simp[*];done)),(by first|rfl|(simp[*];done)),(by first|rfl|(simp[*];done)),H',⟨Nat.le_refl _⟩,by repeat (first|exact Drawn0.refl _|apply Drawn0.step)⟩
 case round =>
  clear H'
  try clear K p q
  obtain⟨a,c,d,i,b,rfl,rfl,rfl,rfl,rfl,HA,g,⟨m1,rfl⟩⟩:=hrel
  cases gk with
  | zero=>exact absurd HA.out (by simp[soft_divided.l0])
  | succ k1 =>
   have H:=HA.out
   clear HA
   simp only[soft_divided.l0] at H
   by_cases n:a>0
   ·rw[if_pos n] at H
    have s:decide (0<a)=true:=decide_eq_true n
    clear n
    by_cases o:(IntKind.u64.wrap (b*2))≥j
    ·rw[if_pos o] at H
     have u:decide (j≤(IntKind.u64.wrap (b*2)))=true:=decide_eq_true o
     clear o
     by_cases v:(c/4611686018427387904)=0
     ·rw[if_pos v] at H
      obtain⟨y,z⟩:=zt v
      clear v
      have H':=Aside0.mk H
      clear H
      go_wp2
      repeat (go_quiet (fail);try go_wp2)
      go_roundg k1
      case measure=>have:=g.out;omega
      case rel=>exact⟨(wrap64 (a-1)),(Go.bits .or .u64 (IntKind.u64.wrap (c*2)) 1),(d),(i),(IntKind.u64.wrap ((IntKind.u64.wrap (b*2))-j)),(by first|rfl|(simp[*];done)),(by first|rfl|(simp[*];done)),(by first|rfl|(simp[*];done)),(by first|rfl|(simp[*];done)),(by first|rfl|(simp[*];done)),H',⟨by have:=g.out;omega⟩,by repeat (first|exact Drawn0.refl _|apply Drawn0.step)⟩
     rw[if_neg v] at H
     obtain⟨y,z⟩:=zf v
     by_cases L:i=true
     ·subst L
      rw[if_pos rfl] at H
      have H':=Aside0.mk H
      clear H
      go_wp2
      repeat (go_quiet (fail);try go_wp2)
      go_roundg k1
      case measure=>have:=g.out;omega
      case rel=>exact⟨(wrap64 (a-1)),(c),(wrap64 (d+1)),(true),(IntKind.u64.wrap ((IntKind.u64.wrap (b*2))-j)),(by first|rfl|(simp[*];done)),(by first|rfl|(simp[*];done)),(by first|rfl|(simp[*];done)),(by first|rfl|(simp[*];done)),(by first|rfl|(simp[*];done)),H',⟨by have:=g.out;omega⟩,by repeat (first|exact Drawn0.refl _|apply Drawn0.step)⟩
     replace L:=Bool.eq_false_iff.mpr L
     subst L
     rw[if_neg nft] at H
     have H':=Aside0.mk H
     clear H
     go_wp2
     repeat (go_quiet (fail);try go_wp2)
     go_roundg k1
     case measure=>have:=g.out;omega
     case rel=>exact⟨(wrap64 (a-1)),(c),(wrap64 (d+1)),((1==1)),(IntKind.u64.wrap ((IntKind.u64.wrap (b*2))-j)),(by first|rfl|(simp[*];done)),(by first|rfl|(simp[*];done)),(by first|rfl|(simp[*];done)),(by first|rfl|(simp[*];done)),(by first|rfl|(simp[*];done)),H',⟨by have:=g.out;omega⟩,by repeat (first|exact Drawn0.refl _|apply Drawn0.step)⟩
    rw[if_neg o] at H
    have u:decide (j≤(IntKind.u64.wrap (b*2)))=false:=decide_eq_false o
    clear o
    by_cases B:(c/4611686018427387904)=0
    ·rw[if_pos B] at H
     obtain⟨C,D⟩:=zt B
     clear B
     have H':=Aside0.mk H
     clear H
     go_wp2
     repeat (go_quiet (fail);try go_wp2)
     go_roundg k1
     case measure=>have:=g.out;omega
     case rel=>exact⟨(wrap64 (a-1)),(Go.bits .or .u64 (IntKind.u64.wrap (c*2)) 0),(d),(i),(IntKind.u64.wrap (b*2)),(by first|rfl|(simp[*];done)),(by first|rfl|(simp[*];done)),(by first|rfl|(simp[*];done)),(by first|rfl|(simp[*];done)),(by first|rfl|(simp[*];done)),H',⟨by have:=g.out;omega⟩,by repeat (first|exact Drawn0.refl _|apply Drawn0.step)⟩
    rw[if_neg B] at H
    obtain⟨C,D⟩:=zf B
    by_cases l:i=true
    ·subst l
     rw[if_pos rfl] at H
     have H':=Aside0.mk H
     clear H
     go_wp2
     repeat (go_quiet (fail);try go_wp2)
     go_roundg k1
     case measure=>have:=g.out;omega
     case rel=>exact⟨(wrap64 (a-1)),(c),(wrap64 (d+1)),(true),(IntKind.u64.wrap (b*2)),(by first|rfl|(simp[*];done)),(by first|rfl|(simp[*];done)),(by first|rfl|(simp[*];done)),(by first|rfl|(simp[*];done)),(by first|rfl|(simp[*];done)),H',⟨by have:=g.out;omega⟩,by repeat (first|exact Drawn0.refl _|apply Drawn0.step)⟩
    replace l:=Bool.eq_false_iff.mpr l
    subst l
    rw[if_neg nft] at H
    have H':=Aside0.mk H
    clear H
    go_wp2
    repeat (go_quiet (fail);try go_wp2)
    go_roundg k1
    case measure=>have:=g.out;omega
    case rel=>exact⟨(wrap64 (a-1)),(c),(wrap64 (d+1)),((0==1)),(IntKind.u64.wrap (b*2)),(by first|rfl|(simp[*];done)),(by first|rfl|(simp[*];done)),(by first|rfl|(simp[*];done)),(by first|rfl|(simp[*];done)),(by first|rfl|(simp[*];done)),H',⟨by have:=g.out;omega⟩,by repeat (first|exact Drawn0.refl _|apply Drawn0.step)⟩
   rw[if_neg n] at H
   have s:decide (0<a)=false:=decide_eq_false n
   clear n
   simp only[Option.some.injEq,Prod.mk.injEq] at H
   obtain⟨rfl,rfl,rfl,rfl⟩:=H
   go_wp2
   repeat (go_quiet (fail);try go_wp2)
   refine bodyPost_ret (results_list (rs:=[.tmp 6,.tmp 7,.tmp 8,.tmp 9]) rfl (by simp) (.tmp (.tmp (.tmp (.tmp .nil))))) rfl ?_
   exact⟨by first|rfl|(simp;done)|(simp[*];done),by repeat (first|exact Drawn0.refl _|apply Drawn0.step)⟩

end Go.Proofs.Ythkifpdachjlgaa.PQ
