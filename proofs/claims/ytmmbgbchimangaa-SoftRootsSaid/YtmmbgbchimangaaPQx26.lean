-- by a program of this claim
import Derived.Test.YtmmbgbchimangaaPQx0
import Derived.Test.YtmmbgbchimangaaPQx1
import Derived.Test.YtmmbgbchimangaaPQx2
namespace Go.Proofs.Ytmmbgbchimangaa.PQ
open Go.RowKit Go.Proofs.YtmmbgbchimangaaW.PrintWords Go.Proofs.YtmmbgbchimangaaW.PrintLast Go.Proofs.YtmmbgbchimangaaW.PrintMore Go.Proofs.Ytmmbgbchimangaa.Z
attribute [local go_sem] max2_int min2_int max_two min_two max_three min_three max_four min_four   -- for this text's walks alone
set_option linter.unusedVariables false
set_option linter.unusedSimpArgs false

/-! ### soft_Convert: function 30 -/
def soft_Convert.j0:Nat→Bool→Int→Int→Int→Bool→Int→Int→Option (Int×Int)
 | 0,_,_,_,_,_,_,_=>none
 | k+1,g,a,b,c,d,h,i=>if g=true then (some (0,1)) else (if c=4 then ((round_NaN.f a b).bind fun j=>(some (j,0))) else (if c=3 then ((round_Inf.f a b d).bind fun l=>(some (l,0))) else ((round_Pack.f k a b d 0 i h false).bind fun e=>(some (e.1,e.2)))))
def soft_Convert.f (k:Nat) (a0_0:Int) (a0_1:Int) (a1_0:Int) (a1_1:Int) (a2:Int):Option (Int×Int):=(round_Open.f k a0_0 a0_1 a2).bind fun a=>(if a.2.2.2.2=0 then ((round_Check.f a1_0 a1_1).bind fun b=>(soft_Convert.j0 k (b != 0) a1_0 a1_1 a.1 a.2.1 a.2.2.1 a.2.2.2.1)) else (soft_Convert.j0 k true a1_0 a1_1 a.1 a.2.1 a.2.2.1 a.2.2.2.1))
theorem soft_Convert.mono_l:∀ k,(∀ y0 y1 y2 y3 y4 y5 y6,LeO (soft_Convert.j0 k y0 y1 y2 y3 y4 y5 y6) (soft_Convert.j0 (k+1) y0 y1 y2 y3 y4 y5 y6))
 | 0=>fun _ _ _ _ _ _ _ r h=>by simp[soft_Convert.j0] at h
 | k+1=>by
  have ih0:=soft_Convert.mono_l k
  intros;unfold soft_Convert.j0;repeat' first|(with_reducible first|apply ih0|apply round_Open.mono|apply round_Pack.mono|exact LeO.refl _|exact LeO.none _|refine LeO.ite ?_ ?_|refine LeO.bind ?_ (fun _=>?_))|refine LeO.ite ?_ ?_|refine LeO.bind ?_ (fun _=>?_)
theorem soft_Convert.mono:∀ a0 a1 a2 a3 a4 k,LeO (soft_Convert.f k a0 a1 a2 a3 a4) (soft_Convert.f (k+1) a0 a1 a2 a3 a4):=by
 intro a0 a1 a2 a3 a4 k
 have ih0:=soft_Convert.mono_l k
 unfold soft_Convert.f
 repeat' first|(with_reducible first|apply ih0|apply round_Open.mono|apply round_Pack.mono|exact LeO.refl _|exact LeO.none _|refine LeO.ite ?_ ?_|refine LeO.bind ?_ (fun _=>?_))|refine LeO.ite ?_ ?_|refine LeO.bind ?_ (fun _=>?_)
set_option maxHeartbeats 8000000 in
set_option maxRecDepth 100000 in
theorem soft_Convert.calls {k:Nat} {q:Int} {s:Int} {l:Int} {m:Int} {a2:Int} {r1:Int} {r2:Int} {w:World} (h:soft_Convert.f k q s l m a2=some (r1,r2)) :
  Calls Try.prog 30 #[.agg #[.int .i64 q,.int .i64 s],.agg #[.int .i64 l,.int .i64 m],.int .u64 a2] w fun e w'=>e=.returned (.tuple #[.int .u64 r1,.int .i64 r2])∧Below w.heap.size w w':=by
 have hu23:=Try.underlying23
 have hu34:=Try.underlying34
 have HB:=Aside0.mk (Below.refl w.heap.size w)
 have H:=h
 unfold soft_Convert.f at H
 clear h
 obtain⟨⟨u,B,C,D,ag⟩,A4,H⟩:=oB H
 try dsimp only at H
 have W:=Aside0.mk H
 clear H
 go_enter Try.func30,Try.ntmps30
 go_upto_region 2 with (first|((with_reducible refine gate_dst (N:=3) rfl ?_);refine zbox (N:=3) (cs:=#[.int .i64 q,.int .i64 s]) (t:=23) ?_;intro X hg w6 hbox hb;have a:=Aside0.mk hbox;have a0:=zge hg HB;have a1:=zge hg HB;replace HB:=zbs HB hb;clear hb hbox hg)|((with_reducible refine gate_dst (N:=4) rfl ?_);refine zbox (N:=4) (cs:=#[.int .i64 l,.int .i64 m]) (t:=23) ?_;intro Y hg w7 hbox hb;have b:=Aside0.mk hbox;have a3:=zge hg HB;have a4:=zge hg HB;have v:=znl hg a;have g:=zng hg a;obtain⟨a,HB⟩:=zu1 a HB hb;clear hb hbox hg;obtain⟨bC,bD⟩:=z2 v;obtain⟨R,S,T,U⟩:=zc2 a)|((with_reducible refine gate_callee (f:=68) rfl ?_);refine zgc (some 13) Try.func68 (round_Open.calls A4.out) ?_;intro bJ hb;obtain⟨a,b,HB⟩:=zu2 a b HB hb;clear hb)|((with_reducible refine gate_dst (N:=8) rfl ?_);refine zbox (N:=8) (cs:=#[.int .i64 0,.bool false,.int .i64 0,.int .u64 0]) (t:=34) ?_;intro Z hg bK hbox hb;have c:=Aside0.mk hbox;have a5:=zge hg HB;have a6:=zge hg HB;have aa:=znl hg a;have i:=zng hg a;have y:=znl hg b;have j:=zng hg b;obtain⟨a,b,HB⟩:=zu2 a b HB hb;clear hb hbox hg;obtain⟨a7,a8⟩:=z2 i;obtain⟨a9,ba⟩:=z2 j;obtain⟨E,F,G,I,J,K,L,M⟩:=zc4 c))
 (try simp only[Act.put,List.setIfInBounds_toArray,List.set_cons_zero,List.set_cons_succ])
 go_cut [22] (fun v22 wc=>∃ (kq:Nat) (p:Bool),v22=.bool p∧Aside0 (soft_Convert.j0 kq p l m u B C D=some (r1,r2))∧Aside0 (kq≤k)∧Aside0 (wc.heap[X]?=some (.cells #[.int .i64 q,.int .i64 s] 23 (0,0)))∧Aside0 (wc.heap[Y]?=some (.cells #[.int .i64 l,.int .i64 m] 23 (0,0)))∧Aside0 (wc.heap[Z]?=some (.cells #[.int .i64 u,.bool B,.int .i64 C,.int .u64 D] 34 (0,0)))∧Aside0 (Below w.heap.size w wc))
 case first =>
  have H:=W.out
  clear W
  by_cases O:ag=0
  ·rw[if_pos O] at H
   obtain⟨n,ab⟩:=zt O
   clear O
   (first|rw[n]|(simp only[i64_w,i32_w];rw[n])|skip)
   obtain⟨z,bb,H⟩:=oB H
   have H':=Aside0.mk H
   clear H
   obtain⟨bc,bd⟩:=z2 g
   obtain⟨be,bf⟩:=z2 y
   obtain⟨ah,ai,aj,ak⟩:=zc2 b
   go_wp2_with (first|(go_at_call 77;(with_reducible refine (round_Check.calls bb.out).mono ?_);rintro e bL ⟨rfl,hb⟩;replace a:=zkb a hb;replace b:=zkb b hb;replace c:=zkbo (o:=.cells #[.int .i64 u,.bool B,.int .i64 C,.int .u64 D] 34 (0,0)) c hb;replace HB:=zbs HB hb;clear hb))
   go_meet
   case rel=>exact⟨_,((z != 0)),(by first|rfl|(simp[*];done)),H',⟨by omega⟩,⟨zk a⟩,⟨zk b⟩,⟨zk c⟩,⟨zb HB⟩⟩
  rw[if_neg O] at H
  obtain⟨n,ab⟩:=zf O
  (first|rw[n]|(simp only[i64_w,i32_w];rw[n])|skip)
  have H':=Aside0.mk H
  clear H
  go_wp2
  go_meet
  case rel=>exact⟨_,(true),(by first|rfl|(simp[*];done)),H',⟨by omega⟩,⟨zk a⟩,⟨zk b⟩,⟨zkp c⟩,⟨zb HB⟩⟩
 case rest =>
  clear W
  try clear E F G I R S J K L M T U
  obtain⟨kq,p,rfl,HA,bM,a,b,c,HB⟩:=hcut
  cases kq with
  | zero=>exact absurd HA.out (by simp[soft_Convert.j0])
  | succ bN =>
   have H:=HA.out
   clear HA
   simp only[soft_Convert.j0] at H
   by_cases V:p=true
   ·subst V
    rw[if_pos rfl] at H
    simp only[Option.some.injEq,Prod.mk.injEq] at H
    obtain⟨rfl,rfl⟩:=H
    go_wp2
    go_ret2
    exact zr HB
   replace V:=Bool.eq_false_iff.mpr V
   subst V
   rw[if_neg nft] at H
   by_cases P:u=4
   ·rw[if_pos P] at H
    obtain⟨ac,ad⟩:=zt P
    clear P
    obtain⟨bE,bg,H⟩:=oB H
    simp only[Option.some.injEq,Prod.mk.injEq] at H
    obtain⟨rfl,rfl⟩:=H
    obtain⟨bh,bi⟩:=z2 i
    obtain⟨bj,bk⟩:=z2 j
    obtain⟨al,am,an,ao,ap,aq,ar,au⟩:=zc4 c
    obtain⟨bl,bm⟩:=z2 g
    obtain⟨av,aw,ax,ay⟩:=zc2 b
    go_wp2_with (first|((with_reducible refine gate_callee (f:=49) rfl ?_);refine zgc (some 28) Try.func49 (round_NaN.calls bg.out) ?_;intro bO hb;obtain⟨a,b,c,HB⟩:=zu3 a b c HB hb;clear hb))
    go_ret2
    exact zr HB
   rw[if_neg P] at H
   obtain⟨ac,ad⟩:=zf P
   by_cases Q:u=3
   ·rw[if_pos Q] at H
    obtain⟨ae,af⟩:=zt Q
    clear Q
    obtain⟨bF,bn,H⟩:=oB H
    simp only[Option.some.injEq,Prod.mk.injEq] at H
    obtain⟨rfl,rfl⟩:=H
    obtain⟨bo,bp⟩:=z2 i
    obtain⟨bq,br⟩:=z2 j
    obtain⟨az,aA,aB,aC,aD,aE,aF,aG⟩:=zc4 c
    obtain⟨bs,bt⟩:=z2 g
    obtain⟨aH,aI,aJ,aK⟩:=zc2 b
    go_wp2_with (first|((with_reducible refine gate_callee (f:=78) rfl ?_);refine zgc (some 34) Try.func78 (round_Inf.calls bn.out) ?_;intro bP hb;obtain⟨a,b,c,HB⟩:=zu3 a b c HB hb;clear hb))
    go_ret2
    exact zr HB
   rw[if_neg Q] at H
   obtain⟨ae,af⟩:=zf Q
   obtain⟨⟨bG,bH⟩,bu,H⟩:=oB H
   try dsimp only at H
   simp only[Option.some.injEq,Prod.mk.injEq] at H
   obtain⟨rfl,rfl⟩:=H
   obtain⟨bv,bw⟩:=z2 i
   obtain⟨bx,bz⟩:=z2 j
   obtain⟨aL,aM,aN,aO,aP,aQ,aR,aS⟩:=zc4 c
   obtain⟨bA,bB⟩:=z2 g
   obtain⟨aT,aU,aV,aW⟩:=zc2 b
   go_wp2_with (first|((with_reducible refine gate_callee (f:=51) rfl ?_);refine zgc (some 42) Try.func51 (round_Pack.calls bu.out) ?_;intro bQ hb;obtain⟨a,b,c,HB⟩:=zu3 a b c HB hb;clear hb))
   go_ret2
   exact zr HB

end Go.Proofs.Ytmmbgbchimangaa.PQ
