-- by a program of this claim
import Derived.Test.YthkifpdachjlgaaPQx0
import Derived.Test.YthkifpdachjlgaaPQx2
import Derived.Test.YthkifpdachjlgaaPQx7
import Derived.Test.YthkifpdachjlgaaPQx8
namespace Go.Proofs.Ythkifpdachjlgaa.PQ
open Go.RowKit Go.Proofs.YthkifpdachjlgaaW.PrintWords Go.Proofs.YthkifpdachjlgaaW.PrintLast Go.Proofs.YthkifpdachjlgaaW.PrintMore Go.Proofs.Ythkifpdachjlgaa.Z
attribute [local go_sem] max2_int min2_int max_two min_two max_three min_three max_four min_four   -- for this text's walks alone
set_option linter.unusedVariables false
set_option linter.unusedSimpArgs false

/-! ### reals_holds_uint64: function 48 -/
def reals_holds_uint64.f (k:Nat) (a0_0:Int) (a0_1:Int) (a1:Int) (a2:Int) (a3:Int) (a4:Int):Option (Bool):=(soft_Cmp.f k a0_0 a0_1 a2 a3).bind fun a=>(if a1=1 then ((reals_near.f k a0_0 a0_1 a2 a3 a4).bind fun b=>(some b)) else (if a1=2 then ((reals_near.f k a0_0 a0_1 a2 a3 a4).bind fun c=>(some (!c))) else (if a1=3 then (if a.2.1=true then (some (decide (a.1<0))) else (some false)) else (if a1=4 then (if a.2.1=true then (some (decide (a.1≤0))) else (some false)) else (if a1=5 then (if a.2.1=true then (some (decide (a.1>0))) else (some false)) else (if a1=6 then (if a.2.1=true then (some (decide (a.1≥0))) else (some false)) else (if a1=7 then ((reals_kind.f k a0_0 a0_1 a2).bind fun d=>(some (d==4))) else (if a1=8 then ((reals_kind.f k a0_0 a0_1 a2).bind fun e=>(some (e==3))) else (some false)))))))))
theorem reals_holds_uint64.mono:∀ a0 a1 a2 a3 a4 a5 k,LeO (reals_holds_uint64.f k a0 a1 a2 a3 a4 a5) (reals_holds_uint64.f (k+1) a0 a1 a2 a3 a4 a5):=by
 intro a0 a1 a2 a3 a4 a5 k
 unfold reals_holds_uint64.f
 repeat' first|(with_reducible first|apply reals_kind.mono|apply reals_near.mono|apply soft_Cmp.mono|exact LeO.refl _|exact LeO.none _|refine LeO.ite ?_ ?_|refine LeO.bind ?_ (fun _=>?_))|refine LeO.ite ?_ ?_|refine LeO.bind ?_ (fun _=>?_)
set_option maxHeartbeats 8000000 in
set_option maxRecDepth 100000 in
theorem reals_holds_uint64.calls {k:Nat} {g:Int} {i:Int} {m:Int} {J:Int} {Z:Int} {a4:Int} {r:Bool} {w:World} (h:reals_holds_uint64.f k g i m J Z a4=some r) :
  Calls Try.prog 48 #[.agg #[.int .i64 g,.int .i64 i],.int .i64 m,.int .u64 J,.int .u64 Z,.int .u64 a4] w fun e w'=>e=.returned (.bool r)∧Below w.heap.size w w':=by
 have hu58:=Try.underlying58
 have HB:=Aside0.mk (Below.refl w.heap.size w)
 have H:=h
 unfold reals_holds_uint64.f at H
 clear h
 obtain⟨⟨bq,l,br⟩,n,H⟩:=oB H
 try dsimp only at H
 by_cases c7:m=1
 ·rw[if_pos c7] at H
  obtain⟨ab,ac⟩:=zt c7
  clear c7
  obtain⟨o,A8,H⟩:=oB H
  obtain rfl:=Option.some.inj H
  go_enter Try.func48,Try.ntmps48
  go_wp2_with (first|((with_reducible refine gate_dst (N:=5) rfl ?_);refine zbox (N:=5) (cs:=#[.int .i64 g,.int .i64 i]) (t:=58) ?_;intro b hg w9 hbox hb;have a:=Aside0.mk hbox;have c:=zge hg HB;have d:=zge hg HB;replace HB:=zbs HB hb;clear hb hbox hg;obtain⟨ad,ae,af,ag⟩:=zc2 a)|((with_reducible refine gate_callee (f:=83) rfl ?_);refine zgc (some 18) Try.func83 (soft_Cmp.calls n.out) ?_;intro bw hb;obtain⟨a,HB⟩:=zu1 a HB hb;clear hb;obtain⟨ah,ai,aj,ak⟩:=zc2 a)|((with_reducible refine gate_callee (f:=84) rfl ?_);refine zgc (some 29) Try.func84 (reals_near.calls A8.out) ?_;intro bx hb;obtain⟨a,HB⟩:=zu1 a HB hb;clear hb))
  go_ret
  exact zr HB
 rw[if_neg c7] at H
 obtain⟨ab,ac⟩:=zf c7
 by_cases u:m=2
 ·rw[if_pos u] at H
  obtain⟨K,L⟩:=zt u
  clear u
  obtain⟨p,bs,H⟩:=oB H
  obtain rfl:=Option.some.inj H
  go_enter Try.func48,Try.ntmps48
  go_wp2_with (first|((with_reducible refine gate_dst (N:=5) rfl ?_);refine zbox (N:=5) (cs:=#[.int .i64 g,.int .i64 i]) (t:=58) ?_;intro b hg bz hbox hb;have a:=Aside0.mk hbox;have c:=zge hg HB;have d:=zge hg HB;replace HB:=zbs HB hb;clear hb hbox hg;obtain⟨al,am,an,ao⟩:=zc2 a)|((with_reducible refine gate_callee (f:=83) rfl ?_);refine zgc (some 18) Try.func83 (soft_Cmp.calls n.out) ?_;intro bA hb;obtain⟨a,HB⟩:=zu1 a HB hb;clear hb;obtain⟨ap,aq,ar,au⟩:=zc2 a)|((with_reducible refine gate_callee (f:=84) rfl ?_);refine zgc (some 36) Try.func84 (reals_near.calls bs.out) ?_;intro bB hb;obtain⟨a,HB⟩:=zu1 a HB hb;clear hb))
  go_ret
  exact zr HB
 rw[if_neg u] at H
 obtain⟨K,L⟩:=zf u
 by_cases v:m=3
 ·rw[if_pos v] at H
  obtain⟨M,O⟩:=zt v
  clear v
  by_cases E:l=true
  ·subst E
   rw[if_pos rfl] at H
   obtain rfl:=Option.some.inj H
   go_enter Try.func48,Try.ntmps48
   go_wp2_with (first|((with_reducible refine gate_dst (N:=5) rfl ?_);refine zbox (N:=5) (cs:=#[.int .i64 g,.int .i64 i]) (t:=58) ?_;intro b hg bC hbox hb;have a:=Aside0.mk hbox;have c:=zge hg HB;have d:=zge hg HB;replace HB:=zbs HB hb;clear hb hbox hg;obtain⟨av,aw,ax,ay⟩:=zc2 a)|((with_reducible refine gate_callee (f:=83) rfl ?_);refine zgc (some 18) Try.func83 (soft_Cmp.calls n.out) ?_;intro bD hb;obtain⟨a,HB⟩:=zu1 a HB hb;clear hb))
   go_ret
   exact zr HB
  replace E:=Bool.eq_false_iff.mpr E
  subst E
  rw[if_neg nft] at H
  obtain rfl:=Option.some.inj H
  go_enter Try.func48,Try.ntmps48
  go_wp2_with (first|((with_reducible refine gate_dst (N:=5) rfl ?_);refine zbox (N:=5) (cs:=#[.int .i64 g,.int .i64 i]) (t:=58) ?_;intro b hg bE hbox hb;have a:=Aside0.mk hbox;have c:=zge hg HB;have d:=zge hg HB;replace HB:=zbs HB hb;clear hb hbox hg;obtain⟨az,aA,aB,aC⟩:=zc2 a)|((with_reducible refine gate_callee (f:=83) rfl ?_);refine zgc (some 18) Try.func83 (soft_Cmp.calls n.out) ?_;intro bF hb;obtain⟨a,HB⟩:=zu1 a HB hb;clear hb))
  go_ret
  exact zr HB
 rw[if_neg v] at H
 obtain⟨M,O⟩:=zf v
 by_cases y:m=4
 ·rw[if_pos y] at H
  obtain⟨P,Q⟩:=zt y
  clear y
  by_cases F:l=true
  ·subst F
   rw[if_pos rfl] at H
   obtain rfl:=Option.some.inj H
   go_enter Try.func48,Try.ntmps48
   go_wp2_with (first|((with_reducible refine gate_dst (N:=5) rfl ?_);refine zbox (N:=5) (cs:=#[.int .i64 g,.int .i64 i]) (t:=58) ?_;intro b hg bG hbox hb;have a:=Aside0.mk hbox;have c:=zge hg HB;have d:=zge hg HB;replace HB:=zbs HB hb;clear hb hbox hg;obtain⟨aD,aE,aF,aG⟩:=zc2 a)|((with_reducible refine gate_callee (f:=83) rfl ?_);refine zgc (some 18) Try.func83 (soft_Cmp.calls n.out) ?_;intro bH hb;obtain⟨a,HB⟩:=zu1 a HB hb;clear hb))
   go_ret
   exact zr HB
  replace F:=Bool.eq_false_iff.mpr F
  subst F
  rw[if_neg nft] at H
  obtain rfl:=Option.some.inj H
  go_enter Try.func48,Try.ntmps48
  go_wp2_with (first|((with_reducible refine gate_dst (N:=5) rfl ?_);refine zbox (N:=5) (cs:=#[.int .i64 g,.int .i64 i]) (t:=58) ?_;intro b hg bI hbox hb;have a:=Aside0.mk hbox;have c:=zge hg HB;have d:=zge hg HB;replace HB:=zbs HB hb;clear hb hbox hg;obtain⟨aH,aI,aJ,aK⟩:=zc2 a)|((with_reducible refine gate_callee (f:=83) rfl ?_);refine zgc (some 18) Try.func83 (soft_Cmp.calls n.out) ?_;intro bJ hb;obtain⟨a,HB⟩:=zu1 a HB hb;clear hb))
  go_ret
  exact zr HB
 rw[if_neg y] at H
 obtain⟨P,Q⟩:=zf y
 by_cases z:m=5
 ·rw[if_pos z] at H
  obtain⟨R,S⟩:=zt z
  clear z
  by_cases G:l=true
  ·subst G
   rw[if_pos rfl] at H
   obtain rfl:=Option.some.inj H
   go_enter Try.func48,Try.ntmps48
   go_wp2_with (first|((with_reducible refine gate_dst (N:=5) rfl ?_);refine zbox (N:=5) (cs:=#[.int .i64 g,.int .i64 i]) (t:=58) ?_;intro b hg bK hbox hb;have a:=Aside0.mk hbox;have c:=zge hg HB;have d:=zge hg HB;replace HB:=zbs HB hb;clear hb hbox hg;obtain⟨aL,aM,aN,aO⟩:=zc2 a)|((with_reducible refine gate_callee (f:=83) rfl ?_);refine zgc (some 18) Try.func83 (soft_Cmp.calls n.out) ?_;intro bL hb;obtain⟨a,HB⟩:=zu1 a HB hb;clear hb))
   go_ret
   exact zr HB
  replace G:=Bool.eq_false_iff.mpr G
  subst G
  rw[if_neg nft] at H
  obtain rfl:=Option.some.inj H
  go_enter Try.func48,Try.ntmps48
  go_wp2_with (first|((with_reducible refine gate_dst (N:=5) rfl ?_);refine zbox (N:=5) (cs:=#[.int .i64 g,.int .i64 i]) (t:=58) ?_;intro b hg bM hbox hb;have a:=Aside0.mk hbox;have c:=zge hg HB;have d:=zge hg HB;replace HB:=zbs HB hb;clear hb hbox hg;obtain⟨aP,aQ,aR,aS⟩:=zc2 a)|((with_reducible refine gate_callee (f:=83) rfl ?_);refine zgc (some 18) Try.func83 (soft_Cmp.calls n.out) ?_;intro bN hb;obtain⟨a,HB⟩:=zu1 a HB hb;clear hb))
  go_ret
  exact zr HB
 rw[if_neg z] at H
 obtain⟨R,S⟩:=zf z
 by_cases B:m=6
 ·rw[if_pos B] at H
  obtain⟨T,U⟩:=zt B
  clear B
  by_cases I:l=true
  ·subst I
   rw[if_pos rfl] at H
   obtain rfl:=Option.some.inj H
   go_enter Try.func48,Try.ntmps48
   go_wp2_with (first|((with_reducible refine gate_dst (N:=5) rfl ?_);refine zbox (N:=5) (cs:=#[.int .i64 g,.int .i64 i]) (t:=58) ?_;intro b hg bO hbox hb;have a:=Aside0.mk hbox;have c:=zge hg HB;have d:=zge hg HB;replace HB:=zbs HB hb;clear hb hbox hg;obtain⟨aT,aU,aV,aW⟩:=zc2 a)|((with_reducible refine gate_callee (f:=83) rfl ?_);refine zgc (some 18) Try.func83 (soft_Cmp.calls n.out) ?_;intro bP hb;obtain⟨a,HB⟩:=zu1 a HB hb;clear hb))
   go_ret
   exact zr HB
  replace I:=Bool.eq_false_iff.mpr I
  subst I
  rw[if_neg nft] at H
  obtain rfl:=Option.some.inj H
  go_enter Try.func48,Try.ntmps48
  go_wp2_with (first|((with_reducible refine gate_dst (N:=5) rfl ?_);refine zbox (N:=5) (cs:=#[.int .i64 g,.int .i64 i]) (t:=58) ?_;intro b hg bQ hbox hb;have a:=Aside0.mk hbox;have c:=zge hg HB;have d:=zge hg HB;replace HB:=zbs HB hb;clear hb hbox hg;obtain⟨aX,aY,aZ,a0⟩:=zc2 a)|((with_reducible refine gate_callee (f:=83) rfl ?_);refine zgc (some 18) Try.func83 (soft_Cmp.calls n.out) ?_;intro bR hb;obtain⟨a,HB⟩:=zu1 a HB hb;clear hb))
  go_ret
  exact zr HB
 rw[if_neg B] at H
 obtain⟨T,U⟩:=zf B
 by_cases C:m=7
 ·rw[if_pos C] at H
  obtain⟨V,W⟩:=zt C
  clear C
  obtain⟨q,bt,H⟩:=oB H
  obtain rfl:=Option.some.inj H
  go_enter Try.func48,Try.ntmps48
  go_wp2_with (first|((with_reducible refine gate_dst (N:=5) rfl ?_);refine zbox (N:=5) (cs:=#[.int .i64 g,.int .i64 i]) (t:=58) ?_;intro b hg bS hbox hb;have a:=Aside0.mk hbox;have c:=zge hg HB;have d:=zge hg HB;replace HB:=zbs HB hb;clear hb hbox hg;obtain⟨a5,a6,a7,a8⟩:=zc2 a)|((with_reducible refine gate_callee (f:=83) rfl ?_);refine zgc (some 18) Try.func83 (soft_Cmp.calls n.out) ?_;intro bT hb;obtain⟨a,HB⟩:=zu1 a HB hb;clear hb;obtain⟨a9,ba,bb,bc⟩:=zc2 a)|((with_reducible refine gate_callee (f:=85) rfl ?_);refine zgc (some 70) Try.func85 (reals_kind.calls bt.out) ?_;intro bU hb;obtain⟨a,HB⟩:=zu1 a HB hb;clear hb))
  go_ret
  exact zr HB
 rw[if_neg C] at H
 obtain⟨V,W⟩:=zf C
 by_cases D:m=8
 ·rw[if_pos D] at H
  obtain⟨X,Y⟩:=zt D
  clear D
  obtain⟨s,bu,H⟩:=oB H
  obtain rfl:=Option.some.inj H
  go_enter Try.func48,Try.ntmps48
  go_wp2_with (first|((with_reducible refine gate_dst (N:=5) rfl ?_);refine zbox (N:=5) (cs:=#[.int .i64 g,.int .i64 i]) (t:=58) ?_;intro b hg bV hbox hb;have a:=Aside0.mk hbox;have c:=zge hg HB;have d:=zge hg HB;replace HB:=zbs HB hb;clear hb hbox hg;obtain⟨bd,be,bf,bg⟩:=zc2 a)|((with_reducible refine gate_callee (f:=83) rfl ?_);refine zgc (some 18) Try.func83 (soft_Cmp.calls n.out) ?_;intro bW hb;obtain⟨a,HB⟩:=zu1 a HB hb;clear hb;obtain⟨bh,bi,bj,bk⟩:=zc2 a)|((with_reducible refine gate_callee (f:=85) rfl ?_);refine zgc (some 76) Try.func85 (reals_kind.calls bu.out) ?_;intro bX hb;obtain⟨a,HB⟩:=zu1 a HB hb;clear hb))
  go_ret
  exact zr HB
 rw[if_neg D] at H
 obtain⟨X,Y⟩:=zf D
 obtain rfl:=Option.some.inj H
 go_enter Try.func48,Try.ntmps48
 go_wp2_with (first|((with_reducible refine gate_dst (N:=5) rfl ?_);refine zbox (N:=5) (cs:=#[.int .i64 g,.int .i64 i]) (t:=58) ?_;intro b hg bY hbox hb;have a:=Aside0.mk hbox;have c:=zge hg HB;have d:=zge hg HB;replace HB:=zbs HB hb;clear hb hbox hg;obtain⟨bl,bm,bn,bo⟩:=zc2 a)|((with_reducible refine gate_callee (f:=83) rfl ?_);refine zgc (some 18) Try.func83 (soft_Cmp.calls n.out) ?_;intro bZ hb;obtain⟨a,HB⟩:=zu1 a HB hb;clear hb))
 go_ret
 exact zr HB

/-! ### reals_DoubleHolds: function 19 -/
def reals_DoubleHolds.f (k:Nat) (a0:Int) (a1:Int) (a2:Int) (a3:Int):Option (Bool):=(reals_double.f).bind fun a=>((reals_holds_uint64.f k a.1 a.2 a0 a1 a2 a3).bind fun b=>(some b))
theorem reals_DoubleHolds.mono:∀ a0 a1 a2 a3 k,LeO (reals_DoubleHolds.f k a0 a1 a2 a3) (reals_DoubleHolds.f (k+1) a0 a1 a2 a3):=by
 intro a0 a1 a2 a3 k
 unfold reals_DoubleHolds.f
 repeat' first|(with_reducible first|apply reals_holds_uint64.mono|exact LeO.refl _|exact LeO.none _|refine LeO.ite ?_ ?_|refine LeO.bind ?_ (fun _=>?_))|refine LeO.ite ?_ ?_|refine LeO.bind ?_ (fun _=>?_)
set_option maxHeartbeats 8000000 in
set_option maxRecDepth 100000 in
theorem reals_DoubleHolds.calls {k:Nat} {g:Int} {i:Int} {j:Int} {l:Int} {r:Bool} {w:World} (h:reals_DoubleHolds.f k g i j l=some r) :
  Calls Try.prog 19 #[.int .i64 g,.int .u64 i,.int .u64 j,.int .u64 l] w fun e w'=>e=.returned (.bool r)∧Below w.heap.size w w':=by
 have HB:=Aside0.mk (Below.refl w.heap.size w)
 have H:=h
 unfold reals_DoubleHolds.f at H
 clear h
 obtain⟨⟨c,d⟩,m,H⟩:=oB H
 try dsimp only at H
 obtain⟨b,n,H⟩:=oB H
 obtain rfl:=Option.some.inj H
 go_enter Try.func19,Try.ntmps19
 go_wp2_with (first|((with_reducible refine gate_callee (f:=43) rfl ?_);refine zgc (some 9) Try.func43 (reals_double.calls  c d _ m.out) ?_;intro o hb;replace HB:=zbs HB hb;clear hb)|((with_reducible refine gate_callee (f:=48) rfl ?_);refine zgc (some 14) Try.func48 (reals_holds_uint64.calls n.out) ?_;intro p hb;replace HB:=zbs HB hb;clear hb))
 go_ret
 exact zr HB

/-! ### reals_made_uint64: function 52 -/
def reals_made_uint64.f (k:Nat) (a0_0:Int) (a0_1:Int) (a1:Int):Option (Int):=if (a1/2147483648)=1 then ((round_Pack.f k a0_0 a0_1 ((a1/2147483648)==1) 0 (IntKind.u64.wrap (4294967296-(IntKind.u64.wrap (a1)))) 0 false).bind fun a=>(some a.1)) else ((round_Pack.f k a0_0 a0_1 ((a1/2147483648)==1) 0 (IntKind.u64.wrap (a1)) 0 false).bind fun b=>(some b.1))
theorem reals_made_uint64.mono:∀ a0 a1 a2 k,LeO (reals_made_uint64.f k a0 a1 a2) (reals_made_uint64.f (k+1) a0 a1 a2):=by
 intro a0 a1 a2 k
 unfold reals_made_uint64.f
 repeat' first|(with_reducible first|apply round_Pack.mono|exact LeO.refl _|exact LeO.none _|refine LeO.ite ?_ ?_|refine LeO.bind ?_ (fun _=>?_))|refine LeO.ite ?_ ?_|refine LeO.bind ?_ (fun _=>?_)
set_option maxHeartbeats 8000000 in
set_option maxRecDepth 100000 in
theorem reals_made_uint64.calls {k:Nat} {b:Int} {c:Int} {m:Int} {r:Int} {w:World} (h:reals_made_uint64.f k b c m=some r) :
  Calls Try.prog 52 #[.agg #[.int .i64 b,.int .i64 c],.int .u32 m] w fun e w'=>e=.returned (.int .u64 r)∧Below w.heap.size w w':=by
 have hu58:=Try.underlying58
 have HB:=Aside0.mk (Below.refl w.heap.size w)
 have H:=h
 unfold reals_made_uint64.f at H
 clear h
 by_cases n:(m/2147483648)=1
 ·rw[if_pos n] at H
  obtain⟨o,p⟩:=zt n
  clear n
  rw[o] at H
  obtain⟨⟨D,E⟩,I,H⟩:=oB H
  try dsimp only at H
  obtain rfl:=Option.some.inj H
  go_enter Try.func52,Try.ntmps52
  go_wp2_with (first|((with_reducible refine gate_dst (N:=2) rfl ?_);refine zbox (N:=2) (cs:=#[.int .i64 b,.int .i64 c]) (t:=58) ?_;intro i hg L hbox hb;have a:=Aside0.mk hbox;have j:=zge hg HB;have l:=zge hg HB;replace HB:=zbs HB hb;clear hb hbox hg;obtain⟨y,z,B,C⟩:=zc2 a)|((with_reducible refine gate_callee (f:=87) rfl ?_);refine zgc (some 21) Try.func87 (round_Pack.calls I.out) ?_;intro M hb;obtain⟨a,HB⟩:=zu1 a HB hb;clear hb))
  go_ret
  exact zr HB
 rw[if_neg n] at H
 obtain⟨o,p⟩:=zf n
 rw[o] at H
 obtain⟨⟨F,G⟩,J,H⟩:=oB H
 try dsimp only at H
 obtain rfl:=Option.some.inj H
 go_enter Try.func52,Try.ntmps52
 go_wp2_with (first|((with_reducible refine gate_dst (N:=2) rfl ?_);refine zbox (N:=2) (cs:=#[.int .i64 b,.int .i64 c]) (t:=58) ?_;intro i hg O hbox hb;have a:=Aside0.mk hbox;have j:=zge hg HB;have l:=zge hg HB;replace HB:=zbs HB hb;clear hb hbox hg;obtain⟨q,s,u,v⟩:=zc2 a)|((with_reducible refine gate_callee (f:=87) rfl ?_);refine zgc (some 21) Try.func87 (round_Pack.calls J.out) ?_;intro K hb;obtain⟨a,HB⟩:=zu1 a HB hb;clear hb))
 go_ret
 exact zr HB

/-! ### reals_DoubleOf: function 22 -/
def reals_DoubleOf.f (k:Nat) (a0:Int):Option (Int):=(reals_double.f).bind fun a=>((reals_made_uint64.f k a.1 a.2 a0).bind fun b=>(some b))
theorem reals_DoubleOf.mono:∀ a0 k,LeO (reals_DoubleOf.f k a0) (reals_DoubleOf.f (k+1) a0):=by
 intro a0 k
 unfold reals_DoubleOf.f
 repeat' first|(with_reducible first|apply reals_made_uint64.mono|exact LeO.refl _|exact LeO.none _|refine LeO.ite ?_ ?_|refine LeO.bind ?_ (fun _=>?_))|refine LeO.ite ?_ ?_|refine LeO.bind ?_ (fun _=>?_)
set_option maxHeartbeats 8000000 in
set_option maxRecDepth 100000 in
theorem reals_DoubleOf.calls {k:Nat} {g:Int} {r:Int} {w:World} (h:reals_DoubleOf.f k g=some r) :
  Calls Try.prog 22 #[.int .u32 g] w fun e w'=>e=.returned (.int .u64 r)∧Below w.heap.size w w':=by
 have HB:=Aside0.mk (Below.refl w.heap.size w)
 have H:=h
 unfold reals_DoubleOf.f at H
 clear h
 obtain⟨⟨c,d⟩,i,H⟩:=oB H
 try dsimp only at H
 obtain⟨b,j,H⟩:=oB H
 obtain rfl:=Option.some.inj H
 go_enter Try.func22,Try.ntmps22
 go_wp2_with (first|((with_reducible refine gate_callee (f:=43) rfl ?_);refine zgc (some 3) Try.func43 (reals_double.calls  c d _ i.out) ?_;intro l hb;replace HB:=zbs HB hb;clear hb)|((with_reducible refine gate_callee (f:=52) rfl ?_);refine zgc (some 5) Try.func52 (reals_made_uint64.calls j.out) ?_;intro m hb;replace HB:=zbs HB hb;clear hb))
 go_ret
 exact zr HB

/-! ### reals_integer_uint64: function 55 -/
def reals_integer_uint64.f (k:Nat) (a0_0:Int) (a0_1:Int) (a1:Int) (a2:Bool):Option (Int):=(soft_Whole.f k a0_0 a0_1 a1 a2).bind fun a=>(if a.2.1=true then (some ((-((mn a.1 2147483648)%4294967296))%4294967296)) else (some ((mn a.1 2147483647)%4294967296)))
theorem reals_integer_uint64.mono:∀ a0 a1 a2 a3 k,LeO (reals_integer_uint64.f k a0 a1 a2 a3) (reals_integer_uint64.f (k+1) a0 a1 a2 a3):=by
 intro a0 a1 a2 a3 k
 unfold reals_integer_uint64.f
 repeat' first|(with_reducible first|apply soft_Whole.mono|exact LeO.refl _|exact LeO.none _|refine LeO.ite ?_ ?_|refine LeO.bind ?_ (fun _=>?_))|refine LeO.ite ?_ ?_|refine LeO.bind ?_ (fun _=>?_)
set_option maxHeartbeats 8000000 in
set_option maxRecDepth 100000 in
theorem reals_integer_uint64.calls {k:Nat} {i:Int} {j:Int} {K:Int} {L:Bool} {r:Int} {w:World} (h:reals_integer_uint64.f k i j K L=some r) :
  Calls Try.prog 55 #[.agg #[.int .i64 i,.int .i64 j],.int .u64 K,.bool L] w fun e w'=>e=.returned (.int .u32 r)∧Below w.heap.size w w':=by
 have hu58:=Try.underlying58
 have HB:=Aside0.mk (Below.refl w.heap.size w)
 have H:=h
 unfold reals_integer_uint64.f at H
 clear h
 obtain⟨⟨b,q,M⟩,z,H⟩:=oB H
 try dsimp only at H
 by_cases B:q=true
 ·subst B
  rw[if_pos rfl] at H
  obtain⟨m,d⟩:∃ j_:Int,(mn b 2147483648)=j_:=⟨_,rfl⟩
  first|rw[d] at H|simp only[d] at H
  (try rw[d] at z)
  (try (have O:m≤2147483648:=by (rw[←d];unfold mn;(repeat' split) <;> omega)))
  (try (have P:m≤64:=by omega))
  have Q:(if 2147483648<b then 2147483648 else b)=m:=d
  obtain rfl:=Option.some.inj H
  go_enter Try.func55,Try.ntmps55
  go_wp2_with (first|((with_reducible refine gate_dst (N:=3) rfl ?_);refine zbox (N:=3) (cs:=#[.int .i64 i,.int .i64 j]) (t:=58) ?_;intro n hg T hbox hb;have a:=Aside0.mk hbox;have o:=zge hg HB;have p:=zge hg HB;replace HB:=zbs HB hb;clear hb hbox hg;obtain⟨C,D,E,F⟩:=zc2 a)|((with_reducible refine gate_callee (f:=93) rfl ?_);refine zgc (some 14) Try.func93 (soft_Whole.calls z.out) ?_;intro U hb;obtain⟨a,HB⟩:=zu1 a HB hb;clear hb))
  go_ret
  exact⟨by first|rfl|(simp[errW_none,errW_some] <;> rfl)|(simp only[←d];first|rfl|(simp[errW_none,errW_some] <;> rfl))|(simp[*,errW_none,errW_some] <;> rfl),zb HB⟩
 replace B:=Bool.eq_false_iff.mpr B
 subst B
 rw[if_neg nft] at H
 obtain⟨l,c⟩:∃ j_:Int,(mn b 2147483647)=j_:=⟨_,rfl⟩
 first|rw[c] at H|simp only[c] at H
 (try rw[c] at z)
 (try (have G:l≤2147483647:=by (rw[←c];unfold mn;(repeat' split) <;> omega)))
 (try (have I:l≤64:=by omega))
 have J:(if 2147483647<b then 2147483647 else b)=l:=c
 obtain rfl:=Option.some.inj H
 go_enter Try.func55,Try.ntmps55
 go_wp2_with (first|((with_reducible refine gate_dst (N:=3) rfl ?_);refine zbox (N:=3) (cs:=#[.int .i64 i,.int .i64 j]) (t:=58) ?_;intro n hg R hbox hb;have a:=Aside0.mk hbox;have o:=zge hg HB;have p:=zge hg HB;replace HB:=zbs HB hb;clear hb hbox hg;obtain⟨s,u,v,y⟩:=zc2 a)|((with_reducible refine gate_callee (f:=93) rfl ?_);refine zgc (some 14) Try.func93 (soft_Whole.calls z.out) ?_;intro S hb;obtain⟨a,HB⟩:=zu1 a HB hb;clear hb))
 go_ret
 exact⟨by first|rfl|(simp[errW_none,errW_some] <;> rfl)|(simp only[←c];first|rfl|(simp[errW_none,errW_some] <;> rfl))|(simp[*,errW_none,errW_some] <;> rfl),zb HB⟩

/-! ### reals_DoubleInt: function 25 -/
def reals_DoubleInt.f (k:Nat) (a0:Int) (a1:Bool):Option (Int):=(reals_double.f).bind fun a=>((reals_integer_uint64.f k a.1 a.2 a0 a1).bind fun b=>(some b))
theorem reals_DoubleInt.mono:∀ a0 a1 k,LeO (reals_DoubleInt.f k a0 a1) (reals_DoubleInt.f (k+1) a0 a1):=by
 intro a0 a1 k
 unfold reals_DoubleInt.f
 repeat' first|(with_reducible first|apply reals_integer_uint64.mono|exact LeO.refl _|exact LeO.none _|refine LeO.ite ?_ ?_|refine LeO.bind ?_ (fun _=>?_))|refine LeO.ite ?_ ?_|refine LeO.bind ?_ (fun _=>?_)
set_option maxHeartbeats 8000000 in
set_option maxRecDepth 100000 in
theorem reals_DoubleInt.calls {k:Nat} {g:Int} {i:Bool} {r:Int} {w:World} (h:reals_DoubleInt.f k g i=some r) :
  Calls Try.prog 25 #[.int .u64 g,.bool i] w fun e w'=>e=.returned (.int .u32 r)∧Below w.heap.size w w':=by
 have HB:=Aside0.mk (Below.refl w.heap.size w)
 have H:=h
 unfold reals_DoubleInt.f at H
 clear h
 obtain⟨⟨c,d⟩,j,H⟩:=oB H
 try dsimp only at H
 obtain⟨b,l,H⟩:=oB H
 obtain rfl:=Option.some.inj H
 go_enter Try.func25,Try.ntmps25
 go_wp2_with (first|((with_reducible refine gate_callee (f:=43) rfl ?_);refine zgc (some 5) Try.func43 (reals_double.calls  c d _ j.out) ?_;intro m hb;replace HB:=zbs HB hb;clear hb)|((with_reducible refine gate_callee (f:=55) rfl ?_);refine zgc (some 8) Try.func55 (reals_integer_uint64.calls l.out) ?_;intro n hb;replace HB:=zbs HB hb;clear hb))
 go_ret
 exact zr HB

/-! ### reals_Narrow: function 26 -/
def reals_Narrow.f (k:Nat) (a0:Int):Option (Int):=(reals_double.f).bind fun a=>((reals_single.f).bind fun b=>((soft_Convert.f k a.1 a.2 b.1 b.2 a0).bind fun c=>(some ((c.1)%4294967296))))
theorem reals_Narrow.mono:∀ a0 k,LeO (reals_Narrow.f k a0) (reals_Narrow.f (k+1) a0):=by
 intro a0 k
 unfold reals_Narrow.f
 repeat' first|(with_reducible first|apply soft_Convert.mono|exact LeO.refl _|exact LeO.none _|refine LeO.ite ?_ ?_|refine LeO.bind ?_ (fun _=>?_))|refine LeO.ite ?_ ?_|refine LeO.bind ?_ (fun _=>?_)
set_option maxHeartbeats 8000000 in
set_option maxRecDepth 100000 in
theorem reals_Narrow.calls {k:Nat} {l:Int} {r:Int} {w:World} (h:reals_Narrow.f k l=some r) :
  Calls Try.prog 26 #[.int .u64 l] w fun e w'=>e=.returned (.int .u32 r)∧Below w.heap.size w w':=by
 have HB:=Aside0.mk (Below.refl w.heap.size w)
 have H:=h
 unfold reals_Narrow.f at H
 clear h
 obtain⟨⟨d,g⟩,o,H⟩:=oB H
 try dsimp only at H
 obtain⟨⟨i,j⟩,p,H⟩:=oB H
 try dsimp only at H
 obtain⟨⟨m,n⟩,q,H⟩:=oB H
 try dsimp only at H
 obtain rfl:=Option.some.inj H
 go_enter Try.func26,Try.ntmps26
 go_wp2_with (first|((with_reducible refine gate_callee (f:=43) rfl ?_);refine zgc (some 6) Try.func43 (reals_double.calls  d g _ o.out) ?_;intro s hb;replace HB:=zbs HB hb;clear hb)|((with_reducible refine gate_callee (f:=32) rfl ?_);refine zgc (some 7) Try.func32 (reals_single.calls  i j _ p.out) ?_;intro u hb;replace HB:=zbs HB hb;clear hb)|((with_reducible refine gate_callee (f:=56) rfl ?_);refine zgc (some 9) Try.func56 (soft_Convert.calls q.out) ?_;intro v hb;replace HB:=zbs HB hb;clear hb))
 go_ret
 exact zr HB

/-! ### reals_Split: function 28 -/
def reals_Split.f (a0:Int):Option (Int×Int):=some ((a0/4294967296)%4294967296,(a0)%4294967296)
set_option maxHeartbeats 8000000 in
set_option maxRecDepth 100000 in
theorem reals_Split.calls {a:Int} {b:Int} {c:Int} {w:World} (h:reals_Split.f a=some (b,c)) :
  Calls Try.prog 28 #[.int .u64 a] w fun e w'=>e=.returned (.tuple #[.int .u32 b,.int .u32 c])∧Drawn0 w w':=by
 have H:=h
 unfold reals_Split.f at H
 clear h
 simp only[Option.some.injEq,Prod.mk.injEq] at H
 obtain⟨rfl,rfl⟩:=H
 go_enter Try.func28,Try.ntmps28
 go_wp2
 go_ret2
 exact⟨by first|rfl|(simp;done)|(simp[*];done),by repeat (first|exact Drawn0.refl _|apply Drawn0.step)⟩

/-! ### reals_Join: function 30 -/
def reals_Join.f (a0:Int) (a1:Int):Option (Int):=some (Go.bits .or .u64 (IntKind.u64.wrap ((IntKind.u64.wrap (a0))*4294967296)) (IntKind.u64.wrap (a1)))
set_option maxHeartbeats 8000000 in
set_option maxRecDepth 100000 in
theorem reals_Join.calls {a:Int} {b:Int} {r:Int} {w:World} (h:reals_Join.f a b=some r) :
  Calls Try.prog 30 #[.int .u32 a,.int .u32 b] w fun e w'=>e=.returned (.int .u64 r)∧Drawn0 w w':=by
 have H:=h
 unfold reals_Join.f at H
 clear h
 obtain rfl:=Option.some.inj H
 go_enter Try.func30,Try.ntmps30
 go_wp2
 go_ret
 exact⟨by first|rfl|(simp;done)|(simp[*];done),by repeat (first|exact Drawn0.refl _|apply Drawn0.step)⟩

end Go.Proofs.Ythkifpdachjlgaa.PQ
