-- by a program of this claim
import Derived.Test.YthkifpdachjlgaaPQx0
import Derived.Test.YthkifpdachjlgaaPQx1
import Derived.Test.YthkifpdachjlgaaPQx2
import Derived.Test.YthkifpdachjlgaaPQx4
import Derived.Test.YthkifpdachjlgaaPQx6
import Derived.Test.YthkifpdachjlgaaPQx7
namespace Go.Proofs.Ythkifpdachjlgaa.PQ
open Go.RowKit Go.Proofs.YthkifpdachjlgaaW.PrintWords Go.Proofs.YthkifpdachjlgaaW.PrintLast Go.Proofs.YthkifpdachjlgaaW.PrintMore Go.Proofs.Ythkifpdachjlgaa.Z
attribute [local go_sem] max2_int min2_int max_two min_two max_three min_three max_four min_four   -- for this text's walks alone
set_option linter.unusedVariables false
set_option linter.unusedSimpArgs false

/-! ### reals_holds_uint32: function 44 -/
def reals_holds_uint32.f (k:Nat) (a0_0:Int) (a0_1:Int) (a1:Int) (a2:Int) (a3:Int) (a4:Int):Option (Bool):=(soft_Cmp.f k a0_0 a0_1 (IntKind.u64.wrap (a2)) (IntKind.u64.wrap (a3))).bind fun a=>(if a1=1 then ((reals_near.f k a0_0 a0_1 (IntKind.u64.wrap (a2)) (IntKind.u64.wrap (a3)) (IntKind.u64.wrap (a4))).bind fun b=>(some b)) else (if a1=2 then ((reals_near.f k a0_0 a0_1 (IntKind.u64.wrap (a2)) (IntKind.u64.wrap (a3)) (IntKind.u64.wrap (a4))).bind fun c=>(some (!c))) else (if a1=3 then (if a.2.1=true then (some (decide (a.1<0))) else (some false)) else (if a1=4 then (if a.2.1=true then (some (decide (a.1≤0))) else (some false)) else (if a1=5 then (if a.2.1=true then (some (decide (a.1>0))) else (some false)) else (if a1=6 then (if a.2.1=true then (some (decide (a.1≥0))) else (some false)) else (if a1=7 then ((reals_kind.f k a0_0 a0_1 (IntKind.u64.wrap (a2))).bind fun d=>(some (d==4))) else (if a1=8 then ((reals_kind.f k a0_0 a0_1 (IntKind.u64.wrap (a2))).bind fun e=>(some (e==3))) else (some false)))))))))
theorem reals_holds_uint32.mono:∀ a0 a1 a2 a3 a4 a5 k,LeO (reals_holds_uint32.f k a0 a1 a2 a3 a4 a5) (reals_holds_uint32.f (k+1) a0 a1 a2 a3 a4 a5):=by
 intro a0 a1 a2 a3 a4 a5 k
 unfold reals_holds_uint32.f
 repeat' first|(with_reducible first|apply reals_kind.mono|apply reals_near.mono|apply soft_Cmp.mono|exact LeO.refl _|exact LeO.none _|refine LeO.ite ?_ ?_|refine LeO.bind ?_ (fun _=>?_))|refine LeO.ite ?_ ?_|refine LeO.bind ?_ (fun _=>?_)
set_option maxHeartbeats 8000000 in
set_option maxRecDepth 100000 in
theorem reals_holds_uint32.calls {k:Nat} {b:Int} {c:Int} {l:Int} {J:Int} {Z:Int} {a4:Int} {r:Bool} {w:World} (h:reals_holds_uint32.f k b c l J Z a4=some r) :
  Calls Try.prog 44 #[.agg #[.int .i64 b,.int .i64 c],.int .i64 l,.int .u32 J,.int .u32 Z,.int .u32 a4] w fun e w'=>e=.returned (.bool r)∧Below w.heap.size w w':=by
 have hu58:=Try.underlying58
 have HB:=Aside0.mk (Below.refl w.heap.size w)
 have H:=h
 unfold reals_holds_uint32.f at H
 clear h
 obtain⟨⟨bt,m,bu⟩,n,H⟩:=oB H
 try dsimp only at H
 by_cases c7:l=1
 ·rw[if_pos c7] at H
  obtain⟨ab,ac⟩:=zt c7
  clear c7
  obtain⟨E,A8,H⟩:=oB H
  obtain rfl:=Option.some.inj H
  go_enter Try.func44,Try.ntmps44
  go_wp2_with (first|((with_reducible refine gate_dst (N:=5) rfl ?_);refine zbox (N:=5) (cs:=#[.int .i64 b,.int .i64 c]) (t:=58) ?_;intro d hg w9 hbox hb;have a:=Aside0.mk hbox;have g:=zge hg HB;have i:=zge hg HB;replace HB:=zbs HB hb;clear hb hbox hg;obtain⟨ad,ae,af,ag⟩:=zc2 a)|((with_reducible refine gate_callee (f:=83) rfl ?_);refine zgc (some 20) Try.func83 (soft_Cmp.calls n.out) ?_;intro bw hb;obtain⟨a,HB⟩:=zu1 a HB hb;clear hb;obtain⟨ah,ai,aj,ak⟩:=zc2 a)|((with_reducible refine gate_callee (f:=84) rfl ?_);refine zgc (some 34) Try.func84 (reals_near.calls A8.out) ?_;intro bx hb;obtain⟨a,HB⟩:=zu1 a HB hb;clear hb))
  go_ret
  exact zr HB
 rw[if_neg c7] at H
 obtain⟨ab,ac⟩:=zf c7
 by_cases o:l=2
 ·rw[if_pos o] at H
  obtain⟨K,L⟩:=zt o
  clear o
  obtain⟨F,bq,H⟩:=oB H
  obtain rfl:=Option.some.inj H
  go_enter Try.func44,Try.ntmps44
  go_wp2_with (first|((with_reducible refine gate_dst (N:=5) rfl ?_);refine zbox (N:=5) (cs:=#[.int .i64 b,.int .i64 c]) (t:=58) ?_;intro d hg bz hbox hb;have a:=Aside0.mk hbox;have g:=zge hg HB;have i:=zge hg HB;replace HB:=zbs HB hb;clear hb hbox hg;obtain⟨al,am,an,ao⟩:=zc2 a)|((with_reducible refine gate_callee (f:=83) rfl ?_);refine zgc (some 20) Try.func83 (soft_Cmp.calls n.out) ?_;intro bA hb;obtain⟨a,HB⟩:=zu1 a HB hb;clear hb;obtain⟨ap,aq,ar,au⟩:=zc2 a)|((with_reducible refine gate_callee (f:=84) rfl ?_);refine zgc (some 44) Try.func84 (reals_near.calls bq.out) ?_;intro bB hb;obtain⟨a,HB⟩:=zu1 a HB hb;clear hb))
  go_ret
  exact zr HB
 rw[if_neg o] at H
 obtain⟨K,L⟩:=zf o
 by_cases p:l=3
 ·rw[if_pos p] at H
  obtain⟨M,O⟩:=zt p
  clear p
  by_cases z:m=true
  ·subst z
   rw[if_pos rfl] at H
   obtain rfl:=Option.some.inj H
   go_enter Try.func44,Try.ntmps44
   go_wp2_with (first|((with_reducible refine gate_dst (N:=5) rfl ?_);refine zbox (N:=5) (cs:=#[.int .i64 b,.int .i64 c]) (t:=58) ?_;intro d hg bC hbox hb;have a:=Aside0.mk hbox;have g:=zge hg HB;have i:=zge hg HB;replace HB:=zbs HB hb;clear hb hbox hg;obtain⟨av,aw,ax,ay⟩:=zc2 a)|((with_reducible refine gate_callee (f:=83) rfl ?_);refine zgc (some 20) Try.func83 (soft_Cmp.calls n.out) ?_;intro bD hb;obtain⟨a,HB⟩:=zu1 a HB hb;clear hb))
   go_ret
   exact zr HB
  replace z:=Bool.eq_false_iff.mpr z
  subst z
  rw[if_neg nft] at H
  obtain rfl:=Option.some.inj H
  go_enter Try.func44,Try.ntmps44
  go_wp2_with (first|((with_reducible refine gate_dst (N:=5) rfl ?_);refine zbox (N:=5) (cs:=#[.int .i64 b,.int .i64 c]) (t:=58) ?_;intro d hg bE hbox hb;have a:=Aside0.mk hbox;have g:=zge hg HB;have i:=zge hg HB;replace HB:=zbs HB hb;clear hb hbox hg;obtain⟨az,aA,aB,aC⟩:=zc2 a)|((with_reducible refine gate_callee (f:=83) rfl ?_);refine zgc (some 20) Try.func83 (soft_Cmp.calls n.out) ?_;intro bF hb;obtain⟨a,HB⟩:=zu1 a HB hb;clear hb))
  go_ret
  exact zr HB
 rw[if_neg p] at H
 obtain⟨M,O⟩:=zf p
 by_cases q:l=4
 ·rw[if_pos q] at H
  obtain⟨P,Q⟩:=zt q
  clear q
  by_cases B:m=true
  ·subst B
   rw[if_pos rfl] at H
   obtain rfl:=Option.some.inj H
   go_enter Try.func44,Try.ntmps44
   go_wp2_with (first|((with_reducible refine gate_dst (N:=5) rfl ?_);refine zbox (N:=5) (cs:=#[.int .i64 b,.int .i64 c]) (t:=58) ?_;intro d hg bG hbox hb;have a:=Aside0.mk hbox;have g:=zge hg HB;have i:=zge hg HB;replace HB:=zbs HB hb;clear hb hbox hg;obtain⟨aD,aE,aF,aG⟩:=zc2 a)|((with_reducible refine gate_callee (f:=83) rfl ?_);refine zgc (some 20) Try.func83 (soft_Cmp.calls n.out) ?_;intro bH hb;obtain⟨a,HB⟩:=zu1 a HB hb;clear hb))
   go_ret
   exact zr HB
  replace B:=Bool.eq_false_iff.mpr B
  subst B
  rw[if_neg nft] at H
  obtain rfl:=Option.some.inj H
  go_enter Try.func44,Try.ntmps44
  go_wp2_with (first|((with_reducible refine gate_dst (N:=5) rfl ?_);refine zbox (N:=5) (cs:=#[.int .i64 b,.int .i64 c]) (t:=58) ?_;intro d hg bI hbox hb;have a:=Aside0.mk hbox;have g:=zge hg HB;have i:=zge hg HB;replace HB:=zbs HB hb;clear hb hbox hg;obtain⟨aH,aI,aJ,aK⟩:=zc2 a)|((with_reducible refine gate_callee (f:=83) rfl ?_);refine zgc (some 20) Try.func83 (soft_Cmp.calls n.out) ?_;intro bJ hb;obtain⟨a,HB⟩:=zu1 a HB hb;clear hb))
  go_ret
  exact zr HB
 rw[if_neg q] at H
 obtain⟨P,Q⟩:=zf q
 by_cases s:l=5
 ·rw[if_pos s] at H
  obtain⟨R,S⟩:=zt s
  clear s
  by_cases C:m=true
  ·subst C
   rw[if_pos rfl] at H
   obtain rfl:=Option.some.inj H
   go_enter Try.func44,Try.ntmps44
   go_wp2_with (first|((with_reducible refine gate_dst (N:=5) rfl ?_);refine zbox (N:=5) (cs:=#[.int .i64 b,.int .i64 c]) (t:=58) ?_;intro d hg bK hbox hb;have a:=Aside0.mk hbox;have g:=zge hg HB;have i:=zge hg HB;replace HB:=zbs HB hb;clear hb hbox hg;obtain⟨aL,aM,aN,aO⟩:=zc2 a)|((with_reducible refine gate_callee (f:=83) rfl ?_);refine zgc (some 20) Try.func83 (soft_Cmp.calls n.out) ?_;intro bL hb;obtain⟨a,HB⟩:=zu1 a HB hb;clear hb))
   go_ret
   exact zr HB
  replace C:=Bool.eq_false_iff.mpr C
  subst C
  rw[if_neg nft] at H
  obtain rfl:=Option.some.inj H
  go_enter Try.func44,Try.ntmps44
  go_wp2_with (first|((with_reducible refine gate_dst (N:=5) rfl ?_);refine zbox (N:=5) (cs:=#[.int .i64 b,.int .i64 c]) (t:=58) ?_;intro d hg bM hbox hb;have a:=Aside0.mk hbox;have g:=zge hg HB;have i:=zge hg HB;replace HB:=zbs HB hb;clear hb hbox hg;obtain⟨aP,aQ,aR,aS⟩:=zc2 a)|((with_reducible refine gate_callee (f:=83) rfl ?_);refine zgc (some 20) Try.func83 (soft_Cmp.calls n.out) ?_;intro bN hb;obtain⟨a,HB⟩:=zu1 a HB hb;clear hb))
  go_ret
  exact zr HB
 rw[if_neg s] at H
 obtain⟨R,S⟩:=zf s
 by_cases u:l=6
 ·rw[if_pos u] at H
  obtain⟨T,U⟩:=zt u
  clear u
  by_cases D:m=true
  ·subst D
   rw[if_pos rfl] at H
   obtain rfl:=Option.some.inj H
   go_enter Try.func44,Try.ntmps44
   go_wp2_with (first|((with_reducible refine gate_dst (N:=5) rfl ?_);refine zbox (N:=5) (cs:=#[.int .i64 b,.int .i64 c]) (t:=58) ?_;intro d hg bO hbox hb;have a:=Aside0.mk hbox;have g:=zge hg HB;have i:=zge hg HB;replace HB:=zbs HB hb;clear hb hbox hg;obtain⟨aT,aU,aV,aW⟩:=zc2 a)|((with_reducible refine gate_callee (f:=83) rfl ?_);refine zgc (some 20) Try.func83 (soft_Cmp.calls n.out) ?_;intro bP hb;obtain⟨a,HB⟩:=zu1 a HB hb;clear hb))
   go_ret
   exact zr HB
  replace D:=Bool.eq_false_iff.mpr D
  subst D
  rw[if_neg nft] at H
  obtain rfl:=Option.some.inj H
  go_enter Try.func44,Try.ntmps44
  go_wp2_with (first|((with_reducible refine gate_dst (N:=5) rfl ?_);refine zbox (N:=5) (cs:=#[.int .i64 b,.int .i64 c]) (t:=58) ?_;intro d hg bQ hbox hb;have a:=Aside0.mk hbox;have g:=zge hg HB;have i:=zge hg HB;replace HB:=zbs HB hb;clear hb hbox hg;obtain⟨aX,aY,aZ,a0⟩:=zc2 a)|((with_reducible refine gate_callee (f:=83) rfl ?_);refine zgc (some 20) Try.func83 (soft_Cmp.calls n.out) ?_;intro bR hb;obtain⟨a,HB⟩:=zu1 a HB hb;clear hb))
  go_ret
  exact zr HB
 rw[if_neg u] at H
 obtain⟨T,U⟩:=zf u
 by_cases v:l=7
 ·rw[if_pos v] at H
  obtain⟨V,W⟩:=zt v
  clear v
  obtain⟨G,br,H⟩:=oB H
  obtain rfl:=Option.some.inj H
  go_enter Try.func44,Try.ntmps44
  go_wp2_with (first|((with_reducible refine gate_dst (N:=5) rfl ?_);refine zbox (N:=5) (cs:=#[.int .i64 b,.int .i64 c]) (t:=58) ?_;intro d hg bS hbox hb;have a:=Aside0.mk hbox;have g:=zge hg HB;have i:=zge hg HB;replace HB:=zbs HB hb;clear hb hbox hg;obtain⟨a5,a6,a7,a8⟩:=zc2 a)|((with_reducible refine gate_callee (f:=83) rfl ?_);refine zgc (some 20) Try.func83 (soft_Cmp.calls n.out) ?_;intro bT hb;obtain⟨a,HB⟩:=zu1 a HB hb;clear hb;obtain⟨a9,ba,bb,bc⟩:=zc2 a)|((with_reducible refine gate_callee (f:=85) rfl ?_);refine zgc (some 79) Try.func85 (reals_kind.calls br.out) ?_;intro bU hb;obtain⟨a,HB⟩:=zu1 a HB hb;clear hb))
  go_ret
  exact zr HB
 rw[if_neg v] at H
 obtain⟨V,W⟩:=zf v
 by_cases y:l=8
 ·rw[if_pos y] at H
  obtain⟨X,Y⟩:=zt y
  clear y
  obtain⟨I,bs,H⟩:=oB H
  obtain rfl:=Option.some.inj H
  go_enter Try.func44,Try.ntmps44
  go_wp2_with (first|((with_reducible refine gate_dst (N:=5) rfl ?_);refine zbox (N:=5) (cs:=#[.int .i64 b,.int .i64 c]) (t:=58) ?_;intro d hg bV hbox hb;have a:=Aside0.mk hbox;have g:=zge hg HB;have i:=zge hg HB;replace HB:=zbs HB hb;clear hb hbox hg;obtain⟨bd,be,bf,bg⟩:=zc2 a)|((with_reducible refine gate_callee (f:=83) rfl ?_);refine zgc (some 20) Try.func83 (soft_Cmp.calls n.out) ?_;intro bW hb;obtain⟨a,HB⟩:=zu1 a HB hb;clear hb;obtain⟨bh,bi,bj,bk⟩:=zc2 a)|((with_reducible refine gate_callee (f:=85) rfl ?_);refine zgc (some 86) Try.func85 (reals_kind.calls bs.out) ?_;intro bX hb;obtain⟨a,HB⟩:=zu1 a HB hb;clear hb))
  go_ret
  exact zr HB
 rw[if_neg y] at H
 obtain⟨X,Y⟩:=zf y
 obtain rfl:=Option.some.inj H
 go_enter Try.func44,Try.ntmps44
 go_wp2_with (first|((with_reducible refine gate_dst (N:=5) rfl ?_);refine zbox (N:=5) (cs:=#[.int .i64 b,.int .i64 c]) (t:=58) ?_;intro d hg bY hbox hb;have a:=Aside0.mk hbox;have g:=zge hg HB;have i:=zge hg HB;replace HB:=zbs HB hb;clear hb hbox hg;obtain⟨bl,bm,bn,bo⟩:=zc2 a)|((with_reducible refine gate_callee (f:=83) rfl ?_);refine zgc (some 20) Try.func83 (soft_Cmp.calls n.out) ?_;intro bZ hb;obtain⟨a,HB⟩:=zu1 a HB hb;clear hb))
 go_ret
 exact zr HB

/-! ### reals_SingleHolds: function 17 -/
def reals_SingleHolds.f (k:Nat) (a0:Int) (a1:Int) (a2:Int) (a3:Int):Option (Bool):=(reals_single.f).bind fun a=>((reals_holds_uint32.f k a.1 a.2 a0 a1 a2 a3).bind fun b=>(some b))
theorem reals_SingleHolds.mono:∀ a0 a1 a2 a3 k,LeO (reals_SingleHolds.f k a0 a1 a2 a3) (reals_SingleHolds.f (k+1) a0 a1 a2 a3):=by
 intro a0 a1 a2 a3 k
 unfold reals_SingleHolds.f
 repeat' first|(with_reducible first|apply reals_holds_uint32.mono|exact LeO.refl _|exact LeO.none _|refine LeO.ite ?_ ?_|refine LeO.bind ?_ (fun _=>?_))|refine LeO.ite ?_ ?_|refine LeO.bind ?_ (fun _=>?_)
set_option maxHeartbeats 8000000 in
set_option maxRecDepth 100000 in
theorem reals_SingleHolds.calls {k:Nat} {g:Int} {i:Int} {j:Int} {l:Int} {r:Bool} {w:World} (h:reals_SingleHolds.f k g i j l=some r) :
  Calls Try.prog 17 #[.int .i64 g,.int .u32 i,.int .u32 j,.int .u32 l] w fun e w'=>e=.returned (.bool r)∧Below w.heap.size w w':=by
 have HB:=Aside0.mk (Below.refl w.heap.size w)
 have H:=h
 unfold reals_SingleHolds.f at H
 clear h
 obtain⟨⟨c,d⟩,m,H⟩:=oB H
 try dsimp only at H
 obtain⟨b,n,H⟩:=oB H
 obtain rfl:=Option.some.inj H
 go_enter Try.func17,Try.ntmps17
 go_wp2_with (first|((with_reducible refine gate_callee (f:=32) rfl ?_);refine zgc (some 9) Try.func32 (reals_single.calls  c d _ m.out) ?_;intro o hb;replace HB:=zbs HB hb;clear hb)|((with_reducible refine gate_callee (f:=44) rfl ?_);refine zgc (some 14) Try.func44 (reals_holds_uint32.calls n.out) ?_;intro p hb;replace HB:=zbs HB hb;clear hb))
 go_ret
 exact zr HB

/-! ### reals_made_uint32: function 49 -/
def reals_made_uint32.f (k:Nat) (a0_0:Int) (a0_1:Int) (a1:Int):Option (Int):=if (a1/2147483648)=1 then ((round_Pack.f k a0_0 a0_1 ((a1/2147483648)==1) 0 (IntKind.u64.wrap (4294967296-(IntKind.u64.wrap (a1)))) 0 false).bind fun a=>(some ((a.1)%4294967296))) else ((round_Pack.f k a0_0 a0_1 ((a1/2147483648)==1) 0 (IntKind.u64.wrap (a1)) 0 false).bind fun b=>(some ((b.1)%4294967296)))
theorem reals_made_uint32.mono:∀ a0 a1 a2 k,LeO (reals_made_uint32.f k a0 a1 a2) (reals_made_uint32.f (k+1) a0 a1 a2):=by
 intro a0 a1 a2 k
 unfold reals_made_uint32.f
 repeat' first|(with_reducible first|apply round_Pack.mono|exact LeO.refl _|exact LeO.none _|refine LeO.ite ?_ ?_|refine LeO.bind ?_ (fun _=>?_))|refine LeO.ite ?_ ?_|refine LeO.bind ?_ (fun _=>?_)
set_option maxHeartbeats 8000000 in
set_option maxRecDepth 100000 in
theorem reals_made_uint32.calls {k:Nat} {b:Int} {c:Int} {d:Int} {r:Int} {w:World} (h:reals_made_uint32.f k b c d=some r) :
  Calls Try.prog 49 #[.agg #[.int .i64 b,.int .i64 c],.int .u32 d] w fun e w'=>e=.returned (.int .u32 r)∧Below w.heap.size w w':=by
 have hu58:=Try.underlying58
 have HB:=Aside0.mk (Below.refl w.heap.size w)
 have H:=h
 unfold reals_made_uint32.f at H
 clear h
 by_cases n:(d/2147483648)=1
 ·rw[if_pos n] at H
  obtain⟨o,p⟩:=zt n
  clear n
  rw[o] at H
  obtain⟨⟨D,E⟩,I,H⟩:=oB H
  try dsimp only at H
  obtain rfl:=Option.some.inj H
  go_enter Try.func49,Try.ntmps49
  go_wp2_with (first|((with_reducible refine gate_dst (N:=2) rfl ?_);refine zbox (N:=2) (cs:=#[.int .i64 b,.int .i64 c]) (t:=58) ?_;intro j hg L hbox hb;have a:=Aside0.mk hbox;have l:=zge hg HB;have m:=zge hg HB;replace HB:=zbs HB hb;clear hb hbox hg;obtain⟨y,z,B,C⟩:=zc2 a)|((with_reducible refine gate_callee (f:=87) rfl ?_);refine zgc (some 21) Try.func87 (round_Pack.calls I.out) ?_;intro M hb;obtain⟨a,HB⟩:=zu1 a HB hb;clear hb))
  go_ret
  exact zr HB
 rw[if_neg n] at H
 obtain⟨o,p⟩:=zf n
 rw[o] at H
 obtain⟨⟨F,G⟩,J,H⟩:=oB H
 try dsimp only at H
 obtain rfl:=Option.some.inj H
 go_enter Try.func49,Try.ntmps49
 go_wp2_with (first|((with_reducible refine gate_dst (N:=2) rfl ?_);refine zbox (N:=2) (cs:=#[.int .i64 b,.int .i64 c]) (t:=58) ?_;intro j hg O hbox hb;have a:=Aside0.mk hbox;have l:=zge hg HB;have m:=zge hg HB;replace HB:=zbs HB hb;clear hb hbox hg;obtain⟨q,s,u,v⟩:=zc2 a)|((with_reducible refine gate_callee (f:=87) rfl ?_);refine zgc (some 21) Try.func87 (round_Pack.calls J.out) ?_;intro K hb;obtain⟨a,HB⟩:=zu1 a HB hb;clear hb))
 go_ret
 exact zr HB

/-! ### reals_SingleOf: function 20 -/
def reals_SingleOf.f (k:Nat) (a0:Int):Option (Int):=(reals_single.f).bind fun a=>((reals_made_uint32.f k a.1 a.2 a0).bind fun b=>(some b))
theorem reals_SingleOf.mono:∀ a0 k,LeO (reals_SingleOf.f k a0) (reals_SingleOf.f (k+1) a0):=by
 intro a0 k
 unfold reals_SingleOf.f
 repeat' first|(with_reducible first|apply reals_made_uint32.mono|exact LeO.refl _|exact LeO.none _|refine LeO.ite ?_ ?_|refine LeO.bind ?_ (fun _=>?_))|refine LeO.ite ?_ ?_|refine LeO.bind ?_ (fun _=>?_)
set_option maxHeartbeats 8000000 in
set_option maxRecDepth 100000 in
theorem reals_SingleOf.calls {k:Nat} {g:Int} {r:Int} {w:World} (h:reals_SingleOf.f k g=some r) :
  Calls Try.prog 20 #[.int .u32 g] w fun e w'=>e=.returned (.int .u32 r)∧Below w.heap.size w w':=by
 have HB:=Aside0.mk (Below.refl w.heap.size w)
 have H:=h
 unfold reals_SingleOf.f at H
 clear h
 obtain⟨⟨c,d⟩,i,H⟩:=oB H
 try dsimp only at H
 obtain⟨b,j,H⟩:=oB H
 obtain rfl:=Option.some.inj H
 go_enter Try.func20,Try.ntmps20
 go_wp2_with (first|((with_reducible refine gate_callee (f:=32) rfl ?_);refine zgc (some 3) Try.func32 (reals_single.calls  c d _ i.out) ?_;intro l hb;replace HB:=zbs HB hb;clear hb)|((with_reducible refine gate_callee (f:=49) rfl ?_);refine zgc (some 5) Try.func49 (reals_made_uint32.calls j.out) ?_;intro m hb;replace HB:=zbs HB hb;clear hb))
 go_ret
 exact zr HB

/-! ### soft_Whole: function 93 -/
def soft_Whole.j0:Nat→Bool→Bool→Int→Bool→Int→Int→Option (Int×Bool×Int)
 | 0,_,_,_,_,_,_=>none
 | k+1,g,h,i,a,b,d=>if h=true then (some (1099511627776,a,0)) else (if b≥0 then (if 0≤b then ((bits_Mul64.f d (shl .u64 1 b)).bind fun e=>(if e.1>0 then (some (mn 1099511627776 1099511627776,a,0)) else (some (mn e.2 1099511627776,a,0)))) else (none)) else ((soft_whole.f i a b d).bind fun c=>(if g=true then (if c.2≥2 then (some (mn (IntKind.u64.wrap (c.1+1)) 1099511627776,a,0)) else (some (mn c.1 1099511627776,a,0))) else (some (mn c.1 1099511627776,a,0)))))
def soft_Whole.f (k:Nat) (a0_0:Int) (a0_1:Int) (a1:Int) (a2:Bool):Option (Int×Bool×Int):=(round_Open.f k a0_0 a0_1 a1).bind fun a=>(if a.2.2.2.2=0 then (if a.1=1 then (some (0,a.2.1,0)) else (if a.1=2 then (soft_Whole.j0 k a2 (decide (a.2.2.1>40)) a.1 a.2.1 a.2.2.1 a.2.2.2.1) else (soft_Whole.j0 k a2 true a.1 a.2.1 a.2.2.1 a.2.2.2.1))) else (some (0,false,a.2.2.2.2)))
theorem soft_Whole.mono_l:∀ k,(∀ y0 y1 y2 y3 y4 y5,LeO (soft_Whole.j0 k y0 y1 y2 y3 y4 y5) (soft_Whole.j0 (k+1) y0 y1 y2 y3 y4 y5))
 | 0=>fun _ _ _ _ _ _ r h=>by simp[soft_Whole.j0] at h
 | k+1=>by
  have ih0:=soft_Whole.mono_l k
  intros;unfold soft_Whole.j0;repeat' first|(with_reducible first|apply ih0|apply round_Open.mono|exact LeO.refl _|exact LeO.none _|refine LeO.ite ?_ ?_|refine LeO.bind ?_ (fun _=>?_))|refine LeO.ite ?_ ?_|refine LeO.bind ?_ (fun _=>?_)
theorem soft_Whole.mono:∀ a0 a1 a2 a3 k,LeO (soft_Whole.f k a0 a1 a2 a3) (soft_Whole.f (k+1) a0 a1 a2 a3):=by
 intro a0 a1 a2 a3 k
 have ih0:=soft_Whole.mono_l k
 unfold soft_Whole.f
 repeat' first|(with_reducible first|apply ih0|apply round_Open.mono|exact LeO.refl _|exact LeO.none _|refine LeO.ite ?_ ?_|refine LeO.bind ?_ (fun _=>?_))|refine LeO.ite ?_ ?_|refine LeO.bind ?_ (fun _=>?_)
set_option maxHeartbeats 8000000 in
set_option maxRecDepth 100000 in
theorem soft_Whole.calls {k:Nat} {j:Int} {l:Int} {a1:Int} {a2:Bool} {r1:Int} {r2:Bool} {r3:Int} {w:World} (h:soft_Whole.f k j l a1 a2=some (r1,r2,r3)) :
  Calls Try.prog 93 #[.agg #[.int .i64 j,.int .i64 l],.int .u64 a1,.bool a2] w fun e w'=>e=.returned (.tuple #[.int .u64 r1,.bool r2,.int .i64 r3])∧Below w.heap.size w w':=by
 have hu58:=Try.underlying58
 have hu89:=Try.underlying89
 have HB:=Aside0.mk (Below.refl w.heap.size w)
 have H:=h
 unfold soft_Whole.f at H
 clear h
 obtain⟨⟨aT,v,i,a7,bE⟩,A4,H⟩:=oB H
 try dsimp only at H
 by_cases c5:bE=0
 ·rw[if_pos c5] at H
  obtain⟨bt,bu⟩:=zt c5
  clear c5
  by_cases c6:aT=1
  ·rw[if_pos c6] at H
   obtain⟨bv,bw⟩:=zt c6
   clear c6
   simp only[Option.some.injEq,Prod.mk.injEq] at H
   obtain⟨rfl,rfl,rfl⟩:=H
   go_enter Try.func93,Try.ntmps93
   go_wp2_with (first|((with_reducible refine gate_dst (N:=3) rfl ?_);refine zbox (N:=3) (cs:=#[.int .i64 j,.int .i64 l]) (t:=58) ?_;intro m hg w7 hbox hb;have a:=Aside0.mk hbox;have o:=zge hg HB;have p:=zge hg HB;replace HB:=zbs HB hb;clear hb hbox hg;obtain⟨aU,aV,aW,aX⟩:=zc2 a)|(go_at_call 95;(with_reducible refine (round_Open.calls A4.out).mono ?_);rintro e w9 ⟨rfl,hb⟩;obtain⟨a,HB⟩:=zu1 a HB hb;clear hb)|((with_reducible refine gate_dst (N:=9) rfl ?_);refine zbox (N:=9) (cs:=#[.int .i64 0,.bool false,.int .i64 0,.int .u64 0]) (t:=89) ?_;intro n hg bG hbox hb;have b:=Aside0.mk hbox;have q:=zge hg HB;have s:=zge hg HB;have d:=znl hg a;have c:=zng hg a;obtain⟨a,HB⟩:=zu1 a HB hb;clear hb hbox hg;obtain⟨a8,a9⟩:=z2 c;obtain⟨X,Y,Z,aa,ab,ac,ad,ae⟩:=zc4 b))
   repeat (go_quiet (first|((with_reducible refine gate_dst (N:=3) rfl ?_);refine zbox (N:=3) (cs:=#[.int .i64 j,.int .i64 l]) (t:=58) ?_;intro m hg w7 hbox hb;have a:=Aside0.mk hbox;have o:=zge hg HB;have p:=zge hg HB;replace HB:=zbs HB hb;clear hb hbox hg;obtain⟨aU,aV,aW,aX⟩:=zc2 a)|(go_at_call 95;(with_reducible refine (round_Open.calls A4.out).mono ?_);rintro e w9 ⟨rfl,hb⟩;obtain⟨a,HB⟩:=zu1 a HB hb;clear hb)|((with_reducible refine gate_dst (N:=9) rfl ?_);refine zbox (N:=9) (cs:=#[.int .i64 0,.bool false,.int .i64 0,.int .u64 0]) (t:=89) ?_;intro n hg bG hbox hb;have b:=Aside0.mk hbox;have q:=zge hg HB;have s:=zge hg HB;have d:=znl hg a;have c:=zng hg a;obtain⟨a,HB⟩:=zu1 a HB hb;clear hb hbox hg;obtain⟨a8,a9⟩:=z2 c;obtain⟨X,Y,Z,aa,ab,ac,ad,ae⟩:=zc4 b));try go_wp2_with (first|((with_reducible refine gate_dst (N:=3) rfl ?_);refine zbox (N:=3) (cs:=#[.int .i64 j,.int .i64 l]) (t:=58) ?_;intro m hg w7 hbox hb;have a:=Aside0.mk hbox;have o:=zge hg HB;have p:=zge hg HB;replace HB:=zbs HB hb;clear hb hbox hg;obtain⟨aU,aV,aW,aX⟩:=zc2 a)|(go_at_call 95;(with_reducible refine (round_Open.calls A4.out).mono ?_);rintro e w9 ⟨rfl,hb⟩;obtain⟨a,HB⟩:=zu1 a HB hb;clear hb)|((with_reducible refine gate_dst (N:=9) rfl ?_);refine zbox (N:=9) (cs:=#[.int .i64 0,.bool false,.int .i64 0,.int .u64 0]) (t:=89) ?_;intro n hg bG hbox hb;have b:=Aside0.mk hbox;have q:=zge hg HB;have s:=zge hg HB;have d:=znl hg a;have c:=zng hg a;obtain⟨a,HB⟩:=zu1 a HB hb;clear hb hbox hg;obtain⟨a8,a9⟩:=z2 c;obtain⟨X,Y,Z,aa,ab,ac,ad,ae⟩:=zc4 b)))
   go_ret3
   exact zr HB
  rw[if_neg c6] at H
  obtain⟨bv,bw⟩:=zf c6
  have ba:=Aside0.mk H
  clear H
  go_enter Try.func93,Try.ntmps93
  go_upto_region 6 with (first|((with_reducible refine gate_dst (N:=3) rfl ?_);refine zbox (N:=3) (cs:=#[.int .i64 j,.int .i64 l]) (t:=58) ?_;intro m hg bH hbox hb;have a:=Aside0.mk hbox;have o:=zge hg HB;have p:=zge hg HB;replace HB:=zbs HB hb;clear hb hbox hg;obtain⟨I,J,K,L⟩:=zc2 a)|(go_at_call 95;(with_reducible refine (round_Open.calls A4.out).mono ?_);rintro e bI ⟨rfl,hb⟩;obtain⟨a,HB⟩:=zu1 a HB hb;clear hb)|((with_reducible refine gate_dst (N:=9) rfl ?_);refine zbox (N:=9) (cs:=#[.int .i64 0,.bool false,.int .i64 0,.int .u64 0]) (t:=89) ?_;intro n hg bJ hbox hb;have b:=Aside0.mk hbox;have q:=zge hg HB;have s:=zge hg HB;have d:=znl hg a;have c:=zng hg a;obtain⟨a,HB⟩:=zu1 a HB hb;clear hb hbox hg;obtain⟨bb,bc⟩:=z2 c;obtain⟨M,O,P,Q,R,S,T,U⟩:=zc4 b))
  repeat (go_quiet (first|((with_reducible refine gate_dst (N:=3) rfl ?_);refine zbox (N:=3) (cs:=#[.int .i64 j,.int .i64 l]) (t:=58) ?_;intro m hg bH hbox hb;have a:=Aside0.mk hbox;have o:=zge hg HB;have p:=zge hg HB;replace HB:=zbs HB hb;clear hb hbox hg;obtain⟨I,J,K,L⟩:=zc2 a)|(go_at_call 95;(with_reducible refine (round_Open.calls A4.out).mono ?_);rintro e bI ⟨rfl,hb⟩;obtain⟨a,HB⟩:=zu1 a HB hb;clear hb)|((with_reducible refine gate_dst (N:=9) rfl ?_);refine zbox (N:=9) (cs:=#[.int .i64 0,.bool false,.int .i64 0,.int .u64 0]) (t:=89) ?_;intro n hg bJ hbox hb;have b:=Aside0.mk hbox;have q:=zge hg HB;have s:=zge hg HB;have d:=znl hg a;have c:=zng hg a;obtain⟨a,HB⟩:=zu1 a HB hb;clear hb hbox hg;obtain⟨bb,bc⟩:=z2 c;obtain⟨M,O,P,Q,R,S,T,U⟩:=zc4 b));go_upto_region 6 with (first|((with_reducible refine gate_dst (N:=3) rfl ?_);refine zbox (N:=3) (cs:=#[.int .i64 j,.int .i64 l]) (t:=58) ?_;intro m hg bH hbox hb;have a:=Aside0.mk hbox;have o:=zge hg HB;have p:=zge hg HB;replace HB:=zbs HB hb;clear hb hbox hg;obtain⟨I,J,K,L⟩:=zc2 a)|(go_at_call 95;(with_reducible refine (round_Open.calls A4.out).mono ?_);rintro e bI ⟨rfl,hb⟩;obtain⟨a,HB⟩:=zu1 a HB hb;clear hb)|((with_reducible refine gate_dst (N:=9) rfl ?_);refine zbox (N:=9) (cs:=#[.int .i64 0,.bool false,.int .i64 0,.int .u64 0]) (t:=89) ?_;intro n hg bJ hbox hb;have b:=Aside0.mk hbox;have q:=zge hg HB;have s:=zge hg HB;have d:=znl hg a;have c:=zng hg a;obtain⟨a,HB⟩:=zu1 a HB hb;clear hb hbox hg;obtain⟨bb,bc⟩:=z2 c;obtain⟨M,O,P,Q,R,S,T,U⟩:=zc4 b)))
  (try simp only[Act.put,List.setIfInBounds_toArray,List.set_cons_zero,List.set_cons_succ])
  go_cut [28] (fun v28 wc=>∃ (kq:Nat) (G:Bool),v28=.bool G∧Aside0 (soft_Whole.j0 kq a2 G aT v i a7=some (r1,r2,r3))∧Aside0 (kq≤k)∧Aside0 (wc.heap[m]?=some (.cells #[.int .i64 j,.int .i64 l] 58 (0,0)))∧Aside0 (wc.heap[n]?=some (.cells #[.int .i64 aT,.bool v,.int .i64 i,.int .u64 a7] 89 (0,0)))∧Aside0 (Below w.heap.size w wc))
  case first =>
   have H:=ba.out
   clear ba
   by_cases bd:aT=2
   ·rw[if_pos bd] at H
    obtain⟨V,bx⟩:=zt bd
    clear bd
    (first|rw[V]|(simp only[i64_w,i32_w];rw[V])|skip)
    have H':=Aside0.mk H
    clear H
    obtain⟨df,dg⟩:=z2 c
    obtain⟨bK,bL,bM,bN,bO,bP,bQ,bR⟩:=zc4 b
    go_wp2
    repeat (go_quiet (fail);try go_wp2)
    go_meet
    case rel=>exact⟨_,(decide (i>40)),(by first|rfl|(simp[*];done)),H',⟨by omega⟩,⟨zk a⟩,⟨zkp b⟩,⟨zb HB⟩⟩
   rw[if_neg bd] at H
   obtain⟨V,bx⟩:=zf bd
   (first|rw[V]|(simp only[i64_w,i32_w];rw[V])|skip)
   have H':=Aside0.mk H
   clear H
   obtain⟨dh,di⟩:=z2 c
   obtain⟨bS,bT,bU,bV,bW,bX,bY,bZ⟩:=zc4 b
   go_wp2
   repeat (go_quiet (fail);try go_wp2)
   go_meet
   case rel=>exact⟨_,(true),(by first|rfl|(simp[*];done)),H',⟨by omega⟩,⟨zk a⟩,⟨zkp b⟩,⟨zb HB⟩⟩
  case rest =>
   clear ba
   try clear bt bu c6 bv bw I J M O P Q K L R S T U
   obtain⟨kq,G,rfl,HA,dA,a,b,HB⟩:=hcut
   cases kq with
   | zero=>exact absurd HA.out (by simp[soft_Whole.j0])
   | succ dB =>
    have H:=HA.out
    clear HA
    simp only[soft_Whole.j0] at H
    by_cases bp:G=true
    ·subst bp
     rw[if_pos rfl] at H
     simp only[Option.some.injEq,Prod.mk.injEq] at H
     obtain⟨rfl,rfl,rfl⟩:=H
     obtain⟨dj,dk⟩:=z2 c
     obtain⟨b0,b1,b2,b3,b4,b5,b6,b7⟩:=zc4 b
     go_wp2
     repeat (go_quiet (fail);try go_wp2)
     go_ret3
     exact zr HB
    replace bp:=Bool.eq_false_iff.mpr bp
    subst bp
    rw[if_neg nft] at H
    by_cases a4:i≥0
    ·rw[if_pos a4] at H
     have bz:decide (0≤i)=true:=decide_eq_true a4
     clear a4
     by_cases be:0≤i
     ·rw[if_pos be] at H
      have dl:=eq_true be
      have dm:decide (0≤i)=true:=decide_eq_true be
      clear be
      obtain⟨af,z⟩:∃ j_:Int,(shl .u64 1 i)=j_:=⟨_,rfl⟩
      first|rw[z] at H|simp only[z] at H
      have bq:(IntKind.u64.wrap (1*2^min i.toNat 64))=af:=z
      have br:i≤64→(IntKind.u64.wrap (1*2^i.toNat))=af:=shl_small z
      have cT:(IntKind.u64.wrap (2^min i.toNat 64))=af:=by have h_:=bq;rw[Int.one_mul] at h_;exact h_
      have cU:i≤64→(IntKind.u64.wrap (2^i.toNat))=af:=fun hle_=>by have h_:=br hle_;rw[Int.one_mul] at h_;exact h_
      obtain⟨⟨bg,bh⟩,ag,H⟩:=oB H
      try dsimp only at H
      by_cases a5:bg>0
      ·rw[if_pos a5] at H
       have bA:decide (0<bg)=true:=decide_eq_true a5
       clear a5
       obtain⟨W,u⟩:∃ j_:Int,(mn 1099511627776 1099511627776)=j_:=⟨_,rfl⟩
       first|rw[u] at H|simp only[u] at H
       (try rw[u] at ag)
       (try (have cV:W≤1099511627776:=by (rw[←u];unfold mn;(repeat' split) <;> omega)))
       (try (have cW:W≤64:=by omega))
       (try (have cX:1099511627776≤W:=by (rw[←u];unfold mn;(repeat' split) <;> omega)))
       (try (have cY:0≤W:=by omega))
       have cZ:(if 1099511627776<1099511627776 then 1099511627776 else 1099511627776)=W:=u
       simp only[Option.some.injEq,Prod.mk.injEq] at H
       obtain⟨rfl,rfl,rfl⟩:=H
       obtain⟨dn,dp⟩:=z2 c
       obtain⟨b8,b9,ca,cb,cc,cd,ce,cf⟩:=zc4 b
       go_wp2_with (first|(go_at_call 104;(with_reducible refine (bits_Mul64.calls ag.out).mono ?_);rintro e w' ⟨rfl,⟨nd,rfl⟩⟩;(try first|exact⟨rfl,_,World.drewN_drewN _ _ _⟩|exact⟨rfl,_,Eq.trans (World.drewN_drewN _ _ _) (congrArg (World.drewN _) (Nat.add_assoc _ _ _))⟩)))
       repeat (go_quiet (first|(go_at_call 104;(with_reducible refine (bits_Mul64.calls ag.out).mono ?_);rintro e w' ⟨rfl,⟨nd,rfl⟩⟩;(try first|exact⟨rfl,_,World.drewN_drewN _ _ _⟩|exact⟨rfl,_,Eq.trans (World.drewN_drewN _ _ _) (congrArg (World.drewN _) (Nat.add_assoc _ _ _))⟩)));try go_wp2_with (first|(go_at_call 104;(with_reducible refine (bits_Mul64.calls ag.out).mono ?_);rintro e w' ⟨rfl,⟨nd,rfl⟩⟩;(try first|exact⟨rfl,_,World.drewN_drewN _ _ _⟩|exact⟨rfl,_,Eq.trans (World.drewN_drewN _ _ _) (congrArg (World.drewN _) (Nat.add_assoc _ _ _))⟩))))
       go_ret3
       exact⟨by first|rfl|(simp[errW_none,errW_some] <;> rfl)|(simp only[←z,←u];first|rfl|(simp[errW_none,errW_some] <;> rfl))|(simp[*,errW_none,errW_some] <;> rfl),zb HB⟩
      rw[if_neg a5] at H
      have bA:decide (0<bg)=false:=decide_eq_false a5
      clear a5
      obtain⟨aY,B⟩:∃ j_:Int,(mn bh 1099511627776)=j_:=⟨_,rfl⟩
      first|rw[B] at H|simp only[B] at H
      (try rw[B] at ag)
      (try (have c0:aY≤1099511627776:=by (rw[←B];unfold mn;(repeat' split) <;> omega)))
      (try (have c1:aY≤64:=by omega))
      have c2:(if 1099511627776<bh then 1099511627776 else bh)=aY:=B
      simp only[Option.some.injEq,Prod.mk.injEq] at H
      obtain⟨rfl,rfl,rfl⟩:=H
      obtain⟨dq,dr⟩:=z2 c
      obtain⟨cg,ch,ci,cj,ck,cl,cm,cn⟩:=zc4 b
      go_wp2_with (first|(go_at_call 104;(with_reducible refine (bits_Mul64.calls ag.out).mono ?_);rintro e w' ⟨rfl,⟨nd,rfl⟩⟩;(try first|exact⟨rfl,_,World.drewN_drewN _ _ _⟩|exact⟨rfl,_,Eq.trans (World.drewN_drewN _ _ _) (congrArg (World.drewN _) (Nat.add_assoc _ _ _))⟩)))
      repeat (go_quiet (first|(go_at_call 104;(with_reducible refine (bits_Mul64.calls ag.out).mono ?_);rintro e w' ⟨rfl,⟨nd,rfl⟩⟩;(try first|exact⟨rfl,_,World.drewN_drewN _ _ _⟩|exact⟨rfl,_,Eq.trans (World.drewN_drewN _ _ _) (congrArg (World.drewN _) (Nat.add_assoc _ _ _))⟩)));try go_wp2_with (first|(go_at_call 104;(with_reducible refine (bits_Mul64.calls ag.out).mono ?_);rintro e w' ⟨rfl,⟨nd,rfl⟩⟩;(try first|exact⟨rfl,_,World.drewN_drewN _ _ _⟩|exact⟨rfl,_,Eq.trans (World.drewN_drewN _ _ _) (congrArg (World.drewN _) (Nat.add_assoc _ _ _))⟩))))
      go_ret3
      exact⟨by first|rfl|(simp[errW_none,errW_some] <;> rfl)|(simp only[←z,←B];first|rfl|(simp[errW_none,errW_some] <;> rfl))|(simp[*,errW_none,errW_some] <;> rfl),zb HB⟩
     rw[if_neg be] at H
     exact absurd H (by simp)
    rw[if_neg a4] at H
    have bz:decide (0≤i)=false:=decide_eq_false a4
    clear a4
    obtain⟨⟨y,bi⟩,F,H⟩:=oB H
    try dsimp only at H
    by_cases bs:a2=true
    ·subst bs
     rw[if_pos rfl] at H
     by_cases a6:bi≥2
     ·rw[if_pos a6] at H
      have bB:decide (2≤bi)=true:=decide_eq_true a6
      clear a6
      obtain⟨aZ,C⟩:∃ j_:Int,(mn (IntKind.u64.wrap (y+1)) 1099511627776)=j_:=⟨_,rfl⟩
      first|rw[C] at H|simp only[C] at H
      (try rw[C] at F)
      (try (have c3:aZ≤1099511627776:=by (rw[←C];unfold mn;(repeat' split) <;> omega)))
      (try (have c4:aZ≤64:=by omega))
      have c7:(if 1099511627776<(IntKind.u64.wrap (y+1)) then 1099511627776 else (IntKind.u64.wrap (y+1)))=aZ:=C
      simp only[Option.some.injEq,Prod.mk.injEq] at H
      obtain⟨rfl,rfl,rfl⟩:=H
      obtain⟨ds,dt⟩:=z2 c
      obtain⟨co,cp,cq,cr,ct,cu,cv,cw⟩:=zc4 b
      go_wp2_with (first|(go_at_call 117;(with_reducible refine (soft_whole.calls F.out).mono ?_);rintro e cx ⟨rfl,hb⟩;obtain⟨a,b,HB⟩:=zu2 a b HB hb;clear hb;obtain⟨ah,ai,aj,ak,al,am,an,ao⟩:=zc4 b))
      repeat (go_quiet (first|(go_at_call 117;(with_reducible refine (soft_whole.calls F.out).mono ?_);rintro e cx ⟨rfl,hb⟩;obtain⟨a,b,HB⟩:=zu2 a b HB hb;clear hb;obtain⟨ah,ai,aj,ak,al,am,an,ao⟩:=zc4 b));try go_wp2_with (first|(go_at_call 117;(with_reducible refine (soft_whole.calls F.out).mono ?_);rintro e cx ⟨rfl,hb⟩;obtain⟨a,b,HB⟩:=zu2 a b HB hb;clear hb;obtain⟨ah,ai,aj,ak,al,am,an,ao⟩:=zc4 b)))
      go_ret3
      exact⟨by first|rfl|(simp[errW_none,errW_some] <;> rfl)|(simp only[←C];first|rfl|(simp[errW_none,errW_some] <;> rfl))|(simp[*,errW_none,errW_some] <;> rfl),zb HB⟩
     rw[if_neg a6] at H
     have bB:decide (2≤bi)=false:=decide_eq_false a6
     clear a6
     obtain⟨a0,D⟩:∃ j_:Int,(mn y 1099511627776)=j_:=⟨_,rfl⟩
     first|rw[D] at H|simp only[D] at H
     (try rw[D] at F)
     (try (have c8:a0≤1099511627776:=by (rw[←D];unfold mn;(repeat' split) <;> omega)))
     (try (have c9:a0≤64:=by omega))
     have da:(if 1099511627776<y then 1099511627776 else y)=a0:=D
     simp only[Option.some.injEq,Prod.mk.injEq] at H
     obtain⟨rfl,rfl,rfl⟩:=H
     obtain⟨du,dv⟩:=z2 c
     obtain⟨cy,cz,cA,cB,cC,cD,cE,cF⟩:=zc4 b
     go_wp2_with (first|(go_at_call 117;(with_reducible refine (soft_whole.calls F.out).mono ?_);rintro e cG ⟨rfl,hb⟩;obtain⟨a,b,HB⟩:=zu2 a b HB hb;clear hb;obtain⟨ap,aq,ar,au,av,aw,ax,ay⟩:=zc4 b))
     repeat (go_quiet (first|(go_at_call 117;(with_reducible refine (soft_whole.calls F.out).mono ?_);rintro e cG ⟨rfl,hb⟩;obtain⟨a,b,HB⟩:=zu2 a b HB hb;clear hb;obtain⟨ap,aq,ar,au,av,aw,ax,ay⟩:=zc4 b));try go_wp2_with (first|(go_at_call 117;(with_reducible refine (soft_whole.calls F.out).mono ?_);rintro e cG ⟨rfl,hb⟩;obtain⟨a,b,HB⟩:=zu2 a b HB hb;clear hb;obtain⟨ap,aq,ar,au,av,aw,ax,ay⟩:=zc4 b)))
     go_ret3
     exact⟨by first|rfl|(simp[errW_none,errW_some] <;> rfl)|(simp only[←D];first|rfl|(simp[errW_none,errW_some] <;> rfl))|(simp[*,errW_none,errW_some] <;> rfl),zb HB⟩
    replace bs:=Bool.eq_false_iff.mpr bs
    subst bs
    rw[if_neg nft] at H
    obtain⟨a3,E⟩:∃ j_:Int,(mn y 1099511627776)=j_:=⟨_,rfl⟩
    first|rw[E] at H|simp only[E] at H
    (try rw[E] at F)
    (try (have db:a3≤1099511627776:=by (rw[←E];unfold mn;(repeat' split) <;> omega)))
    (try (have dc:a3≤64:=by omega))
    have dd:(if 1099511627776<y then 1099511627776 else y)=a3:=E
    simp only[Option.some.injEq,Prod.mk.injEq] at H
    obtain⟨rfl,rfl,rfl⟩:=H
    obtain⟨dw,dx⟩:=z2 c
    obtain⟨cH,cI,cJ,cK,cL,cM,cN,cO⟩:=zc4 b
    go_wp2_with (first|(go_at_call 117;(with_reducible refine (soft_whole.calls F.out).mono ?_);rintro e cP ⟨rfl,hb⟩;obtain⟨a,b,HB⟩:=zu2 a b HB hb;clear hb;obtain⟨az,aA,aB,aC,aD,aE,aF,aG⟩:=zc4 b))
    repeat (go_quiet (first|(go_at_call 117;(with_reducible refine (soft_whole.calls F.out).mono ?_);rintro e cP ⟨rfl,hb⟩;obtain⟨a,b,HB⟩:=zu2 a b HB hb;clear hb;obtain⟨az,aA,aB,aC,aD,aE,aF,aG⟩:=zc4 b));try go_wp2_with (first|(go_at_call 117;(with_reducible refine (soft_whole.calls F.out).mono ?_);rintro e cP ⟨rfl,hb⟩;obtain⟨a,b,HB⟩:=zu2 a b HB hb;clear hb;obtain⟨az,aA,aB,aC,aD,aE,aF,aG⟩:=zc4 b)))
    go_ret3
    exact⟨by first|rfl|(simp[errW_none,errW_some] <;> rfl)|(simp only[←E];first|rfl|(simp[errW_none,errW_some] <;> rfl))|(simp[*,errW_none,errW_some] <;> rfl),zb HB⟩
 rw[if_neg c5] at H
 obtain⟨bt,bu⟩:=zf c5
 simp only[Option.some.injEq,Prod.mk.injEq] at H
 obtain⟨rfl,rfl,rfl⟩:=H
 go_enter Try.func93,Try.ntmps93
 go_wp2_with (first|((with_reducible refine gate_dst (N:=3) rfl ?_);refine zbox (N:=3) (cs:=#[.int .i64 j,.int .i64 l]) (t:=58) ?_;intro m hg cQ hbox hb;have a:=Aside0.mk hbox;have o:=zge hg HB;have p:=zge hg HB;replace HB:=zbs HB hb;clear hb hbox hg;obtain⟨aH,aI,aJ,aK⟩:=zc2 a)|(go_at_call 95;(with_reducible refine (round_Open.calls A4.out).mono ?_);rintro e cR ⟨rfl,hb⟩;obtain⟨a,HB⟩:=zu1 a HB hb;clear hb)|((with_reducible refine gate_dst (N:=9) rfl ?_);refine zbox (N:=9) (cs:=#[.int .i64 0,.bool false,.int .i64 0,.int .u64 0]) (t:=89) ?_;intro n hg cS hbox hb;have b:=Aside0.mk hbox;have q:=zge hg HB;have s:=zge hg HB;have d:=znl hg a;have c:=zng hg a;obtain⟨a,HB⟩:=zu1 a HB hb;clear hb hbox hg;obtain⟨bj,bk⟩:=z2 c;obtain⟨aL,aM,aN,aO,aP,aQ,aR,aS⟩:=zc4 b))
 repeat (go_quiet (first|((with_reducible refine gate_dst (N:=3) rfl ?_);refine zbox (N:=3) (cs:=#[.int .i64 j,.int .i64 l]) (t:=58) ?_;intro m hg cQ hbox hb;have a:=Aside0.mk hbox;have o:=zge hg HB;have p:=zge hg HB;replace HB:=zbs HB hb;clear hb hbox hg;obtain⟨aH,aI,aJ,aK⟩:=zc2 a)|(go_at_call 95;(with_reducible refine (round_Open.calls A4.out).mono ?_);rintro e cR ⟨rfl,hb⟩;obtain⟨a,HB⟩:=zu1 a HB hb;clear hb)|((with_reducible refine gate_dst (N:=9) rfl ?_);refine zbox (N:=9) (cs:=#[.int .i64 0,.bool false,.int .i64 0,.int .u64 0]) (t:=89) ?_;intro n hg cS hbox hb;have b:=Aside0.mk hbox;have q:=zge hg HB;have s:=zge hg HB;have d:=znl hg a;have c:=zng hg a;obtain⟨a,HB⟩:=zu1 a HB hb;clear hb hbox hg;obtain⟨bj,bk⟩:=z2 c;obtain⟨aL,aM,aN,aO,aP,aQ,aR,aS⟩:=zc4 b));try go_wp2_with (first|((with_reducible refine gate_dst (N:=3) rfl ?_);refine zbox (N:=3) (cs:=#[.int .i64 j,.int .i64 l]) (t:=58) ?_;intro m hg cQ hbox hb;have a:=Aside0.mk hbox;have o:=zge hg HB;have p:=zge hg HB;replace HB:=zbs HB hb;clear hb hbox hg;obtain⟨aH,aI,aJ,aK⟩:=zc2 a)|(go_at_call 95;(with_reducible refine (round_Open.calls A4.out).mono ?_);rintro e cR ⟨rfl,hb⟩;obtain⟨a,HB⟩:=zu1 a HB hb;clear hb)|((with_reducible refine gate_dst (N:=9) rfl ?_);refine zbox (N:=9) (cs:=#[.int .i64 0,.bool false,.int .i64 0,.int .u64 0]) (t:=89) ?_;intro n hg cS hbox hb;have b:=Aside0.mk hbox;have q:=zge hg HB;have s:=zge hg HB;have d:=znl hg a;have c:=zng hg a;obtain⟨a,HB⟩:=zu1 a HB hb;clear hb hbox hg;obtain⟨bj,bk⟩:=z2 c;obtain⟨aL,aM,aN,aO,aP,aQ,aR,aS⟩:=zc4 b)))
 go_ret3
 exact zr HB

/-! ### reals_integer_uint32: function 53 -/
def reals_integer_uint32.f (k:Nat) (a0_0:Int) (a0_1:Int) (a1:Int) (a2:Bool):Option (Int):=(soft_Whole.f k a0_0 a0_1 (IntKind.u64.wrap (a1)) a2).bind fun a=>(if a.2.1=true then (some ((-((mn a.1 2147483648)%4294967296))%4294967296)) else (some ((mn a.1 2147483647)%4294967296)))
theorem reals_integer_uint32.mono:∀ a0 a1 a2 a3 k,LeO (reals_integer_uint32.f k a0 a1 a2 a3) (reals_integer_uint32.f (k+1) a0 a1 a2 a3):=by
 intro a0 a1 a2 a3 k
 unfold reals_integer_uint32.f
 repeat' first|(with_reducible first|apply soft_Whole.mono|exact LeO.refl _|exact LeO.none _|refine LeO.ite ?_ ?_|refine LeO.bind ?_ (fun _=>?_))|refine LeO.ite ?_ ?_|refine LeO.bind ?_ (fun _=>?_)
set_option maxHeartbeats 8000000 in
set_option maxRecDepth 100000 in
theorem reals_integer_uint32.calls {k:Nat} {g:Int} {i:Int} {K:Int} {L:Bool} {r:Int} {w:World} (h:reals_integer_uint32.f k g i K L=some r) :
  Calls Try.prog 53 #[.agg #[.int .i64 g,.int .i64 i],.int .u32 K,.bool L] w fun e w'=>e=.returned (.int .u32 r)∧Below w.heap.size w w':=by
 have hu58:=Try.underlying58
 have HB:=Aside0.mk (Below.refl w.heap.size w)
 have H:=h
 unfold reals_integer_uint32.f at H
 clear h
 obtain⟨⟨c,q,Q⟩,z,H⟩:=oB H
 try dsimp only at H
 by_cases B:q=true
 ·subst B
  rw[if_pos rfl] at H
  obtain⟨m,d⟩:∃ j_:Int,(mn c 2147483648)=j_:=⟨_,rfl⟩
  first|rw[d] at H|simp only[d] at H
  (try rw[d] at z)
  (try (have M:m≤2147483648:=by (rw[←d];unfold mn;(repeat' split) <;> omega)))
  (try (have O:m≤64:=by omega))
  have P:(if 2147483648<c then 2147483648 else c)=m:=d
  obtain rfl:=Option.some.inj H
  go_enter Try.func53,Try.ntmps53
  go_wp2_with (first|((with_reducible refine gate_dst (N:=3) rfl ?_);refine zbox (N:=3) (cs:=#[.int .i64 g,.int .i64 i]) (t:=58) ?_;intro n hg T hbox hb;have a:=Aside0.mk hbox;have o:=zge hg HB;have p:=zge hg HB;replace HB:=zbs HB hb;clear hb hbox hg;obtain⟨C,D,E,F⟩:=zc2 a)|((with_reducible refine gate_callee (f:=93) rfl ?_);refine zgc (some 15) Try.func93 (soft_Whole.calls z.out) ?_;intro U hb;obtain⟨a,HB⟩:=zu1 a HB hb;clear hb))
  go_ret
  exact⟨by first|rfl|(simp[errW_none,errW_some] <;> rfl)|(simp only[←d];first|rfl|(simp[errW_none,errW_some] <;> rfl))|(simp[*,errW_none,errW_some] <;> rfl),zb HB⟩
 replace B:=Bool.eq_false_iff.mpr B
 subst B
 rw[if_neg nft] at H
 obtain⟨l,b⟩:∃ j_:Int,(mn c 2147483647)=j_:=⟨_,rfl⟩
 first|rw[b] at H|simp only[b] at H
 (try rw[b] at z)
 (try (have G:l≤2147483647:=by (rw[←b];unfold mn;(repeat' split) <;> omega)))
 (try (have I:l≤64:=by omega))
 have J:(if 2147483647<c then 2147483647 else c)=l:=b
 obtain rfl:=Option.some.inj H
 go_enter Try.func53,Try.ntmps53
 go_wp2_with (first|((with_reducible refine gate_dst (N:=3) rfl ?_);refine zbox (N:=3) (cs:=#[.int .i64 g,.int .i64 i]) (t:=58) ?_;intro n hg R hbox hb;have a:=Aside0.mk hbox;have o:=zge hg HB;have p:=zge hg HB;replace HB:=zbs HB hb;clear hb hbox hg;obtain⟨s,u,v,y⟩:=zc2 a)|((with_reducible refine gate_callee (f:=93) rfl ?_);refine zgc (some 15) Try.func93 (soft_Whole.calls z.out) ?_;intro S hb;obtain⟨a,HB⟩:=zu1 a HB hb;clear hb))
 go_ret
 exact⟨by first|rfl|(simp[errW_none,errW_some] <;> rfl)|(simp only[←b];first|rfl|(simp[errW_none,errW_some] <;> rfl))|(simp[*,errW_none,errW_some] <;> rfl),zb HB⟩

/-! ### reals_SingleInt: function 23 -/
def reals_SingleInt.f (k:Nat) (a0:Int) (a1:Bool):Option (Int):=(reals_single.f).bind fun a=>((reals_integer_uint32.f k a.1 a.2 a0 a1).bind fun b=>(some b))
theorem reals_SingleInt.mono:∀ a0 a1 k,LeO (reals_SingleInt.f k a0 a1) (reals_SingleInt.f (k+1) a0 a1):=by
 intro a0 a1 k
 unfold reals_SingleInt.f
 repeat' first|(with_reducible first|apply reals_integer_uint32.mono|exact LeO.refl _|exact LeO.none _|refine LeO.ite ?_ ?_|refine LeO.bind ?_ (fun _=>?_))|refine LeO.ite ?_ ?_|refine LeO.bind ?_ (fun _=>?_)
set_option maxHeartbeats 8000000 in
set_option maxRecDepth 100000 in
theorem reals_SingleInt.calls {k:Nat} {g:Int} {i:Bool} {r:Int} {w:World} (h:reals_SingleInt.f k g i=some r) :
  Calls Try.prog 23 #[.int .u32 g,.bool i] w fun e w'=>e=.returned (.int .u32 r)∧Below w.heap.size w w':=by
 have HB:=Aside0.mk (Below.refl w.heap.size w)
 have H:=h
 unfold reals_SingleInt.f at H
 clear h
 obtain⟨⟨c,d⟩,j,H⟩:=oB H
 try dsimp only at H
 obtain⟨b,l,H⟩:=oB H
 obtain rfl:=Option.some.inj H
 go_enter Try.func23,Try.ntmps23
 go_wp2_with (first|((with_reducible refine gate_callee (f:=32) rfl ?_);refine zgc (some 5) Try.func32 (reals_single.calls  c d _ j.out) ?_;intro m hb;replace HB:=zbs HB hb;clear hb)|((with_reducible refine gate_callee (f:=53) rfl ?_);refine zgc (some 8) Try.func53 (reals_integer_uint32.calls l.out) ?_;intro n hb;replace HB:=zbs HB hb;clear hb))
 go_ret
 exact zr HB

/-! ### soft_Convert: function 56 -/
def soft_Convert.j0:Nat→Bool→Int→Int→Int→Bool→Int→Int→Option (Int×Int)
 | 0,_,_,_,_,_,_,_=>none
 | k+1,g,a,b,c,d,h,i=>if g=true then (some (0,1)) else (if c=4 then ((round_NaN.f a b).bind fun j=>(some (j,0))) else (if c=3 then ((round_Inf.f a b d).bind fun l=>(some (l,0))) else ((round_Pack.f k a b d 0 i h false).bind fun e=>(some (e.1,e.2)))))
def soft_Convert.f (k:Nat) (a0_0:Int) (a0_1:Int) (a1_0:Int) (a1_1:Int) (a2:Int):Option (Int×Int):=(round_Open.f k a0_0 a0_1 a2).bind fun a=>(if a.2.2.2.2=0 then ((round_Check.f a1_0 a1_1).bind fun b=>(soft_Convert.j0 k (b != 0) a1_0 a1_1 a.1 a.2.1 a.2.2.1 a.2.2.2.1)) else (soft_Convert.j0 k true a1_0 a1_1 a.1 a.2.1 a.2.2.1 a.2.2.2.1))
theorem soft_Convert.mono_l:∀ k,(∀ y0 y1 y2 y3 y4 y5 y6,LeO (soft_Convert.j0 k y0 y1 y2 y3 y4 y5 y6) (soft_Convert.j0 (k+1) y0 y1 y2 y3 y4 y5 y6))
 | 0=>fun _ _ _ _ _ _ _ r h=>by simp[soft_Convert.j0] at h
 | k+1=>by
  have ih0:=soft_Convert.mono_l k
  intros;unfold soft_Convert.j0;repeat' first|(with_reducible first|apply ih0|apply round_Open.mono|apply round_Pack.mono|exact LeO.refl _|exact LeO.none _|refine LeO.ite ?_ ?_|refine LeO.bind ?_ (fun _=>?_))|refine LeO.ite ?_ ?_|refine LeO.bind ?_ (fun _=>?_)
theorem soft_Convert.mono:∀ a0 a1 a2 a3 a4 k,LeO (soft_Convert.f k a0 a1 a2 a3 a4) (soft_Convert.f (k+1) a0 a1 a2 a3 a4):=by
 intro a0 a1 a2 a3 a4 k
 have ih0:=soft_Convert.mono_l k
 unfold soft_Convert.f
 repeat' first|(with_reducible first|apply ih0|apply round_Open.mono|apply round_Pack.mono|exact LeO.refl _|exact LeO.none _|refine LeO.ite ?_ ?_|refine LeO.bind ?_ (fun _=>?_))|refine LeO.ite ?_ ?_|refine LeO.bind ?_ (fun _=>?_)
set_option maxHeartbeats 8000000 in
set_option maxRecDepth 100000 in
theorem soft_Convert.calls {k:Nat} {q:Int} {s:Int} {l:Int} {m:Int} {a2:Int} {r1:Int} {r2:Int} {w:World} (h:soft_Convert.f k q s l m a2=some (r1,r2)) :
  Calls Try.prog 56 #[.agg #[.int .i64 q,.int .i64 s],.agg #[.int .i64 l,.int .i64 m],.int .u64 a2] w fun e w'=>e=.returned (.tuple #[.int .u64 r1,.int .i64 r2])∧Below w.heap.size w w':=by
 have hu58:=Try.underlying58
 have hu89:=Try.underlying89
 have HB:=Aside0.mk (Below.refl w.heap.size w)
 have H:=h
 unfold soft_Convert.f at H
 clear h
 obtain⟨⟨u,B,C,D,ag⟩,A4,H⟩:=oB H
 try dsimp only at H
 have W:=Aside0.mk H
 clear H
 go_enter Try.func56,Try.ntmps56
 go_upto_region 2 with (first|((with_reducible refine gate_dst (N:=3) rfl ?_);refine zbox (N:=3) (cs:=#[.int .i64 q,.int .i64 s]) (t:=58) ?_;intro X hg w6 hbox hb;have a:=Aside0.mk hbox;have a0:=zge hg HB;have a1:=zge hg HB;replace HB:=zbs HB hb;clear hb hbox hg)|((with_reducible refine gate_dst (N:=4) rfl ?_);refine zbox (N:=4) (cs:=#[.int .i64 l,.int .i64 m]) (t:=58) ?_;intro Y hg w7 hbox hb;have b:=Aside0.mk hbox;have a3:=zge hg HB;have a4:=zge hg HB;have v:=znl hg a;have g:=zng hg a;obtain⟨a,HB⟩:=zu1 a HB hb;clear hb hbox hg;obtain⟨bD,bE⟩:=z2 v;obtain⟨R,S,T,U⟩:=zc2 a)|((with_reducible refine gate_callee (f:=95) rfl ?_);refine zgc (some 13) Try.func95 (round_Open.calls A4.out) ?_;intro bJ hb;obtain⟨a,b,HB⟩:=zu2 a b HB hb;clear hb)|((with_reducible refine gate_dst (N:=8) rfl ?_);refine zbox (N:=8) (cs:=#[.int .i64 0,.bool false,.int .i64 0,.int .u64 0]) (t:=89) ?_;intro Z hg bK hbox hb;have c:=Aside0.mk hbox;have a5:=zge hg HB;have a6:=zge hg HB;have aa:=znl hg a;have i:=zng hg a;have y:=znl hg b;have j:=zng hg b;obtain⟨a,b,HB⟩:=zu2 a b HB hb;clear hb hbox hg;obtain⟨a7,a8⟩:=z2 i;obtain⟨a9,ba⟩:=z2 j;obtain⟨E,F,G,I,J,K,L,M⟩:=zc4 c))
 (try simp only[Act.put,List.setIfInBounds_toArray,List.set_cons_zero,List.set_cons_succ])
 go_cut [22] (fun v22 wc=>∃ (kq:Nat) (p:Bool),v22=.bool p∧Aside0 (soft_Convert.j0 kq p l m u B C D=some (r1,r2))∧Aside0 (kq≤k)∧Aside0 (wc.heap[X]?=some (.cells #[.int .i64 q,.int .i64 s] 58 (0,0)))∧Aside0 (wc.heap[Y]?=some (.cells #[.int .i64 l,.int .i64 m] 58 (0,0)))∧Aside0 (wc.heap[Z]?=some (.cells #[.int .i64 u,.bool B,.int .i64 C,.int .u64 D] 89 (0,0)))∧Aside0 (Below w.heap.size w wc))
 case first =>
  have H:=W.out
  clear W
  by_cases O:ag=0
  ·rw[if_pos O] at H
   obtain⟨n,ab⟩:=zt O
   clear O
   (first|rw[n]|(simp only[i64_w,i32_w];rw[n])|skip)
   obtain⟨z,bb,H⟩:=oB H
   have H':=Aside0.mk H
   clear H
   obtain⟨bc,bd⟩:=z2 g
   obtain⟨be,bf⟩:=z2 y
   obtain⟨ah,ai,aj,ak⟩:=zc2 b
   go_wp2_with (first|(go_at_call 96;(with_reducible refine (round_Check.calls bb.out).mono ?_);rintro e bL ⟨rfl,hb⟩;replace a:=zkb a hb;replace b:=zkb b hb;replace c:=zkbo (o:=.cells #[.int .i64 u,.bool B,.int .i64 C,.int .u64 D] 89 (0,0)) c hb;replace HB:=zbs HB hb;clear hb))
   go_meet
   case rel=>exact⟨_,((z != 0)),(by first|rfl|(simp[*];done)),H',⟨by omega⟩,⟨zk a⟩,⟨zk b⟩,⟨zk c⟩,⟨zb HB⟩⟩
  rw[if_neg O] at H
  obtain⟨n,ab⟩:=zf O
  (first|rw[n]|(simp only[i64_w,i32_w];rw[n])|skip)
  have H':=Aside0.mk H
  clear H
  go_wp2
  go_meet
  case rel=>exact⟨_,(true),(by first|rfl|(simp[*];done)),H',⟨by omega⟩,⟨zk a⟩,⟨zk b⟩,⟨zkp c⟩,⟨zb HB⟩⟩
 case rest =>
  clear W
  try clear E F G I R S J K L M T U
  obtain⟨kq,p,rfl,HA,bM,a,b,c,HB⟩:=hcut
  cases kq with
  | zero=>exact absurd HA.out (by simp[soft_Convert.j0])
  | succ bN =>
   have H:=HA.out
   clear HA
   simp only[soft_Convert.j0] at H
   by_cases V:p=true
   ·subst V
    rw[if_pos rfl] at H
    simp only[Option.some.injEq,Prod.mk.injEq] at H
    obtain⟨rfl,rfl⟩:=H
    go_wp2
    go_ret2
    exact zr HB
   replace V:=Bool.eq_false_iff.mpr V
   subst V
   rw[if_neg nft] at H
   by_cases P:u=4
   ·rw[if_pos P] at H
    obtain⟨ac,ad⟩:=zt P
    clear P
    obtain⟨bF,bg,H⟩:=oB H
    simp only[Option.some.injEq,Prod.mk.injEq] at H
    obtain⟨rfl,rfl⟩:=H
    obtain⟨bh,bi⟩:=z2 i
    obtain⟨bj,bk⟩:=z2 j
    obtain⟨al,am,an,ao,ap,aq,ar,au⟩:=zc4 c
    obtain⟨bl,bm⟩:=z2 g
    obtain⟨av,aw,ax,ay⟩:=zc2 b
    go_wp2_with (first|((with_reducible refine gate_callee (f:=97) rfl ?_);refine zgc (some 28) Try.func97 (round_NaN.calls bg.out) ?_;intro bO hb;obtain⟨a,b,c,HB⟩:=zu3 a b c HB hb;clear hb))
    go_ret2
    exact zr HB
   rw[if_neg P] at H
   obtain⟨ac,ad⟩:=zf P
   by_cases Q:u=3
   ·rw[if_pos Q] at H
    obtain⟨ae,af⟩:=zt Q
    clear Q
    obtain⟨bG,bn,H⟩:=oB H
    simp only[Option.some.injEq,Prod.mk.injEq] at H
    obtain⟨rfl,rfl⟩:=H
    obtain⟨bo,bp⟩:=z2 i
    obtain⟨bq,br⟩:=z2 j
    obtain⟨az,aA,aB,aC,aD,aE,aF,aG⟩:=zc4 c
    obtain⟨bs,bt⟩:=z2 g
    obtain⟨aH,aI,aJ,aK⟩:=zc2 b
    go_wp2_with (first|((with_reducible refine gate_callee (f:=98) rfl ?_);refine zgc (some 34) Try.func98 (round_Inf.calls bn.out) ?_;intro bP hb;obtain⟨a,b,c,HB⟩:=zu3 a b c HB hb;clear hb))
    go_ret2
    exact zr HB
   rw[if_neg Q] at H
   obtain⟨ae,af⟩:=zf Q
   obtain⟨⟨bH,bu⟩,bv,H⟩:=oB H
   try dsimp only at H
   simp only[Option.some.injEq,Prod.mk.injEq] at H
   obtain⟨rfl,rfl⟩:=H
   obtain⟨bw,bx⟩:=z2 i
   obtain⟨bz,bA⟩:=z2 j
   obtain⟨aL,aM,aN,aO,aP,aQ,aR,aS⟩:=zc4 c
   obtain⟨bB,bC⟩:=z2 g
   obtain⟨aT,aU,aV,aW⟩:=zc2 b
   go_wp2_with (first|((with_reducible refine gate_callee (f:=87) rfl ?_);refine zgc (some 42) Try.func87 (round_Pack.calls bv.out) ?_;intro bQ hb;obtain⟨a,b,c,HB⟩:=zu3 a b c HB hb;clear hb))
   go_ret2
   exact zr HB

/-! ### reals_Widen: function 27 -/
def reals_Widen.f (k:Nat) (a0:Int):Option (Int):=(reals_single.f).bind fun a=>((reals_double.f).bind fun b=>((soft_Convert.f k a.1 a.2 b.1 b.2 (IntKind.u64.wrap (a0))).bind fun c=>(some c.1)))
theorem reals_Widen.mono:∀ a0 k,LeO (reals_Widen.f k a0) (reals_Widen.f (k+1) a0):=by
 intro a0 k
 unfold reals_Widen.f
 repeat' first|(with_reducible first|apply soft_Convert.mono|exact LeO.refl _|exact LeO.none _|refine LeO.ite ?_ ?_|refine LeO.bind ?_ (fun _=>?_))|refine LeO.ite ?_ ?_|refine LeO.bind ?_ (fun _=>?_)
set_option maxHeartbeats 8000000 in
set_option maxRecDepth 100000 in
theorem reals_Widen.calls {k:Nat} {l:Int} {r:Int} {w:World} (h:reals_Widen.f k l=some r) :
  Calls Try.prog 27 #[.int .u32 l] w fun e w'=>e=.returned (.int .u64 r)∧Below w.heap.size w w':=by
 have HB:=Aside0.mk (Below.refl w.heap.size w)
 have H:=h
 unfold reals_Widen.f at H
 clear h
 obtain⟨⟨d,g⟩,o,H⟩:=oB H
 try dsimp only at H
 obtain⟨⟨i,j⟩,p,H⟩:=oB H
 try dsimp only at H
 obtain⟨⟨m,n⟩,q,H⟩:=oB H
 try dsimp only at H
 obtain rfl:=Option.some.inj H
 go_enter Try.func27,Try.ntmps27
 go_wp2_with (first|((with_reducible refine gate_callee (f:=32) rfl ?_);refine zgc (some 6) Try.func32 (reals_single.calls  d g _ o.out) ?_;intro s hb;replace HB:=zbs HB hb;clear hb)|((with_reducible refine gate_callee (f:=43) rfl ?_);refine zgc (some 7) Try.func43 (reals_double.calls  i j _ p.out) ?_;intro u hb;replace HB:=zbs HB hb;clear hb)|((with_reducible refine gate_callee (f:=56) rfl ?_);refine zgc (some 10) Try.func56 (soft_Convert.calls q.out) ?_;intro v hb;replace HB:=zbs HB hb;clear hb))
 go_ret
 exact zr HB

/-! ### grottolaw04_live: function 15 -/
def grottolaw04_live.f (k:Nat) :Option (Bool):=(reals_Single.f k 1 1065353216 1065353216).bind fun a=>((reals_Double.f k 3 4613937818241073152 13835058055282163712).bind fun b=>((grottolaw04_num.f a.2).bind fun c=>((grottolaw04_num.f b.2).bind fun d=>(if (wrap64 (c+d))=0 then (if a.1=1073741824 then (if b.1=13841813454723219456 then ((reals_SingleOf.f k 4294967295).bind fun e=>(if e=3212836864 then ((reals_SingleInt.f k 3223322624 true).bind fun g=>(if g=4294967293 then ((reals_SingleInt.f k 4286578688 false).bind fun h=>(if h=2147483648 then ((reals_Widen.f k 1065353216).bind fun i=>(if i=4607182418800017408 then ((reals_SingleHolds.f k 1 1065353216 1069547520 3204448256).bind fun j=>(some j)) else (some false))) else (some false))) else (some false))) else (some false))) else (some false)) else (some false)) else (some false)))))
theorem grottolaw04_live.mono:∀ k,LeO (grottolaw04_live.f k ) (grottolaw04_live.f (k+1) ):=by
 intro  k
 unfold grottolaw04_live.f
 repeat' first|(with_reducible first|apply reals_Double.mono|apply reals_Single.mono|apply reals_SingleHolds.mono|apply reals_SingleInt.mono|apply reals_SingleOf.mono|apply reals_Widen.mono|exact LeO.refl _|exact LeO.none _|refine LeO.ite ?_ ?_|refine LeO.bind ?_ (fun _=>?_))|refine LeO.ite ?_ ?_|refine LeO.bind ?_ (fun _=>?_)
set_option maxHeartbeats 8000000 in
set_option maxRecDepth 100000 in
theorem grottolaw04_live.calls (k:Nat)  (r:Bool) (w:World) (h:grottolaw04_live.f k =some r) :
  Calls Try.prog 15 #[] w fun e w'=>e=.returned (.bool r)∧Below w.heap.size w w':=by
 have HB:=Aside0.mk (Below.refl w.heap.size w)
 have H:=h
 unfold grottolaw04_live.f at H
 clear h
 obtain⟨⟨C,a⟩,v,H⟩:=oB H
 try dsimp only at H
 obtain⟨⟨D,b⟩,y,H⟩:=oB H
 try dsimp only at H
 obtain⟨c,z,H⟩:=oB H
 obtain⟨d,B,H⟩:=oB H
 by_cases M:(wrap64 (c+d))=0
 ·rw[if_pos M] at H
  obtain⟨N,O⟩:=zt M
  clear M
  by_cases P:C=1073741824
  ·rw[if_pos P] at H
   obtain⟨Q,R⟩:=zt P
   clear P
   by_cases S:D=13841813454723219456
   ·rw[if_pos S] at H
    obtain⟨T,U⟩:=zt S
    clear S
    obtain⟨g,V,H⟩:=oB H
    by_cases W:g=3212836864
    ·rw[if_pos W] at H
     obtain⟨X,Y⟩:=zt W
     clear W
     obtain⟨i,u,H⟩:=oB H
     by_cases p:i=4294967293
     ·rw[if_pos p] at H
      obtain⟨E,F⟩:=zt p
      clear p
      obtain⟨j,G,H⟩:=oB H
      by_cases q:j=2147483648
      ·rw[if_pos q] at H
       obtain⟨I,J⟩:=zt q
       clear q
       obtain⟨l,Z,H⟩:=oB H
       by_cases s:l=4607182418800017408
       ·rw[if_pos s] at H
        obtain⟨K,L⟩:=zt s
        clear s
        obtain⟨o,aa,H⟩:=oB H
        obtain rfl:=Option.some.inj H
        go_enter Try.func15,Try.ntmps15
        go_wp2_with (first|((with_reducible refine gate_callee (f:=12) rfl ?_);refine zgc (some 6) Try.func12 (reals_Single.calls v.out) ?_;intro ab hb;replace HB:=zbs HB hb;clear hb)|((with_reducible refine gate_callee (f:=16) rfl ?_);refine zgc (some 10) Try.func16 (reals_Double.calls y.out) ?_;intro ac hb;replace HB:=zbs HB hb;clear hb)|((with_reducible refine gate_callee (f:=14) rfl ?_);refine zgo (some 14) Try.func14 #[.int .i64 a] ?_;(with_reducible refine (grottolaw04_num.calls z.out).mono ?_);rintro e w' ⟨rfl,⟨nd,rfl⟩⟩;refine⟨_,rfl,?_⟩)|((with_reducible refine gate_callee (f:=14) rfl ?_);refine zgo (some 16) Try.func14 #[.int .i64 b] ?_;(with_reducible refine (grottolaw04_num.calls B.out).mono ?_);rintro e w' ⟨rfl,⟨nd,rfl⟩⟩;refine⟨_,rfl,?_⟩)|(go_at_call 20;(with_reducible refine (reals_SingleOf.calls V.out).mono ?_);rintro e ad ⟨rfl,hb⟩;replace HB:=zbs HB hb;clear hb)|(go_at_call 23;(with_reducible refine (reals_SingleInt.calls u.out).mono ?_);rintro e ae ⟨rfl,hb⟩;replace HB:=zbs HB hb;clear hb)|(go_at_call 23;(with_reducible refine (reals_SingleInt.calls G.out).mono ?_);rintro e af ⟨rfl,hb⟩;replace HB:=zbs HB hb;clear hb)|(go_at_call 27;(with_reducible refine (reals_Widen.calls Z.out).mono ?_);rintro e ag ⟨rfl,hb⟩;replace HB:=zbs HB hb;clear hb)|(go_at_call 17;(with_reducible refine (reals_SingleHolds.calls aa.out).mono ?_);rintro e ah ⟨rfl,hb⟩;replace HB:=zbs HB hb;clear hb))
        go_ret
        exact zr HB
       rw[if_neg s] at H
       obtain⟨K,L⟩:=zf s
       obtain rfl:=Option.some.inj H
       go_enter Try.func15,Try.ntmps15
       go_wp2_with (first|((with_reducible refine gate_callee (f:=12) rfl ?_);refine zgc (some 6) Try.func12 (reals_Single.calls v.out) ?_;intro ai hb;replace HB:=zbs HB hb;clear hb)|((with_reducible refine gate_callee (f:=16) rfl ?_);refine zgc (some 10) Try.func16 (reals_Double.calls y.out) ?_;intro aj hb;replace HB:=zbs HB hb;clear hb)|((with_reducible refine gate_callee (f:=14) rfl ?_);refine zgo (some 14) Try.func14 #[.int .i64 a] ?_;(with_reducible refine (grottolaw04_num.calls z.out).mono ?_);rintro e w' ⟨rfl,⟨nd,rfl⟩⟩;refine⟨_,rfl,?_⟩)|((with_reducible refine gate_callee (f:=14) rfl ?_);refine zgo (some 16) Try.func14 #[.int .i64 b] ?_;(with_reducible refine (grottolaw04_num.calls B.out).mono ?_);rintro e w' ⟨rfl,⟨nd,rfl⟩⟩;refine⟨_,rfl,?_⟩)|(go_at_call 20;(with_reducible refine (reals_SingleOf.calls V.out).mono ?_);rintro e ak ⟨rfl,hb⟩;replace HB:=zbs HB hb;clear hb)|(go_at_call 23;(with_reducible refine (reals_SingleInt.calls u.out).mono ?_);rintro e al ⟨rfl,hb⟩;replace HB:=zbs HB hb;clear hb)|(go_at_call 23;(with_reducible refine (reals_SingleInt.calls G.out).mono ?_);rintro e am ⟨rfl,hb⟩;replace HB:=zbs HB hb;clear hb)|(go_at_call 27;(with_reducible refine (reals_Widen.calls Z.out).mono ?_);rintro e an ⟨rfl,hb⟩;replace HB:=zbs HB hb;clear hb))
       go_ret
       exact zr HB
      rw[if_neg q] at H
      obtain⟨I,J⟩:=zf q
      obtain rfl:=Option.some.inj H
      go_enter Try.func15,Try.ntmps15
      go_wp2_with (first|((with_reducible refine gate_callee (f:=12) rfl ?_);refine zgc (some 6) Try.func12 (reals_Single.calls v.out) ?_;intro ao hb;replace HB:=zbs HB hb;clear hb)|((with_reducible refine gate_callee (f:=16) rfl ?_);refine zgc (some 10) Try.func16 (reals_Double.calls y.out) ?_;intro ap hb;replace HB:=zbs HB hb;clear hb)|((with_reducible refine gate_callee (f:=14) rfl ?_);refine zgo (some 14) Try.func14 #[.int .i64 a] ?_;(with_reducible refine (grottolaw04_num.calls z.out).mono ?_);rintro e w' ⟨rfl,⟨nd,rfl⟩⟩;refine⟨_,rfl,?_⟩)|((with_reducible refine gate_callee (f:=14) rfl ?_);refine zgo (some 16) Try.func14 #[.int .i64 b] ?_;(with_reducible refine (grottolaw04_num.calls B.out).mono ?_);rintro e w' ⟨rfl,⟨nd,rfl⟩⟩;refine⟨_,rfl,?_⟩)|(go_at_call 20;(with_reducible refine (reals_SingleOf.calls V.out).mono ?_);rintro e aq ⟨rfl,hb⟩;replace HB:=zbs HB hb;clear hb)|(go_at_call 23;(with_reducible refine (reals_SingleInt.calls u.out).mono ?_);rintro e ar ⟨rfl,hb⟩;replace HB:=zbs HB hb;clear hb)|(go_at_call 23;(with_reducible refine (reals_SingleInt.calls G.out).mono ?_);rintro e au ⟨rfl,hb⟩;replace HB:=zbs HB hb;clear hb))
      go_ret
      exact zr HB
     rw[if_neg p] at H
     obtain⟨E,F⟩:=zf p
     obtain rfl:=Option.some.inj H
     go_enter Try.func15,Try.ntmps15
     go_wp2_with (first|((with_reducible refine gate_callee (f:=12) rfl ?_);refine zgc (some 6) Try.func12 (reals_Single.calls v.out) ?_;intro av hb;replace HB:=zbs HB hb;clear hb)|((with_reducible refine gate_callee (f:=16) rfl ?_);refine zgc (some 10) Try.func16 (reals_Double.calls y.out) ?_;intro aw hb;replace HB:=zbs HB hb;clear hb)|((with_reducible refine gate_callee (f:=14) rfl ?_);refine zgo (some 14) Try.func14 #[.int .i64 a] ?_;(with_reducible refine (grottolaw04_num.calls z.out).mono ?_);rintro e w' ⟨rfl,⟨nd,rfl⟩⟩;refine⟨_,rfl,?_⟩)|((with_reducible refine gate_callee (f:=14) rfl ?_);refine zgo (some 16) Try.func14 #[.int .i64 b] ?_;(with_reducible refine (grottolaw04_num.calls B.out).mono ?_);rintro e w' ⟨rfl,⟨nd,rfl⟩⟩;refine⟨_,rfl,?_⟩)|(go_at_call 20;(with_reducible refine (reals_SingleOf.calls V.out).mono ?_);rintro e ax ⟨rfl,hb⟩;replace HB:=zbs HB hb;clear hb)|(go_at_call 23;(with_reducible refine (reals_SingleInt.calls u.out).mono ?_);rintro e ay ⟨rfl,hb⟩;replace HB:=zbs HB hb;clear hb))
     go_ret
     exact zr HB
    rw[if_neg W] at H
    obtain⟨X,Y⟩:=zf W
    obtain rfl:=Option.some.inj H
    go_enter Try.func15,Try.ntmps15
    go_wp2_with (first|((with_reducible refine gate_callee (f:=12) rfl ?_);refine zgc (some 6) Try.func12 (reals_Single.calls v.out) ?_;intro az hb;replace HB:=zbs HB hb;clear hb)|((with_reducible refine gate_callee (f:=16) rfl ?_);refine zgc (some 10) Try.func16 (reals_Double.calls y.out) ?_;intro aA hb;replace HB:=zbs HB hb;clear hb)|((with_reducible refine gate_callee (f:=14) rfl ?_);refine zgo (some 14) Try.func14 #[.int .i64 a] ?_;(with_reducible refine (grottolaw04_num.calls z.out).mono ?_);rintro e w' ⟨rfl,⟨nd,rfl⟩⟩;refine⟨_,rfl,?_⟩)|((with_reducible refine gate_callee (f:=14) rfl ?_);refine zgo (some 16) Try.func14 #[.int .i64 b] ?_;(with_reducible refine (grottolaw04_num.calls B.out).mono ?_);rintro e w' ⟨rfl,⟨nd,rfl⟩⟩;refine⟨_,rfl,?_⟩)|(go_at_call 20;(with_reducible refine (reals_SingleOf.calls V.out).mono ?_);rintro e aB ⟨rfl,hb⟩;replace HB:=zbs HB hb;clear hb))
    go_ret
    exact zr HB
   rw[if_neg S] at H
   obtain⟨T,U⟩:=zf S
   obtain rfl:=Option.some.inj H
   go_enter Try.func15,Try.ntmps15
   go_wp2_with (first|((with_reducible refine gate_callee (f:=12) rfl ?_);refine zgc (some 6) Try.func12 (reals_Single.calls v.out) ?_;intro aC hb;replace HB:=zbs HB hb;clear hb)|((with_reducible refine gate_callee (f:=16) rfl ?_);refine zgc (some 10) Try.func16 (reals_Double.calls y.out) ?_;intro aD hb;replace HB:=zbs HB hb;clear hb)|((with_reducible refine gate_callee (f:=14) rfl ?_);refine zgo (some 14) Try.func14 #[.int .i64 a] ?_;(with_reducible refine (grottolaw04_num.calls z.out).mono ?_);rintro e w' ⟨rfl,⟨nd,rfl⟩⟩;refine⟨_,rfl,?_⟩)|((with_reducible refine gate_callee (f:=14) rfl ?_);refine zgo (some 16) Try.func14 #[.int .i64 b] ?_;(with_reducible refine (grottolaw04_num.calls B.out).mono ?_);rintro e w' ⟨rfl,⟨nd,rfl⟩⟩;refine⟨_,rfl,?_⟩))
   go_ret
   exact zr HB
  rw[if_neg P] at H
  obtain⟨Q,R⟩:=zf P
  obtain rfl:=Option.some.inj H
  go_enter Try.func15,Try.ntmps15
  go_wp2_with (first|((with_reducible refine gate_callee (f:=12) rfl ?_);refine zgc (some 6) Try.func12 (reals_Single.calls v.out) ?_;intro aE hb;replace HB:=zbs HB hb;clear hb)|((with_reducible refine gate_callee (f:=16) rfl ?_);refine zgc (some 10) Try.func16 (reals_Double.calls y.out) ?_;intro aF hb;replace HB:=zbs HB hb;clear hb)|((with_reducible refine gate_callee (f:=14) rfl ?_);refine zgo (some 14) Try.func14 #[.int .i64 a] ?_;(with_reducible refine (grottolaw04_num.calls z.out).mono ?_);rintro e w' ⟨rfl,⟨nd,rfl⟩⟩;refine⟨_,rfl,?_⟩)|((with_reducible refine gate_callee (f:=14) rfl ?_);refine zgo (some 16) Try.func14 #[.int .i64 b] ?_;(with_reducible refine (grottolaw04_num.calls B.out).mono ?_);rintro e w' ⟨rfl,⟨nd,rfl⟩⟩;refine⟨_,rfl,?_⟩))
  go_ret
  exact zr HB
 rw[if_neg M] at H
 obtain⟨N,O⟩:=zf M
 obtain rfl:=Option.some.inj H
 go_enter Try.func15,Try.ntmps15
 go_wp2_with (first|((with_reducible refine gate_callee (f:=12) rfl ?_);refine zgc (some 6) Try.func12 (reals_Single.calls v.out) ?_;intro aG hb;replace HB:=zbs HB hb;clear hb)|((with_reducible refine gate_callee (f:=16) rfl ?_);refine zgc (some 10) Try.func16 (reals_Double.calls y.out) ?_;intro aH hb;replace HB:=zbs HB hb;clear hb)|((with_reducible refine gate_callee (f:=14) rfl ?_);refine zgo (some 14) Try.func14 #[.int .i64 a] ?_;(with_reducible refine (grottolaw04_num.calls z.out).mono ?_);rintro e w' ⟨rfl,⟨nd,rfl⟩⟩;refine⟨_,rfl,?_⟩)|((with_reducible refine gate_callee (f:=14) rfl ?_);refine zgo (some 16) Try.func14 #[.int .i64 b] ?_;(with_reducible refine (grottolaw04_num.calls B.out).mono ?_);rintro e w' ⟨rfl,⟨nd,rfl⟩⟩;refine⟨_,rfl,?_⟩))
 go_ret
 exact zr HB

end Go.Proofs.Ythkifpdachjlgaa.PQ
