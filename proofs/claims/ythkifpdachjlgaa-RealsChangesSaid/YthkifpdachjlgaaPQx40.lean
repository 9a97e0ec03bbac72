-- by a program of this claim
import Derived.Test.YthkifpdachjlgaaPQx0
import Derived.Test.YthkifpdachjlgaaPQx10
import Derived.Test.YthkifpdachjlgaaPQx39
namespace Go.Proofs.Ythkifpdachjlgaa.PQ
open Go.RowKit Go.Proofs.YthkifpdachjlgaaW.PrintWords Go.Proofs.YthkifpdachjlgaaW.PrintLast Go.Proofs.YthkifpdachjlgaaW.PrintMore Go.Proofs.Ythkifpdachjlgaa.Z
attribute [local go_sem] max2_int min2_int max_two min_two max_three min_three max_four min_four   -- for this text's walks alone
set_option linter.unusedVariables false
set_option linter.unusedSimpArgs false

/-! ### grottoref04_Change: function 29 -/
def grottoref04_Change.f (k:Nat) (a0:Bool) (a1:Int):Option (Int):=(grottoref04_Format.f (!a0)).bind fun a=>((grottoref04_Format.f a0).bind fun b=>((grottoref03_Convert.f k a.1 a.2 b.1 b.2 a1).bind fun c=>(some c.1)))
theorem grottoref04_Change.mono:∀ a0 a1 k,LeO (grottoref04_Change.f k a0 a1) (grottoref04_Change.f (k+1) a0 a1):=by
 intro a0 a1 k
 unfold grottoref04_Change.f
 repeat' first|(with_reducible first|apply grottoref03_Convert.mono|exact LeO.refl _|exact LeO.none _|refine LeO.ite ?_ ?_|refine LeO.bind ?_ (fun _=>?_))|refine LeO.ite ?_ ?_|refine LeO.bind ?_ (fun _=>?_)
set_option maxHeartbeats 8000000 in
set_option maxRecDepth 100000 in
theorem grottoref04_Change.calls {k:Nat} {d:Bool} {g:Int} {r:Int} {w:World} (h:grottoref04_Change.f k d g=some r) :
  Calls Try.prog 29 #[.bool d,.int .u64 g] w fun e w'=>e=.returned (.int .u64 r)∧Below w.heap.size w w':=by
 have HB:=Aside0.mk (Below.refl w.heap.size w)
 have H:=h
 unfold grottoref04_Change.f at H
 clear h
 obtain⟨⟨i,j⟩,p,H⟩:=oB H
 try dsimp only at H
 obtain⟨⟨l,m⟩,q,H⟩:=oB H
 try dsimp only at H
 obtain⟨⟨n,o⟩,s,H⟩:=oB H
 try dsimp only at H
 obtain rfl:=Option.some.inj H
 go_enter Try.func29,Try.ntmps29
 go_wp2_with (first|((with_reducible refine gate_callee (f:=33) rfl ?_);refine zgc (some 10) Try.func33 (grottoref04_Format.calls p.out) ?_;intro u hb;replace HB:=zbs HB hb;clear hb)|((with_reducible refine gate_callee (f:=33) rfl ?_);refine zgc (some 12) Try.func33 (grottoref04_Format.calls q.out) ?_;intro v hb;replace HB:=zbs HB hb;clear hb)|((with_reducible refine gate_callee (f:=57) rfl ?_);refine zgc (some 14) Try.func57 (grottoref03_Convert.calls s.out) ?_;intro y hb;replace HB:=zbs HB hb;clear hb))
 go_ret
 exact zr HB

end Go.Proofs.Ythkifpdachjlgaa.PQ
