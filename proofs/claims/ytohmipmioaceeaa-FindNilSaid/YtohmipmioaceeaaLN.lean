/- The law FindNil: a nil memory. -/
import Derived.Test.YtohmipmioaceeaaLA
namespace Go.Proofs.Ytohmipmioaceeaa.PQ
set_option linter.all false
open Go.RowKit Go.Proofs.YtohmipmioaceeaaW.PrintWords Go.Proofs.YtohmipmioaceeaaW.PrintLast Go.Proofs.YtohmipmioaceeaaW.PrintMore Go.Proofs.Ytohmipmioaceeaa.Z Go.Proofs.Ytohmipmioaceeaa.Pure
set_option linter.unusedVariables false
set_option linter.unusedSimpArgs false
set_option maxHeartbeats 8000000 in
set_option maxRecDepth 100000 in
theorem FindNil.law (a0_0 : Int) (a0_1 : Int) (a0_2 : Int) (a0_3 : Int) (a0_4 : Int) (a0_5 : Int) (a0_6 : Int) (a0_7 : Int) (w : World) (w0_0 : (Lit.int .u32 a0_0).wf = true) (w0_1 : (Lit.int .u32 a0_1).wf = true) (w0_2 : (Lit.int .u32 a0_2).wf = true) (w0_3 : (Lit.int .u32 a0_3).wf = true) (w0_4 : (Lit.int .u32 a0_4).wf = true) (w0_5 : (Lit.int .u32 a0_5).wf = true) (w0_6 : (Lit.int .u32 a0_6).wf = true) (w0_7 : (Lit.int .u32 a0_7).wf = true) :
    Calls Try.prog 8 #[.agg #[.int .u32 a0_0, .int .u32 a0_1, .int .u32 a0_2, .int .u32 a0_3, .int .u32 a0_4, .int .u32 a0_5, .int .u32 a0_6, .int .u32 a0_7]] w fun e w' => e = .returned (.bool true) ∧ Below w.heap.size w w' := by
  have HO := Aside0.mk (show (Sr.mk a0_0 a0_1 a0_2 a0_3 a0_4 a0_5 a0_6 a0_7).Ok from ⟨wf_u32 w0_0, wf_u32 w0_1, wf_u32 w0_2, wf_u32 w0_3, wf_u32 w0_4, wf_u32 w0_5, wf_u32 w0_6, wf_u32 w0_7⟩)
  have HB := Aside0.mk (Below.refl w.heap.size w)
  clear w0_0 w0_1 w0_2 w0_3 w0_4 w0_5 w0_6 w0_7
  go_enter Try.func8, Try.ntmps8
  go_upto_region 5 with (first | ((with_reducible refine gate_dst (N := 1) rfl ?_); refine zbox (N := 1) (cs := #[.int .u32 a0_0, .int .u32 a0_1, .int .u32 a0_2, .int .u32 a0_3, .int .u32 a0_4, .int .u32 a0_5, .int .u32 a0_6, .int .u32 a0_7]) (t := 32) ?_; intro gs hg w_ hbox hb; have BK := Aside0.mk hbox; replace HB := zbs HB hb; obtain ⟨z0, z1, z2, z3, z4, z5, z6, z7⟩ := c8 BK.out; clear hb hbox hg) | (go_at_call 22; (with_reducible refine (find_Key.nil (Sr.mk a0_0 a0_1 a0_2 a0_3 a0_4 a0_5 a0_6 a0_7) _ HO.out).mono ?_); rintro e w_ ⟨rfl, hb⟩; replace BK := zkb BK hb; replace HB := zbs HB hb; clear hb z0 z1 z2 z3 z4 z5 z6 z7; obtain ⟨z0, z1, z2, z3, z4, z5, z6, z7⟩ := c8 BK.out) | (go_at_call 17; (with_reducible refine (find_Linear.nil (Sr.mk a0_0 a0_1 a0_2 a0_3 a0_4 a0_5 a0_6 a0_7) _ HO.out).mono ?_); rintro e w_ ⟨rfl, hb⟩; replace BK := zkb BK hb; replace HB := zbs HB hb; clear hb z0 z1 z2 z3 z4 z5 z6 z7; obtain ⟨z0, z1, z2, z3, z4, z5, z6, z7⟩ := c8 BK.out) | (go_at_call 19; (with_reducible refine (find_Binary.nil (Sr.mk a0_0 a0_1 a0_2 a0_3 a0_4 a0_5 a0_6 a0_7) _ HO.out).mono ?_); rintro e w_ ⟨rfl, hb⟩; replace BK := zkb BK hb; replace HB := zbs HB hb; clear hb z0 z1 z2 z3 z4 z5 z6 z7; obtain ⟨z0, z1, z2, z3, z4, z5, z6, z7⟩ := c8 BK.out) | (go_at_call 21; (with_reducible refine (find_Linked.nil (Sr.mk a0_0 a0_1 a0_2 a0_3 a0_4 a0_5 a0_6 a0_7) _ HO.out).mono ?_); rintro e w_ ⟨rfl, hb⟩; replace BK := zkb BK hb; replace HB := zbs HB hb; clear hb z0 z1 z2 z3 z4 z5 z6 z7; obtain ⟨z0, z1, z2, z3, z4, z5, z6, z7⟩ := c8 BK.out))
  clear BK z0 z1 z2 z3 z4 z5 z6 z7 HO
  go_wp2_with (first | (go_at_call 18; (with_reducible refine (num_be 8 _).mono ?_); rintro e w_ ⟨rfl, hb⟩; replace HB := zbs HB hb; clear hb) | (go_at_call 14; (with_reducible refine (live.is _).mono ?_); rintro e w_ ⟨rfl, hb⟩; replace HB := zbs HB hb; clear hb) | fail)
  go_ret
  exact ⟨rfl, zb HB⟩
end Go.Proofs.Ytohmipmioaceeaa.PQ
