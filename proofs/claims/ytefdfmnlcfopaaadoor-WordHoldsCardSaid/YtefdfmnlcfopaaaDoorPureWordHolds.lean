/- Each comparison of any two words is the reference's: for every number of a comparison and every two words. -/
import Derived.Test.YtefdfmnlcfopaaaDoorPQx15
import Derived.Test.YtefdfmnlcfopaaaDoorLw
namespace Go.Proofs.YtefdfmnlcfopaaaDoor.Pure
open Go.RowKit Go.Proofs.YtefdfmnlcfopaaaDoor.PQ Go.Proofs.YtefdfmnlcfopaaaDoorW.PrintWords Go.Proofs.YtefdfmnlcfopaaaDoorW.PrintLast Go.Proofs.YtefdfmnlcfopaaaDoorW.PrintMore
theorem holds_eq (c : Int) {a b : Int} (h1 : 0 ≤ a ∧ a < 4294967296) (h2 : 0 ≤ b ∧ b < 4294967296) : word_Holds.f c a b = grottoref01_Holds.f c a b := by
  have i1 := i32_cases h1.1 h1.2
  have i2 := i32_cases h2.1 h2.2
  unfold word_Holds.f grottoref01_Holds.f
  rw [int_eq h1.1 h1.2, Option.bind_some, int_eq h2.1 h2.2, Option.bind_some, w64 (n := a) (by omega) (by omega), w64 (n := b) (by omega) (by omega), w64 (n := a - b) (by omega) (by omega), w64 (n := wrap32 a - wrap32 b) (by omega) (by omega)]
  have e : (a == b) = (a - b == 0) := by rw [Bool.eq_iff_iff, beq_iff_eq, beq_iff_eq]; omega
  refine ite_congr rfl (fun _ => by rw [e]) (fun _ => ite_congr rfl (fun _ => by unfold bne; rw [e]) (fun _ => ite_congr rfl (fun _ => congrArg some (decide_eq_decide.2 (by omega))) (fun _ => ite_congr rfl (fun _ => congrArg some (decide_eq_decide.2 (by omega))) (fun _ => ite_congr rfl (fun _ => congrArg some (decide_eq_decide.2 (by omega))) (fun _ => ite_congr rfl (fun _ => congrArg some (decide_eq_decide.2 (by omega))) (fun _ => ite_congr rfl (fun _ => congrArg some (decide_eq_decide.2 (by omega))) (fun _ => ite_congr rfl (fun _ => congrArg some (decide_eq_decide.2 (by omega))) (fun _ => ite_congr rfl (fun _ => congrArg some (decide_eq_decide.2 (by omega))) (fun _ => ite_congr rfl (fun _ => congrArg some (decide_eq_decide.2 (by omega))) (fun _ => rfl))))))))))
theorem holds_some (c a b : Int) : ∃ r, word_Holds.f c a b = some r := by
  unfold word_Holds.f
  repeat' split
  all_goals exact ⟨_, rfl⟩
theorem WordHolds (a0 : Int) (a1 : Int) (a2 : Int) (_w0 : (Lit.int .i64 a0).wf = true) (w1 : (Lit.int .u32 a1).wf = true) (w2 : (Lit.int .u32 a2).wf = true) : ∃ k, grottolaw01_WordHolds.f k a0 a1 a2 = some true := by
  refine ⟨100, ?_⟩
  obtain ⟨r, hr⟩ := holds_some a0 a1 a2
  have he := holds_eq a0 (wf_u32 w1) (wf_u32 w2)
  unfold grottolaw01_WordHolds.f
  rw [← he, hr, Option.bind_some, Option.bind_some, beq_self_eq_true, if_pos rfl, live_k (by omega), Option.bind_some]
end Go.Proofs.YtefdfmnlcfopaaaDoor.Pure
