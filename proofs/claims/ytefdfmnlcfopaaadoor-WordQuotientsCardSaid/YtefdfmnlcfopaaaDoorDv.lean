/- The program's quotient and rest of two words, as integers. -/
import Derived.Test.YtefdfmnlcfopaaaDoorPQx8
import Derived.Test.YtefdfmnlcfopaaaDoorLw
namespace Go.Proofs.YtefdfmnlcfopaaaDoor.Pure
open Go.RowKit Go.Proofs.YtefdfmnlcfopaaaDoor.PQ Go.Proofs.YtefdfmnlcfopaaaDoorW.PrintWords Go.Proofs.YtefdfmnlcfopaaaDoorW.PrintLast Go.Proofs.YtefdfmnlcfopaaaDoorW.PrintMore
theorem wrap32_mod (x : Int) : wrap32 x % 4294967296 = x % 4294967296 := by unfold wrap32; omega
theorem div_eq {a b : Int} (h1 : 0 ≤ a ∧ a < 4294967296) (h2 : 0 ≤ b ∧ b < 4294967296) (h0 : b ≠ 0) : word_Div.f a b = some (Int.tdiv (wrap32 a) (wrap32 b) % 4294967296, 0) := by
  have i1 := i32_cases h1.1 h1.2
  have i2 := i32_cases h2.1 h2.2
  unfold word_Div.f
  rw [if_neg h0]
  by_cases hb : b = 4294967295
  · have e : wrap32 b = -1 := by omega
    rw [if_pos hb, e, Int.tdiv_neg, Int.tdiv_one]
    congr 2
    have := wrap32_mod a
    omega
  · rw [if_neg hb, if_neg (by omega), wrap32_mod]
theorem mod_eq {a b : Int} (h1 : 0 ≤ a ∧ a < 4294967296) (h2 : 0 ≤ b ∧ b < 4294967296) (h0 : b ≠ 0) : word_Mod.f a b = some (Int.tmod (wrap32 a) (wrap32 b) % 4294967296, 0) := by
  have ha := wrap32_mod a
  have hb := wrap32_mod b
  unfold word_Mod.f
  rw [div_eq h1 h2 h0, Option.bind_some, if_pos rfl]
  dsimp only
  have ht : Int.tmod (wrap32 a) (wrap32 b) = wrap32 a - Int.tdiv (wrap32 a) (wrap32 b) * wrap32 b := by
    rw [Int.tmod_def, Int.mul_comm]
  rw [ht]
  generalize wrap32 a = s at *
  generalize wrap32 b = t at *
  generalize Int.tdiv s t = q
  congr 2
  rw [Int.sub_emod, Int.emod_emod, Int.mul_emod, Int.emod_emod, ← Int.mul_emod, ← Int.sub_emod, Int.sub_emod, Int.mul_emod, ← ha, ← hb, ← Int.mul_emod, ← Int.sub_emod]
end Go.Proofs.YtefdfmnlcfopaaaDoor.Pure
