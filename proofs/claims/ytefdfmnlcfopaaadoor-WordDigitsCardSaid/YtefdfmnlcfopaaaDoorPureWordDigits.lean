/- A word's digits are read as the word; a text that is read is the digits of what was read: for every word and every text. -/
import Derived.Test.YtefdfmnlcfopaaaDoorPQx20
import Derived.Test.YtefdfmnlcfopaaaDoorTx
namespace Go.Proofs.YtefdfmnlcfopaaaDoor.Pure
set_option linter.all false
open Go.RowKit Go.Proofs.YtefdfmnlcfopaaaDoor.PQ Go.Proofs.YtefdfmnlcfopaaaDoorW.PrintWords Go.Proofs.YtefdfmnlcfopaaaDoorW.PrintLast Go.Proofs.YtefdfmnlcfopaaaDoorW.PrintMore
open Go.Lib (decDigits itoa parseUintM parseUintB parseIntB NumEnd)
/-- what is read of any text -/
theorem num_any (s : ByteArray) : (∃ m d, word_Number.f s = some (m, true) ∧ word_Decimal.f m = some d ∧ d.toList = s.toList) ∨ word_Number.f s = some (0, false) := by
  unfold word_Number.f
  split
  · exact Or.inr rfl
  · cases hp : parseIntB 32 s.data.toList with
    | ok n =>
      dsimp only
      rw [dec_f, Option.bind_some]
      by_cases h : (⟨(itoa (wrap32 (n % 4294967296))).toArray⟩ : ByteArray).toList = s.toList
      · rw [if_pos h]; exact Or.inl ⟨_, _, rfl, dec_f _, h⟩
      · rw [if_neg h]; exact Or.inr rfl
    | «syntax» => exact Or.inr rfl
    | range => exact Or.inr rfl
theorem WordDigits (a0 : Int) (a1 : ByteArray) (w0 : (Lit.int .u32 a0).wf = true) : ∃ k, grottolaw01_WordDigits.f k a0 a1 = some true := by
  refine ⟨201, ?_⟩
  have h1 := wf_u32 w0
  have hl : ∀ {k : Nat}, 100 ≤ k → grottolaw01_live.f k = some true := fun h => live_k h
  unfold grottolaw01_WordDigits.f
  by_cases c : (a1.size : Int) > 4096
  · rw [if_pos c, hl (by omega), Option.bind_some]
  · rw [if_neg c, dec_f, Option.bind_some, num_dec h1.1 h1.2, Option.bind_some]
    dsimp only
    rw [if_pos rfl, grottolaw01_WordDigits.j0.eq_2, if_neg (by simp)]
    rcases num_any a1 with ⟨m, d, e1, e2, e3⟩ | e1
    · rw [e1, Option.bind_some]
      dsimp only
      rw [if_pos rfl, e2, Option.bind_some, if_pos e3, hl (by omega), Option.bind_some]
    · rw [e1, Option.bind_some]
      dsimp only
      rw [if_neg (by simp), if_pos rfl, hl (by omega), Option.bind_some]
end Go.Proofs.YtefdfmnlcfopaaaDoor.Pure
