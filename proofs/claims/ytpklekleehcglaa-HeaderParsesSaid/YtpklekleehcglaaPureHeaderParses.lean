/- What any bytes say of themselves as a game, or the first fault and its place, is the document's answer; the bytes stay. -/
import Derived.Test.YtpklekleehcglaaPQx11
import Derived.Test.YtpklekleehcglaaHP
namespace Go.Proofs.Ytpklekleehcglaa.Pure
set_option linter.all false
open Go.RowKit Go.Proofs.Ytpklekleehcglaa.PQ Go.Proofs.YtpklekleehcglaaW.PrintWords Go.Proofs.YtpklekleehcglaaW.PrintLast
theorem HeaderParses : grottolaw07_HeaderParses.Pure := by
  intro l0 _ _ h3
  have hb : Byt l0 := fun x hx => wf_u8 (h3 x hx)
  refine ⟨1100000, ?_⟩
  have num : ∀ x : Int, grottolaw07_num.f x = some x := fun x => rfl
  have lv : grottolaw07_live.f 1100000 = some true := live_k (by omega)
  unfold grottolaw07_HeaderParses.f
  rw [lv]
  by_cases c : (l0.length : Int) > 65536
  · rw [if_pos c]; rfl
  have hL : grottoref01_Lent.f l0 = some l0 := by unfold grottoref01_Lent.f; rw [if_pos (by omega)]
  have hK : grottoref01_Kept.f l0 l0 = some true := by unfold grottoref01_Kept.f; rw [if_pos rfl, if_pos (by omega)]
  rw [if_neg c, hL, Option.bind_some, parse_eq hb (by omega) (by omega), Option.bind_some, rparse_eq hb (by omega) (by omega), Option.bind_some]
  rw [if_pos (by simp only [beq_self_eq_true, Bool.and_self]), num, Option.bind_some, if_pos rfl, if_pos rfl, hK]
  rfl
end Go.Proofs.Ytpklekleehcglaa.Pure
