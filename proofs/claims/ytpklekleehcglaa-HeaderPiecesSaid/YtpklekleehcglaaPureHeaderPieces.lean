/- The sum of two pieces, of which the first is a whole number of words that holds the word at 32, is the sum of both, with the second's word at 32 among them. -/
import Derived.Test.YtpklekleehcglaaPQx16
import Derived.Test.YtpklekleehcglaaHS
namespace Go.Proofs.Ytpklekleehcglaa.Pure
set_option linter.all false
open Go.RowKit Go.Proofs.Ytpklekleehcglaa.PQ Go.Proofs.YtpklekleehcglaaW.PrintWords Go.Proofs.YtpklekleehcglaaW.PrintLast
theorem HeaderPieces : grottolaw07_HeaderPieces.Pure := by
  intro l0 l1 _ _ h3 _ _ h6
  have ha : Byt l0 := fun x hx => wf_u8 (h3 x hx)
  have hb : Byt l1 := fun x hx => wf_u8 (h6 x hx)
  refine ⟨300001, ?_⟩
  have lv : ∀ X : Bool, ((grottolaw07_live.f 300000).bind fun t => (some t)) = some true := fun _ => by rw [live_k (by omega)]; rfl
  have out : grottolaw07_HeaderPieces.j0 300001 l0 l1 true = some true := by
    rw [grottolaw07_HeaderPieces.j0.eq_2, if_pos rfl, live_k (by omega)]; rfl
  unfold grottolaw07_HeaderPieces.f
  by_cases c1 : (l0.length : Int) > 65536
  · rw [if_pos c1]; exact out
  rw [if_neg c1]
  by_cases c2 : (l1.length : Int) > 65536
  · rw [if_pos c2]; exact out
  rw [if_neg c2]
  by_cases c3 : (l0.length : Int) % 4 = 0
  · rw [if_pos c3]
    by_cases c4 : (l0.length : Int) < 36
    · rw [decide_eq_true c4]; exact out
    rw [decide_eq_false c4, grottolaw07_HeaderPieces.j0.eq_2, if_neg (by simp), sum_eq hb (by omega) (by omega), Option.bind_some]
    have hs := hsum_app (a := l0) (b := l1) (by omega) (by omega)
    have la : ([] ++ l0 : List Int) = l0 := rfl
    have lg : (l0 ++ l1).length ≤ 1000000000 := by rw [List.length_append]; omega
    have lk : (l0 ++ l1).length / 4 + 12 < 300000 := by rw [List.length_append]; omega
    have hsl := hsum_lt l0
    have hsr := hsum_lt l1
    have hsa := hsum_lt (l0 ++ l1)
    by_cases c5 : (l1.length : Int) ≥ 36
    · have hw := be4_lt hb (i := 32) (by omega)
      have rb : grottoref01_Be.f 300000 l1 32 4 = some ((be4 l1 32 : Int), 0) := rbe_eq (at_ := 32) (by omega) hb (by omega) (by omega)
      rw [if_pos c5, rb]
      dsimp only [Option.bind_some]
      rw [if_pos (by simp only [List.length_nil]; omega), la, if_pos (by omega), sum_eq (ha.app hb) lg lk, Option.bind_some, sum_eq ha (by omega) (by omega), Option.bind_some]
      rw [if_pos (show 36 ≤ l1.length by omega)] at hs
      rw [if_pos (by omega)]
      exact lv true
    · rw [if_neg c5]
      dsimp only [Option.bind_some]
      rw [if_pos (by simp only [List.length_nil]; omega), la, if_pos (by omega), sum_eq (ha.app hb) lg lk, Option.bind_some, sum_eq ha (by omega) (by omega), Option.bind_some]
      rw [if_neg (show ¬ 36 ≤ l1.length by omega)] at hs
      rw [if_pos (by omega)]
      exact lv true
  · rw [if_neg c3]; exact out
end Go.Proofs.Ytpklekleehcglaa.Pure
