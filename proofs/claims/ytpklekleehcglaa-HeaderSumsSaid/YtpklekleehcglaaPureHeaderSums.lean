/- The sum of any bytes is the page's: the words in order, without the one at 32. -/
import Derived.Test.YtpklekleehcglaaPQx12
import Derived.Test.YtpklekleehcglaaHP
namespace Go.Proofs.Ytpklekleehcglaa.Pure
set_option linter.all false
open Go.RowKit Go.Proofs.Ytpklekleehcglaa.PQ Go.Proofs.YtpklekleehcglaaW.PrintWords Go.Proofs.YtpklekleehcglaaW.PrintLast
theorem HeaderSums : grottolaw07_HeaderSums.Pure := by
  intro l0 _ _ h3
  have hb : Byt l0 := fun x hx => wf_u8 (h3 x hx)
  refine ⟨100000, ?_⟩
  unfold grottolaw07_HeaderSums.f
  by_cases c : (l0.length : Int) > 65536
  · rw [if_pos c, live_k (by omega)]; rfl
  · rw [if_neg c, sum_eq hb (by omega) (by omega), Option.bind_some, rsum_eq hb (by omega) (by omega), Option.bind_some, if_pos rfl, live_k (by omega)]; rfl
end Go.Proofs.Ytpklekleehcglaa.Pure
