/- What any pattern of any format says, and the patterns of nothing, infinity and no number, are the reference's: for every format, pattern and sign. -/
import Derived.Test.YtcfmmkapefpjjaaPQx19
import Derived.Test.YtcfmmkapefpjjaaRN3
import Derived.Test.YtcfmmkapefpjjaaLive02
namespace Go.Proofs.Ytcfmmkapefpjjaa.Pure
set_option linter.all false
open Go.RowKit Go.Proofs.Ytcfmmkapefpjjaa.PQ Go.Proofs.YtcfmmkapefpjjaaW.PrintWords Go.Proofs.YtcfmmkapefpjjaaW.PrintLast Go.Proofs.YtcfmmkapefpjjaaW.PrintMore
open FT RS
theorem opens_bad {m x : Int} (h : ¬ Ok m x) (neg : Bool) : round_NaN.f m x = some 0 ∧ round_Inf.f m x neg = some 0 ∧ round_Zero.f m x neg = some 0 := by
  unfold round_NaN.f round_Inf.f round_Zero.f
  rw [check_bad h]
  exact ⟨rfl, rfl, rfl⟩
theorem RoundOpens (a0_0 : Int) (a0_1 : Int) (a1 : Int) (a2 : Bool) (_w0_0 : (Lit.int .i64 a0_0).wf = true) (_w0_1 : (Lit.int .i64 a0_1).wf = true) (w1 : (Lit.int .u64 a1).wf = true) : ∃ k, grottolaw02_RoundOpens.f k a0_0 a0_1 a1 a2 = some true := by
  obtain ⟨x, rfl, hx⟩ := wf_u64 w1
  refine ⟨80, ?_⟩
  have j1 : ∀ M X : Nat, 2 ≤ M → M ≤ 52 → 2 ≤ X → X ≤ 11 → grottolaw02_RoundOpens.j1 79 a2 true (M : Int) (X : Int) = some true := by
    intro M X hM hM' hX hX'
    rw [grottolaw02_RoundOpens.j1.eq_2, if_pos rfl]
    simp only [nan_eq hM hM' hX hX', rnan_eq hM hM' hX hX' (show 64 < 78 by omega), inf_eq hM hM' hX hX', rinf_eq hM hM' hX hX' (show 64 < 78 by omega), zero_eq hM hM' hX hX', rzero_eq hM hM' hX hX' (show 64 < 78 by omega), Option.bind_some, if_true, live02_k (show 10 ≤ 78 by omega)]
  unfold grottolaw02_RoundOpens.f
  by_cases hok : Ok a0_0 a0_1 ∧ (blen x : Int) ≤ 1 + a0_1 + a0_0
  · obtain ⟨hf, hb⟩ := hok
    obtain ⟨M, X, rfl, rfl, hM, hM', hX, hX'⟩ := hf.nat
    have hlt : x < 2 ^ (M + X) * 2 := by
      rw [← Nat.pow_succ]
      exact Nat.lt_of_lt_of_le (blen_lt x) (Nat.pow_le_pow_right (by omega) (by omega))
    have p1 : round_Open.f 80 (M : Int) (X : Int) (x : Int) = _ := open_ok hM hM' hX hX' 76 hlt
    have p2 := ropen_ok hM hM' hX hX' (k := 80) (by omega) hlt
    rw [p1, Option.bind_some, p2, Option.bind_some, if_neg (by simp)]
    simp only [grottolaw02_num.f, Option.bind_some]
    rw [if_pos trivial, check_ok hM hM' hX hX', Option.bind_some, rcheck_ok hM hM' hX hX', Option.bind_some, grottolaw02_RoundOpens.j0.eq_2, if_neg (by simp), if_pos rfl]
    exact j1 M X hM hM' hX hX'
  · have hb : ¬ Ok a0_0 a0_1 ∨ 1 + a0_1 + a0_0 < (blen x : Int) := by
      by_cases hf : Ok a0_0 a0_1
      · right; exact Int.not_le.1 fun h => hok ⟨hf, h⟩
      · left; exact hf
    have p1 : round_Open.f 80 a0_0 a0_1 (x : Int) = some (0, false, 0, 0, 1) := open_bad 79 hx hb
    have p2 : grottoref02_Open.f 80 a0_0 a0_1 (x : Int) = some (0, false, 0, 0, 1) := ropen_bad (by omega) hx hb
    rw [p1, Option.bind_some, p2, Option.bind_some, if_neg (by simp)]
    simp only [grottolaw02_num.f, Option.bind_some]
    rw [if_pos trivial]
    by_cases hf : Ok a0_0 a0_1
    · obtain ⟨M, X, rfl, rfl, hM, hM', hX, hX'⟩ := hf.nat
      rw [check_ok hM hM' hX hX', Option.bind_some, rcheck_ok hM hM' hX hX', Option.bind_some, grottolaw02_RoundOpens.j0.eq_2, if_neg (by simp), if_neg (by decide), rcheck_ok hM hM' hX hX', Option.bind_some]
      exact j1 M X hM hM' hX hX'
    · obtain ⟨h1, h2, h3⟩ := opens_bad hf a2
      rw [check_bad hf, Option.bind_some, rcheck_bad hf, Option.bind_some, grottolaw02_RoundOpens.j0.eq_2, if_neg (by simp), if_neg (by decide), rcheck_bad hf, Option.bind_some, grottolaw02_RoundOpens.j1.eq_2, if_neg (by simp), h1, Option.bind_some, if_pos rfl, h2, Option.bind_some, if_pos rfl, h3, Option.bind_some, if_pos rfl, live02_k (by omega)]
      rfl
end Go.Proofs.Ytcfmmkapefpjjaa.Pure
