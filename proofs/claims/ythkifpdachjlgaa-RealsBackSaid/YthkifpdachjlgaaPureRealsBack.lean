/- A single that is made a double is the single again: for every single. -/
import Derived.Test.YthkifpdachjlgaaPQx37
import Derived.Test.YthkifpdachjlgaaR4
import Derived.Test.YthkifpdachjlgaaWB
import Derived.Test.YthkifpdachjlgaaLive04
namespace Go.Proofs.Ythkifpdachjlgaa.Pure
set_option linter.all false
open Go.RowKit Go.Proofs.Ythkifpdachjlgaa.PQ Go.Proofs.YthkifpdachjlgaaW.PrintWords Go.Proofs.YthkifpdachjlgaaW.PrintLast Go.Proofs.YthkifpdachjlgaaW.PrintMore
open FT RS
theorem RealsBack (a0 : Int) (w0 : (Lit.int .u32 a0).wf = true) : ∃ k, grottolaw04_RealsBack.f k a0 = some true := by
  obtain ⟨x, rfl, hx⟩ := wf_u32 w0
  clear w0
  refine ⟨200, ?_⟩
  have px := pt_s.2 hx
  have hy : convS 23 8 52 11 x < 18446744073709551616 := pt_d.1 (pt_conv (by omega) (by omega) (by omega) (by omega) x)
  have hinf : inf 23 8 = 2139095040 := by decide
  have hmg : mg 23 8 x = x % 2147483648 := rfl
  unfold grottolaw04_RealsBack.f
  rw [widen_eq (by omega) hx, Option.bind_some, narrow_eq (by omega) hy, Option.bind_some, snan_eq (by omega) hx, Option.bind_some, live04_k (by omega), Option.bind_some]
  have k4 := kd4 (M := 23) (X := 8) (x := x) (by omega) (by omega) (by omega) (by omega)
  rw [hinf, hmg] at k4
  by_cases h : kd 23 8 x = 4
  · have h2 := k4.1 h
    have hn : nanp 23 8 = 2143289344 := by decide
    rw [if_pos (decide_eq_true h), wide_back_nan (M := 23) (X := 8) (M' := 52) (X' := 11) (by omega) (by omega) (by omega) (by omega) (by omega) (by omega) h, hn, if_pos (by rfl), if_pos (by omega)]
  · have h2 : ¬ 2139095040 < x % 2147483648 := fun h3 => h (k4.2 h3)
    rw [if_neg (by simp [h]), wide_back (M := 23) (X := 8) (M' := 52) (X' := 11) (by omega) (by omega) (by omega) (by omega) (by omega) (by omega) px h, if_pos rfl, if_pos (by omega)]
end Go.Proofs.Ythkifpdachjlgaa.Pure
