import Derived.Test.YthkifpdachjlgaaPT1
import Derived.Test.YthkifpdachjlgaaSD
namespace Go.Proofs.Ythkifpdachjlgaa.RS
set_option linter.all false
open Go.RowKit Go.Proofs.Ythkifpdachjlgaa.PQ Go.Proofs.YthkifpdachjlgaaW.PrintWords Go.Proofs.YthkifpdachjlgaaW.PrintLast Go.Proofs.YthkifpdachjlgaaW.PrintMore
open FT
section
variable {M X : Nat} (hM : 2 ≤ M) (hM' : M ≤ 52) (hX : 2 ≤ X) (hX' : X ≤ 11)
include hM hM' hX hX'
theorem pt_mul (a b : Nat) : Pt M X (mulS M X a b) := by
  have hn := pt_nan hM hM' hX hX'
  unfold mulS
  repeat' split
  all_goals first | exact hn | exact pt_inf _ | exact pt_npat _ _ _ _
theorem pt_div (a b : Nat) : Pt M X (divS M X a b) := by
  have hn := pt_nan hM hM' hX hX'
  unfold divS
  repeat' split
  all_goals first | exact hn | exact pt_inf _ | exact pt_sgn _ | exact pt_npat _ _ _ _
theorem pt_root {a : Nat} (ha : Pt M X a) : Pt M X (sqrtS M X a) := by
  have hn := pt_nan hM hM' hX hX'
  have h0 := pt_npat (M := M) (X := X) false
  have hs0 : sgn M X false = 0 := rfl
  simp only [hs0, Nat.zero_add] at h0
  unfold sqrtS
  repeat' split
  all_goals first | exact ha | exact hn | exact h0 _ _ _
end
end Go.Proofs.Ythkifpdachjlgaa.RS
