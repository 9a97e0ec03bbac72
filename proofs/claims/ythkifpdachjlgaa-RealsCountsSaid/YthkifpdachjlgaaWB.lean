/- A pattern in a wider format, back in its own. -/
import Derived.Test.YthkifpdachjlgaaWD
import Derived.Test.YthkifpdachjlgaaPT
namespace Go.Proofs.Ythkifpdachjlgaa.RS
set_option linter.all false
open Go.RowKit Go.Proofs.Ythkifpdachjlgaa.PQ Go.Proofs.YthkifpdachjlgaaW.PrintWords Go.Proofs.YthkifpdachjlgaaW.PrintLast Go.Proofs.YthkifpdachjlgaaW.PrintMore
open FT
theorem pt_conv {M X M' X' : Nat} (hM : 2 ≤ M') (hM' : M' ≤ 52) (hX : 2 ≤ X') (hX' : X' ≤ 11) (a : Nat) : Pt M' X' (convS M X M' X' a) := by
  have hn := pt_nan hM hM' hX hX'
  unfold convS
  repeat' split
  all_goals first | exact hn | exact pt_inf _ | exact pt_npat _ _ _ _
section
variable {M X M' X' : Nat} (hM : 2 ≤ M) (hX : 2 ≤ X) (gM : M' ≤ 52) (gX : X' ≤ 11) (w1 : 2 * M + 4 ≤ M') (w2 : X + 2 ≤ X')
include hM hX gM gX w1 w2
theorem wide_back {a : Nat} (ha : Pt M X a) (h4 : kd M X a ≠ 4) : convS M' X' M X (convS M X M' X' a) = a := by
  obtain ⟨pa, ka, sa, va⟩ := wide_conv hM hX gM gX w1 w2 ha
  have hsp := pt_split ha
  rcases kd_cases M X a with h | h | h | h
  · have h0 := (kd1 (M := M) (X := X) hM (by omega) hX (by omega)).1 h
    have k1 : kd M' X' (convS M X M' X' a) = 1 := by rw [ka, h]
    have h0' := (kind_iff (inf_pos (M := M') (X := X') (by omega) gM (by omega) gX)).1.1 k1
    have e : convS M X M' X' a = sgn M' X' (sg M X a) := by rw [pt_split pa, sa h4, h0', Nat.add_zero]
    rw [e, back_zero hM hX (by omega) (by omega) gM gX]
    rw [h0, Nat.add_zero] at hsp
    exact hsp.symm
  · obtain ⟨g1, _⟩ := gap_eq hM hX gM gX w1 w2
    have rat := npat_rat (M := M) (X := X) (a := av M X a) (b := 1) (x := gap M X M' X') (y := 0) (s := least M' X' - least M X) (by omega)
    have e : least M' X' - least M X + (gap M X M' X' : Int) - ((0 : Nat) : Int) = 0 := by omega
    rw [Nat.pow_zero, Nat.mul_one, e] at rat
    have hself : npat M X (av M X a) 1 0 = mg M X a := by
      have h3 := (kd2 (M := M) (X := X) hM (by omega) hX (by omega)).1 h
      unfold npat av
      have z : (0 : Int).toNat = 0 := rfl
      have z' : (-(0 : Int)).toNat = 0 := rfl
      rw [z, z', Nat.pow_zero, Nat.mul_one, Nat.mul_one, pat_fits (by omega)]
    have hc : convS M' X' M X (convS M X M' X' a) = sgn M X (sg M X a) + npat M X (av M X a) 1 0 := by
      rw [← rat]
      unfold convS at va sa ka ⊢
      rw [if_neg (by omega), if_neg (by omega), sa h4, va (Or.inr h)]
    rw [hc, hself]; exact hsp.symm
  · have h0 := (kd3 (M := M) (X := X) hM (by omega) hX (by omega)).1 h
    have e : convS M X M' X' a = sgn M' X' (sg M X a) + inf M' X' := by unfold convS; rw [if_neg h4, if_pos h]
    rw [e, back_inf gM gX (by omega) (by omega), ← h0]; exact hsp.symm
  · exact absurd h h4
theorem wide_back_nan {a : Nat} (h4 : kd M X a = 4) : convS M' X' M X (convS M X M' X' a) = nanp M X := by
  have e : convS M X M' X' a = nanp M' X' := by unfold convS; rw [if_pos h4]
  rw [e, back_nan gM gX (by omega) (by omega)]
end
end Go.Proofs.Ythkifpdachjlgaa.RS
