/- What a division leaves, and whole numbers, in a wider format. -/
import Derived.Test.YthkifpdachjlgaaWB
import Derived.Test.YthkifpdachjlgaaSO
import Derived.Test.YthkifpdachjlgaaSW
namespace Go.Proofs.Ythkifpdachjlgaa.RS
set_option linter.all false
open Go.RowKit Go.Proofs.Ythkifpdachjlgaa.PQ Go.Proofs.YthkifpdachjlgaaW.PrintWords Go.Proofs.YthkifpdachjlgaaW.PrintLast Go.Proofs.YthkifpdachjlgaaW.PrintMore
open FT
theorem rem_fits {M ma mb s t : Nat} (ha : ma < 2 ^ (M + 1)) (hb : mb < 2 ^ (M + 1)) (hb0 : 0 < mb) : Fits M (ma * 2 ^ s % (mb * 2 ^ t)) := by
  by_cases h : t ≤ s
  · obtain ⟨d, rfl⟩ : ∃ d, s = t + d := ⟨s - t, by omega⟩
    have e : ma * 2 ^ (t + d) = ma * 2 ^ d * 2 ^ t := by rw [Nat.pow_add]; ac_rfl
    rw [e, Nat.mul_mod_mul_right]
    have := Nat.mod_lt (ma * 2 ^ d) hb0
    exact ⟨ma * 2 ^ d % mb, t, rfl, by omega⟩
  · obtain ⟨d, rfl⟩ : ∃ d, t = s + d := ⟨t - s, by omega⟩
    have e : mb * 2 ^ (s + d) = mb * 2 ^ d * 2 ^ s := by rw [Nat.pow_add]; ac_rfl
    rw [e, Nat.mul_mod_mul_right]
    have := Nat.mod_le ma (mb * 2 ^ d)
    exact ⟨ma % (mb * 2 ^ d), s, rfl, by omega⟩
theorem step_fits {M m s u c : Nat} (hm : m < 2 ^ (M + 1)) (hc : c ≤ 1) (h0 : m * 2 ^ s % 2 ^ u = 0 → c = 0) : Fits M ((m * 2 ^ s / 2 ^ u + c) * 2 ^ u) := by
  have hup := two_pos u
  by_cases h : u ≤ s
  · obtain ⟨d, rfl⟩ : ∃ d, s = u + d := ⟨s - u, by omega⟩
    have e : m * 2 ^ (u + d) = m * 2 ^ d * 2 ^ u := by rw [Nat.pow_add]; ac_rfl
    rw [e] at h0 ⊢
    rw [h0 (Nat.mul_mod_left _ _), Nat.add_zero, Nat.mul_div_cancel _ hup]
    exact ⟨m, u + d, e.symm, by omega⟩
  · obtain ⟨d, rfl⟩ : ∃ d, u = d + 1 + s := ⟨u - s - 1, by omega⟩
    obtain ⟨d1, _⟩ := scale_div (m := m) (s := s) (k := d + 1)
    rw [d1]
    refine ⟨m / 2 ^ (d + 1) + c, d + 1 + s, rfl, ?_⟩
    have h2 : m / 2 ^ (d + 1) ≤ m / 2 := by
      rw [Nat.pow_succ, Nat.mul_comm, ← Nat.div_div_eq_div_mul]
      exact Nat.div_le_self _ _
    have h3 : 2 ^ (M + 1) = 2 * 2 ^ M := by rw [Nat.pow_succ]; omega
    have := two_pos M
    omega
section
variable {M X : Nat} (hM : 2 ≤ M) (hM' : M ≤ 52) (hX : 2 ≤ X) (hX' : X ≤ 11)
include hM hM' hX hX'
theorem pt_modR {a : Nat} (ha : Pt M X a) (b : Nat) : Pt M X (modR M X a b) := by
  have hn := pt_nan hM hM' hX hX'
  unfold modR
  repeat' split
  all_goals first | exact hn | exact ha | exact pt_pat _ _ _
theorem pt_modQ (a b : Nat) : Pt M X (modQ M X a b) := by
  have hn := pt_nan hM hM' hX hX'
  unfold modQ
  repeat' split
  all_goals first | exact hn | exact pt_sgn _ | exact pt_npat _ _ _ _
theorem pt_step {a : Nat} (ha : Pt M X a) (up : Bool) : Pt M X (stepS M X a up) := by
  have hn := pt_nan hM hM' hX hX'
  unfold stepS
  split
  · exact hn
  · split
    · exact pt_npat _ _ _ _
    · exact ha
end
section
variable {M X M' X' : Nat} (hM : 2 ≤ M) (hX : 2 ≤ X) (gM : M' ≤ 52) (gX : X' ≤ 11) (w1 : 2 * M + 4 ≤ M') (w2 : X + 2 ≤ X')
include hM hX gM gX w1 w2
theorem back_exact (neg : Bool) {n : Nat} (h : Fits M n) : convS M' X' M X (sgn M' X' neg + pat M' (inf M' X') (n * 2 ^ gap M X M' X') 1) = sgn M X neg + pat M (inf M X) n 1 :=
  back_fin hM hX gM gX w1 w2 neg (by omega) (dbl_exact (m := n * 2 ^ gap M X M' X') (by omega) (by omega) (fits_mul (fits_mono (by omega) h)))
theorem wide_mod {a b : Nat} (ha : Pt M X a) (hb : Pt M X b) : convS M' X' M X (modR M' X' (convS M X M' X' a) (convS M X M' X' b)) = modR M X a b := by
  obtain ⟨_, ka, sa, va⟩ := wide_conv hM hX gM gX w1 w2 ha
  obtain ⟨_, kb, sb, vb⟩ := wide_conv hM hX gM gX w1 w2 hb
  unfold modR
  rw [ka, kb]
  by_cases h1 : kd M X a = 4 ∨ kd M X b = 4 ∨ kd M X a = 3 ∨ kd M X b = 1
  · rw [if_pos h1, if_pos h1, back_nan gM gX (by omega) (by omega)]
  · rw [if_neg h1, if_neg h1]
    have h4 : kd M X a ≠ 4 := fun h => h1 (Or.inl h)
    by_cases h2 : kd M X a = 1 ∨ kd M X b = 3
    · rw [if_pos h2, if_pos h2, wide_back hM hX gM gX w1 w2 ha h4]
    · rw [if_neg h2, if_neg h2]
      have ca : kd M X a = 2 := by have := kd_cases M X a; omega
      have cb : kd M X b = 2 := by have := kd_cases M X b; omega
      rw [va (Or.inr ca), vb (Or.inr cb), sa h4, Nat.mul_mod_mul_right]
      have fb := fin_form (M := M) (X := X) hM (by omega) hX (by omega) cb
      refine back_exact hM hX gM gX w1 w2 _ ?_
      exact rem_fits (man_lt M (mg M X a)) (man_lt M (mg M X b)) fb.1
theorem wide_step {a : Nat} (ha : Pt M X a) (up : Bool) : convS M' X' M X (stepS M' X' (convS M X M' X' a) up) = stepS M X a up := by
  obtain ⟨_, ka, sa, va⟩ := wide_conv hM hX gM gX w1 w2 ha
  obtain ⟨g1, g2, g3, g4, _⟩ := gap_eq hM hX gM gX w1 w2
  obtain ⟨l1, l2, l3⟩ := least_bounds (M := M) (X := X) hM (by omega) hX (by omega)
  unfold stepS
  rw [ka]
  by_cases h4 : kd M X a = 4
  · rw [if_pos h4, if_pos h4, back_nan gM gX (by omega) (by omega)]
  · rw [if_neg h4, if_neg h4]
    by_cases h2 : kd M X a = 2
    · rw [if_pos h2, if_pos h2, va (Or.inr h2), sa h4]
      have hu : unit M' X' = unit M X * 2 ^ gap M X M' X' := by
        unfold unit; rw [← Nat.pow_add]; congr 1; omega
      have hgp := two_pos (gap M X M' X')
      have hz : (av M X a % unit M X * 2 ^ gap M X M' X' ≠ 0 ∧ sg M X a ≠ up) ↔ (av M X a % unit M X ≠ 0 ∧ sg M X a ≠ up) := by
        constructor
        · intro h; exact ⟨fun h2 => h.1 (by rw [h2, Nat.zero_mul]), h.2⟩
        · intro h; exact ⟨fun h2 => (Nat.mul_eq_zero.1 h2).elim h.1 (by omega), h.2⟩
      rw [npat_whole (M := M') (X := X') (by omega) gM (by omega) gX, npat_whole (M := M) (X := X) hM (by omega) hX (by omega), hu, Nat.mul_div_mul_right _ _ hgp, Nat.mul_mod_mul_right, ← Nat.mul_assoc]
      simp only [hz]
      refine back_exact hM hX gM gX w1 w2 _ ?_
      refine step_fits (man_lt M (mg M X a)) ?_ ?_
      · split <;> omega
      · intro h
        have h' : av M X a % unit M X = 0 := h
        rw [if_neg (fun h3 => h3.1 h')]
    · rw [if_neg h2, if_neg h2, wide_back hM hX gM gX w1 w2 ha h4]
end
end Go.Proofs.Ythkifpdachjlgaa.RS
