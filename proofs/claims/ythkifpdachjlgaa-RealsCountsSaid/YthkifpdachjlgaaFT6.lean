import Derived.Test.YthkifpdachjlgaaFT5
namespace Go.Proofs.Ythkifpdachjlgaa.FT
set_option linter.all false
theorem dbl_exact {M M' n d D m : Nat} (hd : 0 < d) (h : n * 2 ^ D = m * d) (hm : Fits M' m) : raw M (val M' (raw M' (n * 2 ^ D) d)) (2 ^ D) = raw M n d := by
  have e1 : raw M' (n * 2 ^ D) d = raw M' m 1 := raw_congr hd (by omega) (by rw [h]; omega)
  rw [e1, val_raw_fits hm]
  exact raw_congr (two_pos D) hd h.symm
theorem half_mid {S r q j D : Nat} (hD : 1 ≤ D) (h : 2 * r = S * 2 ^ D) (hS : S = (2 * q + 1) * 2 ^ j) : r = (2 * q + 1) * 2 ^ (j + D - 1) := by
  obtain ⟨i, rfl⟩ : ∃ i, D = i + 1 := ⟨D - 1, by omega⟩
  have e : S * 2 ^ (i + 1) = 2 * ((2 * q + 1) * 2 ^ (j + (i + 1) - 1)) := by
    rw [hS, show j + (i + 1) - 1 = j + i by omega, Nat.pow_succ, Nat.pow_add]; ac_rfl
  omega
theorem from_mid {n d r S D : Nat} (h1 : n * 2 ^ D = r * d) (h2 : 2 * r = S * 2 ^ D) : 2 * n = S * d := by
  refine Nat.eq_of_mul_eq_mul_right (two_pos D) ?_
  have e1 : 2 * n * 2 ^ D = 2 * r * d := by rw [Nat.mul_assoc, h1, Nat.mul_assoc]
  rw [e1, h2]; ac_rfl
theorem dbl_quo {M M' a b x y D : Nat} (hM : 1 ≤ M) (hM' : 2 * M + 2 ≤ M') (hD : M + 2 ≤ D) (ha : a < 2 ^ (M + 1)) (hb : b < 2 ^ (M + 1)) (hb0 : 0 < b) :
    raw M (val M' (raw M' (a * 2 ^ x * 2 ^ D) (b * 2 ^ y))) (2 ^ D) = raw M (a * 2 ^ x) (b * 2 ^ y) := by
  have hd : 0 < b * 2 ^ y := Nat.mul_pos hb0 (two_pos y)
  refine dbl hM (by omega) hd (by omega) fun p hp => ?_
  obtain ⟨q, j, hq, hS, _⟩ := mid_form M p
  have hr := half_mid (by omega) hp hS
  obtain ⟨t, t1, t2, t3⟩ := near_raw (M := M') (n := a * 2 ^ x * 2 ^ D) hd
  refine from_mid ?_ hp
  rw [hr] at t1 t2 t3 ⊢
  have e : a * 2 ^ x * 2 ^ D = a * 2 ^ (x + D) := by rw [Nat.pow_add, Nat.mul_assoc]
  rw [e] at t1 t2 ⊢
  exact mid_quo (M' := M') hM' (by omega) ha hb hb0 hq t1 t2 t3
theorem dbl_sum {M M' a b x y D N : Nat} (hM : 1 ≤ M) (hM' : 2 * M + 2 ≤ M') (hD : 1 ≤ D) (ha : a < 2 ^ (M + 1)) (hb : b < 2 ^ (M + 1)) (hN : N = a * 2 ^ x + b * 2 ^ y ∨ N + b * 2 ^ y = a * 2 ^ x) :
    raw M (val M' (raw M' (N * 2 ^ D) 1)) (2 ^ D) = raw M N 1 := by
  refine dbl hM (by omega) (by omega) hD fun p hp => ?_
  obtain ⟨q, j, hq, hS, hj⟩ := mid_form M p
  have hr := half_mid hD hp hS
  obtain ⟨t, t1, t2, t3⟩ := near_raw (M := M') (n := N * 2 ^ D) (d := 1) (by omega)
  refine from_mid ?_ hp
  rw [hr] at t1 t2 t3 ⊢
  rw [Nat.mul_one, Nat.one_mul] at t1 t2
  rw [Nat.mul_one]
  have e1 : ∀ c z, c * 2 ^ z * 2 ^ D = c * 2 ^ (z + D) := by intro c z; rw [Nat.pow_add, Nat.mul_assoc]
  have hN' : N * 2 ^ D = a * 2 ^ (x + D) + b * 2 ^ (y + D) ∨ N * 2 ^ D + b * 2 ^ (y + D) = a * 2 ^ (x + D) := by
    rcases hN with h | h
    · left; rw [h, Nat.add_mul, e1, e1]
    · right; rw [← e1, ← e1, ← Nat.add_mul, h]
  refine mid_sum (M' := M') (D := D) hM' hM ha hb (by omega) (by omega) hq ?_ hN' t1 t2 t3
  rcases hj with h | h
  · left; omega
  · exact Or.inr h
theorem dbl_root {M M' a e r st c D : Nat} (hM : 1 ≤ M) (hM' : 2 * M + 4 ≤ M') (hD : M + 5 ≤ D) (hc : D + 1 ≤ c) (ha : a < 2 ^ (M + 1)) (hR : Root (a * 2 ^ e) r st) :
    raw M (val M' (raw M' ((2 * r + st) * 2 ^ D) (2 * 2 ^ c))) (2 ^ D) = raw M (2 * r + st) (2 * 2 ^ c) := by
  have hd : 0 < 2 * 2 ^ c := Nat.mul_pos (by omega) (two_pos c)
  refine dbl hM (by omega) hd (by omega) fun p hp => ?_
  obtain ⟨q, j, hq, hS, _⟩ := mid_form M p
  have hr := half_mid (by omega) hp hS
  obtain ⟨t, t1, t2, t3⟩ := near_raw (M := M') (n := (2 * r + st) * 2 ^ D) hd
  refine from_mid ?_ hp
  rw [hr] at t1 t2 t3 ⊢
  obtain ⟨w, hw⟩ : ∃ w, c = D + w := ⟨c - D, by omega⟩
  have hDp := two_pos D
  have hi4 : M + 4 ≤ j + D - 1 := by omega
  generalize j + D - 1 = i at *
  have hst : st ≤ 1 := by rw [hR.st]; split <;> omega
  have hu : a * 2 ^ e ≤ (r + st) * (r + st) := by
    have h := hR.st
    by_cases he : r * r = a * 2 ^ e
    · rw [if_pos he] at h; subst h; rw [Nat.add_zero, he]; exact Nat.le_refl _
    · rw [if_neg he] at h; subst h; exact Nat.le_of_lt hR.hi
  have k1 : r + (r + st) ≤ 2 * ((2 * q + 1) * 2 ^ (i + w)) + 2 ^ (w + t) := by
    refine Nat.le_of_mul_le_mul_right (c := 2 * 2 ^ D) ?_ (by omega)
    have e1 : (r + (r + st)) * (2 * 2 ^ D) = 2 * ((2 * r + st) * 2 ^ D) := by
      have : r + (r + st) = 2 * r + st := by omega
      rw [this]; ac_rfl
    have e2 : (2 * ((2 * q + 1) * 2 ^ (i + w)) + 2 ^ (w + t)) * (2 * 2 ^ D) = 2 * ((2 * q + 1) * 2 ^ i * (2 * 2 ^ c)) + 2 * 2 ^ c * 2 ^ t := by
      rw [hw, Nat.add_mul, Nat.pow_add 2 i, Nat.pow_add 2 w, Nat.pow_add 2 D]
      congr 1 <;> ac_rfl
    rw [e1, e2]; exact t1
  have k2 : 2 * ((2 * q + 1) * 2 ^ (i + w)) ≤ r + (r + st) + 2 ^ (w + t) := by
    refine Nat.le_of_mul_le_mul_right (c := 2 * 2 ^ D) ?_ (by omega)
    have e1 : (r + (r + st) + 2 ^ (w + t)) * (2 * 2 ^ D) = 2 * ((2 * r + st) * 2 ^ D) + 2 * 2 ^ c * 2 ^ t := by
      have : r + (r + st) = 2 * r + st := by omega
      rw [this, hw, Nat.add_mul, Nat.pow_add 2 w, Nat.pow_add 2 D]
      congr 1 <;> ac_rfl
    have e2 : 2 * ((2 * q + 1) * 2 ^ (i + w)) * (2 * 2 ^ D) = 2 * ((2 * q + 1) * 2 ^ i * (2 * 2 ^ c)) := by
      rw [hw, Nat.pow_add 2 i, Nat.pow_add 2 D]; ac_rfl
    rw [e1, e2]; exact t2
  have hV := mid_root (M' := M') (u := r + st) hM' hi4 (by omega) ha hq hR.lo hu k1 k2 (by omega) (by omega) t3
  have hR2 : Root (a * 2 ^ e) ((2 * q + 1) * 2 ^ (i + w)) 0 := by
    refine ⟨Nat.le_of_eq hV.symm, ?_, by rw [if_pos hV.symm]⟩
    rw [hV]; exact Nat.mul_lt_mul'' (Nat.lt_succ_self _) (Nat.lt_succ_self _)
  obtain ⟨e1, e2⟩ := hR.unique hR2
  rw [e1, e2, hw, Nat.pow_add 2 i, Nat.pow_add 2 D, Nat.add_zero]; ac_rfl
/-- what is rounded in a wider format and then in this one, with its greatest ones -/
theorem pat_conv {M M' I I' n d D : Nat} (hd : 0 < d) (H : raw M (val M' (raw M' (n * 2 ^ D) d)) (2 ^ D) = raw M n d) {P : Nat} (hP : P < I') (hv : val M' P = val M I * 2 ^ D) :
    (pat M' I' (n * 2 ^ D) d = I' → pat M I n d = I) ∧ (pat M' I' (n * 2 ^ D) d ≠ I' → pat M I (val M' (pat M' I' (n * 2 ^ D) d)) (2 ^ D) = pat M I n d) := by
  constructor
  · intro h
    have hr : I' ≤ raw M' (n * 2 ^ D) d := by unfold pat at h; omega
    have hn : val M I * d ≤ n := by
      refine Nat.le_of_not_lt fun hlt => ?_
      have h1 : n * 2 ^ D ≤ val M' P * d := by
        rw [hv]
        have := Nat.mul_le_mul_right (2 ^ D) (Nat.le_of_lt hlt)
        have e : val M I * 2 ^ D * d = val M I * d * 2 ^ D := by ac_rfl
        rw [e]; exact this
      have := raw_le_of hd h1
      omega
    have := le_raw_of hd hn
    unfold pat; omega
  · intro h
    have hr : pat M' I' (n * 2 ^ D) d = raw M' (n * 2 ^ D) d := by unfold pat at h ⊢; omega
    rw [hr]
    unfold pat
    rw [H]
end Go.Proofs.Ythkifpdachjlgaa.FT
