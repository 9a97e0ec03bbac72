import Derived.Test.YtmmbgbchimangaaFT5
namespace Go.Proofs.Ytmmbgbchimangaa.FT
set_option linter.all false
/-- the square of a number of M + 1 bits, rounded to M + 1 bits: its root is nearer to the number than to a middle -/
theorem square_near {M m c q : Nat} (hM : 2 ≤ M) (h1 : 2 ^ M ≤ m) (h2 : m < 2 ^ (M + 1)) (hc : (c = M ∧ m * m < 2 ^ (2 * M + 1)) ∨ (c = M + 1 ∧ 2 ^ (2 * M + 1) ≤ m * m)) (hq : Near (m * m) (2 ^ c) q) (hne : m ≠ 2 ^ M) :
    (2 * m - 1) * (2 * m - 1) < 4 * (q * 2 ^ c) ∧ 4 * (q * 2 ^ c) < (2 * m + 1) * (2 * m + 1) := by
  have hMp : 4 ≤ 2 ^ M := Nat.pow_le_pow_right (n := 2) (by omega) hM
  have hcb : 2 * 2 ^ c + 2 ≤ 4 * m := by
    rcases hc with ⟨rfl, _⟩ | ⟨rfl, _⟩
    · omega
    · rw [Nat.pow_succ]; omega
  obtain ⟨lo, hi, _, _⟩ := hq
  obtain ⟨k, rfl⟩ : ∃ k, m = k + 1 := ⟨m - 1, by omega⟩
  have e1 : (2 * (k + 1) - 1) * (2 * (k + 1) - 1) + 4 * (k + 1) = 4 * ((k + 1) * (k + 1)) + 1 := by
    have : 2 * (k + 1) - 1 = 2 * k + 1 := by omega
    rw [this]
    have a1 : (2 * k + 1) * (2 * k + 1) = 4 * (k * k) + 4 * k + 1 := by rw [Nat.add_mul, Nat.mul_add, Nat.one_mul, Nat.mul_mul_mul_comm]; omega
    have a2 : (k + 1) * (k + 1) = k * k + 2 * k + 1 := by rw [Nat.add_mul, Nat.mul_add]; omega
    omega
  have e2 : (2 * (k + 1) + 1) * (2 * (k + 1) + 1) = 4 * ((k + 1) * (k + 1)) + 4 * (k + 1) + 1 := by
    rw [Nat.add_mul (2 * (k + 1)), Nat.mul_add (2 * (k + 1)), Nat.one_mul, Nat.mul_mul_mul_comm]; omega
  omega
theorem square_root {M m c q k s r st : Nat} (hM : 2 ≤ M) (h1 : 2 ^ M ≤ m) (h2 : m < 2 ^ (M + 1)) (hc : (c = M ∧ m * m < 2 ^ (2 * M + 1)) ∨ (c = M + 1 ∧ 2 ^ (2 * M + 1) ≤ m * m)) (hq : q = rne (m * m) (2 ^ c))
    (hk : 1 ≤ k) (hR : Root (q * 2 ^ c * 4 ^ k) r st) : raw M ((2 * r + st) * 2 ^ s) (2 * 2 ^ k) = s * 2 ^ M + m := by
  have hv : val M (s * 2 ^ M + m) = m * 2 ^ s := val_at (by omega) (Or.inr h1)
  have hkp := two_pos k
  have hsp := two_pos s
  have hd : 0 < 2 * 2 ^ k := by omega
  by_cases hne : m = 2 ^ M
  · have hcM : c = M := by
      rcases hc with ⟨h, _⟩ | ⟨_, h⟩
      · exact h
      · rw [hne, ← Nat.pow_add] at h
        have := (Nat.pow_le_pow_iff_right (a := 2) (by omega)).1 h
        omega
    have hqm : q = m := by
      rw [hq, hcM, hne]; exact rne_whole (two_pos M)
    have hW : q * 2 ^ c * 4 ^ k = m * 2 ^ k * (m * 2 ^ k) := by rw [sqp, hqm, hcM, ← hne]
    have hR2 : Root (q * 2 ^ c * 4 ^ k) (m * 2 ^ k) 0 := by
      refine ⟨Nat.le_of_eq hW.symm, ?_, by rw [if_pos hW.symm]⟩
      rw [hW]; exact Nat.mul_lt_mul'' (Nat.lt_succ_self _) (Nat.lt_succ_self _)
    obtain ⟨e1, e2⟩ := hR.unique hR2
    rw [e1, e2]
    have : raw M ((2 * (m * 2 ^ k) + 0) * 2 ^ s) (2 * 2 ^ k) = raw M (m * 2 ^ s) 1 := raw_congr hd (by omega) (by rw [Nat.add_zero]; ac_rfl)
    rw [this, ← hv, raw_val]
  · obtain ⟨b1, b2⟩ := square_near (q := q) hM h1 h2 hc (by rw [hq]; exact rne_near (two_pos c)) hne
    have hst : st ≤ 1 := by rw [hR.st]; split <;> omega
    have hu : q * 2 ^ c * 4 ^ k ≤ (r + st) * (r + st) := by
      have h := hR.st
      by_cases he : r * r = q * 2 ^ c * 4 ^ k
      · rw [if_pos he] at h; subst h; rw [Nat.add_zero, he]; exact Nat.le_refl _
      · rw [if_neg he] at h; subst h; exact Nat.le_of_lt hR.hi
    have h4 : 0 < 4 ^ k := Nat.pow_pos (by omega)
    have c1 : (2 * m - 1) * 2 ^ k < 2 * (r + st) := by
      refine sq_lt ?_
      rw [sqp]
      have a1 := Nat.mul_lt_mul_of_pos_right b1 h4
      have a2 : 2 * (r + st) * (2 * (r + st)) = 4 * ((r + st) * (r + st)) := by rw [Nat.mul_mul_mul_comm]
      rw [a2]
      rw [Nat.mul_assoc 4] at a1
      omega
    have c2 : 2 * r < (2 * m + 1) * 2 ^ k := by
      refine sq_lt ?_
      rw [sqp]
      have a1 := Nat.mul_lt_mul_of_pos_right b2 h4
      have a2 : 2 * r * (2 * r) = 4 * (r * r) := by rw [Nat.mul_mul_mul_comm]
      rw [a2]
      have := hR.lo
      rw [Nat.mul_assoc 4] at a1
      omega
    obtain ⟨i, rfl⟩ : ∃ i, k = i + 1 := ⟨k - 1, by omega⟩
    have ev : ∀ z, z * 2 ^ (i + 1) = 2 * (z * 2 ^ i) := by intro z; rw [Nat.pow_succ]; ac_rfl
    have d1 : (2 * m - 1) * 2 ^ (i + 1) < 2 * r + st := by rw [ev] at c1 ⊢; omega
    have d2 : 2 * r + st < (2 * m + 1) * 2 ^ (i + 1) := by rw [ev] at c2 ⊢; omega
    have f1 := Nat.mul_lt_mul_of_pos_right d1 hsp
    have f2 := Nat.mul_lt_mul_of_pos_right d2 hsp
    have v1 : val M (s * 2 ^ M + m + 1) = (m + 1) * 2 ^ s := by rw [Nat.add_assoc]; exact val_at (by omega) (Or.inr (by omega))
    have v2 : val M (s * 2 ^ M + (m - 1)) = (m - 1) * 2 ^ s := val_at (by omega) (Or.inr (by omega))
    have g1 : (m * 2 ^ s + (m + 1) * 2 ^ s) * (2 * 2 ^ (i + 1)) = 2 * ((2 * m + 1) * 2 ^ (i + 1) * 2 ^ s) := by
      rw [← Nat.add_mul]
      have : m + (m + 1) = 2 * m + 1 := by omega
      rw [this]; ac_rfl
    have g2 : ((m - 1) * 2 ^ s + m * 2 ^ s) * (2 * 2 ^ (i + 1)) = 2 * ((2 * m - 1) * 2 ^ (i + 1) * 2 ^ s) := by
      rw [← Nat.add_mul]
      have : m - 1 + m = 2 * m - 1 := by omega
      rw [this]; ac_rfl
    refine raw_unique (by omega) hd ?_ ?_ ?_
    · rw [hv, v1, g1]; omega
    · rw [hv, v1, g1]; omega
    · intro p hp
      have : p = s * 2 ^ M + (m - 1) := by omega
      rw [this, v2, hv, g2]
      exact ⟨by omega, fun h => by omega⟩
/-- the rounded square itself -/
theorem square_raw {M m x y : Nat} (h1 : 2 ^ M ≤ m) (h2 : m < 2 ^ (M + 1)) (hy : y ≤ M + x) :
    ∃ c, ((c = M ∧ m * m < 2 ^ (2 * M + 1)) ∨ (c = M + 1 ∧ 2 ^ (2 * M + 1) ≤ m * m)) ∧ y ≤ c + x ∧ val M (raw M (m * m * 2 ^ x) (2 ^ y)) = rne (m * m) (2 ^ c) * 2 ^ (c + x - y) := by
  have hlo : 2 ^ (2 * M) ≤ m * m := by
    have := Nat.mul_le_mul h1 h1
    rwa [← Nat.pow_add, ← Nat.two_mul] at this
  have hhi : m * m < 2 ^ (2 * M + 2) := by
    have := Nat.mul_lt_mul'' h2 h2
    rwa [← Nat.pow_add, show M + 1 + (M + 1) = 2 * M + 2 by omega] at this
  have key : ∀ c, M ≤ c → 2 ^ (M + c) ≤ m * m → m * m < 2 ^ (M + c + 1) → val M (raw M (m * m * 2 ^ x) (2 ^ y)) = rne (m * m) (2 ^ c) * 2 ^ (c + x - y) := by
    intro c hc k1 k2
    have hs : shf M (m * m * 2 ^ x) (2 ^ y) = c + x - y := by
      refine shf_eq (two_pos y) ?_ (Or.inr ?_)
      · rw [← Nat.pow_add, show M + 1 + (c + x - y) + y = M + c + 1 + x by omega, Nat.pow_add]
        exact Nat.mul_lt_mul_of_pos_right k2 (two_pos x)
      · rw [← Nat.pow_add, show M + (c + x - y) + y = M + c + x by omega, Nat.pow_add]
        exact Nat.mul_le_mul_right _ k1
    rw [val_raw (two_pos y), hs]
    congr 1
    refine rne_congr (Nat.mul_pos (two_pos y) (two_pos _)) (two_pos c) ?_
    rw [← Nat.pow_add, show y + (c + x - y) = c + x by omega, Nat.pow_add]; ac_rfl
  rcases Nat.lt_or_ge (m * m) (2 ^ (2 * M + 1)) with h | h
  · exact ⟨M, Or.inl ⟨rfl, h⟩, hy, key M (Nat.le_refl _) (by rw [← Nat.two_mul]; exact hlo) (by rw [← Nat.two_mul]; exact h)⟩
  · exact ⟨M + 1, Or.inr ⟨rfl, h⟩, by omega, key (M + 1) (by omega) (by rw [show M + (M + 1) = 2 * M + 1 by omega]; exact h) (by rw [show M + (M + 1) + 1 = 2 * M + 2 by omega]; exact hhi)⟩
end Go.Proofs.Ytmmbgbchimangaa.FT
