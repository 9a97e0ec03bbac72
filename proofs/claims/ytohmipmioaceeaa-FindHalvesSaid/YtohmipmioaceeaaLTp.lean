/- Structures of any size, upwards or downwards: what is found of the one byte that is written. -/
import Derived.Test.YtohmipmioaceeaaLS
namespace Go.Proofs.Ytohmipmioaceeaa.Pure
set_option linter.all false
open Go.RowKit Go.Proofs.Ytohmipmioaceeaa.PQ Go.Proofs.YtohmipmioaceeaaW.PrintWords Go.Proofs.YtohmipmioaceeaaW.PrintLast Go.Proofs.YtohmipmioaceeaaW.PrintMore Go.Proofs.Ytohmipmioaceeaa.Z
set_option linter.unusedVariables false
theorem wf_i8 {a : Int} (h : (Lit.int .i8 a).wf = true) : -128 ≤ a ∧ a < 128 := by
  simp [Lit.wf, IntKind.min, IntKind.max, IntKind.signed, IntKind.bits] at h; omega
theorem rd_laid0 {p : Int} (h : 256 ≤ p ∧ p < 4096) : rd (laidB [] 0) p = 0 := by
  obtain ⟨n, rfl⟩ : ∃ n : Nat, p = (n : Int) := ⟨p.toNat, by omega⟩
  rw [show laidB [] 0 = gm ++ List.replicate 3840 0 from rfl]
  have hl : n < (gm ++ List.replicate 3840 (0 : Int)).length := by rw [List.length_append, gm_len, List.length_replicate]; omega
  rw [rd_nat hl]
  rw [List.getElem_append_right (by rw [gm_len]; omega), List.getElem_replicate]
theorem rd_set' {l : List Int} {p q : Int} {x : Int} (hp : 0 ≤ p ∧ p < (l.length : Int)) (hq : 0 ≤ q ∧ q < (l.length : Int)) : rd (l.set q.toNat x) p = if p = q then x else rd l p := by
  obtain ⟨n, rfl⟩ : ∃ n : Nat, p = (n : Int) := ⟨p.toNat, by omega⟩
  obtain ⟨m, rfl⟩ : ∃ m : Nat, q = (m : Int) := ⟨q.toNat, by omega⟩
  rw [Int.toNat_natCast, rd_nat (by rw [List.length_set]; omega), rd_nat (by omega), List.getElem_set]
  by_cases c : m = n
  · subst c; rw [if_pos rfl, if_pos rfl]
  · rw [if_neg c, if_neg (by omega)]
theorem span1 {bs : List Int} {p : Int} (h : 0 ≤ p ∧ p < (bs.length : Int)) : spanS bs p 1 = ([rd bs p], 0) := by
  obtain ⟨n, rfl⟩ : ∃ n : Nat, p = (n : Int) := ⟨p.toNat, by omega⟩
  rw [spanS_ok (by omega), Int.toNat_natCast, drop_at (by omega)]
  rfl
theorem step_addr {a0 a1 j : Int} (h : 0 ≤ a0 + j * a1 ∧ a0 + j * a1 < 4294967296) : (a0 + j * (a1 % 4294967296) % 4294967296) % 4294967296 = a0 + j * a1 := by
  have e : a1 % 4294967296 = a1 - 4294967296 * (a1 / 4294967296) := by omega
  have e2 : j * (a1 % 4294967296) = j * a1 - 4294967296 * (j * (a1 / 4294967296)) := by rw [e, Int.mul_sub, Int.mul_left_comm]
  rw [e2]
  omega
theorem step_between {a0 a1 a2 j : Int} (hj : 0 ≤ j ∧ j ≤ a2) (h0 : 256 ≤ a0 ∧ a0 < 4096) (h : 256 ≤ a0 + a2 * a1 ∧ a0 + a2 * a1 < 4096) : 256 ≤ a0 + j * a1 ∧ a0 + j * a1 < 4096 := by
  by_cases c : 0 ≤ a1
  · have k1 : 0 ≤ j * a1 := Int.mul_nonneg hj.1 c
    have k2 : j * a1 ≤ a2 * a1 := Int.mul_le_mul_of_nonneg_right hj.2 c
    omega
  · have k1 : 0 ≤ j * (-a1) := Int.mul_nonneg hj.1 (by omega)
    have k2 : j * (-a1) ≤ a2 * (-a1) := Int.mul_le_mul_of_nonneg_right hj.2 (by omega)
    rw [Int.mul_neg] at k1 k2
    rw [Int.mul_neg] at k2
    omega
abbrev stepSr (a0 a1 a3 cn op : Int) : Sr := Sr.mk a3 1 a0 (a1 % 4294967296) cn 0 0 op
theorem step_key {bs : List Int} {a0 a1 a3 cn op : Int} (h3 : 0 ≤ a3 ∧ a3 < 256) (ho : hasB op 1 = false) : keyS bs (stepSr a0 a1 a3 cn op) = ([a3], 0) := by
  have hb : keyBad (stepSr a0 a1 a3 cn op) = false := by
    unfold keyBad
    show (decide ((1 : Int) > 256) || (!hasB op 1 && (1 : Int) != 1 && (1 : Int) != 2 && (1 : Int) != 4)) = false
    rw [ho]; decide
  unfold keyS
  rw [hb, if_neg (by decide), if_neg (by show ¬ hasB op 1 = true; rw [ho]; decide)]
  show (byts a3.toNat 1, (0 : Int)) = ([a3], 0)
  unfold byts byts
  rw [List.nil_append, show ((a3.toNat % 256 : Nat) : Int) = a3 by omega]
/-- the bytes after the writing -/
abbrev stepB (ad a3 : Int) : List Int := (laidB [] 0).set ad.toNat a3
theorem stepB_len (ad a3 : Int) : (stepB ad a3).length = 4096 := by rw [List.length_set, laidB_len (by simp) (by omega)]
theorem step_at {a0 a1 a2 a3 cn op j : Int} (hj : 0 ≤ j ∧ j ≤ a2) (h0 : 256 ≤ a0 ∧ a0 < 4096) (h : 256 ≤ a0 + a2 * a1 ∧ a0 + a2 * a1 < 4096) :
    atS (stepB (a0 + a2 * a1) a3) (stepSr a0 a1 a3 cn op) [a3] (((stepSr a0 a1 a3 cn op).start + j * (stepSr a0 a1 a3 cn op).size % 4294967296) % 4294967296) = (cmpI [if j * a1 = a2 * a1 then a3 else 0] [a3], allz [if j * a1 = a2 * a1 then a3 else 0], 0) := by
  have hb := step_between hj h0 h
  have e1 : ((stepSr a0 a1 a3 cn op).start + j * (stepSr a0 a1 a3 cn op).size % 4294967296) % 4294967296 = a0 + j * a1 := step_addr (a0 := a0) (a1 := a1) (j := j) (by omega)
  rw [e1]
  have hl := stepB_len (a0 + a2 * a1) a3
  have hs := span1 (bs := stepB (a0 + a2 * a1) a3) (p := a0 + j * a1) (by omega)
  rw [rd_set' (by rw [laidB_len (by simp) (by omega)]; omega) (by rw [laidB_len (by simp) (by omega)]; omega), rd_laid0 hb] at hs
  have e3 : (if a0 + j * a1 = a0 + a2 * a1 then a3 else 0) = (if j * a1 = a2 * a1 then a3 else 0) := by
    by_cases c : j * a1 = a2 * a1
    · rw [if_pos c, if_pos (by omega)]
    · rw [if_neg c, if_neg (by omega)]
  rw [e3] at hs
  exact atS_ok (by show spanS _ ((a0 + j * a1 + 0) % 4294967296) 1 = _; rw [show (a0 + j * a1 + 0) % 4294967296 = a0 + j * a1 by omega]; exact hs)
theorem step_row {a0 a1 a2 a3 cn op : Int} (h2 : 0 ≤ a2 ∧ a2 < 256) (h3 : 0 < a3 ∧ a3 < 256) (h1 : a1 ≠ 0 ∧ -128 ≤ a1 ∧ a1 < 128) (hop : hasB op 2 = false) (h0 : 256 ≤ a0 ∧ a0 < 4096) (h : 256 ≤ a0 + a2 * a1 ∧ a0 + a2 * a1 < 4096) :
    ∀ (d : Nat) (j : Int), 0 ≤ j → j + d = a2 → ((a2 < cn ∨ cn = 4294967295) → rowS (stepB (a0 + a2 * a1) a3) (stepSr a0 a1 a3 cn op) [a3] (d + 1) j = some (toldS (stepSr a0 a1 a3 cn op) a2, 0)) ∧ (cn = a2 → rowS (stepB (a0 + a2 * a1) a3) (stepSr a0 a1 a3 cn op) [a3] (d + 1) j = some (noneS (stepSr a0 a1 a3 cn op), 0)) := by
  intro d
  induction d with
  | zero =>
    intro j hj he
    obtain rfl : j = a2 := by omega
    refine ⟨fun hc => ?_, fun hc => ?_⟩
    · unfold rowS
      rw [if_pos (by show j < cn ∨ cn = 4294967295; exact hc), step_at ⟨hj, Int.le_refl _⟩ h0 h, if_pos rfl]
      have : cmpI [a3] [a3] = 0 := (cmpI_eq _ _).2 rfl
      simp [this]
    · unfold rowS
      rw [if_neg (by show ¬ (j < cn ∨ cn = 4294967295); omega)]
  | succ d ih =>
    intro j hj he
    have hne : j * a1 ≠ a2 * a1 := fun e => by have := Int.eq_of_mul_eq_mul_right h1.1 e; omega
    have hc0 : cmpI [(0 : Int)] [a3] ≠ 0 := fun e => by have := (cmpI_eq _ _).1 e; simp at this; omega
    have hsz : a1 % 4294967296 ≠ 0 := by omega
    have hat := step_at (cn := cn) (op := op) (a3 := a3) ⟨hj, by omega⟩ h0 h (j := j)
    rw [if_neg hne] at hat
    have hz : ¬ ((allz [(0 : Int)] && hasB (stepSr a0 a1 a3 cn op).opts 2) = true ∨ (stepSr a0 a1 a3 cn op).size = 0) := by
      rw [show hasB (stepSr a0 a1 a3 cn op).opts 2 = false from hop, Bool.and_false]
      intro h; rcases h with h | h
      · cases h
      · exact hsz h
    obtain ⟨i1, i2⟩ := ih (j + 1) (by omega) (by omega)
    refine ⟨fun hc => ?_, fun hc => ?_⟩
    all_goals
      unfold rowS
      rw [if_pos (by show j < cn ∨ cn = 4294967295; omega), hat]
      simp only [ne_eq, not_true_eq_false, if_false, if_neg hc0, if_neg hz]
      rw [show (j + 1) % 4294967296 = j + 1 by omega]
    · exact i1 hc
    · exact i2 hc
theorem steps_all {a0 a1 a2 a3 ad : Int} (had : ad = a0 + a2 * a1) (h2 : 0 ≤ a2 ∧ a2 < 256) (h3 : 0 < a3 ∧ a3 < 256) (h1 : a1 ≠ 0 ∧ -128 ≤ a1 ∧ a1 < 128) (h0 : 256 ≤ a0 ∧ a0 < 4096) (h : 256 ≤ ad ∧ ad < 4096) :
    LinearS (stepB ad a3) (stepSr a0 a1 a3 (a2 + 1) 0) (a2.toNat + 1) = some (ad, 0) ∧ LinearS (stepB ad a3) (stepSr a0 a1 a3 a2 0) (a2.toNat + 1) = some (0, 0) ∧ LinearS (stepB ad a3) (stepSr a0 a1 a3 4294967295 4) (a2.toNat + 1) = some (a2, 0) := by
  subst had
  have k1 := (step_row (cn := a2 + 1) (op := 0) h2 h3 h1 rfl h0 h a2.toNat 0 (by omega) (by omega)).1 (Or.inl (by omega))
  have k2 := (step_row (cn := a2) (op := 0) h2 h3 h1 rfl h0 h a2.toNat 0 (by omega) (by omega)).2 rfl
  have k3 := (step_row (cn := 4294967295) (op := 4) h2 h3 h1 rfl h0 h a2.toNat 0 (by omega) (by omega)).1 (Or.inr rfl)
  rw [show toldS (stepSr a0 a1 a3 (a2 + 1) 0) a2 = a0 + a2 * a1 from step_addr (a0 := a0) (a1 := a1) (j := a2) (by omega)] at k1
  rw [show noneS (stepSr a0 a1 a3 a2 0) = 0 from rfl] at k2
  rw [show toldS (stepSr a0 a1 a3 4294967295 4) a2 = a2 from rfl] at k3
  unfold LinearS
  rw [step_key ⟨by omega, h3.2⟩ rfl, step_key ⟨by omega, h3.2⟩ rfl, step_key ⟨by omega, h3.2⟩ rfl]
  exact ⟨k1, k2, k3⟩
end Go.Proofs.Ytohmipmioaceeaa.Pure
