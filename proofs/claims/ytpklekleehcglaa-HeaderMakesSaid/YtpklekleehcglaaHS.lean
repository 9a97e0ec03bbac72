/- Sums of pieces, of bytes that are set. -/
import Derived.Test.YtpklekleehcglaaHP
namespace Go.Proofs.Ytpklekleehcglaa.Pure
set_option linter.all false
open Go.RowKit Go.Proofs.Ytpklekleehcglaa.PQ Go.Proofs.YtpklekleehcglaaW.PrintWords Go.Proofs.YtpklekleehcglaaW.PrintLast
theorem bn_left {a b : List Int} {i : Nat} (h : i < a.length) : bn (a ++ b) i = bn a i := by
  unfold bn rd
  rw [Int.toNat_natCast, List.getD_eq_getElem?_getD, List.getD_eq_getElem?_getD, List.getElem?_append_left h]
theorem bn_right {a b : List Int} {i : Nat} : bn (a ++ b) (a.length + i) = bn b i := by
  unfold bn rd
  rw [Int.toNat_natCast, Int.toNat_natCast, List.getD_eq_getElem?_getD, List.getD_eq_getElem?_getD, List.getElem?_append_right (by omega), Nat.add_sub_cancel_left]
theorem bn_set {l : List Int} {j i : Nat} {v : Int} (h : j < l.length) : bn (l.set j v) i = if i = j then v.toNat else bn l i := by
  unfold bn rd
  rw [Int.toNat_natCast, List.getD_eq_getElem?_getD, List.getD_eq_getElem?_getD, List.getElem?_set]
  by_cases c : i = j
  · subst c; simp [h]
  · rw [if_neg (fun e => c e.symm), if_neg c]
theorem be4_left {a b : List Int} {i : Nat} (h : i + 4 ≤ a.length) : be4 (a ++ b) i = be4 a i := by
  rw [be4_eq (by rw [List.length_append]; omega), be4_eq h, bn_left (by omega), bn_left (by omega), bn_left (by omega), bn_left (by omega)]
theorem be4_right {a b : List Int} {i : Nat} (h : i + 4 ≤ b.length) : be4 (a ++ b) (a.length + i) = be4 b i := by
  rw [be4_eq (by rw [List.length_append]; omega), be4_eq h, bn_right, Nat.add_assoc, bn_right, Nat.add_assoc, bn_right, Nat.add_assoc, bn_right]
theorem ws_split (l : List Int) (m : Nat) : ∀ n p, ws l (n + m) p = ws l n p + ws l m (p + 4 * n) := by
  intro n
  induction n with
  | zero => intro p; rw [Nat.zero_add, ws, Nat.zero_add]; rfl
  | succ n ih =>
    intro p
    have e : n + 1 + m = (n + m) + 1 := by omega
    have e2 : p + 4 + 4 * n = p + 4 * (n + 1) := by omega
    rw [e, ws, ws, ih, e2, Nat.add_assoc]
theorem ws_left {a b : List Int} : ∀ n p, p + 4 * n ≤ a.length → ws (a ++ b) n p = ws a n p := by
  intro n
  induction n with
  | zero => intro p _; rfl
  | succ n ih =>
    intro p h
    rw [ws, ws, ih _ (by omega), be4_left (by omega)]
/-- all words, the one at 32 too -/
def wt (l : List Int) : Nat → Nat → Nat
  | 0, _ => 0
  | n + 1, p => be4 l p + wt l n (p + 4)
theorem ws_right {a b : List Int} (h36 : 36 ≤ a.length) : ∀ n p, p + 4 * n ≤ b.length → ws (a ++ b) n (a.length + p) = wt b n p := by
  intro n
  induction n with
  | zero => intro p _; rfl
  | succ n ih =>
    intro p h
    rw [ws, wt, if_neg (by omega), be4_right (by omega), Nat.add_assoc, ih _ (by omega)]
theorem wt_eq (l : List Int) : ∀ n p, p % 4 = 0 → wt l n p = ws l n p + (if p ≤ 32 ∧ 32 < p + 4 * n then be4 l 32 else 0) := by
  intro n
  induction n with
  | zero => intro p _; rw [if_neg (by omega)]; rfl
  | succ n ih =>
    intro p h
    rw [wt, ws, ih _ (by omega)]
    by_cases c : p = 32
    · subst c
      rw [if_pos rfl, if_neg (by omega), if_pos (by omega)]
      omega
    · rw [if_neg c]
      by_cases d : p ≤ 32 ∧ 32 < p + 4 * (n + 1)
      · rw [if_pos d, if_pos (by omega)]; omega
      · rw [if_neg d, if_neg (by omega)]; omega
theorem hsum_app {a b : List Int} (h4 : a.length % 4 = 0) (h36 : 36 ≤ a.length) : hsum (a ++ b) = (hsum a + hsum b + (if 36 ≤ b.length then be4 b 32 else 0)) % 4294967296 := by
  unfold hsum
  have e : (a ++ b).length / 4 = a.length / 4 + b.length / 4 := by rw [List.length_append]; omega
  have e2 : 0 + 4 * (a.length / 4) = a.length + 0 := by omega
  rw [e, ws_split, ws_left _ _ (by omega), e2, ws_right h36 _ _ (by omega), wt_eq _ _ _ rfl]
  by_cases c : 36 ≤ b.length
  · rw [if_pos c, if_pos (by omega)]; omega
  · rw [if_neg c, if_neg (by omega)]; omega
/-- a byte that is set: only its word changes -/
theorem be4_set {l : List Int} {j p : Nat} {v : Int} (hj : j < l.length) (hp : p + 4 ≤ l.length) (h : j < p ∨ p + 4 ≤ j) : be4 (l.set j v) p = be4 l p := by
  rw [be4_eq (by rw [List.length_set]; exact hp), be4_eq hp, bn_set hj, bn_set hj, bn_set hj, bn_set hj, if_neg (by omega), if_neg (by omega), if_neg (by omega), if_neg (by omega)]
theorem be4_set_ne {l : List Int} (hb : Byt l) {j p : Nat} {v : Nat} (hp : p + 4 ≤ l.length) (h : p ≤ j ∧ j < p + 4) (hv : v < 256) (hn : v ≠ bn l j) : be4 (l.set j (v : Int)) p ≠ be4 l p := by
  have a := bn_lt hb p
  have b := bn_lt hb (p + 1)
  have c := bn_lt hb (p + 2)
  have d := bn_lt hb (p + 3)
  rw [be4_eq (by rw [List.length_set]; exact hp), be4_eq hp, bn_set (by omega), bn_set (by omega), bn_set (by omega), bn_set (by omega), Int.toNat_natCast]
  have : j = p ∨ j = p + 1 ∨ j = p + 2 ∨ j = p + 3 := by omega
  rcases this with e | e | e | e <;> subst e
  · rw [if_pos rfl, if_neg (by omega), if_neg (by omega), if_neg (by omega)]; omega
  · rw [if_neg (by omega), if_pos rfl, if_neg (by omega), if_neg (by omega)]; omega
  · rw [if_neg (by omega), if_neg (by omega), if_pos rfl, if_neg (by omega)]; omega
  · rw [if_neg (by omega), if_neg (by omega), if_neg (by omega), if_pos rfl]; omega
theorem ws_set {l : List Int} {j : Nat} {v : Int} (hj : j < l.length) : ∀ n p, p + 4 * n ≤ l.length → p % 4 = 0 →
    ws (l.set j v) n p + (if p ≤ j ∧ j < p + 4 * n ∧ 4 * (j / 4) ≠ 32 then be4 l (4 * (j / 4)) else 0) = ws l n p + (if p ≤ j ∧ j < p + 4 * n ∧ 4 * (j / 4) ≠ 32 then be4 (l.set j v) (4 * (j / 4)) else 0) := by
  intro n
  induction n with
  | zero => intro p _ _; rw [if_neg (by omega), if_neg (by omega)]; rfl
  | succ n ih =>
    intro p h hp
    have i := ih (p + 4) (by omega) (by omega)
    rw [ws, ws]
    by_cases c : p ≤ j ∧ j < p + 4
    · have e : 4 * (j / 4) = p := by omega
      rw [if_neg (by omega), if_neg (by omega)] at i
      rw [e]
      by_cases d : p = 32
      · rw [if_pos d, if_pos d, if_neg (by omega), if_neg (by omega)]; omega
      · rw [if_neg d, if_neg d, if_pos (by omega), if_pos (by omega)]; omega
    · rw [be4_set hj (by omega) (by omega)]
      by_cases d : p ≤ j ∧ j < p + 4 * (n + 1) ∧ 4 * (j / 4) ≠ 32
      · rw [if_pos (by omega), if_pos (by omega)] at i
        rw [if_pos d, if_pos d]; omega
      · rw [if_neg (by omega), if_neg (by omega)] at i
        rw [if_neg d, if_neg d]; omega
theorem told_cases (l : List Int) : (∃ e a, told l = bad e a ∧ e ≠ 0 ∧ 0 ≤ a ∧ (a ≤ 32 ∨ (l.length < 36 ∧ a = (l.length : Int)))) ∨
    (told l = (wd l 0, wd l 1, wd l 2, wd l 3, wd l 4, wd l 5, wd l 6, wd l 7, 0, 36) ∧ mg l = true ∧ 36 ≤ l.length ∧ l.length ≤ 1048576 ∧ wd l 2 = (l.length : Int) ∧ Int.tmod (wd l 2) 256 = 0 ∧ wd l 7 = (hsum l : Int)) := by
  unfold told
  by_cases c : 1048576 < l.length
  · rw [if_pos c]; exact Or.inl ⟨3, 0, rfl, by decide, by decide, Or.inl (by decide)⟩
  rw [if_neg c]
  by_cases g : mg l = true
  · rw [if_pos g]
    by_cases s : l.length < 36
    · rw [if_pos s]; exact Or.inl ⟨2, (l.length : Int), rfl, by decide, by omega, Or.inr ⟨s, rfl⟩⟩
    · rw [if_neg s]
      rcases chk_cases (l.length : Int) (hsum l : Int) (wd l 0) (wd l 1) (wd l 2) (wd l 3) (wd l 4) (wd l 5) (wd l 6) (wd l 7) with ⟨e, a, h, he, h1, h2⟩ | ⟨h, _, _, _, _, _, q5, q6, _, _, _, _, _, _, _, _, _, q⟩
      · exact Or.inl ⟨e, a, h, he, h1, Or.inl h2⟩
      · exact Or.inr ⟨h, g, by omega, by omega, q5, q6, q⟩
  · rw [if_neg g]; exact Or.inl ⟨63, 0, rfl, by decide, by decide, Or.inl (by decide)⟩
end Go.Proofs.Ytpklekleehcglaa.Pure
