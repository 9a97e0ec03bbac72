/- What is found of the key that lies somewhere in memory. -/
import Derived.Test.YtohmipmioaceeaaLK
namespace Go.Proofs.Ytohmipmioaceeaa.Pure
set_option linter.all false
open Go.RowKit Go.Proofs.Ytohmipmioaceeaa.PQ Go.Proofs.YtohmipmioaceeaaW.PrintWords Go.Proofs.YtohmipmioaceeaaW.PrintLast Go.Proofs.YtohmipmioaceeaaW.PrintMore Go.Proofs.Ytohmipmioaceeaa.Z
set_option linter.unusedVariables false
theorem mkOk {a b c d e f g h : Int} (h0 : 0 ≤ a ∧ a < 4294967296) (h1 : 0 ≤ b ∧ b < 4294967296) (h2 : 0 ≤ c ∧ c < 4294967296) (h3 : 0 ≤ d ∧ d < 4294967296) (h4 : 0 ≤ e ∧ e < 4294967296) (h5 : 0 ≤ f ∧ f < 4294967296) (h6 : 0 ≤ g ∧ g < 4294967296) (h7 : 0 ≤ h ∧ h < 4294967296) : (Sr.mk a b c d e f g h).Ok := ⟨h0, h1, h2, h3, h4, h5, h6, h7⟩
abbrev spanSr (a n st : Int) : Sr := Sr.mk a n st 1 4294967295 0 0 1
theorem spans_key {bs : List Int} {a n st : Int} (hn : 0 ≤ n ∧ n < 256) : keyS bs (spanSr a n st) = spanS bs a n := by
  have hb : keyBad (spanSr a n st) = false := by
    unfold keyBad
    show (decide (n > 256) || (!hasB 1 1 && n != 1 && n != 2 && n != 4)) = false
    rw [show decide (n > 256) = false from decide_eq_false (by omega), show hasB 1 1 = true from rfl]; rfl
  unfold keyS
  rw [hb]
  rfl
theorem spans_row (bs key : List Int) (a n st : Int) (hl : bs.length = 4096) (hn : 0 ≤ n ∧ n < 256) (ha : 0 ≤ a ∧ a < 65536) (hs : 0 ≤ st ∧ st < 65536) (hk : spanS bs a n = (key, 0)) :
    ∀ (k : Nat) (i : Int) (r : Int × Int), 0 ≤ i ∧ i ≤ 4096 → rowS bs (spanSr a n st) key k i = some r → (r.2 = 0 ∧ st + i ≤ r.1 ∧ r.1 < 4294967296 ∧ spanS bs r.1 n = (key, 0) ∧ (st + i ≤ a → r.1 ≤ a)) ∨ (r.2 = 90 ∧ a < st + i) := by
  intro k
  induction k with
  | zero => intro i r hi h; exact absurd h (by simp [rowS])
  | succ k ih =>
    intro i r hi h
    unfold rowS at h
    rw [if_pos (Or.inr rfl)] at h
    have hlen := spanS_len hn.1 ha.1 hk
    have e1 : ((spanSr a n st).start + i * (spanSr a n st).size % 4294967296) % 4294967296 = st + i := by show (st + i * 1 % 4294967296) % 4294967296 = st + i; omega
    have e2 : ((st + i) + (spanSr a n st).off) % 4294967296 = st + i := by show ((st + i) + 0) % 4294967296 = st + i; omega
    have et : toldS (spanSr a n st) i = st + i := e1
    rw [e1] at h
    obtain ⟨L, er, hL, he⟩ := spanS_er bs (st + i) n
    rcases he with he | ⟨he, hL0⟩
    · subst he
      rw [atS_ok (s := spanSr a n st) (key := key) (a := st + i) (L := L) (by rw [e2]; exact hL)] at h
      by_cases c : cmpI L key = 0
      · have hLk := (cmpI_eq _ _).1 c
        subst hLk
        simp only [ne_eq, not_true_eq_false, if_false, if_pos c, et, Option.some.injEq] at h
        subst h
        exact Or.inl ⟨rfl, Int.le_refl _, by show st + i < 4294967296; omega, hL, fun h => h⟩
      · have hz : ¬ ((allz L && hasB (spanSr a n st).opts 2) = true ∨ (spanSr a n st).size = 0) := by
          rw [show hasB (spanSr a n st).opts 2 = false from rfl, Bool.and_false]
          intro h; rcases h with h | h
          · cases h
          · exact absurd h (by show ¬ (1 : Int) = 0; omega)
        simp only [ne_eq, not_true_eq_false, if_false, if_neg c, if_neg hz] at h
        have hne : st + i ≠ a := by
          intro e; rw [e, hk] at hL; injection hL with h1 h2; subst h1; exact c ((cmpI_eq _ _).2 rfl)
        have hn0 : n ≠ 0 := by
          intro e
          have hl2 := spanS_len hn.1 (show 0 ≤ st + i by omega) hL
          have h1 := List.eq_nil_of_length_eq_zero (l := L) (by omega)
          have h2 := List.eq_nil_of_length_eq_zero (l := key) (by omega)
          exact c (by rw [h1, h2]; rfl)
        have hin : st + i + n ≤ 4096 := by
          unfold spanS at hL
          split at hL
          · rename_i hc; rcases hc with hc | hc
            · exact absurd hc hn0
            · omega
          · injection hL with _ h2; exact absurd h2 (by decide)
        rw [show (i + 1) % 4294967296 = i + 1 by omega] at h
        rcases ih (i + 1) r (by omega) h with ⟨h1, h2, h3, h4, h5⟩ | ⟨h1, h2⟩
        · exact Or.inl ⟨h1, by omega, h3, h4, fun h => h5 (by omega)⟩
        · exact Or.inr ⟨h1, by omega⟩
    · subst he
      rw [atS_no (s := spanSr a n st) (key := key) (a := st + i) (L := L) (by rw [e2]; exact hL) (by decide)] at h
      simp only [ne_eq, if_pos (show ¬ ((90 : Int) = 0) by decide), Option.some.injEq] at h
      subst h
      refine Or.inr ⟨rfl, ?_⟩
      unfold spanS at hL hk
      split at hL
      · injection hL with _ h2; exact absurd h2 (by decide)
      · rename_i h1
        split at hk
        · rename_i h2
          have h3 : ¬ n = 0 := fun e => h1 (Or.inl e)
          have h4 : ¬ st + i + n ≤ (bs.length : Int) := fun e => h1 (Or.inr e)
          rcases h2 with h2 | h2
          · exact absurd h2 h3
          · omega
        · injection hk with _ h2; exact absurd h2 (by decide)
theorem rowS_rng {bs key : List Int} {s : Sr} : ∀ {k : Nat} {i : Int} (r : Int × Int), rowS bs s key k i = some r → r.2 = 90 → 0 ≤ r.1 ∧ r.1 < 4294967296 := by
  intro k
  induction k with
  | zero => intro i r h; exact absurd h (by simp [rowS])
  | succ k ih =>
    intro i r h h2
    unfold rowS at h
    split at h
    · simp only at h
      split at h
      · injection h with h; subst h; exact ⟨Int.le_refl 0, by show (0 : Int) < 4294967296; omega⟩
      · split at h
        · injection h with h; subst h; exact absurd (show (0 : Int) = 90 from h2) (by decide)
        · split at h
          · injection h with h; subst h; exact absurd (show (0 : Int) = 90 from h2) (by decide)
          · exact ih r h h2
    · injection h with h; subst h; exact absurd (show (0 : Int) = 90 from h2) (by decide)
/-- all of the law, in plain words -/
theorem spans_all (bs : List Int) (a n st : Int) (hl : bs.length = 4096) (hn : 0 ≤ n ∧ n < 256) (ha : 0 ≤ a ∧ a < 65536) (hs : 0 ≤ st ∧ st < 65536) :
    (4096 < a + n ∧ 0 < n ∧ keyS bs (spanSr a n st) = ([], 90) ∧ LinearS bs (spanSr a n st) 1 = some (0, 90)) ∨ (¬ (4096 < a + n ∧ 0 < n) ∧ ∃ key k r e, keyS bs (spanSr a n st) = (key, 0) ∧ (key.length : Int) = n ∧ LinearS bs (spanSr a n st) k = some (r, e) ∧ 0 ≤ r ∧ r < 4294967296 ∧ ((e = 90 ∧ a < st) ∨ (e = 0 ∧ spanS bs r n = (key, 0) ∧ st ≤ r ∧ (st ≤ a → r ≤ a)))) := by
  by_cases c : n = 0 ∨ a + n ≤ 4096
  · refine Or.inr ⟨by omega, ?_⟩
    have hk := spanS_ok (bs := bs) (a := a) (n := n) (by rw [hl]; exact c)
    have hlen := spanS_len hn.1 ha.1 hk
    have hkk := (spans_key (bs := bs) (a := a) (st := st) hn).trans hk
    obtain ⟨k, r, _, h1, _⟩ := ends_all (bs := bs) (s := spanSr a n st) (mkOk (by omega) (by omega) (by omega) (by omega) (by omega) (by omega) (by omega) (by omega)) (by omega) (by rw [hkk])
    have hL : LinearS bs (spanSr a n st) k = some r := by unfold LinearS; rw [if_pos (by rw [hkk])]; exact h1
    rw [hkk] at h1
    rcases spans_row bs _ a n st hl hn ha hs hk k 0 r (by omega) h1 with ⟨q1, q2, q3, q4, q5⟩ | ⟨q1, q2⟩
    · exact ⟨_, k, r.1, r.2, hkk, hlen, hL, by omega, q3, Or.inr ⟨q1, q4, by omega, fun h => q5 (by omega)⟩⟩
    · refine ⟨_, k, r.1, r.2, hkk, hlen, hL, ?_, ?_, Or.inl ⟨q1, by omega⟩⟩
      · exact (rowS_rng r h1 q1).1
      · exact (rowS_rng r h1 q1).2
  · have hk := (spans_key (bs := bs) (a := a) (st := st) hn).trans (spanS_no (bs := bs) (a := a) (n := n) (by rw [hl]; exact c))
    refine Or.inl ⟨by omega, by omega, hk, ?_⟩
    unfold LinearS
    rw [hk]; rfl
end Go.Proofs.Ytohmipmioaceeaa.Pure
