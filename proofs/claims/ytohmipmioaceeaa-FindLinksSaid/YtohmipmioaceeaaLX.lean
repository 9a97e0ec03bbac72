/- Texts LA LK LSp LS LTp LT LWp LF LRp LR LHp LH in one, without the laws. -/
import Derived.Test.YtohmipmioaceeaaFD
import Derived.Test.YtohmipmioaceeaaPQx6
import Derived.Test.YtohmipmioaceeaaPQx1
/- The laws FindRows, FindSorts, FindChains: the program's search and the document's come to one answer. -/
namespace Go.Proofs.Ytohmipmioaceeaa.PQ
set_option linter.all false
open Go.RowKit Go.Proofs.YtohmipmioaceeaaW.PrintWords Go.Proofs.YtohmipmioaceeaaW.PrintLast Go.Proofs.YtohmipmioaceeaaW.PrintMore Go.Proofs.Ytohmipmioaceeaa.Z Go.Proofs.Ytohmipmioaceeaa.Pure
set_option linter.unusedVariables false
set_option linter.unusedSimpArgs false
theorem byt_of {l : List Int} (h : ∀ x ∈ l, (Lit.int .u8 x).wf = true) : Byt l := fun x hx => wf_u8 (h x hx)
theorem same_f (l : List Int) (h : l.length < 140737488355328) : grottoref01_Same.f l l = some true := by
  unfold grottoref01_Same.f
  simp [h]
theorem num_is (x : Int) (w : World) : Calls Try.prog 18 #[.int .i64 x] w fun e w' => e = .returned (.int .i64 x) ∧ Drawn0 w w' := grottolaw13_num.calls x x w rfl
theorem num_be (x : Int) (w : World) : Calls Try.prog 18 #[.int .i64 x] w fun e w' => e = .returned (.int .i64 x) ∧ Below w.heap.size w w' := (num_is x w).mono fun _ _ h => ⟨h.1, h.2.below⟩
theorem Same_be (l : List Int) (A B : Option Addr) (c d : Nat) (w : World) (h1 : Kd.C (Kd.int .u8) w A l.length l) (h2 : l.length ≤ c) (h3 : Kd.C (Kd.int .u8) w B l.length l) (h4 : l.length ≤ d) (hl : l.length ≤ 1048576) :
    Calls Try.prog 24 #[.slice A l.length c, .slice B l.length d] w fun e w' => e = .returned (.bool true) ∧ Below w.heap.size w w' :=
  (grottoref01_Same.calls A c l B d l true w h1 h2 h3 h4 (same_f l (by omega))).mono fun _ _ h => ⟨h.1, by first | exact h.2.below | exact h.2⟩
theorem RW.cell0 {w : World} {base g gb c : Nat} {bs : List Int} (h : RW w base g gb c bs) : w.cell? ⟨g, 0, none⟩ = some (.slice (some ⟨gb, 0, none⟩) bs.length c) := by
  obtain ⟨cs, k1, k2, k3⟩ := h.blk
  exact (blk_cell k1 0).trans k2
end Go.Proofs.Ytohmipmioaceeaa.PQ

/- The law FindKeys: what is looked for. -/
namespace Go.Proofs.Ytohmipmioaceeaa.PQ
open Go.RowKit Go.Proofs.YtohmipmioaceeaaW.PrintWords Go.Proofs.YtohmipmioaceeaaW.PrintLast Go.Proofs.YtohmipmioaceeaaW.PrintMore Go.Proofs.Ytohmipmioaceeaa.Z Go.Proofs.Ytohmipmioaceeaa.Pure
set_option linter.unusedVariables false
set_option linter.unusedSimpArgs false
theorem same_f0 (l : List Int) : grottoref01_Same.f l l = some true := by
  unfold grottoref01_Same.f
  simp
theorem Same_be0 (l : List Int) (A B : Option Addr) (c d : Nat) (w : World) (h1 : Kd.C (Kd.int .u8) w A l.length l) (h2 : l.length ≤ c) (h3 : Kd.C (Kd.int .u8) w B l.length l) (h4 : l.length ≤ d) :
    Calls Try.prog 24 #[.slice A l.length c, .slice B l.length d] w fun e w' => e = .returned (.bool true) ∧ Below w.heap.size w w' :=
  (grottoref01_Same.calls A c l B d l true w h1 h2 h3 h4 (same_f0 l)).mono fun _ _ h => ⟨h.1, by first | exact h.2.below | exact h.2⟩
theorem keyS_len256 (bs : List Int) (s : Sr) (ho : s.Ok) : (keyS bs s).1.length ≤ 256 := by
  by_cases c : (keyS bs s).2 = 0
  · have h := keyS_len (key := (keyS bs s).1) ho (by rw [← c])
    have h2 := keyS_kszm c
    omega
  · unfold keyS at c ⊢
    split
    · simp
    · rename_i h1
      rw [if_neg h1] at c
      split
      · rename_i h2
        rw [if_pos h2] at c
        unfold spanS at c ⊢
        split
        · rename_i h3
          rw [if_pos h3] at c
          first | exact absurd rfl c | simp
        · first | simp | (rename_i h3; rw [if_neg h3] at c; exact absurd rfl c)
      · rename_i h2
        rw [if_neg h2] at c
        exact absurd rfl c
theorem spoil_ends : ∀ (k : Nat) (l : List Int) (x : Int), 0 ≤ x ∧ x ≤ (l.length : Int) → l.length ≤ 1048576 → (l.length : Int) - x < k → ∃ r, grottoref01_Spoil.l0 k l x = some r := by
  intro k
  induction k with
  | zero => intro l x h0 hl h; exact absurd h (by omega)
  | succ k ih =>
    intro l x h0 hl h
    unfold grottoref01_Spoil.l0
    by_cases c : x < (l.length : Int)
    · rw [if_pos c, if_pos h0.1, w64 (by omega) (by omega)]
      exact ih _ _ (by rw [List.length_set]; omega) (by simpa using hl) (by rw [List.length_set]; omega)
    · rw [if_neg c]; exact ⟨_, rfl⟩
theorem spoil_f (l : List Int) (hl : l.length ≤ 1048576) : ∃ k r, grottoref01_Spoil.f k l = some r := by
  obtain ⟨r, h⟩ := spoil_ends (l.length + 1) l 0 (by omega) hl (by omega)
  exact ⟨_, r, h⟩
/-- Spoil changes its row alone. -/
theorem Spoil_is (l : List Int) (v : Value) (w0 w : World) (hl : l.length ≤ 1048576) (hB : Below w0.heap.size w0 w) (ho : Kd.R (Kd.int .u8) 5 w w0.heap.size (fun _ => True) v l) :
    Calls Try.prog 28 #[v] w fun e w' => e = .returned (.tuple #[]) ∧ Below w0.heap.size w0 w' ∧ Kept w w' (fun k => some k = v.ownBlock) := by
  obtain ⟨k, r, h⟩ := spoil_f l hl
  exact (grottoref01_Spoil.calls k _ v l r w0 w hB (Kd.R_tight rfl ho) h).mono fun _ _ h => ⟨h.1, h.2.2.1, h.2.2.2⟩
theorem R_spoil {w w' : World} {v y : Value} {l : List Int} {b : Nat} (hy : Kd.R (Kd.int .u8) 5 w b (fun _ => True) y l) (hk : Kept w w' (fun k => some k = v.ownBlock)) (hv : ∀ k, v.ownBlock = some k → k < b) : Kd.R (Kd.int .u8) 5 w' b (fun _ => True) y l :=
  Kd.R_mono (Kd.R_kept (Kd.R_tight rfl hy) hk (fun k h1 h2 => by have a := hv k h2.symm; have b' := Kd.R_base hy k h1.symm; omega)) (fun _ _ => trivial)
end Go.Proofs.Ytohmipmioaceeaa.PQ

/- What is found of the key that lies somewhere in memory. -/
namespace Go.Proofs.Ytohmipmioaceeaa.Pure
open Go.RowKit Go.Proofs.Ytohmipmioaceeaa.PQ Go.Proofs.YtohmipmioaceeaaW.PrintWords Go.Proofs.YtohmipmioaceeaaW.PrintLast Go.Proofs.YtohmipmioaceeaaW.PrintMore Go.Proofs.Ytohmipmioaceeaa.Z
set_option linter.unusedVariables false
theorem mkOk {a b c d e f g h : Int} (h0 : 0 ≤ a ∧ a < 4294967296) (h1 : 0 ≤ b ∧ b < 4294967296) (h2 : 0 ≤ c ∧ c < 4294967296) (h3 : 0 ≤ d ∧ d < 4294967296) (h4 : 0 ≤ e ∧ e < 4294967296) (h5 : 0 ≤ f ∧ f < 4294967296) (h6 : 0 ≤ g ∧ g < 4294967296) (h7 : 0 ≤ h ∧ h < 4294967296) : (Sr.mk a b c d e f g h).Ok := ⟨h0, h1, h2, h3, h4, h5, h6, h7⟩
abbrev spanSr (a n st : Int) : Sr := Sr.mk a n st 1 4294967295 0 0 1
theorem spans_key {bs : List Int} {a n st : Int} (hn : 0 ≤ n ∧ n < 256) : keyS bs (spanSr a n st) = spanS bs a n := by
  have hb : keyBad (spanSr a n st) = false := by
    unfold keyBad
    show (decide (n > 256) || (!hasB 1 1 && n != 1 && n != 2 && n != 4)) = false
    rw [show decide (n > 256) = false from decide_eq_false (by omega), show hasB 1 1 = true from rfl]; rfl
  unfold keyS
  rw [hb]
  rfl
theorem spans_row (bs key : List Int) (a n st : Int) (hl : bs.length = 4096) (hn : 0 ≤ n ∧ n < 256) (ha : 0 ≤ a ∧ a < 65536) (hs : 0 ≤ st ∧ st < 65536) (hk : spanS bs a n = (key, 0)) :
    ∀ (k : Nat) (i : Int) (r : Int × Int), 0 ≤ i ∧ i ≤ 4096 → rowS bs (spanSr a n st) key k i = some r → (r.2 = 0 ∧ st + i ≤ r.1 ∧ r.1 < 4294967296 ∧ spanS bs r.1 n = (key, 0) ∧ (st + i ≤ a → r.1 ≤ a)) ∨ (r.2 = 90 ∧ a < st + i) := by
  intro k
  induction k with
  | zero => intro i r hi h; exact absurd h (by simp [rowS])
  | succ k ih =>
    intro i r hi h
    unfold rowS at h
    rw [if_pos (Or.inr rfl)] at h
    have hlen := spanS_len hn.1 ha.1 hk
    have e1 : ((spanSr a n st).start + i * (spanSr a n st).size % 4294967296) % 4294967296 = st + i := by show (st + i * 1 % 4294967296) % 4294967296 = st + i; omega
    have e2 : ((st + i) + (spanSr a n st).off) % 4294967296 = st + i := by show ((st + i) + 0) % 4294967296 = st + i; omega
    have et : toldS (spanSr a n st) i = st + i := e1
    rw [e1] at h
    obtain ⟨L, er, hL, he⟩ := spanS_er bs (st + i) n
    rcases he with he | ⟨he, hL0⟩
    · subst he
      rw [atS_ok (s := spanSr a n st) (key := key) (a := st + i) (L := L) (by rw [e2]; exact hL)] at h
      by_cases c : cmpI L key = 0
      · have hLk := (cmpI_eq _ _).1 c
        subst hLk
        simp only [ne_eq, not_true_eq_false, if_false, if_pos c, et, Option.some.injEq] at h
        subst h
        exact Or.inl ⟨rfl, Int.le_refl _, by show st + i < 4294967296; omega, hL, fun h => h⟩
      · have hz : ¬ ((allz L && hasB (spanSr a n st).opts 2) = true ∨ (spanSr a n st).size = 0) := by
          rw [show hasB (spanSr a n st).opts 2 = false from rfl, Bool.and_false]
          intro h; rcases h with h | h
          · cases h
          · exact absurd h (by show ¬ (1 : Int) = 0; omega)
        simp only [ne_eq, not_true_eq_false, if_false, if_neg c, if_neg hz] at h
        have hne : st + i ≠ a := by
          intro e; rw [e, hk] at hL; injection hL with h1 h2; subst h1; exact c ((cmpI_eq _ _).2 rfl)
        have hn0 : n ≠ 0 := by
          intro e
          have hl2 := spanS_len hn.1 (show 0 ≤ st + i by omega) hL
          have h1 := List.eq_nil_of_length_eq_zero (l := L) (by omega)
          have h2 := List.eq_nil_of_length_eq_zero (l := key) (by omega)
          exact c (by rw [h1, h2]; rfl)
        have hin : st + i + n ≤ 4096 := by
          unfold spanS at hL
          split at hL
          · rename_i hc; rcases hc with hc | hc
            · exact absurd hc hn0
            · omega
          · injection hL with _ h2; exact absurd h2 (by decide)
        rw [show (i + 1) % 4294967296 = i + 1 by omega] at h
        rcases ih (i + 1) r (by omega) h with ⟨h1, h2, h3, h4, h5⟩ | ⟨h1, h2⟩
        · exact Or.inl ⟨h1, by omega, h3, h4, fun h => h5 (by omega)⟩
        · exact Or.inr ⟨h1, by omega⟩
    · subst he
      rw [atS_no (s := spanSr a n st) (key := key) (a := st + i) (L := L) (by rw [e2]; exact hL) (by decide)] at h
      simp only [ne_eq, if_pos (show ¬ ((90 : Int) = 0) by decide), Option.some.injEq] at h
      subst h
      refine Or.inr ⟨rfl, ?_⟩
      unfold spanS at hL hk
      split at hL
      · injection hL with _ h2; exact absurd h2 (by decide)
      · rename_i h1
        split at hk
        · rename_i h2
          have h3 : ¬ n = 0 := fun e => h1 (Or.inl e)
          have h4 : ¬ st + i + n ≤ (bs.length : Int) := fun e => h1 (Or.inr e)
          rcases h2 with h2 | h2
          · exact absurd h2 h3
          · omega
        · injection hk with _ h2; exact absurd h2 (by decide)
theorem rowS_rng {bs key : List Int} {s : Sr} : ∀ {k : Nat} {i : Int} (r : Int × Int), rowS bs s key k i = some r → r.2 = 90 → 0 ≤ r.1 ∧ r.1 < 4294967296 := by
  intro k
  induction k with
  | zero => intro i r h; exact absurd h (by simp [rowS])
  | succ k ih =>
    intro i r h h2
    unfold rowS at h
    split at h
    · simp only at h
      split at h
      · injection h with h; subst h; exact ⟨Int.le_refl 0, by show (0 : Int) < 4294967296; omega⟩
      · split at h
        · injection h with h; subst h; exact absurd (show (0 : Int) = 90 from h2) (by decide)
        · split at h
          · injection h with h; subst h; exact absurd (show (0 : Int) = 90 from h2) (by decide)
          · exact ih r h h2
    · injection h with h; subst h; exact absurd (show (0 : Int) = 90 from h2) (by decide)
/-- all of the law, in plain words -/
theorem spans_all (bs : List Int) (a n st : Int) (hl : bs.length = 4096) (hn : 0 ≤ n ∧ n < 256) (ha : 0 ≤ a ∧ a < 65536) (hs : 0 ≤ st ∧ st < 65536) :
    (4096 < a + n ∧ 0 < n ∧ keyS bs (spanSr a n st) = ([], 90) ∧ LinearS bs (spanSr a n st) 1 = some (0, 90)) ∨ (¬ (4096 < a + n ∧ 0 < n) ∧ ∃ key k r e, keyS bs (spanSr a n st) = (key, 0) ∧ (key.length : Int) = n ∧ LinearS bs (spanSr a n st) k = some (r, e) ∧ 0 ≤ r ∧ r < 4294967296 ∧ ((e = 90 ∧ a < st) ∨ (e = 0 ∧ spanS bs r n = (key, 0) ∧ st ≤ r ∧ (st ≤ a → r ≤ a)))) := by
  by_cases c : n = 0 ∨ a + n ≤ 4096
  · refine Or.inr ⟨by omega, ?_⟩
    have hk := spanS_ok (bs := bs) (a := a) (n := n) (by rw [hl]; exact c)
    have hlen := spanS_len hn.1 ha.1 hk
    have hkk := (spans_key (bs := bs) (a := a) (st := st) hn).trans hk
    obtain ⟨k, r, _, h1, _⟩ := ends_all (bs := bs) (s := spanSr a n st) (mkOk (by omega) (by omega) (by omega) (by omega) (by omega) (by omega) (by omega) (by omega)) (by omega) (by rw [hkk])
    have hL : LinearS bs (spanSr a n st) k = some r := by unfold LinearS; rw [if_pos (by rw [hkk])]; exact h1
    rw [hkk] at h1
    rcases spans_row bs _ a n st hl hn ha hs hk k 0 r (by omega) h1 with ⟨q1, q2, q3, q4, q5⟩ | ⟨q1, q2⟩
    · exact ⟨_, k, r.1, r.2, hkk, hlen, hL, by omega, q3, Or.inr ⟨q1, q4, by omega, fun h => q5 (by omega)⟩⟩
    · refine ⟨_, k, r.1, r.2, hkk, hlen, hL, ?_, ?_, Or.inl ⟨q1, by omega⟩⟩
      · exact (rowS_rng r h1 q1).1
      · exact (rowS_rng r h1 q1).2
  · have hk := (spans_key (bs := bs) (a := a) (st := st) hn).trans (spanS_no (bs := bs) (a := a) (n := n) (by rw [hl]; exact c))
    refine Or.inl ⟨by omega, by omega, hk, ?_⟩
    unfold LinearS
    rw [hk]; rfl
end Go.Proofs.Ytohmipmioaceeaa.Pure

/- The law FindSpans walked. -/
namespace Go.Proofs.Ytohmipmioaceeaa.PQ
open Go.RowKit Go.Proofs.YtohmipmioaceeaaW.PrintWords Go.Proofs.YtohmipmioaceeaaW.PrintLast Go.Proofs.YtohmipmioaceeaaW.PrintMore Go.Proofs.Ytohmipmioaceeaa.Z Go.Proofs.Ytohmipmioaceeaa.Pure
set_option linter.unusedVariables false
set_option linter.unusedSimpArgs false
theorem RW.ne32 {w : World} {base g gb c gs t : Nat} {bs : List Int} {cs : Array Value} (h : RW w base g gb c bs) (hb : w.heap[gs]? = some (.cells cs t (0, 0))) (h1 : 64 ≠ t) (h2 : 5 ≠ t) : some g ≠ some gs ∧ some gb ≠ some gs := by
  obtain ⟨x, k1, _⟩ := h.blk
  have a := blk_ne k1 hb h1
  have b := ne_of_R h.row hb h2
  exact ⟨by simpa using a, by simpa using fun e => b e.symm⟩
theorem wf_u16 {a : Int} (h : (Lit.int .u16 a).wf = true) : 0 ≤ a ∧ a < 65536 := by
  simp [Lit.wf, IntKind.min, IntKind.max, IntKind.signed, IntKind.bits] at h; omega
theorem b32s (a n st : Int) (w : World) : (Instr.build 32 #[(0, .int .u32 a), (1, .int .u32 n), (2, .int .u32 st), (3, .int .u32 1), (4, .int .u32 4294967295), (7, .int .u32 1)]).run Try.prog w = .ok (.agg #[.int .u32 a, .int .u32 n, .int .u32 st, .int .u32 1, .int .u32 4294967295, .int .u32 0, .int .u32 0, .int .u32 1]) w := run_build w 32 _ _ (by kernel_rfl)
end Go.Proofs.Ytohmipmioaceeaa.PQ

/- Structures of any size, upwards or downwards: what is found of the one byte that is written. -/
namespace Go.Proofs.Ytohmipmioaceeaa.Pure
open Go.RowKit Go.Proofs.Ytohmipmioaceeaa.PQ Go.Proofs.YtohmipmioaceeaaW.PrintWords Go.Proofs.YtohmipmioaceeaaW.PrintLast Go.Proofs.YtohmipmioaceeaaW.PrintMore Go.Proofs.Ytohmipmioaceeaa.Z
set_option linter.unusedVariables false
theorem wf_i8 {a : Int} (h : (Lit.int .i8 a).wf = true) : -128 ≤ a ∧ a < 128 := by
  simp [Lit.wf, IntKind.min, IntKind.max, IntKind.signed, IntKind.bits] at h; omega
theorem rd_laid0 {p : Int} (h : 256 ≤ p ∧ p < 4096) : rd (laidB [] 0) p = 0 := by
  obtain ⟨n, rfl⟩ : ∃ n : Nat, p = (n : Int) := ⟨p.toNat, by omega⟩
  rw [show laidB [] 0 = gm ++ List.replicate 3840 0 from rfl]
  have hl : n < (gm ++ List.replicate 3840 (0 : Int)).length := by rw [List.length_append, gm_len, List.length_replicate]; omega
  rw [rd_nat hl]
  rw [List.getElem_append_right (by rw [gm_len]; omega), List.getElem_replicate]
theorem rd_set' {l : List Int} {p q : Int} {x : Int} (hp : 0 ≤ p ∧ p < (l.length : Int)) (hq : 0 ≤ q ∧ q < (l.length : Int)) : rd (l.set q.toNat x) p = if p = q then x else rd l p := by
  obtain ⟨n, rfl⟩ : ∃ n : Nat, p = (n : Int) := ⟨p.toNat, by omega⟩
  obtain ⟨m, rfl⟩ : ∃ m : Nat, q = (m : Int) := ⟨q.toNat, by omega⟩
  rw [Int.toNat_natCast, rd_nat (by rw [List.length_set]; omega), rd_nat (by omega), List.getElem_set]
  by_cases c : m = n
  · subst c; rw [if_pos rfl, if_pos rfl]
  · rw [if_neg c, if_neg (by omega)]
theorem span1 {bs : List Int} {p : Int} (h : 0 ≤ p ∧ p < (bs.length : Int)) : spanS bs p 1 = ([rd bs p], 0) := by
  obtain ⟨n, rfl⟩ : ∃ n : Nat, p = (n : Int) := ⟨p.toNat, by omega⟩
  rw [spanS_ok (by omega), Int.toNat_natCast, drop_at (by omega)]
  rfl
theorem step_addr {a0 a1 j : Int} (h : 0 ≤ a0 + j * a1 ∧ a0 + j * a1 < 4294967296) : (a0 + j * (a1 % 4294967296) % 4294967296) % 4294967296 = a0 + j * a1 := by
  have e : a1 % 4294967296 = a1 - 4294967296 * (a1 / 4294967296) := by omega
  have e2 : j * (a1 % 4294967296) = j * a1 - 4294967296 * (j * (a1 / 4294967296)) := by rw [e, Int.mul_sub, Int.mul_left_comm]
  rw [e2]
  omega
theorem step_between {a0 a1 a2 j : Int} (hj : 0 ≤ j ∧ j ≤ a2) (h0 : 256 ≤ a0 ∧ a0 < 4096) (h : 256 ≤ a0 + a2 * a1 ∧ a0 + a2 * a1 < 4096) : 256 ≤ a0 + j * a1 ∧ a0 + j * a1 < 4096 := by
  by_cases c : 0 ≤ a1
  · have k1 : 0 ≤ j * a1 := Int.mul_nonneg hj.1 c
    have k2 : j * a1 ≤ a2 * a1 := Int.mul_le_mul_of_nonneg_right hj.2 c
    omega
  · have k1 : 0 ≤ j * (-a1) := Int.mul_nonneg hj.1 (by omega)
    have k2 : j * (-a1) ≤ a2 * (-a1) := Int.mul_le_mul_of_nonneg_right hj.2 (by omega)
    rw [Int.mul_neg] at k1 k2
    rw [Int.mul_neg] at k2
    omega
abbrev stepSr (a0 a1 a3 cn op : Int) : Sr := Sr.mk a3 1 a0 (a1 % 4294967296) cn 0 0 op
theorem step_key {bs : List Int} {a0 a1 a3 cn op : Int} (h3 : 0 ≤ a3 ∧ a3 < 256) (ho : hasB op 1 = false) : keyS bs (stepSr a0 a1 a3 cn op) = ([a3], 0) := by
  have hb : keyBad (stepSr a0 a1 a3 cn op) = false := by
    unfold keyBad
    show (decide ((1 : Int) > 256) || (!hasB op 1 && (1 : Int) != 1 && (1 : Int) != 2 && (1 : Int) != 4)) = false
    rw [ho]; decide
  unfold keyS
  rw [hb, if_neg (by decide), if_neg (by show ¬ hasB op 1 = true; rw [ho]; decide)]
  show (byts a3.toNat 1, (0 : Int)) = ([a3], 0)
  unfold byts byts
  rw [List.nil_append, show ((a3.toNat % 256 : Nat) : Int) = a3 by omega]
/-- the bytes after the writing -/
abbrev stepB (ad a3 : Int) : List Int := (laidB [] 0).set ad.toNat a3
theorem stepB_len (ad a3 : Int) : (stepB ad a3).length = 4096 := by rw [List.length_set, laidB_len (by simp) (by omega)]
theorem step_at {a0 a1 a2 a3 cn op j : Int} (hj : 0 ≤ j ∧ j ≤ a2) (h0 : 256 ≤ a0 ∧ a0 < 4096) (h : 256 ≤ a0 + a2 * a1 ∧ a0 + a2 * a1 < 4096) :
    atS (stepB (a0 + a2 * a1) a3) (stepSr a0 a1 a3 cn op) [a3] (((stepSr a0 a1 a3 cn op).start + j * (stepSr a0 a1 a3 cn op).size % 4294967296) % 4294967296) = (cmpI [if j * a1 = a2 * a1 then a3 else 0] [a3], allz [if j * a1 = a2 * a1 then a3 else 0], 0) := by
  have hb := step_between hj h0 h
  have e1 : ((stepSr a0 a1 a3 cn op).start + j * (stepSr a0 a1 a3 cn op).size % 4294967296) % 4294967296 = a0 + j * a1 := step_addr (a0 := a0) (a1 := a1) (j := j) (by omega)
  rw [e1]
  have hl := stepB_len (a0 + a2 * a1) a3
  have hs := span1 (bs := stepB (a0 + a2 * a1) a3) (p := a0 + j * a1) (by omega)
  rw [rd_set' (by rw [laidB_len (by simp) (by omega)]; omega) (by rw [laidB_len (by simp) (by omega)]; omega), rd_laid0 hb] at hs
  have e3 : (if a0 + j * a1 = a0 + a2 * a1 then a3 else 0) = (if j * a1 = a2 * a1 then a3 else 0) := by
    by_cases c : j * a1 = a2 * a1
    · rw [if_pos c, if_pos (by omega)]
    · rw [if_neg c, if_neg (by omega)]
  rw [e3] at hs
  exact atS_ok (by show spanS _ ((a0 + j * a1 + 0) % 4294967296) 1 = _; rw [show (a0 + j * a1 + 0) % 4294967296 = a0 + j * a1 by omega]; exact hs)
theorem step_row {a0 a1 a2 a3 cn op : Int} (h2 : 0 ≤ a2 ∧ a2 < 256) (h3 : 0 < a3 ∧ a3 < 256) (h1 : a1 ≠ 0 ∧ -128 ≤ a1 ∧ a1 < 128) (hop : hasB op 2 = false) (h0 : 256 ≤ a0 ∧ a0 < 4096) (h : 256 ≤ a0 + a2 * a1 ∧ a0 + a2 * a1 < 4096) :
    ∀ (d : Nat) (j : Int), 0 ≤ j → j + d = a2 → ((a2 < cn ∨ cn = 4294967295) → rowS (stepB (a0 + a2 * a1) a3) (stepSr a0 a1 a3 cn op) [a3] (d + 1) j = some (toldS (stepSr a0 a1 a3 cn op) a2, 0)) ∧ (cn = a2 → rowS (stepB (a0 + a2 * a1) a3) (stepSr a0 a1 a3 cn op) [a3] (d + 1) j = some (noneS (stepSr a0 a1 a3 cn op), 0)) := by
  intro d
  induction d with
  | zero =>
    intro j hj he
    obtain rfl : j = a2 := by omega
    refine ⟨fun hc => ?_, fun hc => ?_⟩
    · unfold rowS
      rw [if_pos (by show j < cn ∨ cn = 4294967295; exact hc), step_at ⟨hj, Int.le_refl _⟩ h0 h, if_pos rfl]
      have : cmpI [a3] [a3] = 0 := (cmpI_eq _ _).2 rfl
      simp [this]
    · unfold rowS
      rw [if_neg (by show ¬ (j < cn ∨ cn = 4294967295); omega)]
  | succ d ih =>
    intro j hj he
    have hne : j * a1 ≠ a2 * a1 := fun e => by have := Int.eq_of_mul_eq_mul_right h1.1 e; omega
    have hc0 : cmpI [(0 : Int)] [a3] ≠ 0 := fun e => by have := (cmpI_eq _ _).1 e; simp at this; omega
    have hsz : a1 % 4294967296 ≠ 0 := by omega
    have hat := step_at (cn := cn) (op := op) (a3 := a3) ⟨hj, by omega⟩ h0 h (j := j)
    rw [if_neg hne] at hat
    have hz : ¬ ((allz [(0 : Int)] && hasB (stepSr a0 a1 a3 cn op).opts 2) = true ∨ (stepSr a0 a1 a3 cn op).size = 0) := by
      rw [show hasB (stepSr a0 a1 a3 cn op).opts 2 = false from hop, Bool.and_false]
      intro h; rcases h with h | h
      · cases h
      · exact hsz h
    obtain ⟨i1, i2⟩ := ih (j + 1) (by omega) (by omega)
    refine ⟨fun hc => ?_, fun hc => ?_⟩
    all_goals
      unfold rowS
      rw [if_pos (by show j < cn ∨ cn = 4294967295; omega), hat]
      simp only [ne_eq, not_true_eq_false, if_false, if_neg hc0, if_neg hz]
      rw [show (j + 1) % 4294967296 = j + 1 by omega]
    · exact i1 hc
    · exact i2 hc
theorem steps_all {a0 a1 a2 a3 ad : Int} (had : ad = a0 + a2 * a1) (h2 : 0 ≤ a2 ∧ a2 < 256) (h3 : 0 < a3 ∧ a3 < 256) (h1 : a1 ≠ 0 ∧ -128 ≤ a1 ∧ a1 < 128) (h0 : 256 ≤ a0 ∧ a0 < 4096) (h : 256 ≤ ad ∧ ad < 4096) :
    LinearS (stepB ad a3) (stepSr a0 a1 a3 (a2 + 1) 0) (a2.toNat + 1) = some (ad, 0) ∧ LinearS (stepB ad a3) (stepSr a0 a1 a3 a2 0) (a2.toNat + 1) = some (0, 0) ∧ LinearS (stepB ad a3) (stepSr a0 a1 a3 4294967295 4) (a2.toNat + 1) = some (a2, 0) := by
  subst had
  have k1 := (step_row (cn := a2 + 1) (op := 0) h2 h3 h1 rfl h0 h a2.toNat 0 (by omega) (by omega)).1 (Or.inl (by omega))
  have k2 := (step_row (cn := a2) (op := 0) h2 h3 h1 rfl h0 h a2.toNat 0 (by omega) (by omega)).2 rfl
  have k3 := (step_row (cn := 4294967295) (op := 4) h2 h3 h1 rfl h0 h a2.toNat 0 (by omega) (by omega)).1 (Or.inr rfl)
  rw [show toldS (stepSr a0 a1 a3 (a2 + 1) 0) a2 = a0 + a2 * a1 from step_addr (a0 := a0) (a1 := a1) (j := a2) (by omega)] at k1
  rw [show noneS (stepSr a0 a1 a3 a2 0) = 0 from rfl] at k2
  rw [show toldS (stepSr a0 a1 a3 4294967295 4) a2 = a2 from rfl] at k3
  unfold LinearS
  rw [step_key ⟨by omega, h3.2⟩ rfl, step_key ⟨by omega, h3.2⟩ rfl, step_key ⟨by omega, h3.2⟩ rfl]
  exact ⟨k1, k2, k3⟩
end Go.Proofs.Ytohmipmioaceeaa.Pure

/- The law FindSteps walked. -/
namespace Go.Proofs.Ytohmipmioaceeaa.PQ
open Go.RowKit Go.Proofs.YtohmipmioaceeaaW.PrintWords Go.Proofs.YtohmipmioaceeaaW.PrintLast Go.Proofs.YtohmipmioaceeaaW.PrintMore Go.Proofs.Ytohmipmioaceeaa.Z Go.Proofs.Ytohmipmioaceeaa.Pure
set_option linter.unusedVariables false
set_option linter.unusedSimpArgs false
theorem row11 : grottolaw13_row.f 2 1 1 = some [256] := by kernel_rfl
theorem laid_nil (w : World) : Calls Try.prog 15 #[.slice none 0 0] w fun e w' => ∃ g gb c h : Nat, e = .returned (.tuple #[.pointer (some ⟨g, 0, none⟩), .pointer (some ⟨h, 0, none⟩)]) ∧ PW w' w.heap.size g gb c (laidB [] 0) ∧ Below w.heap.size w w' :=
  (laid.is none 0 [] w (Kd.R_reads' (Kd.R_nil (Kd.int .u8) 5 w 0 (fun _ => True))).2.2 (by intro x hx; cases hx) (by simp)).mono fun e w' hh => by
    obtain ⟨g, gb, c, h, hb', d, he, hm, hw, hne, hge, hhe, hb⟩ := hh
    exact ⟨g, gb, c, h, he, hm, hb⟩
theorem b32t (a n st cn : Int) (w : World) : (Instr.build 32 #[(0, .int .u32 a), (1, .int .u32 1), (2, .int .u32 n), (3, .int .u32 st), (4, .int .u32 cn)]).run Try.prog w = .ok (.agg #[.int .u32 a, .int .u32 1, .int .u32 n, .int .u32 st, .int .u32 cn, .int .u32 0, .int .u32 0, .int .u32 0]) w := run_build w 32 _ _ (by kernel_rfl)
end Go.Proofs.Ytohmipmioaceeaa.PQ

/- Words laid into memory, one behind the other. -/
namespace Go.Proofs.Ytohmipmioaceeaa.Pure
open Go.RowKit Go.Proofs.Ytohmipmioaceeaa.PQ Go.Proofs.YtohmipmioaceeaaW.PrintWords Go.Proofs.YtohmipmioaceeaaW.PrintLast Go.Proofs.YtohmipmioaceeaaW.PrintMore Go.Proofs.Ytohmipmioaceeaa.Z
set_option linter.unusedVariables false
theorem byts4 (x : Nat) (hx : x < 4294967296) : byts x 4 = [((x / 16777216 : Nat) : Int), ((x / 65536 % 256 : Nat) : Int), ((x / 256 % 256 : Nat) : Int), ((x % 256 : Nat) : Int)] := by
  unfold byts byts byts byts byts
  have a : x / 256 / 256 / 256 % 256 = x / 16777216 := by omega
  have b : x / 256 / 256 % 256 = x / 65536 % 256 := by omega
  rw [a, b]
  rfl
theorem rput_eq {x : Nat} (hx : x < 4294967296) {k : Nat} (hk : 20 < k) : grottoref01_Put.f k (x : Int) 4 = some (byts x 4) := by
  obtain ⟨k, rfl⟩ : ∃ j, k = j + 10 := ⟨k - 10, by omega⟩
  have step : ∀ (k p : Nat) (l : List Int) (i : Int), 0 ≤ i → i < 4 → 0 < p → p ≤ 16777216 → l.length < 100 → grottoref01_Put.l1 (k + 1) (x : Int) 4 l (p : Int) i = grottoref01_Put.l1 k (x : Int) 4 (l ++ [((x / p % 256 : Nat) : Int)]) ((p / 256 : Nat) : Int) (i + 1) := by
    intro k p l i h0 h1 hp hp2 hl
    have xp : x / p ≤ x := Nat.div_le_self _ _
    have d1 : Int.tdiv (x : Int) (p : Int) = ((x / p : Nat) : Int) := by rw [Int.tdiv_eq_ediv_of_nonneg (by omega)]; rfl
    generalize x / p = q at xp d1 ⊢
    have d2 : Int.tmod (q : Int) 256 = ((q % 256 : Nat) : Int) := by rw [Int.tmod_eq_emod_of_nonneg (by omega)]; rfl
    have d3 : Int.tdiv (p : Int) 256 = ((p / 256 : Nat) : Int) := by rw [Int.tdiv_eq_ediv_of_nonneg (by omega)]; rfl
    have m : ((q % 256 : Nat) : Int) % 256 = ((q % 256 : Nat) : Int) := by omega
    rw [grottoref01_Put.l1.eq_2, if_pos h1, if_neg (by omega), if_pos (by omega), w64 (n := (x : Int)) (by omega) (by omega), d1, w64 (n := (q : Int)) (by omega) (by omega), d2, d3, w64 (n := ((p / 256 : Nat) : Int)) (by omega) (by omega), w64 (n := i + 1) (by omega) (by omega), m]
  have s0 : grottoref01_Put.l0 (k + 9) (x : Int) 4 1 1 = grottoref01_Put.l0 (k + 8) (x : Int) 4 256 2 := by
    rw [grottoref01_Put.l0.eq_2, if_pos (by decide)]; congr 1 <;> decide +kernel
  have s1 : grottoref01_Put.l0 (k + 8) (x : Int) 4 256 2 = grottoref01_Put.l0 (k + 7) (x : Int) 4 65536 3 := by
    rw [grottoref01_Put.l0.eq_2, if_pos (by decide)]; congr 1 <;> decide +kernel
  have s2 : grottoref01_Put.l0 (k + 7) (x : Int) 4 65536 3 = grottoref01_Put.l0 (k + 6) (x : Int) 4 16777216 4 := by
    rw [grottoref01_Put.l0.eq_2, if_pos (by decide)]; congr 1 <;> decide +kernel
  have s3 : grottoref01_Put.l0 (k + 6) (x : Int) 4 16777216 4 = grottoref01_Put.l1 (k + 5) (x : Int) 4 [] 16777216 0 := by
    rw [grottoref01_Put.l0.eq_2, if_neg (by decide)]
  unfold grottoref01_Put.f
  rw [if_neg (by decide), if_neg (by decide)]
  have j : grottoref01_Put.j0 (k + 10) (x : Int) 4 ((4 : Int) != 4) = grottoref01_Put.l0 (k + 9) (x : Int) 4 1 1 := by
    rw [grottoref01_Put.j0.eq_2, if_neg (by decide)]
  rw [j, s0, s1, s2, s3]
  refine (step (k + 4) 16777216 [] 0 (by decide) (by decide) (by decide) (by decide) (by simp)).trans ?_
  refine (step (k + 3) 65536 _ 1 (by decide) (by decide) (by decide) (by decide) (by simp)).trans ?_
  refine (step (k + 2) 256 _ 2 (by decide) (by decide) (by decide) (by decide) (by simp)).trans ?_
  refine (step (k + 1) 1 _ 3 (by decide) (by decide) (by decide) (by decide) (by simp)).trans ?_
  rw [grottoref01_Put.l1.eq_2, if_neg (by decide), byts4 x hx]
  have a : x / 16777216 % 256 = x / 16777216 := by omega
  rw [a, Nat.div_one]
  rfl
def W32 (l : List Int) : Prop := ∀ x ∈ l, 0 ≤ x ∧ x < 4294967296
theorem W32.at {l : List Int} (h : W32 l) {i : Nat} (hi : i < l.length) : 0 ≤ rd l (i : Int) ∧ rd l (i : Int) < 4294967296 := by
  rw [rd_nat hi]; exact h _ (List.getElem_mem hi)
def wordsB (l : List Int) : List Int := l.flatMap (fun x => byts x.toNat 4)
theorem wordsB_len (l : List Int) : (wordsB l).length = 4 * l.length := by
  induction l with
  | nil => rfl
  | cons x l ih => unfold wordsB at ih ⊢; rw [List.flatMap_cons, List.length_append, ih, byts_len, List.length_cons]; omega
theorem wordsB_byt (l : List Int) : Byt (wordsB l) := by
  intro b hb
  obtain ⟨x, _, hx⟩ := List.mem_flatMap.1 hb
  exact byts_byt _ _ b hx
theorem wordsB_app (a b : List Int) : wordsB (a ++ b) = wordsB a ++ wordsB b := List.flatMap_append
theorem wordsB_one (x : Int) : wordsB [x] = byts x.toNat 4 := by unfold wordsB; rw [List.flatMap_cons, List.flatMap_nil, List.append_nil]
theorem wordsB_split {l : List Int} {i : Nat} (h : i < l.length) : wordsB l = wordsB (l.take i) ++ (byts (rd l (i : Int)).toNat 4 ++ wordsB (l.drop (i + 1))) := by
  conv => lhs; rw [← List.take_append_drop i l]
  rw [wordsB_app, drop_at h, show rd l (i : Int) :: l.drop (i + 1) = [rd l (i : Int)] ++ l.drop (i + 1) from rfl, wordsB_app, wordsB_one]
theorem wordsB_take {l : List Int} {i : Nat} (h : i < l.length) : wordsB (l.take (i + 1)) = wordsB (l.take i) ++ byts (rd l (i : Int)).toNat 4 := by
  rw [List.take_succ_eq_append_getElem h, wordsB_app, wordsB_one, rd_nat h]
theorem words_l0 (l : List Int) (hw : W32 l) (hl : l.length ≤ 100000) : ∀ (d i k : Nat), i + d = l.length → d + 30 < k → grottolaw13_words.l0 k l (wordsB (l.take i)) (i : Int) = some (wordsB l) := by
  intro d
  induction d with
  | zero =>
    intro i k hi hk
    obtain ⟨k, rfl⟩ : ∃ j, k = j + 1 := ⟨k - 1, by omega⟩
    rw [grottolaw13_words.l0.eq_2, if_neg (by omega), List.take_of_length_le (by omega)]
  | succ d ih =>
    intro i k hi hk
    obtain ⟨k, rfl⟩ : ∃ j, k = j + 1 := ⟨k - 1, by omega⟩
    have hil : i < l.length := by omega
    have hr := hw.at hil
    obtain ⟨x, hx⟩ : ∃ x : Nat, rd l (i : Int) = (x : Int) := ⟨(rd l (i : Int)).toNat, by omega⟩
    have hln := wordsB_len (l.take i)
    rw [List.length_take] at hln
    have hb := byts_len 4 x
    have e : wordsB (l.take (i + 1)) = wordsB (l.take i) ++ byts x 4 := by rw [wordsB_take hil, hx, Int.toNat_natCast]
    rw [grottolaw13_words.l0.eq_2, if_pos (by omega), if_pos (by omega), hx, rput_eq (by omega) (by omega), Option.bind_some, if_pos (by rw [hln, hb]; omega), w64 (by omega) (by omega), ← e]
    exact ih (i + 1) k (by omega) (by omega)
theorem words_f (l : List Int) (hw : W32 l) (hl : l.length ≤ 100000) : ∃ k, grottolaw13_words.f k l = some (wordsB l) :=
  ⟨l.length + 31, words_l0 l hw hl l.length 0 _ (by omega) (by omega)⟩
/-- the memory with words in it -/
abbrev wordM (l : List Int) : List Int := laidB (wordsB l) (4 * l.length)
theorem wordM_len {l : List Int} (h : l.length ≤ 960) : (wordM l).length = 4096 := laidB_len (by rw [wordsB_len]; omega) (by omega)
theorem span_word {l : List Int} (h : l.length ≤ 960) {i : Nat} (hi : i < l.length) : spanS (wordM l) (256 + 4 * (i : Int)) 4 = (byts (rd l (i : Int)).toNat 4, 0) := by
  have hlen := wordM_len h
  rw [spanS_ok (by rw [hlen]; omega)]
  have e : (256 + 4 * (i : Int)).toNat = 256 + 4 * i := by omega
  have ef : wordM l = (gm ++ wordsB (l.take i)) ++ (byts (rd l (i : Int)).toNat 4 ++ (wordsB (l.drop (i + 1)) ++ List.replicate (3840 - 4 * l.length) 0)) := by
    show gm ++ ((wordsB l).take (4 * l.length) ++ _) = _
    rw [List.take_of_length_le (by rw [wordsB_len]; omega)]
    conv => lhs; rw [wordsB_split hi]
    simp only [List.append_assoc]
  have hp : (gm ++ wordsB (l.take i)).length = 256 + 4 * i := by rw [List.length_append, gm_len, wordsB_len, List.length_take]; omega
  rw [e, ef, List.drop_append_of_le_length (by omega), List.drop_eq_nil_of_le (by omega), List.nil_append]
  rw [List.take_append_of_le_length (by rw [byts_len]; decide), List.take_of_length_le (by rw [byts_len]; decide)]
theorem byts_inj4 {x y : Int} (hx : 0 ≤ x ∧ x < 4294967296) (hy : 0 ≤ y ∧ y < 4294967296) : byts x.toNat 4 = byts y.toNat 4 ↔ x = y := by
  refine ⟨fun h => ?_, fun h => by rw [h]⟩
  have h2 := congrArg (bev 0) h
  rw [bev_byts, bev_byts, show 256 ^ 4 = 4294967296 from rfl] at h2
  omega
theorem allz_byts4 {x : Int} (hx : 0 ≤ x ∧ x < 4294967296) : allz (byts x.toNat 4) = (x == 0) := by
  rw [byts4 _ (by omega)]
  unfold allz
  rw [Bool.eq_iff_iff]
  simp only [List.all_cons, List.all_nil, Bool.and_true, Bool.and_eq_true, beq_iff_eq]
  constructor
  · intro h; omega
  · intro h; subst h; decide
/-- the place where the row's search stops: from place i on -/
def firstI (key : Int) (zero : Bool) : List Int → Int → Int
  | [], _ => -1
  | x :: l, i => if x = key then i else if (zero && (x == 0)) = true then -1 else firstI key zero l (i + 1)
theorem firstI_rng (key : Int) (zero : Bool) : ∀ (l : List Int) (i : Int), firstI key zero l i = -1 ∨ (i ≤ firstI key zero l i ∧ firstI key zero l i < i + l.length) := by
  intro l
  induction l with
  | nil => intro i; exact Or.inl rfl
  | cons x l ih =>
    intro i
    unfold firstI
    split
    · refine Or.inr ⟨Int.le_refl _, ?_⟩; rw [List.length_cons]; omega
    · split
      · exact Or.inl rfl
      · rcases ih (i + 1) with h | ⟨h1, h2⟩
        · exact Or.inl h
        · refine Or.inr ⟨by omega, ?_⟩; rw [List.length_cons]; omega
abbrev rowSr (key n op : Int) : Sr := Sr.mk key 4 256 4 n 0 0 op
theorem row_key {bs : List Int} {key n op : Int} (ho : hasB op 1 = false) : keyS bs (rowSr key n op) = (byts key.toNat 4, 0) := by
  have hb : keyBad (rowSr key n op) = false := by
    unfold keyBad
    show (decide ((4 : Int) > 256) || (!hasB op 1 && (4 : Int) != 1 && (4 : Int) != 2 && (4 : Int) != 4)) = false
    rw [ho]; decide
  unfold keyS
  rw [hb, if_neg (by decide), if_neg (by show ¬ hasB op 1 = true; rw [ho]; decide)]
  rfl
theorem row_at {l : List Int} (hl : l.length ≤ 960) {key n op : Int} {i : Nat} (hi : i < l.length) :
    atS (wordM l) (rowSr key n op) (byts key.toNat 4) ((256 + (i : Int) * 4 % 4294967296) % 4294967296) = (cmpI (byts (rd l (i : Int)).toNat 4) (byts key.toNat 4), allz (byts (rd l (i : Int)).toNat 4), 0) := by
  rw [show (256 + (i : Int) * 4 % 4294967296) % 4294967296 = 256 + 4 * (i : Int) by omega]
  exact atS_ok (by show spanS _ ((256 + 4 * (i : Int) + 0) % 4294967296) 4 = _; rw [show (256 + 4 * (i : Int) + 0) % 4294967296 = 256 + 4 * (i : Int) by omega]; exact span_word hl hi)
theorem first_row {l : List Int} (hw : W32 l) (hl : l.length ≤ 960) {key op : Int} (hk : 0 ≤ key ∧ key < 4294967296) {zero : Bool} (hz : hasB op 2 = zero) :
    ∀ (d i : Nat), i + d = l.length → rowS (wordM l) (rowSr key (l.length : Int) op) (byts key.toNat 4) (d + 1) (i : Int) = some (if firstI key zero (l.drop i) (i : Int) = -1 then noneS (rowSr key (l.length : Int) op) else toldS (rowSr key (l.length : Int) op) (firstI key zero (l.drop i) (i : Int)), 0) := by
  intro d
  induction d with
  | zero =>
    intro i hi
    unfold rowS
    rw [if_neg (by show ¬ ((i : Int) < (l.length : Int) ∨ (l.length : Int) = 4294967295); omega), List.drop_eq_nil_of_le (by omega)]
    rfl
  | succ d ih =>
    intro i hi
    have hil : i < l.length := by omega
    have hr := hw.at hil
    unfold rowS
    rw [if_pos (by show (i : Int) < (l.length : Int) ∨ (l.length : Int) = 4294967295; omega)]
    show (let r := atS (wordM l) (rowSr key (l.length : Int) op) (byts key.toNat 4) ((256 + (i : Int) * 4 % 4294967296) % 4294967296); _) = _
    rw [row_at hl hil, drop_at hil]
    have hc : cmpI (byts (rd l (i : Int)).toNat 4) (byts key.toNat 4) = 0 ↔ rd l (i : Int) = key := (cmpI_eq _ _).trans (byts_inj4 hr hk)
    unfold firstI
    by_cases c : rd l (i : Int) = key
    · simp only [ne_eq, not_true_eq_false, if_false, if_pos (hc.2 c), if_pos c]
      rw [if_neg (show ¬ ((i : Int) = -1) by omega)]
    · have hs : ¬ ((rowSr key (l.length : Int) op).size = 0) := by show ¬ ((4 : Int) = 0); decide
      simp only [ne_eq, not_true_eq_false, if_false, if_neg (fun e => c (hc.1 e)), if_neg c, allz_byts4 hr]
      rw [show hasB (rowSr key (l.length : Int) op).opts 2 = zero from hz]
      by_cases c2 : (zero && (rd l (i : Int) == 0)) = true
      · rw [if_pos c2, if_pos (Or.inl (by rw [Bool.and_comm]; exact c2)), if_pos rfl]
      · rw [if_neg c2, if_neg (fun e => by rcases e with e | e; exact c2 (by rw [Bool.and_comm]; exact e); exact hs e), show ((i : Int) + 1) % 4294967296 = ((i + 1 : Nat) : Int) by omega, ih (i + 1) (by omega)]
        rfl
theorem first_all {l : List Int} (hw : W32 l) (hl : l.length ≤ 960) {key op : Int} (hk : 0 ≤ key ∧ key < 4294967296) {zero : Bool} (hz : hasB op 2 = zero) (ho : hasB op 1 = false) :
    LinearS (wordM l) (rowSr key (l.length : Int) op) (l.length + 1) = some (if firstI key zero l 0 = -1 then noneS (rowSr key (l.length : Int) op) else toldS (rowSr key (l.length : Int) op) (firstI key zero l 0), 0) := by
  unfold LinearS
  rw [row_key ho, if_pos rfl]
  have h := first_row hw hl hk hz l.length 0 (by omega)
  rw [List.drop_zero] at h
  exact h
end Go.Proofs.Ytohmipmioaceeaa.Pure

/- The law FindFirst walked. -/
namespace Go.Proofs.Ytohmipmioaceeaa.PQ
open Go.RowKit Go.Proofs.YtohmipmioaceeaaW.PrintWords Go.Proofs.YtohmipmioaceeaaW.PrintLast Go.Proofs.YtohmipmioaceeaaW.PrintMore Go.Proofs.Ytohmipmioaceeaa.Z Go.Proofs.Ytohmipmioaceeaa.Pure
set_option linter.unusedVariables false
set_option linter.unusedSimpArgs false
theorem wf32s {l : List Int} (h : ∀ x ∈ l, (Lit.int .u32 x).wf = true) : W32 l := fun x hx => wf_u32 (h x hx)
theorem words_is (A : Option Addr) (c : Nat) (l : List Int) (w : World) (hr : Kd.C (Kd.int .u32) w A l.length l) (hc : l.length ≤ c) (hw : W32 l) (hl : l.length ≤ 100000) : Calls Try.prog 16 #[.slice A l.length c] w fun e w' => ∃ (A9 : Option Addr) (c9 : Nat), e = .returned (.slice A9 (wordsB l).length c9) ∧ Kd.R (Kd.int .u8) 5 w' w.heap.size (fun _ => True) (.slice A9 (wordsB l).length c9) (wordsB l) ∧ Below w.heap.size w w' := by
  obtain ⟨k, hk⟩ := words_f l hw hl
  refine (grottolaw13_words.calls k A c l _ w hr hc hk).mono fun e w' h => ?_
  obtain ⟨v, he, hv, hb⟩ := h
  obtain ⟨A9, c9, rfl⟩ := Kd.R_slice hv
  exact ⟨A9, c9, he, hv, hb⟩
theorem laid_words (l : List Int) (A : Option Addr) (c0 : Nat) (w : World) (hr : Kd.C (Kd.int .u8) w A (wordsB l).length (wordsB l)) (hl : l.length ≤ 960) : Calls Try.prog 15 #[.slice A (wordsB l).length c0] w fun e w' => ∃ g gb c h : Nat, e = .returned (.tuple #[.pointer (some ⟨g, 0, none⟩), .pointer (some ⟨h, 0, none⟩)]) ∧ PW w' w.heap.size g gb c (wordM l) ∧ Below w.heap.size w w' := by
  have hlen := wordsB_len l
  refine (laid.is A c0 (wordsB l) w hr (wordsB_byt l) (by omega)).mono fun e w' hh => ?_
  obtain ⟨g, gb, c, h, hb', d, he, hm, hw, hne, hge, hhe, hb⟩ := hh
  rw [show min (wordsB l).length 3840 = 4 * l.length by omega] at hm
  exact ⟨g, gb, c, h, he, hm, hb⟩
theorem firstI_at {key : Int} {zero : Bool} {l : List Int} {i : Int} (h0 : 0 ≤ i) (h : i < (l.length : Int)) : firstI key zero (l.drop i.toNat) i = if rd l i = key then i else if (zero && (rd l i == 0)) = true then -1 else firstI key zero (l.drop (i + 1).toNat) (i + 1) := by
  obtain ⟨n, rfl⟩ : ∃ n : Nat, i = (n : Int) := ⟨i.toNat, by omega⟩
  rw [Int.toNat_natCast, drop_at (by omega), show ((n : Int) + 1).toNat = n + 1 by omega]
  rfl
theorem told0 {r key n op : Int} (h : 0 ≤ r ∧ r < 1000) {h2 : hasB op 4 = false} : toldS (rowSr key n op) r = 256 + 4 * r := by
  unfold toldS
  rw [if_neg (by show ¬ hasB op 4 = true; rw [h2]; decide)]
  show (256 + r * 4 % 4294967296) % 4294967296 = _
  omega
theorem b32f (a n : Int) (w : World) : (Instr.build 32 #[(0, .int .u32 a), (1, .int .u32 4), (2, .int .u32 256), (3, .int .u32 4), (4, .int .u32 n)]).run Try.prog w = .ok (.agg #[.int .u32 a, .int .u32 4, .int .u32 256, .int .u32 4, .int .u32 n, .int .u32 0, .int .u32 0, .int .u32 0]) w := run_build w 32 _ _ (by kernel_rfl)
end Go.Proofs.Ytohmipmioaceeaa.PQ

/- A chain that comes back to itself. -/
namespace Go.Proofs.Ytohmipmioaceeaa.Pure
open Go.RowKit Go.Proofs.Ytohmipmioaceeaa.PQ Go.Proofs.YtohmipmioaceeaaW.PrintWords Go.Proofs.YtohmipmioaceeaaW.PrintLast Go.Proofs.YtohmipmioaceeaaW.PrintMore Go.Proofs.Ytohmipmioaceeaa.Z
set_option linter.unusedVariables false
/-- a word read -/
theorem read_word {l : List Int} (hw : W32 l) (h : l.length ≤ 960) {i : Nat} (hi : i < l.length) : rdS (wordM l) (256 + 4 * (i : Int)) 4 = (rd l (i : Int), 0) := by
  have hs := span_word h hi
  have hr := hw.at hi
  have hlen := wordM_len h
  rw [spanS_ok (by rw [hlen]; omega)] at hs
  have hs2 : ((wordM l).drop (256 + 4 * (i : Int)).toNat).take 4 = byts (rd l (i : Int)).toNat 4 := congrArg Prod.fst hs
  unfold rdS
  rw [if_pos (by omega), if_pos (by rw [hlen]; omega)]
  show (((beN (wordM l) (256 + 4 * (i : Int)).toNat 4 : Nat) : Int), (0 : Int)) = _
  unfold beN
  rw [List.drop_take, show (256 + 4 * (i : Int)).toNat + 4 - (256 + 4 * (i : Int)).toNat = 4 by omega, hs2, bev_byts, show 256 ^ 4 = 4294967296 from rfl]
  rw [show (((rd l (i : Int)).toNat % 4294967296 : Nat) : Int) = rd l (i : Int) by omega]
def nxtI (n q j : Int) : Int := if j = n - 1 then 256 + 8 * q else 256 + 8 * (j + 1)
def ringL (l : List Int) (q : Int) (i : Nat) : List Int := (List.range i).flatMap (fun j : Nat => [rd l (j : Int), nxtI (l.length : Int) q (j : Int)])
theorem ringL_succ (l : List Int) (q : Int) (i : Nat) : ringL l q (i + 1) = ringL l q i ++ [rd l (i : Int), nxtI (l.length : Int) q (i : Int)] := by
  unfold ringL
  rw [List.range_succ, List.flatMap_append, List.flatMap_cons, List.flatMap_nil, List.append_nil]
theorem ringL_len (l : List Int) (q : Int) (i : Nat) : (ringL l q i).length = 2 * i := by
  induction i with
  | zero => rfl
  | succ i ih => rw [ringL_succ, List.length_append, ih]; simp; omega
theorem ringL_at (l : List Int) (q : Int) (i : Nat) : ∀ j, j < i → rd (ringL l q i) ((2 * j : Nat) : Int) = rd l (j : Int) ∧ rd (ringL l q i) ((2 * j + 1 : Nat) : Int) = nxtI (l.length : Int) q (j : Int) := by
  induction i with
  | zero => intro j hj; omega
  | succ i ih =>
    intro j hj
    have hl := ringL_len l q i
    have hl2 := ringL_len l q (i + 1)
    rw [rd_nat (l := ringL l q (i + 1)) (i := 2 * j) (by omega), rd_nat (l := ringL l q (i + 1)) (i := 2 * j + 1) (by omega)]
    by_cases c : j < i
    · obtain ⟨h1, h2⟩ := ih j c
      rw [rd_nat (l := ringL l q i) (i := 2 * j) (by omega)] at h1
      rw [rd_nat (l := ringL l q i) (i := 2 * j + 1) (by omega)] at h2
      simp only [ringL_succ]
      rw [List.getElem_append_left (by omega), List.getElem_append_left (by omega)]
      exact ⟨h1, h2⟩
    · obtain rfl : j = i := by omega
      simp only [ringL_succ]
      rw [List.getElem_append_right (by omega), List.getElem_append_right (by omega)]
      simp [hl]
theorem ringL_32 {l : List Int} (hw : W32 l) {q : Int} (hq : 0 ≤ q ∧ q < 65536) (hl : l.length ≤ 1000) (i : Nat) (hi : i ≤ l.length) : W32 (ringL l q i) := by
  intro x hx
  unfold ringL at hx
  obtain ⟨j, hj, hx⟩ := List.mem_flatMap.1 hx
  rw [List.mem_range] at hj
  simp only [List.mem_cons, List.not_mem_nil, or_false] at hx
  rcases hx with rfl | rfl
  · exact hw.at (by omega)
  · unfold nxtI; split <;> omega
abbrev chSr (key : Int) : Sr := Sr.mk key 4 256 0 0 0 4 0
theorem ch_key {bs : List Int} {key : Int} : keyS bs (chSr key) = (byts key.toNat 4, 0) := by
  have hb : keyBad (chSr key) = false := rfl
  unfold keyS
  rw [hb, if_neg (by decide), if_neg (by show ¬ hasB 0 1 = true; decide)]
  rfl
theorem ch_at {L : List Int} (hl : L.length ≤ 960) {key st : Int} {i : Nat} (hi : i < L.length) :
    atS (wordM L) (Sr.mk key 4 st 0 0 0 4 0) (byts key.toNat 4) (256 + 4 * (i : Int)) = (cmpI (byts (rd L (i : Int)).toNat 4) (byts key.toNat 4), allz (byts (rd L (i : Int)).toNat 4), 0) :=
  atS_ok (by show spanS _ ((256 + 4 * (i : Int) + 0) % 4294967296) 4 = _; rw [show (256 + 4 * (i : Int) + 0) % 4294967296 = 256 + 4 * (i : Int) by omega]; exact span_word hl hi)
/-- one step along the chain -/
theorem ch_step {L : List Int} (hw : W32 L) (hl : L.length ≤ 960) {key st : Int} (hk : 0 ≤ key ∧ key < 4294967296) {i : Nat} (hi : 2 * i + 1 < L.length) (k : Nat) (m : Int) (hm : m ≠ 65536) :
    chainS (wordM L) (Sr.mk key 4 st 0 0 0 4 0) (byts key.toNat 4) (k + 1) (256 + 8 * (i : Int)) m = if rd L ((2 * i : Nat) : Int) = key then some (256 + 8 * (i : Int), 0) else chainS (wordM L) (Sr.mk key 4 st 0 0 0 4 0) (byts key.toNat 4) k (rd L ((2 * i + 1 : Nat) : Int)) (m + 1) := by
  have e1 : 256 + 8 * (i : Int) = 256 + 4 * ((2 * i : Nat) : Int) := by omega
  have hr := hw.at (i := 2 * i) (by omega)
  have hc : cmpI (byts (rd L ((2 * i : Nat) : Int)).toNat 4) (byts key.toNat 4) = 0 ↔ rd L ((2 * i : Nat) : Int) = key := (cmpI_eq _ _).trans (byts_inj4 hr hk)
  conv => lhs; unfold chainS
  rw [if_neg (by omega), if_neg hm]
  show (let r := atS (wordM L) (Sr.mk key 4 st 0 0 0 4 0) (byts key.toNat 4) (256 + 8 * (i : Int)); _) = _
  rw [e1, ch_at hl (by omega)]
  by_cases c : rd L ((2 * i : Nat) : Int) = key
  · simp only [ne_eq, not_true_eq_false, if_false, if_pos (hc.2 c), if_pos c]
  · have h2 : hasB (Sr.mk key 4 st 0 0 0 4 0).opts 2 = false := rfl
    have e2 : (256 + 4 * ((2 * i : Nat) : Int) + (Sr.mk key 4 st 0 0 0 4 0).next) % 4294967296 = 256 + 4 * ((2 * i + 1 : Nat) : Int) := by show (256 + 4 * ((2 * i : Nat) : Int) + 4) % 4294967296 = _; omega
    simp only [ne_eq, not_true_eq_false, if_false, if_neg (fun e => c (hc.1 e)), if_neg c, h2, Bool.and_false, Bool.false_eq_true, e2, read_word hw hl hi]
theorem ring_in {l : List Int} (hw : W32 l) (hl : l.length ≤ 100) {key q : Int} (hk : 0 ≤ key ∧ key < 4294967296) (hq : 0 ≤ q ∧ q < (l.length : Int)) :
    ∀ (d j : Nat) (m : Int), j + d = l.length → (∃ p, j ≤ p ∧ p < l.length ∧ rd l (p : Int) = key) → m + d ≤ 60000 → 0 ≤ m → ∃ r, chainS (wordM (ringL l q l.length)) (chSr key) (byts key.toNat 4) (d + 1) (256 + 8 * (j : Int)) m = some (r, 0) ∧ 256 ≤ r ∧ r < 4294967296 := by
  intro d
  have hR := ringL_32 hw (q := q) ⟨hq.1, by omega⟩ (by omega) l.length (Nat.le_refl _)
  have hRl := ringL_len l q l.length
  induction d with
  | zero => intro j m hj ⟨p, h1, h2, _⟩ _ _; omega
  | succ d ih =>
    intro j m hj ⟨p, h1, h2, h3⟩ hm hm0
    have hjl : j < l.length := by omega
    obtain ⟨a1, a2⟩ := ringL_at l q l.length j hjl
    rw [ch_step hR (by omega) hk (by omega) _ _ (by omega), a1, a2]
    by_cases c : rd l (j : Int) = key
    · rw [if_pos c]; exact ⟨_, rfl, by omega, by omega⟩
    · rw [if_neg c]
      have hjp : j ≠ p := fun e => c (by rw [e]; exact h3)
      rw [show nxtI (l.length : Int) q (j : Int) = 256 + 8 * ((j + 1 : Nat) : Int) by unfold nxtI; rw [if_neg (by omega)]; omega]
      exact ih (j + 1) (m + 1) (by omega) ⟨p, by omega, h2, h3⟩ (by omega) (by omega)
theorem ring_out {l : List Int} (hw : W32 l) (hl : l.length ≤ 100) {key q : Int} (hk : 0 ≤ key ∧ key < 4294967296) (hq : 0 ≤ q ∧ q < (l.length : Int)) (hn : ∀ p : Nat, p < l.length → rd l (p : Int) ≠ key) :
    ∀ (d j : Nat) (m : Int), j < l.length → m + d = 65536 → chainS (wordM (ringL l q l.length)) (chSr key) (byts key.toNat 4) (d + 1) (256 + 8 * (j : Int)) m = some (0, 131) := by
  intro d
  have hR := ringL_32 hw (q := q) ⟨hq.1, by omega⟩ (by omega) l.length (Nat.le_refl _)
  have hRl := ringL_len l q l.length
  induction d with
  | zero =>
    intro j m hj hm
    unfold chainS
    rw [if_neg (by omega), if_pos (by omega)]
  | succ d ih =>
    intro j m hj hm
    obtain ⟨a1, a2⟩ := ringL_at l q l.length j hj
    rw [ch_step hR (by omega) hk (by omega) _ _ (by omega), a1, a2, if_neg (hn j hj)]
    unfold nxtI
    split
    · have := ih q.toNat (m + 1) (by omega) (by omega)
      rw [show ((q.toNat : Nat) : Int) = q by omega] at this
      exact this
    · have := ih (j + 1) (m + 1) (by omega) (by omega)
      rw [show ((j + 1 : Nat) : Int) = (j : Int) + 1 by omega] at this
      exact this
def inI (l : List Int) (key : Int) (i : Nat) : Bool := (l.take i).any (· == key)
theorem inI_succ {l : List Int} {key : Int} {i : Nat} (h : i < l.length) : inI l key (i + 1) = (inI l key i || (rd l (i : Int) == key)) := by
  unfold inI
  rw [List.take_succ_eq_append_getElem h, List.any_append, rd_nat h]
  simp
theorem ring_all {l : List Int} (hw : W32 l) (hl : l.length ≤ 100) (h1 : 1 ≤ l.length) {key q : Int} (hk : 0 ≤ key ∧ key < 4294967296) (hq : 0 ≤ q ∧ q < (l.length : Int)) :
    ∃ k r e, LinkedS (wordM (ringL l q l.length)) (chSr key) k = some (r, e) ∧ ((inI l key l.length = true ∧ e = 0 ∧ 256 ≤ r ∧ r < 4294967296) ∨ (inI l key l.length = false ∧ e = 131 ∧ r = 0)) := by
  cases hi : inI l key l.length
  · have hn : ∀ p : Nat, p < l.length → rd l (p : Int) ≠ key := by
      intro p hp e
      unfold inI at hi
      rw [List.take_of_length_le (Nat.le_refl _), List.any_eq_false] at hi
      have := hi (l[p]) (List.getElem_mem hp)
      rw [rd_nat hp] at e
      exact this (beq_iff_eq.2 e)
    refine ⟨65537, 0, 131, ?_, Or.inr ⟨rfl, rfl, rfl⟩⟩
    unfold LinkedS
    rw [ch_key, if_pos rfl]
    exact ring_out hw hl hk hq hn 65536 0 0 (by omega) (by omega)
  · unfold inI at hi
    rw [List.take_of_length_le (Nat.le_refl _), List.any_eq_true] at hi
    obtain ⟨x, hx, hxe⟩ := hi
    obtain ⟨p, hp, he⟩ := List.getElem_of_mem hx
    obtain ⟨r, h2, h3, h4⟩ := ring_in hw hl hk hq l.length 0 0 (by omega) ⟨p, by omega, hp, by rw [rd_nat hp, he]; exact beq_iff_eq.1 hxe⟩ (by omega) (by omega)
    refine ⟨l.length + 1, r, 0, ?_, Or.inl ⟨rfl, rfl, h3, h4⟩⟩
    unfold LinkedS
    rw [ch_key, if_pos rfl]
    exact h2
end Go.Proofs.Ytohmipmioaceeaa.Pure

/- The law FindRings walked. -/
namespace Go.Proofs.Ytohmipmioaceeaa.PQ
open Go.RowKit Go.Proofs.YtohmipmioaceeaaW.PrintWords Go.Proofs.YtohmipmioaceeaaW.PrintLast Go.Proofs.YtohmipmioaceeaaW.PrintMore Go.Proofs.Ytohmipmioaceeaa.Z Go.Proofs.Ytohmipmioaceeaa.Pure
set_option linter.unusedVariables false
set_option linter.unusedSimpArgs false
theorem bs2 {a : Act} {o : Oper} {W : World} {x y : Int} (p q : Tmp) (ho : o.op = .buildSlice 22 2 #[(0, .tmp p), (1, .tmp q)]) (hx : a.eval (.tmp p) = .int .u32 x) (hy : a.eval (.tmp q) = .int .u32 y) :
    (execOp a.eval o).run Try.prog W = .ok (.value (.slice (some ⟨W.heap.size, 0, none⟩) 2 2)) (W.alloc (.cells #[.int .u32 x, .int .u32 y] 23)) := by
  have hx1 : a.tmps[p]?.getD undef = .int .u32 x := by simpa [Act.eval] using hx
  have hy1 : a.tmps[q]?.getD undef = .int .u32 y := by simpa [Act.eval] using hy
  unfold execOp
  rw [ho]
  go_simp
  first | done | rfl
theorem b32r (a : Int) (w : World) : (Instr.build 32 #[(0, .int .u32 a), (1, .int .u32 4), (2, .int .u32 256), (6, .int .u32 4)]).run Try.prog w = .ok (.agg #[.int .u32 a, .int .u32 4, .int .u32 256, .int .u32 0, .int .u32 0, .int .u32 0, .int .u32 4, .int .u32 0]) w := run_build w 32 _ _ (by kernel_rfl)
theorem ring_w {i : Int} (h : 0 ≤ i ∧ i < 1000) : wrap64 (i + 1) = i + 1 ∧ wrap64 (8 * (i + 1)) = 8 * (i + 1) ∧ wrap64 (256 + 8 * (i + 1)) = 256 + 8 * (i + 1) ∧ (256 + 8 * (i + 1)) % 4294967296 = 256 + 8 * (i + 1) := ⟨w64 (by omega) (by omega), w64 (by omega) (by omega), w64 (by omega) (by omega), by omega⟩
theorem ring_q {i : Int} (h : 0 ≤ i ∧ i < 1000) : wrap64 i = i ∧ wrap64 (8 * i) = 8 * i ∧ wrap64 (256 + 8 * i) = 256 + 8 * i ∧ (256 + 8 * i) % 4294967296 = 256 + 8 * i := ⟨w64 (by omega) (by omega), w64 (by omega) (by omega), w64 (by omega) (by omega), by omega⟩
end Go.Proofs.Ytohmipmioaceeaa.PQ

/- A row that rises: by halves is found what is found one by one. -/
namespace Go.Proofs.Ytohmipmioaceeaa.Pure
open Go.RowKit Go.Proofs.Ytohmipmioaceeaa.PQ Go.Proofs.YtohmipmioaceeaaW.PrintWords Go.Proofs.YtohmipmioaceeaaW.PrintLast Go.Proofs.YtohmipmioaceeaaW.PrintMore Go.Proofs.Ytohmipmioaceeaa.Z
set_option linter.unusedVariables false
def sumI (l : List Int) : Nat → Int
  | 0 => 0
  | i + 1 => sumI l i + 1 + rd l (i : Int)
def riseL (l : List Int) (i : Nat) : List Int := (List.range i).map (fun j => sumI l (j + 1))
theorem riseL_succ (l : List Int) (i : Nat) : riseL l (i + 1) = riseL l i ++ [sumI l (i + 1)] := by
  unfold riseL
  rw [List.range_succ, List.map_append]; rfl
theorem riseL_len (l : List Int) (i : Nat) : (riseL l i).length = i := by unfold riseL; rw [List.length_map, List.length_range]
theorem riseL_at (l : List Int) {n i : Nat} (h : i < n) : rd (riseL l n) (i : Int) = sumI l (i + 1) := by
  rw [rd_nat (by rw [riseL_len]; exact h)]
  simp [riseL]
def S16 (l : List Int) : Prop := ∀ x ∈ l, 0 ≤ x ∧ x < 65536
theorem S16.at {l : List Int} (h : S16 l) {i : Nat} (hi : i < l.length) : 0 ≤ rd l (i : Int) ∧ rd l (i : Int) < 65536 := by
  rw [rd_nat hi]; exact h _ (List.getElem_mem hi)
theorem sumI_rng {l : List Int} (h : S16 l) : ∀ i, i ≤ l.length → 0 ≤ sumI l i ∧ sumI l i ≤ 65536 * i := by
  intro i
  induction i with
  | zero => intro _; exact ⟨Int.le_refl _, Int.le_refl _⟩
  | succ i ih =>
    intro hi
    have h1 := ih (by omega)
    have h2 := h.at (i := i) (by omega)
    have e : sumI l (i + 1) = sumI l i + 1 + rd l (i : Int) := rfl
    omega
theorem sumI_lt {l : List Int} (h : S16 l) {i : Nat} : ∀ j, i < j → j ≤ l.length → sumI l i < sumI l j := by
  intro j
  induction j with
  | zero => intro h1 _; omega
  | succ j ih =>
    intro h1 h2
    have h3 := h.at (i := j) (by omega)
    have e : sumI l (j + 1) = sumI l j + 1 + rd l (j : Int) := rfl
    by_cases c : i = j
    · subst c; omega
    · have := ih (by omega) (by omega); omega
/-- strictly rising words -/
structure Rise (L : List Int) : Prop where
  w : W32 L
  len : L.length ≤ 900
  lt : ∀ i j : Nat, i < j → j < L.length → rd L (i : Int) < rd L (j : Int)
theorem riseL_rise {l : List Int} (h : S16 l) (hl : l.length ≤ 900) : Rise (riseL l l.length) := by
  refine ⟨?_, by rw [riseL_len]; exact hl, ?_⟩
  · intro x hx
    unfold riseL at hx
    obtain ⟨j, hj, rfl⟩ := List.mem_map.1 hx
    rw [List.mem_range] at hj
    have := sumI_rng h (j + 1) (by omega)
    omega
  · intro i j hij hj
    rw [riseL_len] at hj
    rw [riseL_at l (by omega), riseL_at l hj]
    exact sumI_lt h _ (by omega) (by omega)
theorem cmp_byts4 {x y : Int} (hx : 0 ≤ x ∧ x < 4294967296) (hy : 0 ≤ y ∧ y < 4294967296) : cmpI (byts x.toNat 4) (byts y.toNat 4) < 0 ↔ x < y := by
  rw [byts4 _ (by omega), byts4 _ (by omega)]
  obtain ⟨a, rfl⟩ : ∃ a : Nat, x = (a : Int) := ⟨x.toNat, by omega⟩
  obtain ⟨b, rfl⟩ : ∃ b : Nat, y = (b : Int) := ⟨y.toNat, by omega⟩
  simp only [Int.toNat_natCast, cmpI]
  repeat' split
  all_goals omega
theorem firstI_found {key : Int} {l : List Int} : ∀ (d i p : Nat), i + d = p → p < l.length → rd l (p : Int) = key → (∀ j : Nat, i ≤ j → j < p → rd l (j : Int) ≠ key) → firstI key false (l.drop i) (i : Int) = (p : Int) := by
  intro d
  induction d with
  | zero =>
    intro i p h1 h2 h3 h4
    obtain rfl : i = p := by omega
    rw [drop_at h2]
    unfold firstI
    rw [if_pos h3]
  | succ d ih =>
    intro i p h1 h2 h3 h4
    rw [drop_at (by omega)]
    unfold firstI
    rw [if_neg (h4 i (by omega) (by omega)), if_neg (by simp), show (i : Int) + 1 = ((i + 1 : Nat) : Int) by omega]
    exact ih (i + 1) p (by omega) h2 h3 (fun j h5 h6 => h4 j (by omega) h6)
theorem firstI_none {key : Int} {l : List Int} : ∀ (d i : Nat), i + d = l.length → (∀ j : Nat, i ≤ j → j < l.length → rd l (j : Int) ≠ key) → firstI key false (l.drop i) (i : Int) = -1 := by
  intro d
  induction d with
  | zero => intro i h1 h4; rw [List.drop_eq_nil_of_le (by omega)]; rfl
  | succ d ih =>
    intro i h1 h4
    rw [drop_at (by omega)]
    unfold firstI
    rw [if_neg (h4 i (by omega) (by omega)), if_neg (by simp), show (i : Int) + 1 = ((i + 1 : Nat) : Int) by omega]
    exact ih (i + 1) (by omega) (fun j h5 h6 => h4 j (by omega) h6)
theorem half_step {L : List Int} (hL : Rise L) {key op : Int} (hk : 0 ≤ key ∧ key < 4294967296) {k m : Nat} {low high : Int} (h0 : 0 ≤ low) (hh : high ≤ (L.length : Int)) (hlt : low < high) (hm : (m : Int) = (low + high) / 2) :
    sortS (wordM L) (rowSr key (L.length : Int) op) (byts key.toNat 4) (k + 1) low high = if rd L (m : Int) = key then some (toldS (rowSr key (L.length : Int) op) (m : Int), 0) else if rd L (m : Int) < key then sortS (wordM L) (rowSr key (L.length : Int) op) (byts key.toNat 4) k ((m : Int) + 1) high else sortS (wordM L) (rowSr key (L.length : Int) op) (byts key.toNat 4) k low (m : Int) := by
  have hlen := hL.len
  have hmi : m < L.length := by omega
  have hr := hL.w.at hmi
  have hc : cmpI (byts (rd L (m : Int)).toNat 4) (byts key.toNat 4) = 0 ↔ rd L (m : Int) = key := (cmpI_eq _ _).trans (byts_inj4 hr hk)
  have hc2 := cmp_byts4 hr hk
  conv => lhs; unfold sortS
  rw [if_pos hlt]
  show (let i := (low + high) / 2; let r := atS (wordM L) (rowSr key (L.length : Int) op) (byts key.toNat 4) ((256 + (i % 4294967296) * 4 % 4294967296) % 4294967296); _) = _
  simp only [← hm]
  rw [show (m : Int) % 4294967296 = (m : Int) by omega, row_at (by omega) hmi]
  by_cases c : rd L (m : Int) = key
  · simp only [ne_eq, not_true_eq_false, if_false, if_pos (hc.2 c), if_pos c]
  · by_cases c2 : rd L (m : Int) < key
    · simp only [ne_eq, not_true_eq_false, if_false, if_neg (fun e => c (hc.1 e)), if_neg c, if_pos (hc2.2 c2), if_pos c2]
    · simp only [ne_eq, not_true_eq_false, if_false, if_neg (fun e => c (hc.1 e)), if_neg c, if_neg (fun e => c2 (hc2.1 e)), if_neg c2]
theorem half_found {L : List Int} (hL : Rise L) {key op : Int} (hk : 0 ≤ key ∧ key < 4294967296) {p : Nat} (hp : p < L.length) (he : rd L (p : Int) = key) :
    ∀ (k : Nat) (low high : Int), 0 ≤ low → high ≤ (L.length : Int) → low ≤ p → (p : Int) < high → high - low < k → sortS (wordM L) (rowSr key (L.length : Int) op) (byts key.toNat 4) k low high = some (toldS (rowSr key (L.length : Int) op) (p : Int), 0) := by
  intro k
  induction k with
  | zero => intro low high h0 hh h1 h2 h3; omega
  | succ k ih =>
    intro low high h0 hh h1 h2 h3
    obtain ⟨m, hm⟩ : ∃ m : Nat, (m : Int) = (low + high) / 2 := ⟨((low + high) / 2).toNat, by omega⟩
    rw [half_step hL hk h0 hh (by omega) hm]
    by_cases c : rd L (m : Int) = key
    · rw [if_pos c]
      have : m = p := by
        rcases Nat.lt_trichotomy m p with h | h | h
        · have := hL.lt m p h hp; omega
        · exact h
        · have := hL.lt p m h (by omega); omega
      rw [this]
    · rw [if_neg c]
      by_cases c2 : rd L (m : Int) < key
      · rw [if_pos c2]
        have : m < p := by
          rcases Nat.lt_trichotomy m p with h | h | h
          · exact h
          · exact absurd (h ▸ he) c
          · have := hL.lt p m h (by omega); omega
        exact ih _ _ (by omega) hh (by omega) h2 (by omega)
      · rw [if_neg c2]
        have : p < m := by
          rcases Nat.lt_trichotomy m p with h | h | h
          · have := hL.lt m p h hp; omega
          · exact absurd (h ▸ he) c
          · exact h
        exact ih _ _ h0 (by omega) h1 (by omega) (by omega)
theorem half_none {L : List Int} (hL : Rise L) {key op : Int} (hk : 0 ≤ key ∧ key < 4294967296) (hn : ∀ p : Nat, p < L.length → rd L (p : Int) ≠ key) :
    ∀ (k : Nat) (low high : Int), 0 ≤ low → high ≤ (L.length : Int) → high - low < k → 0 < k → sortS (wordM L) (rowSr key (L.length : Int) op) (byts key.toNat 4) k low high = some (noneS (rowSr key (L.length : Int) op), 0) := by
  intro k
  induction k with
  | zero => intro low high h0 hh h3 h4; omega
  | succ k ih =>
    intro low high h0 hh h3 h4
    by_cases c : low < high
    · obtain ⟨m, hm⟩ : ∃ m : Nat, (m : Int) = (low + high) / 2 := ⟨((low + high) / 2).toNat, by omega⟩
      have hmi : m < L.length := by omega
      rw [half_step hL hk h0 hh c hm, if_neg (hn m hmi)]
      split
      · exact ih _ _ (by omega) hh (by omega) (by omega)
      · exact ih _ _ h0 (by omega) (by omega) (by omega)
    · unfold sortS
      rw [if_neg c]
/-- both ways come to one answer -/
theorem halves_all {L : List Int} (hL : Rise L) {key op : Int} (hk : 0 ≤ key ∧ key < 4294967296) (hz : hasB op 2 = false) (ho : hasB op 1 = false) :
    ∃ x, LinearS (wordM L) (rowSr key (L.length : Int) op) (L.length + 1) = some (x, 0) ∧ BinaryS (wordM L) (rowSr key (L.length : Int) op) (L.length + 2) = some (x, 0) ∧ (hasB op 4 = true → ∀ p : Nat, p < L.length → rd L (p : Int) = key → x = (p : Int)) := by
  have hlen := hL.len
  have h1 := first_row (op := op) hL.w (by omega) hk hz (L.length) 0 (by omega)
  rw [List.drop_zero] at h1
  have h1' : rowS (wordM L) (rowSr key (L.length : Int) op) (byts key.toNat 4) (L.length + 1) (0 : Int) = _ := h1
  unfold LinearS BinaryS
  rw [row_key ho, if_pos rfl, if_pos rfl]
  show ∃ x, rowS (wordM L) (rowSr key (L.length : Int) op) (byts key.toNat 4) (L.length + 1) 0 = some (x, 0) ∧ sortS (wordM L) (rowSr key (L.length : Int) op) (byts key.toNat 4) (L.length + 2) 0 (L.length : Int) = some (x, 0) ∧ _
  by_cases c : ∃ p : Nat, p < L.length ∧ rd L (p : Int) = key
  · obtain ⟨p, hp, he⟩ := c
    have hf := firstI_found (l := L) (key := key) p 0 p (by omega) hp he (fun j _ hj e => by have := hL.lt j p hj hp; omega)
    rw [List.drop_zero] at hf
    have hs := half_found (op := op) hL hk hp he (L.length + 2) 0 (L.length : Int) (by omega) (by omega) (by omega) (by omega) (by omega)
    refine ⟨toldS (rowSr key (L.length : Int) op) (p : Int), ?_, hs, ?_⟩
    · rw [h1']
      rw [show ((0 : Nat) : Int) = 0 from rfl] at hf
      rw [show ((0 : Nat) : Int) = 0 from rfl, hf, if_neg (by omega)]
    · intro h4 p2 hp2 he2
      have : p2 = p := by
        rcases Nat.lt_trichotomy p2 p with h | h | h
        · have := hL.lt p2 p h hp; omega
        · exact h
        · have := hL.lt p p2 h hp2; omega
      rw [this]
      exact if_pos h4
  · have hn : ∀ p : Nat, p < L.length → rd L (p : Int) ≠ key := fun p hp he => c ⟨p, hp, he⟩
    have hf := firstI_none (l := L) (key := key) L.length 0 (by omega) (fun j _ hj => hn j hj)
    rw [List.drop_zero] at hf
    have hs := half_none (op := op) hL hk hn (L.length + 2) 0 (L.length : Int) (by omega) (by omega) (by omega) (by omega)
    refine ⟨noneS (rowSr key (L.length : Int) op), ?_, hs, fun _ p hp he => absurd he (hn p hp)⟩
    rw [h1']
    rw [show ((0 : Nat) : Int) = 0 from rfl] at hf
    rw [show ((0 : Nat) : Int) = 0 from rfl, hf, if_pos rfl]
end Go.Proofs.Ytohmipmioaceeaa.Pure

/- The law FindHalves walked. -/
namespace Go.Proofs.Ytohmipmioaceeaa.PQ
open Go.RowKit Go.Proofs.YtohmipmioaceeaaW.PrintWords Go.Proofs.YtohmipmioaceeaaW.PrintLast Go.Proofs.YtohmipmioaceeaaW.PrintMore Go.Proofs.Ytohmipmioaceeaa.Z Go.Proofs.Ytohmipmioaceeaa.Pure
set_option linter.unusedVariables false
set_option linter.unusedSimpArgs false
theorem wf16s {l : List Int} (h : ∀ x ∈ l, (Lit.int .u16 x).wf = true) : S16 l := fun x hx => wf_u16 (h x hx)
theorem row32_grown {w w1 : World} {base gs t : Nat} {v : Value} {xs : List Int} {cs : Array Value} (h : Kd.R (Kd.int .u32) 23 w base (fun _ => True) v xs) (hb : w.heap[gs]? = some (.cells cs t (0, 0))) (ht : 23 ≠ t) (hg : w.grownBy w1 (some gs)) : Kd.R (Kd.int .u32) 23 w1 base (fun _ => True) v xs :=
  Kd.R_mono (Kd.R_grown (Kd.R_tight rfl h) hg (fun k hk e => Kd.R_ne h hb ht (e.symm.trans hk))) (fun _ _ => trivial)
theorem b32h (n : Int) (w : World) : (Instr.build 32 #[(1, .int .u32 4), (2, .int .u32 256), (3, .int .u32 4), (4, .int .u32 n)]).run Try.prog w = .ok (.agg #[.int .u32 0, .int .u32 4, .int .u32 256, .int .u32 4, .int .u32 n, .int .u32 0, .int .u32 0, .int .u32 0]) w := run_build w 32 _ _ (by kernel_rfl)
end Go.Proofs.Ytohmipmioaceeaa.PQ
