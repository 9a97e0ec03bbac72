/- A row that rises: by halves is found what is found one by one. -/
import Derived.Test.YtohmipmioaceeaaLR
namespace Go.Proofs.Ytohmipmioaceeaa.Pure
set_option linter.all false
open Go.RowKit Go.Proofs.Ytohmipmioaceeaa.PQ Go.Proofs.YtohmipmioaceeaaW.PrintWords Go.Proofs.YtohmipmioaceeaaW.PrintLast Go.Proofs.YtohmipmioaceeaaW.PrintMore Go.Proofs.Ytohmipmioaceeaa.Z
set_option linter.unusedVariables false
def sumI (l : List Int) : Nat → Int
  | 0 => 0
  | i + 1 => sumI l i + 1 + rd l (i : Int)
def riseL (l : List Int) (i : Nat) : List Int := (List.range i).map (fun j => sumI l (j + 1))
theorem riseL_succ (l : List Int) (i : Nat) : riseL l (i + 1) = riseL l i ++ [sumI l (i + 1)] := by
  unfold riseL
  rw [List.range_succ, List.map_append]; rfl
theorem riseL_len (l : List Int) (i : Nat) : (riseL l i).length = i := by unfold riseL; rw [List.length_map, List.length_range]
theorem riseL_at (l : List Int) {n i : Nat} (h : i < n) : rd (riseL l n) (i : Int) = sumI l (i + 1) := by
  rw [rd_nat (by rw [riseL_len]; exact h)]
  simp [riseL]
def S16 (l : List Int) : Prop := ∀ x ∈ l, 0 ≤ x ∧ x < 65536
theorem S16.at {l : List Int} (h : S16 l) {i : Nat} (hi : i < l.length) : 0 ≤ rd l (i : Int) ∧ rd l (i : Int) < 65536 := by
  rw [rd_nat hi]; exact h _ (List.getElem_mem hi)
theorem sumI_rng {l : List Int} (h : S16 l) : ∀ i, i ≤ l.length → 0 ≤ sumI l i ∧ sumI l i ≤ 65536 * i := by
  intro i
  induction i with
  | zero => intro _; exact ⟨Int.le_refl _, Int.le_refl _⟩
  | succ i ih =>
    intro hi
    have h1 := ih (by omega)
    have h2 := h.at (i := i) (by omega)
    have e : sumI l (i + 1) = sumI l i + 1 + rd l (i : Int) := rfl
    omega
theorem sumI_lt {l : List Int} (h : S16 l) {i : Nat} : ∀ j, i < j → j ≤ l.length → sumI l i < sumI l j := by
  intro j
  induction j with
  | zero => intro h1 _; omega
  | succ j ih =>
    intro h1 h2
    have h3 := h.at (i := j) (by omega)
    have e : sumI l (j + 1) = sumI l j + 1 + rd l (j : Int) := rfl
    by_cases c : i = j
    · subst c; omega
    · have := ih (by omega) (by omega); omega
/-- strictly rising words -/
structure Rise (L : List Int) : Prop where
  w : W32 L
  len : L.length ≤ 900
  lt : ∀ i j : Nat, i < j → j < L.length → rd L (i : Int) < rd L (j : Int)
theorem riseL_rise {l : List Int} (h : S16 l) (hl : l.length ≤ 900) : Rise (riseL l l.length) := by
  refine ⟨?_, by rw [riseL_len]; exact hl, ?_⟩
  · intro x hx
    unfold riseL at hx
    obtain ⟨j, hj, rfl⟩ := List.mem_map.1 hx
    rw [List.mem_range] at hj
    have := sumI_rng h (j + 1) (by omega)
    omega
  · intro i j hij hj
    rw [riseL_len] at hj
    rw [riseL_at l (by omega), riseL_at l hj]
    exact sumI_lt h _ (by omega) (by omega)
theorem cmp_byts4 {x y : Int} (hx : 0 ≤ x ∧ x < 4294967296) (hy : 0 ≤ y ∧ y < 4294967296) : cmpI (byts x.toNat 4) (byts y.toNat 4) < 0 ↔ x < y := by
  rw [byts4 _ (by omega), byts4 _ (by omega)]
  obtain ⟨a, rfl⟩ : ∃ a : Nat, x = (a : Int) := ⟨x.toNat, by omega⟩
  obtain ⟨b, rfl⟩ : ∃ b : Nat, y = (b : Int) := ⟨y.toNat, by omega⟩
  simp only [Int.toNat_natCast, cmpI]
  repeat' split
  all_goals omega
theorem firstI_found {key : Int} {l : List Int} : ∀ (d i p : Nat), i + d = p → p < l.length → rd l (p : Int) = key → (∀ j : Nat, i ≤ j → j < p → rd l (j : Int) ≠ key) → firstI key false (l.drop i) (i : Int) = (p : Int) := by
  intro d
  induction d with
  | zero =>
    intro i p h1 h2 h3 h4
    obtain rfl : i = p := by omega
    rw [drop_at h2]
    unfold firstI
    rw [if_pos h3]
  | succ d ih =>
    intro i p h1 h2 h3 h4
    rw [drop_at (by omega)]
    unfold firstI
    rw [if_neg (h4 i (by omega) (by omega)), if_neg (by simp), show (i : Int) + 1 = ((i + 1 : Nat) : Int) by omega]
    exact ih (i + 1) p (by omega) h2 h3 (fun j h5 h6 => h4 j (by omega) h6)
theorem firstI_none {key : Int} {l : List Int} : ∀ (d i : Nat), i + d = l.length → (∀ j : Nat, i ≤ j → j < l.length → rd l (j : Int) ≠ key) → firstI key false (l.drop i) (i : Int) = -1 := by
  intro d
  induction d with
  | zero => intro i h1 h4; rw [List.drop_eq_nil_of_le (by omega)]; rfl
  | succ d ih =>
    intro i h1 h4
    rw [drop_at (by omega)]
    unfold firstI
    rw [if_neg (h4 i (by omega) (by omega)), if_neg (by simp), show (i : Int) + 1 = ((i + 1 : Nat) : Int) by omega]
    exact ih (i + 1) (by omega) (fun j h5 h6 => h4 j (by omega) h6)
theorem half_step {L : List Int} (hL : Rise L) {key op : Int} (hk : 0 ≤ key ∧ key < 4294967296) {k m : Nat} {low high : Int} (h0 : 0 ≤ low) (hh : high ≤ (L.length : Int)) (hlt : low < high) (hm : (m : Int) = (low + high) / 2) :
    sortS (wordM L) (rowSr key (L.length : Int) op) (byts key.toNat 4) (k + 1) low high = if rd L (m : Int) = key then some (toldS (rowSr key (L.length : Int) op) (m : Int), 0) else if rd L (m : Int) < key then sortS (wordM L) (rowSr key (L.length : Int) op) (byts key.toNat 4) k ((m : Int) + 1) high else sortS (wordM L) (rowSr key (L.length : Int) op) (byts key.toNat 4) k low (m : Int) := by
  have hlen := hL.len
  have hmi : m < L.length := by omega
  have hr := hL.w.at hmi
  have hc : cmpI (byts (rd L (m : Int)).toNat 4) (byts key.toNat 4) = 0 ↔ rd L (m : Int) = key := (cmpI_eq _ _).trans (byts_inj4 hr hk)
  have hc2 := cmp_byts4 hr hk
  conv => lhs; unfold sortS
  rw [if_pos hlt]
  show (let i := (low + high) / 2; let r := atS (wordM L) (rowSr key (L.length : Int) op) (byts key.toNat 4) ((256 + (i % 4294967296) * 4 % 4294967296) % 4294967296); _) = _
  simp only [← hm]
  rw [show (m : Int) % 4294967296 = (m : Int) by omega, row_at (by omega) hmi]
  by_cases c : rd L (m : Int) = key
  · simp only [ne_eq, not_true_eq_false, if_false, if_pos (hc.2 c), if_pos c]
  · by_cases c2 : rd L (m : Int) < key
    · simp only [ne_eq, not_true_eq_false, if_false, if_neg (fun e => c (hc.1 e)), if_neg c, if_pos (hc2.2 c2), if_pos c2]
    · simp only [ne_eq, not_true_eq_false, if_false, if_neg (fun e => c (hc.1 e)), if_neg c, if_neg (fun e => c2 (hc2.1 e)), if_neg c2]
theorem half_found {L : List Int} (hL : Rise L) {key op : Int} (hk : 0 ≤ key ∧ key < 4294967296) {p : Nat} (hp : p < L.length) (he : rd L (p : Int) = key) :
    ∀ (k : Nat) (low high : Int), 0 ≤ low → high ≤ (L.length : Int) → low ≤ p → (p : Int) < high → high - low < k → sortS (wordM L) (rowSr key (L.length : Int) op) (byts key.toNat 4) k low high = some (toldS (rowSr key (L.length : Int) op) (p : Int), 0) := by
  intro k
  induction k with
  | zero => intro low high h0 hh h1 h2 h3; omega
  | succ k ih =>
    intro low high h0 hh h1 h2 h3
    obtain ⟨m, hm⟩ : ∃ m : Nat, (m : Int) = (low + high) / 2 := ⟨((low + high) / 2).toNat, by omega⟩
    rw [half_step hL hk h0 hh (by omega) hm]
    by_cases c : rd L (m : Int) = key
    · rw [if_pos c]
      have : m = p := by
        rcases Nat.lt_trichotomy m p with h | h | h
        · have := hL.lt m p h hp; omega
        · exact h
        · have := hL.lt p m h (by omega); omega
      rw [this]
    · rw [if_neg c]
      by_cases c2 : rd L (m : Int) < key
      · rw [if_pos c2]
        have : m < p := by
          rcases Nat.lt_trichotomy m p with h | h | h
          · exact h
          · exact absurd (h ▸ he) c
          · have := hL.lt p m h (by omega); omega
        exact ih _ _ (by omega) hh (by omega) h2 (by omega)
      · rw [if_neg c2]
        have : p < m := by
          rcases Nat.lt_trichotomy m p with h | h | h
          · have := hL.lt m p h hp; omega
          · exact absurd (h ▸ he) c
          · exact h
        exact ih _ _ h0 (by omega) h1 (by omega) (by omega)
theorem half_none {L : List Int} (hL : Rise L) {key op : Int} (hk : 0 ≤ key ∧ key < 4294967296) (hn : ∀ p : Nat, p < L.length → rd L (p : Int) ≠ key) :
    ∀ (k : Nat) (low high : Int), 0 ≤ low → high ≤ (L.length : Int) → high - low < k → 0 < k → sortS (wordM L) (rowSr key (L.length : Int) op) (byts key.toNat 4) k low high = some (noneS (rowSr key (L.length : Int) op), 0) := by
  intro k
  induction k with
  | zero => intro low high h0 hh h3 h4; omega
  | succ k ih =>
    intro low high h0 hh h3 h4
    by_cases c : low < high
    · obtain ⟨m, hm⟩ : ∃ m : Nat, (m : Int) = (low + high) / 2 := ⟨((low + high) / 2).toNat, by omega⟩
      have hmi : m < L.length := by omega
      rw [half_step hL hk h0 hh c hm, if_neg (hn m hmi)]
      split
      · exact ih _ _ (by omega) hh (by omega) (by omega)
      · exact ih _ _ h0 (by omega) (by omega) (by omega)
    · unfold sortS
      rw [if_neg c]
/-- both ways come to one answer -/
theorem halves_all {L : List Int} (hL : Rise L) {key op : Int} (hk : 0 ≤ key ∧ key < 4294967296) (hz : hasB op 2 = false) (ho : hasB op 1 = false) :
    ∃ x, LinearS (wordM L) (rowSr key (L.length : Int) op) (L.length + 1) = some (x, 0) ∧ BinaryS (wordM L) (rowSr key (L.length : Int) op) (L.length + 2) = some (x, 0) ∧ (hasB op 4 = true → ∀ p : Nat, p < L.length → rd L (p : Int) = key → x = (p : Int)) := by
  have hlen := hL.len
  have h1 := first_row (op := op) hL.w (by omega) hk hz (L.length) 0 (by omega)
  rw [List.drop_zero] at h1
  have h1' : rowS (wordM L) (rowSr key (L.length : Int) op) (byts key.toNat 4) (L.length + 1) (0 : Int) = _ := h1
  unfold LinearS BinaryS
  rw [row_key ho, if_pos rfl, if_pos rfl]
  show ∃ x, rowS (wordM L) (rowSr key (L.length : Int) op) (byts key.toNat 4) (L.length + 1) 0 = some (x, 0) ∧ sortS (wordM L) (rowSr key (L.length : Int) op) (byts key.toNat 4) (L.length + 2) 0 (L.length : Int) = some (x, 0) ∧ _
  by_cases c : ∃ p : Nat, p < L.length ∧ rd L (p : Int) = key
  · obtain ⟨p, hp, he⟩ := c
    have hf := firstI_found (l := L) (key := key) p 0 p (by omega) hp he (fun j _ hj e => by have := hL.lt j p hj hp; omega)
    rw [List.drop_zero] at hf
    have hs := half_found (op := op) hL hk hp he (L.length + 2) 0 (L.length : Int) (by omega) (by omega) (by omega) (by omega) (by omega)
    refine ⟨toldS (rowSr key (L.length : Int) op) (p : Int), ?_, hs, ?_⟩
    · rw [h1']
      rw [show ((0 : Nat) : Int) = 0 from rfl] at hf
      rw [show ((0 : Nat) : Int) = 0 from rfl, hf, if_neg (by omega)]
    · intro h4 p2 hp2 he2
      have : p2 = p := by
        rcases Nat.lt_trichotomy p2 p with h | h | h
        · have := hL.lt p2 p h hp; omega
        · exact h
        · have := hL.lt p p2 h hp2; omega
      rw [this]
      exact if_pos h4
  · have hn : ∀ p : Nat, p < L.length → rd L (p : Int) ≠ key := fun p hp he => c ⟨p, hp, he⟩
    have hf := firstI_none (l := L) (key := key) L.length 0 (by omega) (fun j _ hj => hn j hj)
    rw [List.drop_zero] at hf
    have hs := half_none (op := op) hL hk hn (L.length + 2) 0 (L.length : Int) (by omega) (by omega) (by omega) (by omega)
    refine ⟨noneS (rowSr key (L.length : Int) op), ?_, hs, fun _ p hp he => absurd he (hn p hp)⟩
    rw [h1']
    rw [show ((0 : Nat) : Int) = 0 from rfl] at hf
    rw [show ((0 : Nat) : Int) = 0 from rfl, hf, if_pos rfl]
end Go.Proofs.Ytohmipmioaceeaa.Pure
