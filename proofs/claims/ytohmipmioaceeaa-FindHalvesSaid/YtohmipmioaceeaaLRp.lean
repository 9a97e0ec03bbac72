/- A chain that comes back to itself. -/
import Derived.Test.YtohmipmioaceeaaLF
namespace Go.Proofs.Ytohmipmioaceeaa.Pure
set_option linter.all false
open Go.RowKit Go.Proofs.Ytohmipmioaceeaa.PQ Go.Proofs.YtohmipmioaceeaaW.PrintWords Go.Proofs.YtohmipmioaceeaaW.PrintLast Go.Proofs.YtohmipmioaceeaaW.PrintMore Go.Proofs.Ytohmipmioaceeaa.Z
set_option linter.unusedVariables false
/-- a word read -/
theorem read_word {l : List Int} (hw : W32 l) (h : l.length ≤ 960) {i : Nat} (hi : i < l.length) : rdS (wordM l) (256 + 4 * (i : Int)) 4 = (rd l (i : Int), 0) := by
  have hs := span_word h hi
  have hr := hw.at hi
  have hlen := wordM_len h
  rw [spanS_ok (by rw [hlen]; omega)] at hs
  have hs2 : ((wordM l).drop (256 + 4 * (i : Int)).toNat).take 4 = byts (rd l (i : Int)).toNat 4 := congrArg Prod.fst hs
  unfold rdS
  rw [if_pos (by omega), if_pos (by rw [hlen]; omega)]
  show (((beN (wordM l) (256 + 4 * (i : Int)).toNat 4 : Nat) : Int), (0 : Int)) = _
  unfold beN
  rw [List.drop_take, show (256 + 4 * (i : Int)).toNat + 4 - (256 + 4 * (i : Int)).toNat = 4 by omega, hs2, bev_byts, show 256 ^ 4 = 4294967296 from rfl]
  rw [show (((rd l (i : Int)).toNat % 4294967296 : Nat) : Int) = rd l (i : Int) by omega]
def nxtI (n q j : Int) : Int := if j = n - 1 then 256 + 8 * q else 256 + 8 * (j + 1)
def ringL (l : List Int) (q : Int) (i : Nat) : List Int := (List.range i).flatMap (fun j : Nat => [rd l (j : Int), nxtI (l.length : Int) q (j : Int)])
theorem ringL_succ (l : List Int) (q : Int) (i : Nat) : ringL l q (i + 1) = ringL l q i ++ [rd l (i : Int), nxtI (l.length : Int) q (i : Int)] := by
  unfold ringL
  rw [List.range_succ, List.flatMap_append, List.flatMap_cons, List.flatMap_nil, List.append_nil]
theorem ringL_len (l : List Int) (q : Int) (i : Nat) : (ringL l q i).length = 2 * i := by
  induction i with
  | zero => rfl
  | succ i ih => rw [ringL_succ, List.length_append, ih]; simp; omega
theorem ringL_at (l : List Int) (q : Int) (i : Nat) : ∀ j, j < i → rd (ringL l q i) ((2 * j : Nat) : Int) = rd l (j : Int) ∧ rd (ringL l q i) ((2 * j + 1 : Nat) : Int) = nxtI (l.length : Int) q (j : Int) := by
  induction i with
  | zero => intro j hj; omega
  | succ i ih =>
    intro j hj
    have hl := ringL_len l q i
    have hl2 := ringL_len l q (i + 1)
    rw [rd_nat (l := ringL l q (i + 1)) (i := 2 * j) (by omega), rd_nat (l := ringL l q (i + 1)) (i := 2 * j + 1) (by omega)]
    by_cases c : j < i
    · obtain ⟨h1, h2⟩ := ih j c
      rw [rd_nat (l := ringL l q i) (i := 2 * j) (by omega)] at h1
      rw [rd_nat (l := ringL l q i) (i := 2 * j + 1) (by omega)] at h2
      simp only [ringL_succ]
      rw [List.getElem_append_left (by omega), List.getElem_append_left (by omega)]
      exact ⟨h1, h2⟩
    · obtain rfl : j = i := by omega
      simp only [ringL_succ]
      rw [List.getElem_append_right (by omega), List.getElem_append_right (by omega)]
      simp [hl]
theorem ringL_32 {l : List Int} (hw : W32 l) {q : Int} (hq : 0 ≤ q ∧ q < 65536) (hl : l.length ≤ 1000) (i : Nat) (hi : i ≤ l.length) : W32 (ringL l q i) := by
  intro x hx
  unfold ringL at hx
  obtain ⟨j, hj, hx⟩ := List.mem_flatMap.1 hx
  rw [List.mem_range] at hj
  simp only [List.mem_cons, List.not_mem_nil, or_false] at hx
  rcases hx with rfl | rfl
  · exact hw.at (by omega)
  · unfold nxtI; split <;> omega
abbrev chSr (key : Int) : Sr := Sr.mk key 4 256 0 0 0 4 0
theorem ch_key {bs : List Int} {key : Int} : keyS bs (chSr key) = (byts key.toNat 4, 0) := by
  have hb : keyBad (chSr key) = false := rfl
  unfold keyS
  rw [hb, if_neg (by decide), if_neg (by show ¬ hasB 0 1 = true; decide)]
  rfl
theorem ch_at {L : List Int} (hl : L.length ≤ 960) {key st : Int} {i : Nat} (hi : i < L.length) :
    atS (wordM L) (Sr.mk key 4 st 0 0 0 4 0) (byts key.toNat 4) (256 + 4 * (i : Int)) = (cmpI (byts (rd L (i : Int)).toNat 4) (byts key.toNat 4), allz (byts (rd L (i : Int)).toNat 4), 0) :=
  atS_ok (by show spanS _ ((256 + 4 * (i : Int) + 0) % 4294967296) 4 = _; rw [show (256 + 4 * (i : Int) + 0) % 4294967296 = 256 + 4 * (i : Int) by omega]; exact span_word hl hi)
/-- one step along the chain -/
theorem ch_step {L : List Int} (hw : W32 L) (hl : L.length ≤ 960) {key st : Int} (hk : 0 ≤ key ∧ key < 4294967296) {i : Nat} (hi : 2 * i + 1 < L.length) (k : Nat) (m : Int) (hm : m ≠ 65536) :
    chainS (wordM L) (Sr.mk key 4 st 0 0 0 4 0) (byts key.toNat 4) (k + 1) (256 + 8 * (i : Int)) m = if rd L ((2 * i : Nat) : Int) = key then some (256 + 8 * (i : Int), 0) else chainS (wordM L) (Sr.mk key 4 st 0 0 0 4 0) (byts key.toNat 4) k (rd L ((2 * i + 1 : Nat) : Int)) (m + 1) := by
  have e1 : 256 + 8 * (i : Int) = 256 + 4 * ((2 * i : Nat) : Int) := by omega
  have hr := hw.at (i := 2 * i) (by omega)
  have hc : cmpI (byts (rd L ((2 * i : Nat) : Int)).toNat 4) (byts key.toNat 4) = 0 ↔ rd L ((2 * i : Nat) : Int) = key := (cmpI_eq _ _).trans (byts_inj4 hr hk)
  conv => lhs; unfold chainS
  rw [if_neg (by omega), if_neg hm]
  show (let r := atS (wordM L) (Sr.mk key 4 st 0 0 0 4 0) (byts key.toNat 4) (256 + 8 * (i : Int)); _) = _
  rw [e1, ch_at hl (by omega)]
  by_cases c : rd L ((2 * i : Nat) : Int) = key
  · simp only [ne_eq, not_true_eq_false, if_false, if_pos (hc.2 c), if_pos c]
  · have h2 : hasB (Sr.mk key 4 st 0 0 0 4 0).opts 2 = false := rfl
    have e2 : (256 + 4 * ((2 * i : Nat) : Int) + (Sr.mk key 4 st 0 0 0 4 0).next) % 4294967296 = 256 + 4 * ((2 * i + 1 : Nat) : Int) := by show (256 + 4 * ((2 * i : Nat) : Int) + 4) % 4294967296 = _; omega
    simp only [ne_eq, not_true_eq_false, if_false, if_neg (fun e => c (hc.1 e)), if_neg c, h2, Bool.and_false, Bool.false_eq_true, e2, read_word hw hl hi]
theorem ring_in {l : List Int} (hw : W32 l) (hl : l.length ≤ 100) {key q : Int} (hk : 0 ≤ key ∧ key < 4294967296) (hq : 0 ≤ q ∧ q < (l.length : Int)) :
    ∀ (d j : Nat) (m : Int), j + d = l.length → (∃ p, j ≤ p ∧ p < l.length ∧ rd l (p : Int) = key) → m + d ≤ 60000 → 0 ≤ m → ∃ r, chainS (wordM (ringL l q l.length)) (chSr key) (byts key.toNat 4) (d + 1) (256 + 8 * (j : Int)) m = some (r, 0) ∧ 256 ≤ r ∧ r < 4294967296 := by
  intro d
  have hR := ringL_32 hw (q := q) ⟨hq.1, by omega⟩ (by omega) l.length (Nat.le_refl _)
  have hRl := ringL_len l q l.length
  induction d with
  | zero => intro j m hj ⟨p, h1, h2, _⟩ _ _; omega
  | succ d ih =>
    intro j m hj ⟨p, h1, h2, h3⟩ hm hm0
    have hjl : j < l.length := by omega
    obtain ⟨a1, a2⟩ := ringL_at l q l.length j hjl
    rw [ch_step hR (by omega) hk (by omega) _ _ (by omega), a1, a2]
    by_cases c : rd l (j : Int) = key
    · rw [if_pos c]; exact ⟨_, rfl, by omega, by omega⟩
    · rw [if_neg c]
      have hjp : j ≠ p := fun e => c (by rw [e]; exact h3)
      rw [show nxtI (l.length : Int) q (j : Int) = 256 + 8 * ((j + 1 : Nat) : Int) by unfold nxtI; rw [if_neg (by omega)]; omega]
      exact ih (j + 1) (m + 1) (by omega) ⟨p, by omega, h2, h3⟩ (by omega) (by omega)
theorem ring_out {l : List Int} (hw : W32 l) (hl : l.length ≤ 100) {key q : Int} (hk : 0 ≤ key ∧ key < 4294967296) (hq : 0 ≤ q ∧ q < (l.length : Int)) (hn : ∀ p : Nat, p < l.length → rd l (p : Int) ≠ key) :
    ∀ (d j : Nat) (m : Int), j < l.length → m + d = 65536 → chainS (wordM (ringL l q l.length)) (chSr key) (byts key.toNat 4) (d + 1) (256 + 8 * (j : Int)) m = some (0, 131) := by
  intro d
  have hR := ringL_32 hw (q := q) ⟨hq.1, by omega⟩ (by omega) l.length (Nat.le_refl _)
  have hRl := ringL_len l q l.length
  induction d with
  | zero =>
    intro j m hj hm
    unfold chainS
    rw [if_neg (by omega), if_pos (by omega)]
  | succ d ih =>
    intro j m hj hm
    obtain ⟨a1, a2⟩ := ringL_at l q l.length j hj
    rw [ch_step hR (by omega) hk (by omega) _ _ (by omega), a1, a2, if_neg (hn j hj)]
    unfold nxtI
    split
    · have := ih q.toNat (m + 1) (by omega) (by omega)
      rw [show ((q.toNat : Nat) : Int) = q by omega] at this
      exact this
    · have := ih (j + 1) (m + 1) (by omega) (by omega)
      rw [show ((j + 1 : Nat) : Int) = (j : Int) + 1 by omega] at this
      exact this
def inI (l : List Int) (key : Int) (i : Nat) : Bool := (l.take i).any (· == key)
theorem inI_succ {l : List Int} {key : Int} {i : Nat} (h : i < l.length) : inI l key (i + 1) = (inI l key i || (rd l (i : Int) == key)) := by
  unfold inI
  rw [List.take_succ_eq_append_getElem h, List.any_append, rd_nat h]
  simp
theorem ring_all {l : List Int} (hw : W32 l) (hl : l.length ≤ 100) (h1 : 1 ≤ l.length) {key q : Int} (hk : 0 ≤ key ∧ key < 4294967296) (hq : 0 ≤ q ∧ q < (l.length : Int)) :
    ∃ k r e, LinkedS (wordM (ringL l q l.length)) (chSr key) k = some (r, e) ∧ ((inI l key l.length = true ∧ e = 0 ∧ 256 ≤ r ∧ r < 4294967296) ∨ (inI l key l.length = false ∧ e = 131 ∧ r = 0)) := by
  cases hi : inI l key l.length
  · have hn : ∀ p : Nat, p < l.length → rd l (p : Int) ≠ key := by
      intro p hp e
      unfold inI at hi
      rw [List.take_of_length_le (Nat.le_refl _), List.any_eq_false] at hi
      have := hi (l[p]) (List.getElem_mem hp)
      rw [rd_nat hp] at e
      exact this (beq_iff_eq.2 e)
    refine ⟨65537, 0, 131, ?_, Or.inr ⟨rfl, rfl, rfl⟩⟩
    unfold LinkedS
    rw [ch_key, if_pos rfl]
    exact ring_out hw hl hk hq hn 65536 0 0 (by omega) (by omega)
  · unfold inI at hi
    rw [List.take_of_length_le (Nat.le_refl _), List.any_eq_true] at hi
    obtain ⟨x, hx, hxe⟩ := hi
    obtain ⟨p, hp, he⟩ := List.getElem_of_mem hx
    obtain ⟨r, h2, h3, h4⟩ := ring_in hw hl hk hq l.length 0 0 (by omega) ⟨p, by omega, hp, by rw [rd_nat hp, he]; exact beq_iff_eq.1 hxe⟩ (by omega) (by omega)
    refine ⟨l.length + 1, r, 0, ?_, Or.inl ⟨rfl, rfl, h3, h4⟩⟩
    unfold LinkedS
    rw [ch_key, if_pos rfl]
    exact h2
end Go.Proofs.Ytohmipmioaceeaa.Pure
