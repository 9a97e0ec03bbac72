/- A chain laid through structures in any order. -/
import Derived.Test.YtohmipmioaceeaaLX
namespace Go.Proofs.Ytohmipmioaceeaa.Pure
set_option linter.all false
open Go.RowKit Go.Proofs.Ytohmipmioaceeaa.PQ Go.Proofs.YtohmipmioaceeaaW.PrintWords Go.Proofs.YtohmipmioaceeaaW.PrintLast Go.Proofs.YtohmipmioaceeaaW.PrintMore Go.Proofs.Ytohmipmioaceeaa.Z
set_option linter.unusedVariables false
theorem wordsB_set {L : List Int} {j : Nat} (h : j < L.length) (x : Int) : (wordsB L).take (4 * j) ++ byts x.toNat 4 ++ (wordsB L).drop (4 * j + 4) = wordsB (L.set j x) := by
  have e := wordsB_split h
  have h1 : (wordsB (L.take j)).length = 4 * j := by rw [wordsB_len, List.length_take]; omega
  have hb := byts_len 4 (rd L (j : Int)).toNat
  rw [List.set_eq_take_append_cons_drop, if_pos h, wordsB_app, show x :: L.drop (j + 1) = [x] ++ L.drop (j + 1) from rfl, wordsB_app, wordsB_one, e]
  rw [List.take_append_of_le_length (by omega), List.take_of_length_le (by omega), ← List.append_assoc, List.drop_append_of_le_length (by rw [List.length_append]; omega), List.drop_eq_nil_of_le (by rw [List.length_append]; omega), List.nil_append, List.append_assoc]
theorem wordsB_zero (n : Nat) : wordsB (List.replicate n 0) = List.replicate (4 * n) 0 := by
  induction n with
  | zero => rfl
  | succ n ih =>
    rw [List.replicate_succ, show (0 : Int) :: List.replicate n 0 = [0] ++ List.replicate n 0 from rfl, wordsB_app, ih, wordsB_one, show byts (0 : Int).toNat 4 = List.replicate 4 0 from rfl, List.replicate_append_replicate, show 4 + 4 * n = 4 * (n + 1) by omega]
theorem W32.set {L : List Int} (h : W32 L) {x : Int} (hx : 0 ≤ x ∧ x < 4294967296) (j : Nat) : W32 (L.set j x) := by
  intro y hy
  rcases List.mem_or_eq_of_mem_set hy with h1 | h1
  · exact h y h1
  · rw [h1]; exact hx
theorem rd_setN {L : List Int} {j p : Nat} {x : Int} (hj : j < L.length) (hp : p < L.length) : rd (L.set j x) (p : Int) = if p = j then x else rd L (p : Int) := by
  have := rd_set' (l := L) (p := (p : Int)) (q := (j : Int)) (x := x) (by omega) (by omega)
  rw [Int.toNat_natCast] at this
  rw [this]
  by_cases c : p = j
  · rw [if_pos c, if_pos (by omega)]
  · rw [if_neg c, if_neg (by omega)]
/-- the keys are laid, i of them; no link yet -/
structure KeysIn (l L : List Int) (i : Nat) : Prop where
  len : L.length = 2 * l.length
  w : W32 L
  key : ∀ j, j < i → j < l.length → rd L ((2 * j : Nat) : Int) = rd l (j : Int)
  lnk : ∀ j, j < l.length → rd L ((2 * j + 1 : Nat) : Int) = 0
theorem KeysIn.zero (l : List Int) : KeysIn l (List.replicate (2 * l.length) 0) 0 := by
  refine ⟨List.length_replicate .., ?_, fun j h => by omega, fun j h => ?_⟩
  · intro x hx; rw [List.mem_replicate] at hx; omega
  · rw [rd_nat (by rw [List.length_replicate]; omega), List.getElem_replicate]
theorem KeysIn.succ {l L : List Int} {i : Nat} (hw : W32 l) (h : KeysIn l L i) (hi : i < l.length) : KeysIn l (L.set (2 * i) (rd l (i : Int))) (i + 1) := by
  have hl := h.len
  refine ⟨by rw [List.length_set]; exact hl, h.w.set (hw.at hi) _, fun j h1 h2 => ?_, fun j h1 => ?_⟩
  · rw [rd_setN (by omega) (by omega)]
    by_cases c : j = i
    · rw [if_pos (by omega), c]
    · rw [if_neg (by omega)]; exact h.key j (by omega) h2
  · rw [rd_setN (by omega) (by omega), if_neg (by omega)]; exact h.lnk j h1
/-- the chain from an address on -/
def ChainTo (n : Nat) (L : List Int) : Int → List Nat → Prop
  | a, [] => a = 0
  | a, k :: ks => a = 256 + 8 * (k : Int) ∧ k < n ∧ ChainTo n L (rd L ((2 * k + 1 : Nat) : Int)) ks
def wantI (l : List Int) (key : Int) : List Nat → Int
  | [] => 0
  | k :: ks => if rd l (k : Int) = key then 256 + 8 * (k : Int) else wantI l key ks
theorem wantI_rng (l : List Int) (key : Int) : ∀ ks : List Nat, 0 ≤ wantI l key ks := by
  intro ks
  induction ks with
  | nil => exact Int.le_refl _
  | cons k ks ih => unfold wantI; split <;> omega
theorem wantI_snoc (l : List Int) (key : Int) (k : Nat) : ∀ ks : List Nat, wantI l key (ks ++ [k]) = if wantI l key ks = 0 then (if rd l (k : Int) = key then 256 + 8 * (k : Int) else 0) else wantI l key ks := by
  intro ks
  induction ks with
  | nil => rfl
  | cons x ks ih =>
    rw [List.cons_append]
    unfold wantI
    by_cases c : rd l (x : Int) = key
    · rw [if_pos c, if_pos c, if_neg (by omega)]
    · rw [if_neg c, if_neg c, ih]
/-- where the program stands in its second loop: the order gone through so far -/
structure Linked (l L : List Int) (met : List Bool) (start last : Int) (ks : List Nat) : Prop where
  len : L.length = 2 * l.length
  w : W32 L
  key : ∀ j, j < l.length → rd L ((2 * j : Nat) : Int) = rd l (j : Int)
  ch : ChainTo l.length L start ks
  nd : ks.Nodup
  off : ∀ j, j < l.length → j ∉ ks → rd L ((2 * j + 1 : Nat) : Int) = 0
  ml : met.length = l.length
  mem : ∀ j, j < l.length → (met[j]? = some true ↔ j ∈ ks)
  last : (ks = [] ∧ last = -1 ∧ start = 0) ∨ (∃ (k : Nat) (ks' : List Nat), ks = ks' ++ [k] ∧ last = (k : Int) ∧ k < l.length ∧ 0 < start ∧ start < 4294967296)
theorem chain_snoc {n : Nat} {L : List Int} (hl : L.length = 2 * n) {x k : Nat} (hx : x < n) (hk : k < n) : ∀ (ks : List Nat) (a : Int), ChainTo n L a (ks ++ [x]) → (ks ++ [x]).Nodup → k ∉ ks ++ [x] → rd L ((2 * k + 1 : Nat) : Int) = 0 → ChainTo n (L.set (2 * x + 1) (256 + 8 * (k : Int))) a (ks ++ [x] ++ [k]) := by
  intro ks
  induction ks with
  | nil =>
    intro a h hnd hn h0
    simp only [List.nil_append] at h hn
    simp only [List.nil_append, List.cons_append]
    have hkx : k ≠ x := fun e => hn (by rw [e]; simp)
    refine ⟨h.1, hx, ?_, hk, ?_⟩
    · rw [rd_setN (by omega) (by omega), if_pos rfl]
    · show rd (L.set (2 * x + 1) (256 + 8 * (k : Int))) ((2 * k + 1 : Nat) : Int) = 0
      rw [rd_setN (by omega) (by omega), if_neg (by omega)]; exact h0
  | cons y ks ih =>
    intro a h hnd hn h0
    simp only [List.cons_append] at h hn hnd
    simp only [List.cons_append]
    rw [List.nodup_cons] at hnd
    have hyx : y ≠ x := fun e => hnd.1 (by rw [e]; simp)
    refine ⟨h.1, h.2.1, ?_⟩
    have hy := h.2.1
    rw [rd_setN (by omega) (by omega), if_neg (by omega)]
    have := ih _ h.2.2 hnd.2 (fun e => hn (List.mem_cons_of_mem _ e)) h0
    exact this
theorem mem_set {met : List Bool} {k j : Nat} {n : Nat} (hm : met.length = n) (hk : k < n) {ks : List Nat} (h : met[j]? = some true ↔ j ∈ ks) : ((met.set k true)[j]? = some true ↔ j ∈ ks ++ [k]) := by
  rw [List.getElem?_set]
  by_cases c : k = j
  · rw [if_pos c, if_pos (by omega)]; simp [c]
  · rw [if_neg c, h, List.mem_append, List.mem_singleton]
    constructor
    · exact Or.inl
    · rintro (h | h)
      · exact h
      · exact absurd h.symm c
theorem Linked.zero {l L : List Int} (h : KeysIn l L l.length) : Linked l L (List.replicate l.length false) 0 (-1) [] := by
  refine ⟨h.len, h.w, fun j hj => h.key j hj hj, rfl, List.nodup_nil, fun j hj _ => h.lnk j hj, List.length_replicate .., fun j hj => ?_, Or.inl ⟨rfl, rfl, rfl⟩⟩
  rw [List.getElem?_replicate, if_pos hj]; simp
theorem Linked.first {l L : List Int} {met : List Bool} {start last : Int} {ks : List Nat} (h : Linked l L met start last ks) (hl : l.length ≤ 400) (hlt : last < 0) {k : Nat} (hk : k < l.length) (hm : met[k]? ≠ some true) : Linked l L (met.set k true) (256 + 8 * (k : Int)) (k : Int) (ks ++ [k]) := by
  rcases h.last with ⟨h1, h2, h3⟩ | ⟨x, ks', h1, h2, _⟩
  · subst h1
    have hnk : k ∉ ([] : List Nat) := by simp
    refine ⟨h.len, h.w, h.key, ⟨rfl, hk, h.off k hk hnk⟩, by simp, fun j hj hn => h.off j hj (by simp), by rw [List.length_set]; exact h.ml, fun j hj => mem_set h.ml hk (h.mem j hj), Or.inr ⟨k, [], rfl, rfl, hk, by omega, by omega⟩⟩
  · omega
theorem Linked.next {l L : List Int} {met : List Bool} {start last : Int} {ks : List Nat} (h : Linked l L met start last ks) (hl : l.length ≤ 400) (hlt : 0 ≤ last) {k : Nat} (hk : k < l.length) (hm : met[k]? ≠ some true) : Linked l (L.set (2 * last.toNat + 1) (256 + 8 * (k : Int))) (met.set k true) start (k : Int) (ks ++ [k]) := by
  have hlen := h.len
  rcases h.last with ⟨h1, h2, h3⟩ | ⟨x, ks', h1, h2, h3, h4, h5⟩
  · omega
  · have hx : last.toNat = x := by omega
    rw [hx]
    have hnk : k ∉ ks := fun e => hm ((h.mem k hk).2 e)
    refine ⟨by rw [List.length_set]; exact hlen, h.w.set (by omega) _, fun j hj => ?_, ?_, ?_, fun j hj hn => ?_, by rw [List.length_set]; exact h.ml, fun j hj => mem_set h.ml hk (h.mem j hj), Or.inr ⟨k, ks, rfl, rfl, hk, h4, h5⟩⟩
    · rw [rd_setN (by omega) (by omega), if_neg (by omega)]; exact h.key j hj
    · rw [h1]
      have hch := h.ch
      have hnd := h.nd
      rw [h1] at hch hnd hnk
      exact chain_snoc hlen h3 hk ks' start hch hnd hnk (h.off k hk (by rw [h1]; exact hnk))
    · rw [List.nodup_append]
      exact ⟨h.nd, by simp, by intro a ha b hb e; rw [List.mem_singleton] at hb; subst hb; subst e; exact hnk ha⟩
    · rw [List.mem_append, not_or, List.mem_singleton] at hn
      have hjx : j ≠ x := fun e => hn.1 (by rw [h1, e]; simp)
      rw [rd_setN (by omega) (by omega), if_neg (by omega)]
      exact h.off j hj hn.1
theorem linked_row {l L : List Int} (hll : l.length ≤ 400) (hlen : L.length = 2 * l.length) (hw : W32 L) (hkey : ∀ j, j < l.length → rd L ((2 * j : Nat) : Int) = rd l (j : Int)) {key st : Int} (hk : 0 ≤ key ∧ key < 4294967296) :
    ∀ (ks : List Nat) (a m : Int), ChainTo l.length L a ks → 0 ≤ m → m + ks.length ≤ 60000 → chainS (wordM L) (Sr.mk key 4 st 0 0 0 4 0) (byts key.toNat 4) (ks.length + 1) a m = some (wantI l key ks, 0) := by
  intro ks
  induction ks with
  | nil => intro a m h h0 h1; unfold chainS; rw [if_pos (show a = 0 from h)]; rfl
  | cons k ks ih =>
    intro a m h h0 h1
    obtain ⟨h2, h3, h4⟩ := h
    rw [List.length_cons] at h1 ⊢
    subst h2
    rw [ch_step hw (by omega) hk (by omega) _ _ (by omega), hkey k h3]
    unfold wantI
    by_cases c : rd l (k : Int) = key
    · rw [if_pos c, if_pos c]
    · rw [if_neg c, if_neg c]; exact ih _ (m + 1) h4 (by omega) (by omega)
theorem linked_all {l L : List Int} {met : List Bool} {start last : Int} {ks : List Nat} (h : Linked l L met start last ks) (hl : l.length ≤ 400) (hks : ks.length ≤ 400) {key : Int} (hk : 0 ≤ key ∧ key < 4294967296) : LinkedS (wordM L) (Sr.mk key 4 start 0 0 0 4 0) (ks.length + 1) = some (wantI l key ks, 0) := by
  unfold LinkedS
  have hkk : keyS (wordM L) (Sr.mk key 4 start 0 0 0 4 0) = (byts key.toNat 4, 0) := by
    have hb : keyBad (Sr.mk key 4 start 0 0 0 4 0) = false := rfl
    unfold keyS
    rw [hb, if_neg (by decide), if_neg (by show ¬ hasB 0 1 = true; decide)]
    rfl
  rw [hkk, if_pos rfl]
  exact linked_row hl h.len h.w h.key hk ks start 0 h.ch (by omega) (by omega)
end Go.Proofs.Ytohmipmioaceeaa.Pure
