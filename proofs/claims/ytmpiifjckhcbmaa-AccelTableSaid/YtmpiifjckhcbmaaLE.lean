/- What errors accel's functions can tell: none, or that of a read (plain). -/
import Derived.Test.YtmpiifjckhcbmaaLO
namespace Go.Proofs.Ytmpiifjckhcbmaa.PQ
set_option linter.all false
open Go.RowKit Go.Proofs.YtmpiifjckhcbmaaW.PrintWords Go.Proofs.YtmpiifjckhcbmaaW.PrintLast Go.Proofs.YtmpiifjckhcbmaaW.PrintMore Go.Proofs.Ytmpiifjckhcbmaa.Z Go.Proofs.Ytmpiifjckhcbmaa.Pure
set_option linter.unusedVariables false
set_option linter.unusedSimpArgs false
def E9 (e : Int) : Prop := e = 0 ∨ e = 90
theorem E9.zero : E9 0 := Or.inl rfl
theorem rdS_e9 (bs : List Int) (a : Int) {n : Int} (hn : n = 1 ∨ n = 2 ∨ n = 4) : E9 (rdS bs a n).2 := by
  unfold rdS
  rw [if_pos hn]
  split
  · exact Or.inl rfl
  · exact Or.inr rfl
theorem readS_e9 (bs : List Int) (s a : Int) {e n : Int} (hn : n = 1 ∨ n = 2 ∨ n = 4) (h : E9 e) : E9 (readS bs s e a n).2 := by
  unfold readS
  split
  · exact h
  · exact rdS_e9 bs a hn
theorem regionS_e9 (bs : List Int) (s a : Int) {e : Int} (h : E9 e) : E9 (regionS bs s e a).2 := by
  unfold regionS
  split
  · exact h
  · exact readS_e9 bs s a (Or.inl rfl) h
theorem spanS_e9 (bs : List Int) (a n : Int) : E9 (spanS bs a n).2 := by
  unfold spanS
  split
  · exact Or.inl rfl
  · exact Or.inr rfl
theorem atS_e9 (bs : List Int) (s : Sr) (key : List Int) (a : Int) : E9 (atS bs s key a).2.2 := by
  unfold atS
  simp only
  split
  · exact Or.inl rfl
  · exact spanS_e9 _ _ _
theorem sortS_e9 (bs : List Int) (s : Sr) (key : List Int) : ∀ (k : Nat) (low high : Int) (r : Int × Int), sortS bs s key k low high = some r → E9 r.2
  | 0, _, _, r, h => by cases h
  | k + 1, low, high, r, h => by
    unfold sortS at h
    split at h
    · simp only at h
      split at h
      · injection h with h; rw [← h]; exact atS_e9 _ _ _ _
      · split at h
        · injection h with h; rw [← h]; exact Or.inl rfl
        · split at h
          · exact sortS_e9 bs s key k _ _ r h
          · exact sortS_e9 bs s key k _ _ r h
    · injection h with h; rw [← h]; exact Or.inl rfl
theorem binS_e9 (bs : List Int) (s : Sr) (h2 : s.ksz = 2) (h0 : s.opts = 0) : E9 (binS bs s).2 := by
  have hk : (keyS bs s).2 = 0 := by
    unfold keyS
    rw [if_neg (by unfold keyBad hasB; rw [h2, h0]; decide), if_neg (by unfold hasB; rw [h0]; decide)]
  unfold binS BinaryS
  rw [if_pos hk]
  cases hs : sortS bs s (keyS bs s).1 40 0 s.count with
  | none => exact Or.inl rfl
  | some r => exact sortS_e9 bs s _ 40 0 _ r hs
theorem tabS_e9 (bs : List Int) (at' s a b : Int) {e : Int} (h : E9 e) : E9 (tabS bs at' s e a b).2.2 := by
  have h1 := regionS_e9 bs s a h
  have h2 := readS_e9 bs s (tabA a at') (Or.inr (Or.inr rfl)) h1
  have h3 := readS_e9 bs s (readS bs s (regionS bs s e a).2 (tabA a at') 4).1 (Or.inr (Or.inr rfl)) h2
  unfold tabS
  simp only
  split
  · exact h1
  · split
    · exact h2
    · split
      · exact h3
      · exact binS_e9 _ _ rfl rfl
theorem inS_e9 (bs ps : List Int) (at' s o : Int) {e : Int} (h : E9 e) : E9 (inS bs ps at' s e o).2 := readS_e9 bs s _ (Or.inr (Or.inr rfl)) h
theorem propT_e9 (bs ps : List Int) (at' s a b c : Int) {e : Int} (h : E9 e) : E9 (propT bs ps at' s e a b c).2.2 := by
  have h1 := tabS_e9 bs at' s a b h
  have h2 : E9 (if c = 0 then inS bs ps at' (tabS bs at' s e a b).2.1 (tabS bs at' s e a b).2.2 a else (false, (tabS bs at' s e a b).2.2)).2 := by
    split
    · exact inS_e9 _ _ _ _ _ h1
    · exact h1
  unfold propT
  simp only
  generalize (if c = 0 then inS bs ps at' (tabS bs at' s e a b).2.1 (tabS bs at' s e a b).2.2 a else (false, (tabS bs at' s e a b).2.2)) = i at h2 ⊢
  split
  · exact h1
  · split
    · exact h2
    · have h3 := readS_e9 bs (tabS bs at' s e a b).2.1 (rd ps 6) (n := 4) (Or.inr (Or.inr rfl)) h2
      have h4 := readS_e9 bs (tabS bs at' s e a b).2.1 (((tabS bs at' s e a b).1 + 9) % 4294967296) (n := 1) (Or.inl rfl) h3
      have h5 : E9 (if (readS bs (tabS bs at' s e a b).2.1 i.2 (rd ps 6) 4).1 = a then (0, (readS bs (tabS bs at' s e a b).2.1 i.2 (rd ps 6) 4).2) else readS bs (tabS bs at' s e a b).2.1 (readS bs (tabS bs at' s e a b).2.1 i.2 (rd ps 6) 4).2 (((tabS bs at' s e a b).1 + 9) % 4294967296) 1).2 := by
        split
        · exact h3
        · exact h4
      generalize (if (readS bs (tabS bs at' s e a b).2.1 i.2 (rd ps 6) 4).1 = a then (0, (readS bs (tabS bs at' s e a b).2.1 i.2 (rd ps 6) 4).2) else readS bs (tabS bs at' s e a b).2.1 (readS bs (tabS bs at' s e a b).2.1 i.2 (rd ps 6) 4).2 (((tabS bs at' s e a b).1 + 9) % 4294967296) 1) = q at h5 ⊢
      split
      · exact h5
      · exact h5
theorem ofL_e9 (bs : List Int) (s b l n : Int) : ∀ (k : Nat) (i e : Int), E9 e → E9 (ofL bs s b l n k i e).2
  | 0, i, e, h => h
  | k + 1, i, e, h => by
    have h1 := readS_e9 bs s ((l + 4 * i) % 4294967296) (n := 4) (Or.inr (Or.inr rfl)) h
    unfold ofL
    split
    · simp only
      split
      · exact h1
      · exact ofL_e9 bs s b l n k _ _ h1
    · exact h
theorem ofS_e9 (bs ps : List Int) (at' s a b : Int) {e : Int} (h : E9 e) : E9 (ofS bs ps at' s e a b).2.2 := by
  have h1 := regionS_e9 bs s a h
  have h2 := inS_e9 bs ps at' s a h1
  have h3 := inS_e9 bs ps at' s b h1
  have h4 := propT_e9 bs ps at' s a 2 0 h3
  unfold ofS
  simp only
  split
  · exact h1
  · split
    · exact h1
    · split
      · exact h1
      · split
        · exact h2
        · split
          · exact h2
          · split
            · exact h1
            · split
              · exact h3
              · split
                · exact h4
                · have h5 := readS_e9 bs (propT bs ps at' s (inS bs ps at' s (regionS bs s e a).2 b).2 a 2 0).2.1 (((propT bs ps at' s (inS bs ps at' s (regionS bs s e a).2 b).2 a 2 0).1 + 4) % 4294967296) (n := 4) (Or.inr (Or.inr rfl)) h4
                  have h6 := readS_e9 bs (propT bs ps at' s (inS bs ps at' s (regionS bs s e a).2 b).2 a 2 0).2.1 (((propT bs ps at' s (inS bs ps at' s (regionS bs s e a).2 b).2 a 2 0).1 + 2) % 4294967296) (n := 2) (Or.inr (Or.inl rfl)) h5
                  split
                  · exact h5
                  · exact ofL_e9 _ _ _ _ _ _ _ _ h6
theorem propS_e9 (bs ps : List Int) (at' s a b : Int) {e : Int} (h : E9 e) : E9 (propS bs ps at' s e a b).2.2 := by
  have h1 := readS_e9 bs s ((rd ps 0 + 4 * (b % 65536)) % 4294967296) (n := 4) (Or.inr (Or.inr rfl)) h
  have h2 := ofS_e9 bs ps at' s a (readS bs s e ((rd ps 0 + 4 * (b % 65536)) % 4294967296) 4).1 h1
  unfold propS
  simp only
  split
  · exact propT_e9 _ _ _ _ _ _ _ h
  · split
    · exact h2
    · exact propT_e9 _ _ _ _ _ _ _ h2
theorem addrS_e9 (bs ps : List Int) (at' s a b : Int) {e : Int} (h : E9 e) : E9 (addrS bs ps at' s e a b).2.2 := by
  have h1 := propS_e9 bs ps at' s a b h
  unfold addrS
  simp only
  split
  · exact readS_e9 _ _ _ (Or.inr (Or.inr rfl)) h1
  · exact h1
theorem lenS_e9 (bs ps : List Int) (at' s a b : Int) {e : Int} (h : E9 e) : E9 (lenS bs ps at' s e a b).2.2 := by
  have h1 := propS_e9 bs ps at' s a b h
  unfold lenS
  simp only
  split
  · exact readS_e9 _ _ _ (Or.inr (Or.inl rfl)) h1
  · exact h1
theorem valueS_e9 (bs ps : List Int) (at' s a b : Int) {e : Int} (h : E9 e) : E9 (valueS bs ps at' s e a b).2.2 := by
  have h1 := addrS_e9 bs ps at' s a b h
  unfold valueS
  simp only
  split
  · exact h1
  · split
    · exact readS_e9 _ _ _ (Or.inr (Or.inr rfl)) h1
    · split
      · exact readS_e9 _ _ _ (Or.inr (Or.inr rfl)) h1
      · exact h1
theorem hasS_e9 (bs ps : List Int) (at' s a b : Int) {e : Int} (h : E9 e) : E9 (hasS bs ps at' s e a b).2.2 := by
  have h1 := regionS_e9 bs s a h
  have h2 : E9 (if ownS ps b = true then inS bs ps at' s (regionS bs s e a).2 a else (false, (regionS bs s e a).2)).2 := by
    split
    · exact inS_e9 _ _ _ _ _ h1
    · exact h1
  unfold hasS
  simp only
  generalize (if ownS ps b = true then inS bs ps at' s (regionS bs s e a).2 a else (false, (regionS bs s e a).2)) = i at h2 ⊢
  split
  · exact h1
  · split
    · exact h1
    · split
      · exact h1
      · split
        · exact h2
        · exact addrS_e9 _ _ _ _ _ _ h2
theorem doF_e9 (m : Int) (bs ps : List Int) (at' a b : Int) : E9 (doF m bs ps at' a b).2.2 := by
  unfold doF
  split
  · exact regionS_e9 _ _ _ E9.zero
  · split
    · exact tabS_e9 _ _ _ _ _ E9.zero
    · split
      · exact addrS_e9 _ _ _ _ _ _ E9.zero
      · split
        · exact lenS_e9 _ _ _ _ _ _ E9.zero
        · split
          · exact ofS_e9 _ _ _ _ _ _ E9.zero
          · split
            · exact valueS_e9 _ _ _ _ _ _ E9.zero
            · exact hasS_e9 _ _ _ _ _ _ E9.zero
theorem doE_e9 {r : Int × Int × Int} (h : E9 r.2.2) : E9 (doE r).2.2 := by
  unfold doE
  split
  · exact h
  · exact h
theorem doS_e9 (bs ps : List Int) (n a b : Int) : E9 (doS bs ps n a b).2.2 := by
  unfold doS
  split
  · exact doE_e9 (doF_e9 _ _ _ _ _ _)
  · exact doE_e9 (doF_e9 _ _ _ _ _ _)
end Go.Proofs.Ytmpiifjckhcbmaa.PQ
