/- Of what classes an object is, reckoned over a memory that is told by its bytes (plain). -/
import Derived.Test.YtmpiifjckhcbmaaLB
namespace Go.Proofs.Ytmpiifjckhcbmaa.PQ
set_option linter.all false
open Go.RowKit Go.Proofs.YtmpiifjckhcbmaaW.PrintWords Go.Proofs.YtmpiifjckhcbmaaW.PrintLast Go.Proofs.YtmpiifjckhcbmaaW.PrintMore Go.Proofs.Ytmpiifjckhcbmaa.Z Go.Proofs.Ytmpiifjckhcbmaa.Pure
set_option linter.unusedVariables false
set_option linter.unusedSimpArgs false
theorem has_r4 {l : List Int} {o x : Nat} {a : Int} (h : l.length = 1792) (hh : HasB l o (byts x 4)) (ho : o + 4 ≤ 1792) (hx : x < 256 ^ 4) (ha : a = ((256 + o : Nat) : Int)) : readS (memB l) 0 0 a 4 = ((x : Int), 0) := has_read (n := 4) h hh ho (Or.inr (Or.inr rfl)) hx ha rfl
theorem has_r2 {l : List Int} {o x : Nat} {a : Int} (h : l.length = 1792) (hh : HasB l o (byts x 2)) (ho : o + 2 ≤ 1792) (hx : x < 256 ^ 2) (ha : a = ((256 + o : Nat) : Int)) : readS (memB l) 0 0 a 2 = ((x : Int), 0) := has_read (n := 2) h hh ho (Or.inr (Or.inl rfl)) hx ha rfl
theorem has_r1 {l : List Int} {o x : Nat} {a : Int} (h : l.length = 1792) (hh : HasB l o (byts x 1)) (ho : o + 1 ≤ 1792) (hx : x < 256 ^ 1) (ha : a = ((256 + o : Nat) : Int)) : readS (memB l) 0 0 a 1 = ((x : Int), 0) := has_read (n := 1) h hh ho (Or.inl rfl) hx ha rfl
theorem has_span {l : List Int} {o x n : Nat} (h : l.length = 1792) (hh : HasB l o (byts x n)) (ho : o + n ≤ 1792) : spanS (memB l) ((256 + o : Nat) : Int) (n : Int) = (byts x n, 0) := by
  unfold spanS
  rw [if_pos (Or.inr (by rw [memB_len]; omega)), Int.toNat_natCast, Int.toNat_natCast]
  congr 1
  apply List.ext_getElem?
  intro i
  rw [List.getElem?_take]
  by_cases c : i < n
  · rw [if_pos c, List.getElem?_drop]
    have h1 := memB_rd h (j := o + i) (by omega)
    have h2 := hh i (by rw [byts_len]; exact c)
    rw [h2] at h1
    rw [rd_getD, rd_getD] at h1
    have l1 : 256 + (o + i) < (memB l).length := by rw [memB_len]; omega
    have l2 : i < (byts x n).length := by rw [byts_len]; exact c
    rw [List.getElem?_eq_getElem l1, List.getElem?_eq_getElem l2] at h1
    rw [show 256 + o + i = 256 + (o + i) by omega, List.getElem?_eq_getElem l1, List.getElem?_eq_getElem l2]
    simpa using h1
  · rw [if_neg c, List.getElem?_eq_none (by rw [byts_len]; omega)]
theorem region_obj {l : List Int} {o : Nat} {a : Int} (h : l.length = 1792) (hh : HasB l o (byts 112 1)) (ho : o + 1 ≤ 1792) (ha : a = ((256 + o : Nat) : Int)) : regionS (memB l) 0 0 a = (1, 0) := by
  unfold regionS
  rw [if_neg (by rw [memB_len]; omega), has_r1 h hh ho (by decide) ha]
  unfold kindS
  rw [if_neg (by omega), if_neg (by omega), if_pos (by omega)]
theorem cmpI_self (l : List Int) : cmpI l l = 0 := by
  induction l with
  | nil => rfl
  | cons a l ih => unfold cmpI; rw [if_neg (by omega), if_neg (by omega), ih]
/-- the params of the law -/
abbrev clP : List Int := [0, 256, 2000, 2004, 2008, 2012, 260, 7, 300]
structure ClsB (b L : List Int) : Prop where
  ln : b.length = 1792
  c1 : ∀ k : Nat, k < 8 → HasB b (256 + 64 * k) (byts 112 1)
  c2 : ∀ k : Nat, k < 8 → HasB b (276 + 64 * k) (byts 2000 4)
  o1 : HasB b 768 (byts 112 1)
  o2 : HasB b 784 (byts 1100 4)
  o3 : HasB b 844 (byts 1 4)
  o4 : HasB b 848 (byts 2 2)
  o5 : HasB b 850 (byts L.length 2)
  o6 : HasB b 852 (byts 1200 4)
  o7 : HasB b 857 (byts 0 1)
  o8 : HasB b 788 (byts 0 4)
  o9 : HasB b 4 (byts 0 4)
  l1 : ∀ i : Nat, i < L.length → HasB b (944 + 4 * i) (byts (512 + 64 * ((rd L (i : Int)).toNat % 8)) 4)
  ll : L.length ≤ 60
  lr : Byt L
theorem classA7 (a : Int) (h : 0 ≤ a ∧ a < 4294967000) : classA a 7 = a + 20 := by
  unfold classA
  rw [IntKind.wrap_u32, IntKind.wrap_u32 (a + 13)]
  omega
section
variable {b L : List Int} (H : ClsB b L)
include H
theorem ClsB.regC {k : Nat} (hk : k < 8) : regionS (memB b) 0 0 ((512 + 64 * k : Nat) : Int) = (1, 0) := region_obj H.ln (H.c1 k hk) (by omega) (by omega)
theorem ClsB.regO : regionS (memB b) 0 0 1024 = (1, 0) := region_obj H.ln H.o1 (by omega) rfl
theorem ClsB.inC {k : Nat} (hk : k < 8) : inS (memB b) clP 7 0 0 ((512 + 64 * k : Nat) : Int) = (true, 0) := by
  unfold inS
  rw [classA7 _ (by omega), has_r4 H.ln (H.c2 k hk) (by omega) (by decide) (by omega)]
  rfl
theorem ClsB.inO : inS (memB b) clP 7 0 0 1024 = (false, 0) := by
  unfold inS
  rw [classA7 _ (by omega), has_r4 H.ln H.o8 (by omega) (by decide) (show (1024 + 20 : Int) = ((256 + 788 : Nat) : Int) by omega)]
  rfl
theorem ClsB.y {k : Nat} (hk : k < 8) : ofS (memB b) clP 7 0 0 ((512 + 64 * k : Nat) : Int) 2000 = (1, 0, 0) := by
  unfold ofS
  simp only [H.regC hk]
  rw [if_neg (by omega), if_neg (by omega), if_neg (by omega), if_pos (show (2000 : Int) = rd clP 2 by decide), H.inC hk]
  rfl
theorem ClsB.z : ofS (memB b) clP 7 0 0 1024 2004 = (1, 0, 0) := by
  unfold ofS
  simp only [H.regO]
  rw [if_neg (by omega), if_neg (by omega), if_neg (by omega), if_neg (show ¬ ((2004 : Int) = rd clP 2) by decide), if_pos (show (2004 : Int) = rd clP 3 by decide), H.inO]
  decide
theorem ClsB.u {k : Nat} (hk : k < 8) : ofS (memB b) clP 7 0 0 ((512 + 64 * k : Nat) : Int) 2004 = (0, 0, 0) := by
  unfold ofS
  simp only [H.regC hk]
  rw [if_neg (by omega), if_neg (by omega), if_neg (by omega), if_neg (show ¬ ((2004 : Int) = rd clP 2) by decide), if_pos (show (2004 : Int) = rd clP 3 by decide), H.inC hk]
  rfl
theorem ClsB.t : ofS (memB b) clP 7 0 0 1024 1024 = (0, 2, 0) := by
  unfold ofS
  simp only [H.regO]
  rw [if_neg (by omega), if_neg (by omega), if_neg (by omega), if_neg (show ¬ ((1024 : Int) = rd clP 2) by decide), if_neg (show ¬ ((1024 : Int) = rd clP 3) by decide), if_neg (show ¬ ((1024 : Int) = rd clP 5 ∨ (1024 : Int) = rd clP 4) by decide), H.inO, if_pos rfl]
  rfl
theorem ClsB.bin : binS (memB b) ⟨2, 2, 1104, 10, 1, 0, 0, 0⟩ = (1104, 0) := by
  have hk : keyS (memB b) ⟨2, 2, 1104, 10, 1, 0, 0, 0⟩ = (byts 2 2, 0) := by
    unfold keyS
    rw [if_neg (by unfold keyBad hasB; decide), if_neg (by unfold hasB; decide)]
    rfl
  unfold binS BinaryS
  rw [hk, if_pos rfl]
  show (sortS (memB b) ⟨2, 2, 1104, 10, 1, 0, 0, 0⟩ (byts 2 2) 40 0 1).getD (0, 0) = (1104, 0)
  unfold sortS
  rw [if_pos (by omega)]
  have ha : atS (memB b) ⟨2, 2, 1104, 10, 1, 0, 0, 0⟩ (byts 2 2) ((1104 + ((0 + 1) / 2 % 4294967296) * 10 % 4294967296) % 4294967296) = (0, (byts 2 2).all (· == 0), 0) := by
    unfold atS
    simp only
    rw [show ((1104 + ((0 + 1) / 2 % 4294967296) * 10 % 4294967296) % 4294967296 + 0) % 4294967296 = ((256 + 848 : Nat) : Int) by omega]
    rw [show (2 : Int) = ((2 : Nat) : Int) from rfl, has_span H.ln H.o4 (by omega), if_pos rfl, cmpI_self]
  simp only
  rw [ha]
  rfl
theorem ClsB.tab : tabS (memB b) 7 0 0 1024 2 = (1104, 0, 0) := by
  unfold tabS
  simp only [H.regO]
  rw [if_neg (by omega), has_r4 H.ln H.o2 (by omega) (by decide) (show tabA 1024 7 = ((256 + 784 : Nat) : Int) by unfold tabA; omega)]
  simp only
  rw [if_neg (by omega), has_r4 H.ln H.o3 (by omega) (by decide) (show ((1100 : Nat) : Int) = ((256 + 844 : Nat) : Int) from rfl)]
  simp only
  rw [if_neg (by unfold badS; decide)]
  have := H.bin
  show ((binS (memB b) ⟨2, 2, ((1100 : Nat) + 4 : Int) % 4294967296, 10, ((1 : Nat) : Int), 0, 0, 0⟩).1, 0, (binS (memB b) ⟨2, 2, ((1100 : Nat) + 4 : Int) % 4294967296, 10, ((1 : Nat) : Int), 0, 0, 0⟩).2) = (1104, 0, 0)
  rw [show ((1100 : Nat) + 4 : Int) % 4294967296 = 1104 by omega, show ((1 : Nat) : Int) = 1 from rfl, this]
theorem ClsB.propO : propT (memB b) clP 7 0 0 1024 2 0 = (1104, 0, 0) := by
  unfold propT
  simp only [H.tab]
  rw [if_neg (by unfold badS; decide)]
  simp only [if_true]
  rw [H.inO, if_neg (by decide)]
  simp only
  rw [has_r4 H.ln H.o9 (by omega) (by decide) (show rd clP 6 = ((256 + 4 : Nat) : Int) by decide)]
  simp only
  rw [if_neg (show ¬ (((0 : Nat) : Int) = 1024) by omega), has_r1 H.ln H.o7 (by omega) (by decide) (show (1104 + 9 : Int) % 4294967296 = ((256 + 857 : Nat) : Int) by omega), if_neg (show ¬ (((0 : Nat) : Int) % 2 = 1) by omega)]
theorem ClsB.loop {k : Nat} (hk : k < 8) : ∀ (d i : Nat), i + d = L.length → ofL (memB b) 0 ((512 + 64 * k : Nat) : Int) 1200 ((L.length : Nat) : Int) (d + 1) (i : Int) 0 = (oneS ((L.drop i).any (fun v => v.toNat % 8 == k)), 0)
  | 0, i, h => by
    unfold ofL
    rw [if_neg (fun h => by omega), List.drop_eq_nil_of_le (by omega)]
    rfl
  | d + 1, i, h => by
    have hl := H.ll
    have hv : 512 + 64 * ((rd L (i : Int)).toNat % 8) < 256 ^ 4 := by
      have : (rd L (i : Int)).toNat % 8 < 8 := Nat.mod_lt _ (by omega)
      omega
    unfold ofL
    rw [if_pos ⟨by omega, rfl⟩, has_r4 H.ln (H.l1 i (by omega)) (by omega) hv (show (1200 + 4 * (i : Int)) % 4294967296 = ((256 + (944 + 4 * i) : Nat) : Int) by omega)]
    simp only
    have hd : L.drop i = rd L (i : Int) :: L.drop (i + 1) := drop_at (by omega)
    rw [hd, List.any_cons]
    by_cases c : (rd L (i : Int)).toNat % 8 = k
    · rw [if_pos ⟨by omega, rfl⟩, c]
      simp [oneS]
    · rw [if_neg (fun h => c (by omega)), show ((i : Int) + 1) % 4294967296 = ((i + 1 : Nat) : Int) by omega, ClsB.loop hk d (i + 1) (by omega)]
      have : ((rd L (i : Int)).toNat % 8 == k) = false := beq_false_of_ne c
      rw [this, Bool.false_or]
theorem ClsB.x {k : Nat} (hk : k < 8) : ofS (memB b) clP 7 0 0 1024 ((512 + 64 * k : Nat) : Int) = (oneS (L.any (fun v => v.toNat % 8 == k)), 0, 0) := by
  have hl := H.ll
  unfold ofS
  simp only [H.regO]
  rw [if_neg (by omega), if_neg (by omega), if_neg (by omega), if_neg (show ¬ (((512 + 64 * k : Nat) : Int) = rd clP 2) by show ¬ (((512 + 64 * k : Nat) : Int) = 2000); omega), if_neg (show ¬ (((512 + 64 * k : Nat) : Int) = rd clP 3) by show ¬ (((512 + 64 * k : Nat) : Int) = 2004); omega), if_neg (show ¬ (((512 + 64 * k : Nat) : Int) = rd clP 5 ∨ ((512 + 64 * k : Nat) : Int) = rd clP 4) by show ¬ (((512 + 64 * k : Nat) : Int) = 2012 ∨ ((512 + 64 * k : Nat) : Int) = 2008); omega)]
  rw [H.inC hk, if_neg (by decide), H.propO]
  simp only
  rw [if_neg (by unfold badS; decide), has_r4 H.ln H.o6 (by omega) (by decide) (show (1104 + 4 : Int) % 4294967296 = ((256 + 852 : Nat) : Int) by omega)]
  simp only
  rw [if_neg (by omega), has_r2 H.ln H.o5 (by omega) (by omega) (show (1104 + 2 : Int) % 4294967296 = ((256 + 850 : Nat) : Int) by omega)]
  simp only
  rw [Int.toNat_natCast]
  have := H.loop hk L.length 0 (by omega)
  rw [List.drop_zero] at this
  rw [show ((1200 : Nat) : Int) = 1200 from rfl, show (0 : Int) = ((0 : Nat) : Int) from rfl] at *
  rw [this]
end
/-- Do of the function 5 -/
theorem do5 {bs ps : List Int} {a b x s e : Int} (h : ofS bs ps 7 0 0 a b = (x, s, e)) (hx : badS s e = true → x = 0) : doS bs ps 5 a b = (x, s, e) := by
  unfold doS doE
  rw [if_neg (by omega)]
  show (if badS (ofS bs ps 7 0 0 a b).2.1 (ofS bs ps 7 0 0 a b).2.2 = true then (0, (ofS bs ps 7 0 0 a b).2.1, (ofS bs ps 7 0 0 a b).2.2) else ofS bs ps 7 0 0 a b) = (x, s, e)
  rw [h]
  simp only
  split
  · rename_i h1
    rw [hx h1]
  · rfl
end Go.Proofs.Ytmpiifjckhcbmaa.PQ
