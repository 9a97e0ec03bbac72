/- Words laid into memory, one behind the other. -/
import Derived.Test.YtohmipmioaceeaaLT
import Derived.Test.YtohmipmioaceeaaPQx1
namespace Go.Proofs.Ytohmipmioaceeaa.Pure
set_option linter.all false
open Go.RowKit Go.Proofs.Ytohmipmioaceeaa.PQ Go.Proofs.YtohmipmioaceeaaW.PrintWords Go.Proofs.YtohmipmioaceeaaW.PrintLast Go.Proofs.YtohmipmioaceeaaW.PrintMore Go.Proofs.Ytohmipmioaceeaa.Z
set_option linter.unusedVariables false
theorem byts4 (x : Nat) (hx : x < 4294967296) : byts x 4 = [((x / 16777216 : Nat) : Int), ((x / 65536 % 256 : Nat) : Int), ((x / 256 % 256 : Nat) : Int), ((x % 256 : Nat) : Int)] := by
  unfold byts byts byts byts byts
  have a : x / 256 / 256 / 256 % 256 = x / 16777216 := by omega
  have b : x / 256 / 256 % 256 = x / 65536 % 256 := by omega
  rw [a, b]
  rfl
theorem rput_eq {x : Nat} (hx : x < 4294967296) {k : Nat} (hk : 20 < k) : grottoref01_Put.f k (x : Int) 4 = some (byts x 4) := by
  obtain ⟨k, rfl⟩ : ∃ j, k = j + 10 := ⟨k - 10, by omega⟩
  have step : ∀ (k p : Nat) (l : List Int) (i : Int), 0 ≤ i → i < 4 → 0 < p → p ≤ 16777216 → l.length < 100 → grottoref01_Put.l1 (k + 1) (x : Int) 4 l (p : Int) i = grottoref01_Put.l1 k (x : Int) 4 (l ++ [((x / p % 256 : Nat) : Int)]) ((p / 256 : Nat) : Int) (i + 1) := by
    intro k p l i h0 h1 hp hp2 hl
    have xp : x / p ≤ x := Nat.div_le_self _ _
    have d1 : Int.tdiv (x : Int) (p : Int) = ((x / p : Nat) : Int) := by rw [Int.tdiv_eq_ediv_of_nonneg (by omega)]; rfl
    generalize x / p = q at xp d1 ⊢
    have d2 : Int.tmod (q : Int) 256 = ((q % 256 : Nat) : Int) := by rw [Int.tmod_eq_emod_of_nonneg (by omega)]; rfl
    have d3 : Int.tdiv (p : Int) 256 = ((p / 256 : Nat) : Int) := by rw [Int.tdiv_eq_ediv_of_nonneg (by omega)]; rfl
    have m : ((q % 256 : Nat) : Int) % 256 = ((q % 256 : Nat) : Int) := by omega
    rw [grottoref01_Put.l1.eq_2, if_pos h1, if_neg (by omega), if_pos (by omega), w64 (n := (x : Int)) (by omega) (by omega), d1, w64 (n := (q : Int)) (by omega) (by omega), d2, d3, w64 (n := ((p / 256 : Nat) : Int)) (by omega) (by omega), w64 (n := i + 1) (by omega) (by omega), m]
  have s0 : grottoref01_Put.l0 (k + 9) (x : Int) 4 1 1 = grottoref01_Put.l0 (k + 8) (x : Int) 4 256 2 := by
    rw [grottoref01_Put.l0.eq_2, if_pos (by decide)]; congr 1 <;> decide +kernel
  have s1 : grottoref01_Put.l0 (k + 8) (x : Int) 4 256 2 = grottoref01_Put.l0 (k + 7) (x : Int) 4 65536 3 := by
    rw [grottoref01_Put.l0.eq_2, if_pos (by decide)]; congr 1 <;> decide +kernel
  have s2 : grottoref01_Put.l0 (k + 7) (x : Int) 4 65536 3 = grottoref01_Put.l0 (k + 6) (x : Int) 4 16777216 4 := by
    rw [grottoref01_Put.l0.eq_2, if_pos (by decide)]; congr 1 <;> decide +kernel
  have s3 : grottoref01_Put.l0 (k + 6) (x : Int) 4 16777216 4 = grottoref01_Put.l1 (k + 5) (x : Int) 4 [] 16777216 0 := by
    rw [grottoref01_Put.l0.eq_2, if_neg (by decide)]
  unfold grottoref01_Put.f
  rw [if_neg (by decide), if_neg (by decide)]
  have j : grottoref01_Put.j0 (k + 10) (x : Int) 4 ((4 : Int) != 4) = grottoref01_Put.l0 (k + 9) (x : Int) 4 1 1 := by
    rw [grottoref01_Put.j0.eq_2, if_neg (by decide)]
  rw [j, s0, s1, s2, s3]
  refine (step (k + 4) 16777216 [] 0 (by decide) (by decide) (by decide) (by decide) (by simp)).trans ?_
  refine (step (k + 3) 65536 _ 1 (by decide) (by decide) (by decide) (by decide) (by simp)).trans ?_
  refine (step (k + 2) 256 _ 2 (by decide) (by decide) (by decide) (by decide) (by simp)).trans ?_
  refine (step (k + 1) 1 _ 3 (by decide) (by decide) (by decide) (by decide) (by simp)).trans ?_
  rw [grottoref01_Put.l1.eq_2, if_neg (by decide), byts4 x hx]
  have a : x / 16777216 % 256 = x / 16777216 := by omega
  rw [a, Nat.div_one]
  rfl
def W32 (l : List Int) : Prop := ∀ x ∈ l, 0 ≤ x ∧ x < 4294967296
theorem W32.at {l : List Int} (h : W32 l) {i : Nat} (hi : i < l.length) : 0 ≤ rd l (i : Int) ∧ rd l (i : Int) < 4294967296 := by
  rw [rd_nat hi]; exact h _ (List.getElem_mem hi)
def wordsB (l : List Int) : List Int := l.flatMap (fun x => byts x.toNat 4)
theorem wordsB_len (l : List Int) : (wordsB l).length = 4 * l.length := by
  induction l with
  | nil => rfl
  | cons x l ih => unfold wordsB at ih ⊢; rw [List.flatMap_cons, List.length_append, ih, byts_len, List.length_cons]; omega
theorem wordsB_byt (l : List Int) : Byt (wordsB l) := by
  intro b hb
  obtain ⟨x, _, hx⟩ := List.mem_flatMap.1 hb
  exact byts_byt _ _ b hx
theorem wordsB_app (a b : List Int) : wordsB (a ++ b) = wordsB a ++ wordsB b := List.flatMap_append
theorem wordsB_one (x : Int) : wordsB [x] = byts x.toNat 4 := by unfold wordsB; rw [List.flatMap_cons, List.flatMap_nil, List.append_nil]
theorem wordsB_split {l : List Int} {i : Nat} (h : i < l.length) : wordsB l = wordsB (l.take i) ++ (byts (rd l (i : Int)).toNat 4 ++ wordsB (l.drop (i + 1))) := by
  conv => lhs; rw [← List.take_append_drop i l]
  rw [wordsB_app, drop_at h, show rd l (i : Int) :: l.drop (i + 1) = [rd l (i : Int)] ++ l.drop (i + 1) from rfl, wordsB_app, wordsB_one]
theorem wordsB_take {l : List Int} {i : Nat} (h : i < l.length) : wordsB (l.take (i + 1)) = wordsB (l.take i) ++ byts (rd l (i : Int)).toNat 4 := by
  rw [List.take_succ_eq_append_getElem h, wordsB_app, wordsB_one, rd_nat h]
theorem words_l0 (l : List Int) (hw : W32 l) (hl : l.length ≤ 100000) : ∀ (d i k : Nat), i + d = l.length → d + 30 < k → grottolaw13_words.l0 k l (wordsB (l.take i)) (i : Int) = some (wordsB l) := by
  intro d
  induction d with
  | zero =>
    intro i k hi hk
    obtain ⟨k, rfl⟩ : ∃ j, k = j + 1 := ⟨k - 1, by omega⟩
    rw [grottolaw13_words.l0.eq_2, if_neg (by omega), List.take_of_length_le (by omega)]
  | succ d ih =>
    intro i k hi hk
    obtain ⟨k, rfl⟩ : ∃ j, k = j + 1 := ⟨k - 1, by omega⟩
    have hil : i < l.length := by omega
    have hr := hw.at hil
    obtain ⟨x, hx⟩ : ∃ x : Nat, rd l (i : Int) = (x : Int) := ⟨(rd l (i : Int)).toNat, by omega⟩
    have hln := wordsB_len (l.take i)
    rw [List.length_take] at hln
    have hb := byts_len 4 x
    have e : wordsB (l.take (i + 1)) = wordsB (l.take i) ++ byts x 4 := by rw [wordsB_take hil, hx, Int.toNat_natCast]
    rw [grottolaw13_words.l0.eq_2, if_pos (by omega), if_pos (by omega), hx, rput_eq (by omega) (by omega), Option.bind_some, if_pos (by rw [hln, hb]; omega), w64 (by omega) (by omega), ← e]
    exact ih (i + 1) k (by omega) (by omega)
theorem words_f (l : List Int) (hw : W32 l) (hl : l.length ≤ 100000) : ∃ k, grottolaw13_words.f k l = some (wordsB l) :=
  ⟨l.length + 31, words_l0 l hw hl l.length 0 _ (by omega) (by omega)⟩
/-- the memory with words in it -/
abbrev wordM (l : List Int) : List Int := laidB (wordsB l) (4 * l.length)
theorem wordM_len {l : List Int} (h : l.length ≤ 960) : (wordM l).length = 4096 := laidB_len (by rw [wordsB_len]; omega) (by omega)
theorem span_word {l : List Int} (h : l.length ≤ 960) {i : Nat} (hi : i < l.length) : spanS (wordM l) (256 + 4 * (i : Int)) 4 = (byts (rd l (i : Int)).toNat 4, 0) := by
  have hlen := wordM_len h
  rw [spanS_ok (by rw [hlen]; omega)]
  have e : (256 + 4 * (i : Int)).toNat = 256 + 4 * i := by omega
  have ef : wordM l = (gm ++ wordsB (l.take i)) ++ (byts (rd l (i : Int)).toNat 4 ++ (wordsB (l.drop (i + 1)) ++ List.replicate (3840 - 4 * l.length) 0)) := by
    show gm ++ ((wordsB l).take (4 * l.length) ++ _) = _
    rw [List.take_of_length_le (by rw [wordsB_len]; omega)]
    conv => lhs; rw [wordsB_split hi]
    simp only [List.append_assoc]
  have hp : (gm ++ wordsB (l.take i)).length = 256 + 4 * i := by rw [List.length_append, gm_len, wordsB_len, List.length_take]; omega
  rw [e, ef, List.drop_append_of_le_length (by omega), List.drop_eq_nil_of_le (by omega), List.nil_append]
  rw [List.take_append_of_le_length (by rw [byts_len]; decide), List.take_of_length_le (by rw [byts_len]; decide)]
theorem byts_inj4 {x y : Int} (hx : 0 ≤ x ∧ x < 4294967296) (hy : 0 ≤ y ∧ y < 4294967296) : byts x.toNat 4 = byts y.toNat 4 ↔ x = y := by
  refine ⟨fun h => ?_, fun h => by rw [h]⟩
  have h2 := congrArg (bev 0) h
  rw [bev_byts, bev_byts, show 256 ^ 4 = 4294967296 from rfl] at h2
  omega
theorem allz_byts4 {x : Int} (hx : 0 ≤ x ∧ x < 4294967296) : allz (byts x.toNat 4) = (x == 0) := by
  rw [byts4 _ (by omega)]
  unfold allz
  rw [Bool.eq_iff_iff]
  simp only [List.all_cons, List.all_nil, Bool.and_true, Bool.and_eq_true, beq_iff_eq]
  constructor
  · intro h; omega
  · intro h; subst h; decide
/-- the place where the row's search stops: from place i on -/
def firstI (key : Int) (zero : Bool) : List Int → Int → Int
  | [], _ => -1
  | x :: l, i => if x = key then i else if (zero && (x == 0)) = true then -1 else firstI key zero l (i + 1)
theorem firstI_rng (key : Int) (zero : Bool) : ∀ (l : List Int) (i : Int), firstI key zero l i = -1 ∨ (i ≤ firstI key zero l i ∧ firstI key zero l i < i + l.length) := by
  intro l
  induction l with
  | nil => intro i; exact Or.inl rfl
  | cons x l ih =>
    intro i
    unfold firstI
    split
    · refine Or.inr ⟨Int.le_refl _, ?_⟩; rw [List.length_cons]; omega
    · split
      · exact Or.inl rfl
      · rcases ih (i + 1) with h | ⟨h1, h2⟩
        · exact Or.inl h
        · refine Or.inr ⟨by omega, ?_⟩; rw [List.length_cons]; omega
abbrev rowSr (key n op : Int) : Sr := Sr.mk key 4 256 4 n 0 0 op
theorem row_key {bs : List Int} {key n op : Int} (ho : hasB op 1 = false) : keyS bs (rowSr key n op) = (byts key.toNat 4, 0) := by
  have hb : keyBad (rowSr key n op) = false := by
    unfold keyBad
    show (decide ((4 : Int) > 256) || (!hasB op 1 && (4 : Int) != 1 && (4 : Int) != 2 && (4 : Int) != 4)) = false
    rw [ho]; decide
  unfold keyS
  rw [hb, if_neg (by decide), if_neg (by show ¬ hasB op 1 = true; rw [ho]; decide)]
  rfl
theorem row_at {l : List Int} (hl : l.length ≤ 960) {key n op : Int} {i : Nat} (hi : i < l.length) :
    atS (wordM l) (rowSr key n op) (byts key.toNat 4) ((256 + (i : Int) * 4 % 4294967296) % 4294967296) = (cmpI (byts (rd l (i : Int)).toNat 4) (byts key.toNat 4), allz (byts (rd l (i : Int)).toNat 4), 0) := by
  rw [show (256 + (i : Int) * 4 % 4294967296) % 4294967296 = 256 + 4 * (i : Int) by omega]
  exact atS_ok (by show spanS _ ((256 + 4 * (i : Int) + 0) % 4294967296) 4 = _; rw [show (256 + 4 * (i : Int) + 0) % 4294967296 = 256 + 4 * (i : Int) by omega]; exact span_word hl hi)
theorem first_row {l : List Int} (hw : W32 l) (hl : l.length ≤ 960) {key op : Int} (hk : 0 ≤ key ∧ key < 4294967296) {zero : Bool} (hz : hasB op 2 = zero) :
    ∀ (d i : Nat), i + d = l.length → rowS (wordM l) (rowSr key (l.length : Int) op) (byts key.toNat 4) (d + 1) (i : Int) = some (if firstI key zero (l.drop i) (i : Int) = -1 then noneS (rowSr key (l.length : Int) op) else toldS (rowSr key (l.length : Int) op) (firstI key zero (l.drop i) (i : Int)), 0) := by
  intro d
  induction d with
  | zero =>
    intro i hi
    unfold rowS
    rw [if_neg (by show ¬ ((i : Int) < (l.length : Int) ∨ (l.length : Int) = 4294967295); omega), List.drop_eq_nil_of_le (by omega)]
    rfl
  | succ d ih =>
    intro i hi
    have hil : i < l.length := by omega
    have hr := hw.at hil
    unfold rowS
    rw [if_pos (by show (i : Int) < (l.length : Int) ∨ (l.length : Int) = 4294967295; omega)]
    show (let r := atS (wordM l) (rowSr key (l.length : Int) op) (byts key.toNat 4) ((256 + (i : Int) * 4 % 4294967296) % 4294967296); _) = _
    rw [row_at hl hil, drop_at hil]
    have hc : cmpI (byts (rd l (i : Int)).toNat 4) (byts key.toNat 4) = 0 ↔ rd l (i : Int) = key := (cmpI_eq _ _).trans (byts_inj4 hr hk)
    unfold firstI
    by_cases c : rd l (i : Int) = key
    · simp only [ne_eq, not_true_eq_false, if_false, if_pos (hc.2 c), if_pos c]
      rw [if_neg (show ¬ ((i : Int) = -1) by omega)]
    · have hs : ¬ ((rowSr key (l.length : Int) op).size = 0) := by show ¬ ((4 : Int) = 0); decide
      simp only [ne_eq, not_true_eq_false, if_false, if_neg (fun e => c (hc.1 e)), if_neg c, allz_byts4 hr]
      rw [show hasB (rowSr key (l.length : Int) op).opts 2 = zero from hz]
      by_cases c2 : (zero && (rd l (i : Int) == 0)) = true
      · rw [if_pos c2, if_pos (Or.inl (by rw [Bool.and_comm]; exact c2)), if_pos rfl]
      · rw [if_neg c2, if_neg (fun e => by rcases e with e | e; exact c2 (by rw [Bool.and_comm]; exact e); exact hs e), show ((i : Int) + 1) % 4294967296 = ((i + 1 : Nat) : Int) by omega, ih (i + 1) (by omega)]
        rfl
theorem first_all {l : List Int} (hw : W32 l) (hl : l.length ≤ 960) {key op : Int} (hk : 0 ≤ key ∧ key < 4294967296) {zero : Bool} (hz : hasB op 2 = zero) (ho : hasB op 1 = false) :
    LinearS (wordM l) (rowSr key (l.length : Int) op) (l.length + 1) = some (if firstI key zero l 0 = -1 then noneS (rowSr key (l.length : Int) op) else toldS (rowSr key (l.length : Int) op) (firstI key zero l 0), 0) := by
  unfold LinearS
  rw [row_key ho, if_pos rfl]
  have h := first_row hw hl hk hz l.length 0 (by omega)
  rw [List.drop_zero] at h
  exact h
end Go.Proofs.Ytohmipmioaceeaa.Pure
