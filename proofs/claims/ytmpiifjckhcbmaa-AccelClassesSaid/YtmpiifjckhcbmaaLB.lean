/- What put does to a list of bytes; what a memory over the list reads (plain). -/
import Derived.Test.YtmpiifjckhcbmaaLE
import Derived.Test.YtmpiifjckhcbmaaPQx3
namespace Go.Proofs.Ytmpiifjckhcbmaa.PQ
set_option linter.all false
open Go.RowKit Go.Proofs.YtmpiifjckhcbmaaW.PrintWords Go.Proofs.YtmpiifjckhcbmaaW.PrintLast Go.Proofs.YtmpiifjckhcbmaaW.PrintMore Go.Proofs.Ytmpiifjckhcbmaa.Z Go.Proofs.Ytmpiifjckhcbmaa.Pure
set_option linter.unusedVariables false
set_option linter.unusedSimpArgs false
theorem byts4 (x : Nat) (hx : x < 4294967296) : byts x 4 = [((x / 16777216 : Nat) : Int), ((x / 65536 % 256 : Nat) : Int), ((x / 256 % 256 : Nat) : Int), ((x % 256 : Nat) : Int)] := by
  unfold byts byts byts byts byts
  have a : x / 256 / 256 / 256 % 256 = x / 16777216 := by omega
  have b : x / 256 / 256 % 256 = x / 65536 % 256 := by omega
  rw [a, b]
  rfl
theorem rput_eq {x : Nat} (hx : x < 4294967296) {k : Nat} (hk : 20 < k) : grottoref01_Put.f k (x : Int) 4 = some (byts x 4) := by
  obtain ⟨k, rfl⟩ : ∃ j, k = j + 10 := ⟨k - 10, by omega⟩
  have step : ∀ (k p : Nat) (l : List Int) (i : Int), 0 ≤ i → i < 4 → 0 < p → p ≤ 16777216 → l.length < 100 → grottoref01_Put.l1 (k + 1) (x : Int) 4 l (p : Int) i = grottoref01_Put.l1 k (x : Int) 4 (l ++ [((x / p % 256 : Nat) : Int)]) ((p / 256 : Nat) : Int) (i + 1) := by
    intro k p l i h0 h1 hp hp2 hl
    have xp : x / p ≤ x := Nat.div_le_self _ _
    have d1 : Int.tdiv (x : Int) (p : Int) = ((x / p : Nat) : Int) := by rw [Int.tdiv_eq_ediv_of_nonneg (by omega)]; rfl
    generalize x / p = q at xp d1 ⊢
    have d2 : Int.tmod (q : Int) 256 = ((q % 256 : Nat) : Int) := by rw [Int.tmod_eq_emod_of_nonneg (by omega)]; rfl
    have d3 : Int.tdiv (p : Int) 256 = ((p / 256 : Nat) : Int) := by rw [Int.tdiv_eq_ediv_of_nonneg (by omega)]; rfl
    have m : ((q % 256 : Nat) : Int) % 256 = ((q % 256 : Nat) : Int) := by omega
    rw [grottoref01_Put.l1.eq_2, if_pos h1, if_neg (by omega), if_pos (by omega), w64 (n := (x : Int)) (by omega) (by omega), d1, w64 (n := (q : Int)) (by omega) (by omega), d2, d3, w64 (n := ((p / 256 : Nat) : Int)) (by omega) (by omega), w64 (n := i + 1) (by omega) (by omega), m]
  have s0 : grottoref01_Put.l0 (k + 9) (x : Int) 4 1 1 = grottoref01_Put.l0 (k + 8) (x : Int) 4 256 2 := by
    rw [grottoref01_Put.l0.eq_2, if_pos (by decide)]; congr 1 <;> decide +kernel
  have s1 : grottoref01_Put.l0 (k + 8) (x : Int) 4 256 2 = grottoref01_Put.l0 (k + 7) (x : Int) 4 65536 3 := by
    rw [grottoref01_Put.l0.eq_2, if_pos (by decide)]; congr 1 <;> decide +kernel
  have s2 : grottoref01_Put.l0 (k + 7) (x : Int) 4 65536 3 = grottoref01_Put.l0 (k + 6) (x : Int) 4 16777216 4 := by
    rw [grottoref01_Put.l0.eq_2, if_pos (by decide)]; congr 1 <;> decide +kernel
  have s3 : grottoref01_Put.l0 (k + 6) (x : Int) 4 16777216 4 = grottoref01_Put.l1 (k + 5) (x : Int) 4 [] 16777216 0 := by
    rw [grottoref01_Put.l0.eq_2, if_neg (by decide)]
  unfold grottoref01_Put.f
  rw [if_neg (by decide), if_neg (by decide)]
  have j : grottoref01_Put.j0 (k + 10) (x : Int) 4 ((4 : Int) != 4) = grottoref01_Put.l0 (k + 9) (x : Int) 4 1 1 := by
    rw [grottoref01_Put.j0.eq_2, if_neg (by decide)]
  rw [j, s0, s1, s2, s3]
  refine (step (k + 4) 16777216 [] 0 (by decide) (by decide) (by decide) (by decide) (by simp)).trans ?_
  refine (step (k + 3) 65536 _ 1 (by decide) (by decide) (by decide) (by decide) (by simp)).trans ?_
  refine (step (k + 2) 256 _ 2 (by decide) (by decide) (by decide) (by decide) (by simp)).trans ?_
  refine (step (k + 1) 1 _ 3 (by decide) (by decide) (by decide) (by decide) (by simp)).trans ?_
  rw [grottoref01_Put.l1.eq_2, if_neg (by decide), byts4 x hx]
  have a : x / 16777216 % 256 = x / 16777216 := by omega
  rw [a, Nat.div_one]
  rfl
theorem byts2 (x : Nat) : byts x 2 = [((x / 256 % 256 : Nat) : Int), ((x % 256 : Nat) : Int)] := by
  unfold byts byts byts
  rfl
theorem rput2_eq {x : Nat} (hx : x < 4294967296) {k : Nat} (hk : 20 < k) : grottoref01_Put.f k (x : Int) 2 = some (byts x 2) := by
  obtain ⟨k, rfl⟩ : ∃ j, k = j + 10 := ⟨k - 10, by omega⟩
  have step : ∀ (k p : Nat) (l : List Int) (i : Int), 0 ≤ i → i < 2 → 0 < p → p ≤ 16777216 → l.length < 100 → grottoref01_Put.l1 (k + 1) (x : Int) 2 l (p : Int) i = grottoref01_Put.l1 k (x : Int) 2 (l ++ [((x / p % 256 : Nat) : Int)]) ((p / 256 : Nat) : Int) (i + 1) := by
    intro k p l i h0 h1 hp hp2 hl
    have xp : x / p ≤ x := Nat.div_le_self _ _
    have d1 : Int.tdiv (x : Int) (p : Int) = ((x / p : Nat) : Int) := by rw [Int.tdiv_eq_ediv_of_nonneg (by omega)]; rfl
    generalize x / p = q at xp d1 ⊢
    have d2 : Int.tmod (q : Int) 256 = ((q % 256 : Nat) : Int) := by rw [Int.tmod_eq_emod_of_nonneg (by omega)]; rfl
    have d3 : Int.tdiv (p : Int) 256 = ((p / 256 : Nat) : Int) := by rw [Int.tdiv_eq_ediv_of_nonneg (by omega)]; rfl
    have m : ((q % 256 : Nat) : Int) % 256 = ((q % 256 : Nat) : Int) := by omega
    rw [grottoref01_Put.l1.eq_2, if_pos h1, if_neg (by omega), if_pos (by omega), w64 (n := (x : Int)) (by omega) (by omega), d1, w64 (n := (q : Int)) (by omega) (by omega), d2, d3, w64 (n := ((p / 256 : Nat) : Int)) (by omega) (by omega), w64 (n := i + 1) (by omega) (by omega), m]
  have s0 : grottoref01_Put.l0 (k + 9) (x : Int) 2 1 1 = grottoref01_Put.l0 (k + 8) (x : Int) 2 256 2 := by
    rw [grottoref01_Put.l0.eq_2, if_pos (by decide)]; congr 1 <;> decide +kernel
  have s3 : grottoref01_Put.l0 (k + 8) (x : Int) 2 256 2 = grottoref01_Put.l1 (k + 7) (x : Int) 2 [] 256 0 := by
    rw [grottoref01_Put.l0.eq_2, if_neg (by decide)]
  unfold grottoref01_Put.f
  rw [if_neg (by decide), if_pos rfl]
  have j : grottoref01_Put.j0 (k + 10) (x : Int) 2 false = grottoref01_Put.l0 (k + 9) (x : Int) 2 1 1 := by
    rw [grottoref01_Put.j0.eq_2, if_neg (by decide)]
  rw [j, s0, s3]
  refine (step (k + 6) 256 [] 0 (by decide) (by decide) (by decide) (by decide) (by simp)).trans ?_
  refine (step (k + 5) 1 _ 1 (by decide) (by decide) (by decide) (by decide) (by simp)).trans ?_
  rw [grottoref01_Put.l1.eq_2, if_neg (by decide), byts2 x, Nat.div_one]
  rfl

/-- these bytes stand at o -/
def HasB (l : List Int) (o : Nat) (s : List Int) : Prop := ∀ i : Nat, i < s.length → rd l ((o + i : Nat) : Int) = rd s (i : Int)
/-- nothing but o .. o + m - 1 has turned -/
def Same (l l' : List Int) (o m : Nat) : Prop := ∀ j : Nat, j < o ∨ o + m ≤ j → rd l' (j : Int) = rd l (j : Int)
theorem HasB.keep {l l' : List Int} {o p m : Nat} {s : List Int} (h : HasB l o s) (hs : Same l l' p m) (hd : o + s.length ≤ p ∨ p + m ≤ o) : HasB l' o s := by
  intro i hi
  rw [hs (o + i) (by omega)]
  exact h i hi
theorem rd_set (l : List Int) (i : Nat) (v : Int) (h : i < l.length) (j : Nat) : rd (l.set i v) (j : Int) = if j = i then v else rd l (j : Int) := by
  unfold rd
  rw [List.getD_eq_getElem?_getD, List.getD_eq_getElem?_getD, Int.toNat_natCast, List.getElem?_set]
  by_cases c : i = j
  · subst c; simp [h]
  · rw [if_neg c, if_neg (fun e => c e.symm)]
theorem put_l0 (o n : Nat) (s : List Int) (hs : s.length = n) : ∀ (d i k : Nat) (l : List Int), i + d = n → d < k → o + n ≤ l.length → l.length ≤ 10000 → Byt l → Byt s →
    ∃ l', grottolaw18_put.l0 k l ((o + 256 : Nat) : Int) (n : Int) s (i : Int) = some l' ∧ l'.length = l.length ∧ Byt l' ∧ ∀ j : Nat, rd l' (j : Int) = if o + i ≤ j ∧ j < o + n then rd s ((j - o : Nat) : Int) else rd l (j : Int)
  | 0, i, k + 1, l, h, hk, ho, hl, hb, hbs => by
    refine ⟨l, by simp only [grottolaw18_put.l0]; rw [if_neg (by omega)], rfl, hb, fun j => ?_⟩
    rw [if_neg (by omega)]
  | d + 1, i, k + 1, l, h, hk, ho, hl, hb, hbs => by
    have e1 : wrap64 (((o + 256 : Nat) : Int) - 256) = (o : Int) := by rw [w64 (by omega) (by omega)]; omega
    have e2 : wrap64 ((o : Int) + (i : Int)) = ((o + i : Nat) : Int) := by rw [w64 (by omega) (by omega)]; omega
    have e3 : wrap64 ((i : Int) + 1) = ((i + 1 : Nat) : Int) := by rw [w64 (by omega) (by omega)]; omega
    have hbi := hbs.at (i := i) (by omega)
    have hb2 : Byt (l.set (o + i) (rd s (i : Int))) := by
      intro x hx
      rcases List.mem_or_eq_of_mem_set hx with h | h
      · exact hb x h
      · rw [h]; exact hbi
    obtain ⟨l', h1, h2, h3, h4⟩ := put_l0 o n s hs d (i + 1) k (l.set (o + i) (rd s (i : Int))) (by omega) (by omega) (by rw [List.length_set]; exact ho) (by rw [List.length_set]; exact hl) hb2 hbs
    refine ⟨l', ?_, by rw [h2, List.length_set], h3, fun j => ?_⟩
    · simp only [grottolaw18_put.l0]
      rw [if_pos (by omega), if_pos (by omega), if_pos (by omega), e1, e2, if_pos (by omega), if_pos (by omega), Int.toNat_natCast, e3]
      exact h1
    · rw [h4 j, rd_set _ _ _ (by omega)]
      by_cases c : o + (i + 1) ≤ j ∧ j < o + n
      · rw [if_pos c, if_pos (by omega)]
      · rw [if_neg c]
        by_cases c2 : j = o + i
        · rw [if_pos c2, if_pos (by omega), show j - o = i by omega]
        · rw [if_neg c2, if_neg (by omega)]
theorem put_fact {l : List Int} {a o x n : Nat} (hn : n = 2 ∨ n = 4) (hx : x < 4294967296) (ha : a = o + 256) (ho : o + n ≤ l.length) (hl : l.length ≤ 10000) (hb : Byt l) :
    ∃ l', grottolaw18_put.f 300 l (a : Int) (n : Int) (x : Int) = some l' ∧ l'.length = l.length ∧ Byt l' ∧ Same l l' o n ∧ HasB l' o (byts x n) := by
  obtain ⟨l', h1, h2, h3, h4⟩ := put_l0 o n (byts x n) (byts_len n x) n 0 300 l (by omega) (by omega) ho hl hb (byts_byt n x)
  refine ⟨l', ?_, h2, h3, fun j hj => ?_, fun i hi => ?_⟩
  · unfold grottolaw18_put.f
    have hp : grottoref01_Put.f 300 (x : Int) (n : Int) = some (byts x n) := by
      rcases hn with rfl | rfl
      · exact rput2_eq hx (by omega)
      · exact rput_eq hx (by omega)
    rw [hp, Option.bind_some, ha]
    exact h1
  · rw [h4 j, if_neg (by omega)]
  · rw [byts_len] at hi
    rw [h4 (o + i), if_pos (by omega), show o + i - o = i by omega]
/-- the memory over the list -/
def memB (l : List Int) : List Int := laidB l (min l.length 1792)
theorem memB_len (l : List Int) : (memB l).length = 2048 := laidB_len (by omega) (by omega)
theorem memB_byt {l : List Int} (h : Byt l) : Byt (memB l) := laidB_byt h _
theorem rd_getD (l : List Int) (j : Nat) : rd l (j : Int) = l[j]?.getD 0 := by
  unfold rd
  rw [List.getD_eq_getElem?_getD, Int.toNat_natCast]
theorem memB_rd {l : List Int} (h : l.length = 1792) {j : Nat} (hj : j < 1792) : rd (memB l) ((256 + j : Nat) : Int) = rd l (j : Int) := by
  rw [rd_getD, rd_getD]
  unfold memB laidB
  rw [List.getElem?_append_right (by rw [gm_len]; omega), gm_len, show 256 + j - 256 = j by omega, List.getElem?_append_left (by rw [List.length_take]; omega), List.getElem?_take, if_pos (by omega)]
theorem has_be {l : List Int} {o x n : Nat} (h : l.length = 1792) (hh : HasB l o (byts x n)) (ho : o + n ≤ 1792) : beN (memB l) (256 + o) n = x % 256 ^ n := by
  unfold beN
  have e : ((memB l).take (256 + o + n)).drop (256 + o) = byts x n := by
    apply List.ext_getElem?
    intro i
    rw [List.getElem?_drop, List.getElem?_take]
    by_cases c : i < n
    · rw [if_pos (by omega)]
      have h1 := memB_rd h (j := o + i) (by omega)
      have h2 := hh i (by rw [byts_len]; exact c)
      rw [h2] at h1
      rw [rd_getD, rd_getD] at h1
      have l1 : 256 + (o + i) < (memB l).length := by rw [memB_len]; omega
      have l2 : i < (byts x n).length := by rw [byts_len]; exact c
      rw [List.getElem?_eq_getElem l1, List.getElem?_eq_getElem l2] at h1
      rw [show 256 + o + i = 256 + (o + i) by omega, List.getElem?_eq_getElem l1, List.getElem?_eq_getElem l2]
      simpa using h1
    · rw [if_neg (by omega), List.getElem?_eq_none (by rw [byts_len]; omega)]
  rw [e, bev_byts]
theorem has_rdS {l : List Int} {o x n : Nat} (h : l.length = 1792) (hh : HasB l o (byts x n)) (ho : o + n ≤ 1792) (hn : n = 1 ∨ n = 2 ∨ n = 4) (hx : x < 256 ^ n) : rdS (memB l) ((256 + o : Nat) : Int) (n : Int) = ((x : Int), 0) := by
  unfold rdS
  rw [if_pos (by omega), if_pos (by rw [memB_len]; omega), Int.toNat_natCast, Int.toNat_natCast, has_be h hh ho, Nat.mod_eq_of_lt hx]
theorem has_read {l : List Int} {o x n : Nat} {a m : Int} (h : l.length = 1792) (hh : HasB l o (byts x n)) (ho : o + n ≤ 1792) (hn : n = 1 ∨ n = 2 ∨ n = 4) (hx : x < 256 ^ n) (ha : a = ((256 + o : Nat) : Int)) (hm : m = (n : Int)) : readS (memB l) 0 0 a m = ((x : Int), 0) := by
  subst ha hm
  unfold readS
  rw [if_neg (by omega)]
  exact has_rdS h hh ho hn hx
/-- a list of noughts -/
theorem zero_has (o n m : Nat) (h : o + n ≤ m) : HasB (List.replicate m 0) o (byts 0 n) := by
  intro i hi
  rw [byts_len] at hi
  rw [rd_getD, rd_getD, List.getElem?_replicate, if_pos (by omega)]
  have hz : ∀ (n i : Nat), i < n → (byts 0 n)[i]? = some 0 := by
    intro n
    induction n with
    | zero => intro i h; omega
    | succ n ih =>
      intro i h
      show (byts (0 / 256) n ++ [((0 % 256 : Nat) : Int)])[i]? = some 0
      by_cases c : i < n
      · rw [List.getElem?_append_left (by rw [byts_len]; exact c)]
        exact ih i c
      · rw [List.getElem?_append_right (by rw [byts_len]; omega), byts_len, show i - n = 0 by omega]
        rfl
  rw [hz n i hi]
theorem set_has {l : List Int} {o x : Nat} (h : o < l.length) (hx : x < 256) : HasB (l.set o (x : Int)) o (byts x 1) ∧ Same l (l.set o (x : Int)) o 1 := by
  refine ⟨fun i hi => ?_, fun j hj => ?_⟩
  · rw [byts_len] at hi
    have : i = 0 := by omega
    subst this
    rw [Nat.add_zero, rd_set _ _ _ h, if_pos rfl]
    show (x : Int) = rd [((x % 256 : Nat) : Int)] 0
    rw [Nat.mod_eq_of_lt hx]
    rfl
  · rw [rd_set _ _ _ h, if_neg (by omega)]
end Go.Proofs.Ytmpiifjckhcbmaa.PQ
