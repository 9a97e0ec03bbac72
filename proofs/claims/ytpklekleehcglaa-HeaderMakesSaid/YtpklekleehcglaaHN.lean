/- The document's Make. -/
import Derived.Test.YtpklekleehcglaaPQx10
import Derived.Test.YtpklekleehcglaaHM
namespace Go.Proofs.Ytpklekleehcglaa.Pure
set_option linter.all false
open Go.RowKit Go.Proofs.Ytpklekleehcglaa.PQ Go.Proofs.YtpklekleehcglaaW.PrintWords Go.Proofs.YtpklekleehcglaaW.PrintLast
theorem byts4 (x : Nat) (hx : x < 4294967296) : byts x 4 = [((x / 16777216 : Nat) : Int), ((x / 65536 % 256 : Nat) : Int), ((x / 256 % 256 : Nat) : Int), ((x % 256 : Nat) : Int)] := by
  unfold byts byts byts byts byts
  have a : x / 256 / 256 / 256 % 256 = x / 16777216 := by omega
  have b : x / 256 / 256 % 256 = x / 65536 % 256 := by omega
  rw [a, b]
  rfl
theorem rput_eq {x : Nat} (hx : x < 4294967296) {k : Nat} (hk : 20 < k) : grottoref01_Put.f k (x : Int) 4 = some (byts x 4) := by
  obtain ⟨k, rfl⟩ : ∃ j, k = j + 10 := ⟨k - 10, by omega⟩
  have step : ∀ (k p : Nat) (l : List Int) (i : Int), 0 ≤ i → i < 4 → 0 < p → p ≤ 16777216 → l.length < 100 → grottoref01_Put.l1 (k + 1) (x : Int) 4 l (p : Int) i = grottoref01_Put.l1 k (x : Int) 4 (l ++ [((x / p % 256 : Nat) : Int)]) ((p / 256 : Nat) : Int) (i + 1) := by
    intro k p l i h0 h1 hp hp2 hl
    have xp : x / p ≤ x := Nat.div_le_self _ _
    have d1 : Int.tdiv (x : Int) (p : Int) = ((x / p : Nat) : Int) := by rw [Int.tdiv_eq_ediv_of_nonneg (by omega)]; rfl
    generalize x / p = q at xp d1 ⊢
    have d2 : Int.tmod (q : Int) 256 = ((q % 256 : Nat) : Int) := by rw [Int.tmod_eq_emod_of_nonneg (by omega)]; rfl
    have d3 : Int.tdiv (p : Int) 256 = ((p / 256 : Nat) : Int) := by rw [Int.tdiv_eq_ediv_of_nonneg (by omega)]; rfl
    have m : ((q % 256 : Nat) : Int) % 256 = ((q % 256 : Nat) : Int) := by omega
    rw [grottoref01_Put.l1.eq_2, if_pos h1, if_neg (by omega), if_pos (by omega), w64 (n := (x : Int)) (by omega) (by omega), d1, w64 (n := (q : Int)) (by omega) (by omega), d2, d3, w64 (n := ((p / 256 : Nat) : Int)) (by omega) (by omega), w64 (n := i + 1) (by omega) (by omega), m]
  have s0 : grottoref01_Put.l0 (k + 9) (x : Int) 4 1 1 = grottoref01_Put.l0 (k + 8) (x : Int) 4 256 2 := by
    rw [grottoref01_Put.l0.eq_2, if_pos (by decide)]; congr 1 <;> decide +kernel
  have s1 : grottoref01_Put.l0 (k + 8) (x : Int) 4 256 2 = grottoref01_Put.l0 (k + 7) (x : Int) 4 65536 3 := by
    rw [grottoref01_Put.l0.eq_2, if_pos (by decide)]; congr 1 <;> decide +kernel
  have s2 : grottoref01_Put.l0 (k + 7) (x : Int) 4 65536 3 = grottoref01_Put.l0 (k + 6) (x : Int) 4 16777216 4 := by
    rw [grottoref01_Put.l0.eq_2, if_pos (by decide)]; congr 1 <;> decide +kernel
  have s3 : grottoref01_Put.l0 (k + 6) (x : Int) 4 16777216 4 = grottoref01_Put.l1 (k + 5) (x : Int) 4 [] 16777216 0 := by
    rw [grottoref01_Put.l0.eq_2, if_neg (by decide)]
  unfold grottoref01_Put.f
  rw [if_neg (by decide), if_neg (by decide)]
  have j : grottoref01_Put.j0 (k + 10) (x : Int) 4 ((4 : Int) != 4) = grottoref01_Put.l0 (k + 9) (x : Int) 4 1 1 := by
    rw [grottoref01_Put.j0.eq_2, if_neg (by decide)]
  rw [j, s0, s1, s2, s3]
  refine (step (k + 4) 16777216 [] 0 (by decide) (by decide) (by decide) (by decide) (by simp)).trans ?_
  refine (step (k + 3) 65536 _ 1 (by decide) (by decide) (by decide) (by decide) (by simp)).trans ?_
  refine (step (k + 2) 256 _ 2 (by decide) (by decide) (by decide) (by decide) (by simp)).trans ?_
  refine (step (k + 1) 1 _ 3 (by decide) (by decide) (by decide) (by decide) (by simp)).trans ?_
  rw [grottoref01_Put.l1.eq_2, if_neg (by decide), byts4 x hx]
  have a : x / 16777216 % 256 = x / 16777216 := by omega
  rw [a, Nat.div_one]
  rfl
theorem wr1 (i : Nat) (h : i < 8) : wrap64 ((i : Int) + 1) = ((i + 1 : Nat) : Int) := by rw [w64 (by omega) (by omega)]; omega
theorem set4 (a s b : List Int) (ha : a.length = 32) (hs : s.length = 4) (z : List Int) (hz : z.length = 4) :
    ((((a ++ (z ++ b)).set 32 (rd s 0)).set 33 (rd s 1)).set 34 (rd s 2)).set 35 (rd s 3) = a ++ (s ++ b) := by
  match s, hs, z, hz with
  | [s0, s1, s2, s3], _, [z0, z1, z2, z3], _ =>
    rw [List.set_append_right _ _ (by omega), ha, List.set_append_right _ _ (by omega), ha, List.set_append_right _ _ (by omega), ha, List.set_append_right _ _ (by omega), ha]
    rfl
theorem rput_step (n j i : Nat) (b s : List Int) (hi : i < 4) (hs : s.length = 4) (hbl : b.length = 36 + n) (hn : n ≤ 1000000) : grottoref07_Make.l1 (j + 1) b s (i : Int) = grottoref07_Make.l1 j (b.set (32 + i) (rd s (i : Int))) s ((i + 1 : Nat) : Int) := by
  have e2 : wrap64 (32 + (i : Int)) = ((32 + i : Nat) : Int) := by rw [w64 (by omega) (by omega)]; omega
  have c1 : (i : Int) < 4 := by omega
  have c2 : (0 : Int) ≤ (i : Int) := by omega
  have c3 : (i : Int) < (s.length : Int) := by omega
  have c4 : (0 : Int) ≤ ((32 + i : Nat) : Int) := by omega
  have c5 : ((32 + i : Nat) : Int) < (b.length : Int) := by omega
  rw [grottoref07_Make.l1.eq_2, if_pos c1, if_pos c2, if_pos c3, e2, if_pos c4, if_pos c5, wr1 i (by omega), Int.toNat_natCast]
theorem rmake_eq {h0 h1 h2 h3 h4 h5 h6 : Nat} (r0 : h0 < 4294967296) (r1 : h1 < 4294967296) (r2 : h2 < 4294967296) (r3 : h3 < 4294967296) (r4 : h4 < 4294967296) (r5 : h5 < 4294967296) (r6 : h6 < 4294967296) (h7 : Int) {rest : List Int} (hb : Byt rest) (hl : rest.length ≤ 1000000) {k : Nat} (hk : 1200000 < k) :
    grottoref07_Make.f k (h0 : Int) (h1 : Int) (h2 : Int) (h3 : Int) (h4 : Int) (h5 : Int) (h6 : Int) h7 rest = some (make h0 h1 h2 h3 h4 h5 h6 rest) := by
  obtain ⟨k, rfl⟩ : ∃ j, k = j + 9 := ⟨k - 9, by omega⟩
  let LS : List Int := [(h0 : Int), (h1 : Int), (h2 : Int), (h3 : Int), (h4 : Int), (h5 : Int), (h6 : Int), 0]
  have hLS : LS.length = 8 := rfl
  have step : ∀ (j i x : Nat) (b : List Int), 20 < j → i < 8 → rd LS (i : Int) = (x : Int) → x < 4294967296 → b.length < 1000 → grottoref07_Make.l0 (j + 1) rest b LS (i : Int) = grottoref07_Make.l0 j rest (b ++ byts x 4) LS ((i + 1 : Nat) : Int) := by
    intro j i x b hj hi hx hxl hbl
    have bl := byts_len 4 x
    have c1 : (i : Int) < (LS.length : Int) := by rw [hLS]; clear hx hLS; omega
    have c2 : 0 < (byts x 4).length ∧ b.length + (byts x 4).length < 140737488355328 := by rw [bl]; clear hx hLS; omega
    have c3 : 20 < j := hj
    have c4 : (0 : Int) ≤ (i : Int) := Int.natCast_nonneg i
    rw [grottoref07_Make.l0.eq_2, if_pos c1, if_pos c4, hx, rput_eq hxl c3, Option.bind_some, if_pos c2, wr1 i hi]
  unfold grottoref07_Make.f
  refine (step (k + 8) 0 h0 _ (by omega) (by omega) rfl r0 (by decide)).trans ?_
  refine (step (k + 7) 1 h1 _ (by omega) (by omega) rfl r1 (by simp [byts_len])).trans ?_
  refine (step (k + 6) 2 h2 _ (by omega) (by omega) rfl r2 (by simp [byts_len])).trans ?_
  refine (step (k + 5) 3 h3 _ (by omega) (by omega) rfl r3 (by simp [byts_len])).trans ?_
  refine (step (k + 4) 4 h4 _ (by omega) (by omega) rfl r4 (by simp [byts_len])).trans ?_
  refine (step (k + 3) 5 h5 _ (by omega) (by omega) rfl r5 (by simp [byts_len])).trans ?_
  refine (step (k + 2) 6 h6 _ (by omega) (by omega) rfl r6 (by simp [byts_len])).trans ?_
  refine (step (k + 1) 7 0 _ (by omega) (by omega) rfl (by decide) (by simp [byts_len])).trans ?_
  have hx : [71, 108, 117, 108] ++ byts h0 4 ++ byts h1 4 ++ byts h2 4 ++ byts h3 4 ++ byts h4 4 ++ byts h5 4 ++ byts h6 4 ++ byts 0 4 = head32 h0 h1 h2 h3 h4 h5 h6 ++ byts 0 4 := rfl
  have hy : head32 h0 h1 h2 h3 h4 h5 h6 ++ byts 0 4 ++ rest = raw h0 h1 h2 h3 h4 h5 h6 rest := by unfold raw; rw [List.append_assoc]
  have hl36 : (head32 h0 h1 h2 h3 h4 h5 h6 ++ byts 0 4).length = 36 := by rw [List.length_append, head32_len, byts_len]
  have hrl : (raw h0 h1 h2 h3 h4 h5 h6 rest).length = 36 + rest.length := raw_len
  have hml : (made h0 h1 h2 h3 h4 h5 h6 rest).length = 36 + rest.length := made_len
  rw [hx, grottoref07_Make.l0.eq_2, if_neg (by omega), if_pos (by omega), Option.bind_some, hy]
  rw [rsum_eq (raw_byt hb) (by omega) (by omega), Option.bind_some, rput_eq (hsum_lt _) (by omega), Option.bind_some]
  have sl : (byts (hsum (raw h0 h1 h2 h3 h4 h5 h6 rest)) 4).length = 4 := byts_len _ _
  have cut := set4 (head32 h0 h1 h2 h3 h4 h5 h6) (byts (hsum (raw h0 h1 h2 h3 h4 h5 h6 rest)) 4) rest (head32_len ..) sl (byts 0 4) (byts_len _ _)
  have md : head32 h0 h1 h2 h3 h4 h5 h6 ++ (byts (hsum (raw h0 h1 h2 h3 h4 h5 h6 rest)) 4 ++ rest) = made h0 h1 h2 h3 h4 h5 h6 rest := rfl
  have rw0 : head32 h0 h1 h2 h3 h4 h5 h6 ++ (byts 0 4 ++ rest) = raw h0 h1 h2 h3 h4 h5 h6 rest := rfl
  rw [md, rw0] at cut
  generalize byts (hsum (raw h0 h1 h2 h3 h4 h5 h6 rest)) 4 = s at sl cut ⊢
  generalize raw h0 h1 h2 h3 h4 h5 h6 rest = b at hrl cut ⊢
  obtain ⟨k, rfl⟩ : ∃ j, k = j + 5 := ⟨k - 5, by omega⟩
  refine (rput_step rest.length (k + 4) 0 b s (by decide) sl hrl hl).trans ?_
  refine (rput_step rest.length (k + 3) 1 _ s (by decide) sl (by rw [List.length_set]; exact hrl) hl).trans ?_
  refine (rput_step rest.length (k + 2) 2 _ s (by decide) sl (by rw [List.length_set, List.length_set]; exact hrl) hl).trans ?_
  refine (rput_step rest.length (k + 1) 3 _ s (by decide) sl (by rw [List.length_set, List.length_set, List.length_set]; exact hrl) hl).trans ?_
  have cut2 : (((b.set (32 + 0) (rd s ((0 : Nat) : Int))).set (32 + 1) (rd s ((1 : Nat) : Int))).set (32 + 2) (rd s ((2 : Nat) : Int))).set (32 + 3) (rd s ((3 : Nat) : Int)) = made h0 h1 h2 h3 h4 h5 h6 rest := cut
  rw [cut2, grottoref07_Make.l1.eq_2, if_neg (by decide), rparse_eq (made_byt hb) (by omega) (by omega), Option.bind_some]
  unfold make
  by_cases c : (told (made h0 h1 h2 h3 h4 h5 h6 rest)).2.2.2.2.2.2.2.2.1 = 0
  · rw [if_pos c, if_pos c]
  · rw [if_neg c, if_neg c]
end Go.Proofs.Ytpklekleehcglaa.Pure
