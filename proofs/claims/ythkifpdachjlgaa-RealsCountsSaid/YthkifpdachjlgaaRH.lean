/- What the package reals holds of two patterns: nearness, and the comparisons of doubles. -/
import Derived.Test.YthkifpdachjlgaaPQx9
import Derived.Test.YthkifpdachjlgaaPQx7
import Derived.Test.YthkifpdachjlgaaR4
import Derived.Test.YthkifpdachjlgaaCV
import Derived.Test.YthkifpdachjlgaaSB
import Derived.Test.YthkifpdachjlgaaPT1
namespace Go.Proofs.Ythkifpdachjlgaa.RS
set_option linter.all false
open Go.RowKit Go.Proofs.Ythkifpdachjlgaa.PQ Go.Proofs.YthkifpdachjlgaaW.PrintWords Go.Proofs.YthkifpdachjlgaaW.PrintLast Go.Proofs.YthkifpdachjlgaaW.PrintMore
open FT
theorem and_not {a n : Nat} (hn : n < 64) (ha : a < 2 ^ n * 2) : Go.bits .andNot .u64 (a : Int) ((2 ^ n : Nat) : Int) = ((a % 2 ^ n : Nat) : Int) := by
  have h64 : 2 ^ n * 2 ≤ 2 ^ 64 := by
    rw [← Nat.pow_succ]; exact Nat.pow_le_pow_right (by omega) (by omega)
  have key : (BitVec.ofInt IntKind.u64.bits (a : Int) &&& ~~~ BitVec.ofInt IntKind.u64.bits ((2 ^ n : Nat) : Int)).toNat = a % 2 ^ n := by
    apply Nat.eq_of_testBit_eq
    intro i
    rw [BitVec.testBit_toNat, BitVec.getLsbD_and, BitVec.getLsbD_not, BitVec.ofInt_natCast, BitVec.ofInt_natCast, BitVec.getLsbD_ofNat, BitVec.getLsbD_ofNat, Nat.testBit_mod_two_pow, Nat.testBit_two_pow]
    have hb : IntKind.u64.bits = 64 := rfl
    rw [hb]
    by_cases h1 : i < n
    · have h2 : i < 64 := by omega
      have h3 : n ≠ i := by omega
      simp [h1, h2, h3]
    · by_cases h2 : n = i
      · subst h2; simp [hn]
      · have h3 : a.testBit i = false := Nat.testBit_lt_two_pow (by
          rw [← Nat.pow_succ] at ha
          exact Nat.lt_of_lt_of_le ha (Nat.pow_le_pow_right (by omega) (by omega)))
        simp [h1, h3]
  have hm := Nat.mod_le a (2 ^ n)
  unfold Go.bits
  dsimp only
  rw [key]
  exact wuN (by omega)
theorem mg_mg (M X x : Nat) : mg M X (mg M X x) = mg M X x := Nat.mod_mod _ _
theorem sg_low (M X x : Nat) : sg M X (mg M X x) = false := decide_eq_false (Nat.not_le.2 (mg_lt M X x))
theorem kd_low (M X x : Nat) : kd M X (mg M X x) = kd M X x := by unfold kd; rw [mg_mg]
theorem pt_low (M X x : Nat) : Pt M X (mg M X x) := by have := mg_lt M X x; unfold Pt; omega
theorem plc_low (M X x : Nat) : plc M X (mg M X x) = (mg M X x : Int) := by unfold plc sv; rw [sg_low, mg_mg]; rfl
/-- are two patterns within a tolerance? -/
def nearS (M X a b t : Nat) : Bool :=
  if kd M X a = 4 ∨ kd M X b = 4 ∨ kd M X t = 4 then false
  else if kd M X a = 3 ∧ kd M X b = 3 then decide (a = b) else decide (mg M X (addS M X a (turnS M X b)) ≤ mg M X t)
section
variable {M X : Nat} (hM : 2 ≤ M) (hM' : M ≤ 52) (hX : 2 ≤ X) (hX' : X ≤ 11)
include hM hM' hX hX'
/-- a sum is no number only if a summand is none, or both are infinite -/
theorem add_kd {a b : Nat} (h4 : kd M X a ≠ 4) (h4' : kd M X b ≠ 4) (h3 : ¬ (kd M X a = 3 ∧ kd M X b = 3)) : kd M X (addS M X a b) ≠ 4 := by
  have hi := inf_pos hM hM' hX hX'
  have low : ∀ (neg : Bool) (y : Nat), y ≤ inf M X → kd M X (sgn M X neg + y) ≠ 4 := by
    intro neg y hy h
    have hl := inf_lt (M := M) (X := X)
    obtain ⟨s1, s2⟩ := sg_mk (M := M) (X := X) (neg := neg) (Nat.lt_of_le_of_lt hy hl)
    have := (kd4 hM hM' hX hX').1 h
    rw [s2] at this; omega
  have l0 : ∀ neg : Bool, kd M X (sgn M X neg) ≠ 4 := fun neg => low neg 0 (by omega)
  unfold addS
  rw [if_neg (by omega)]
  split
  · rw [if_neg (by omega)]; exact low _ _ (Nat.le_refl _)
  · split
    · exact low _ _ (Nat.le_refl _)
    · split
      · exact l0 _
      · unfold sumS; split
        · exact l0 false
        · exact low _ _ (pat_le ..)
theorem near_f {k a b t : Nat} (hk : 60 ≤ k) (ha : Pt M X a) (hb : Pt M X b) (ht : Pt M X t) : reals_near.f k (M : Int) (X : Int) (a : Int) (b : Int) (t : Int) = some (nearS M X a b t) := by
  obtain ⟨k, rfl⟩ : ∃ j, k = j + 2 := ⟨k - 2, by omega⟩
  have kk := fun {k : Nat} (hk : 4 ≤ k) {x : Nat} (h : Pt M X x) => kind_eq hM hM' hX hX' hk h
  have hp2 : 2 ^ (M + X) * 2 ≤ 18446744073709551616 := by
    have := Nat.pow_le_pow_right (n := 2) (by omega) (show M + X + 1 ≤ 64 by omega)
    rw [Nat.pow_succ] at this; exact this
  have hs : sgn M X true = 2 ^ (M + X) := rfl
  have low : ∀ x, Pt M X x → Go.bits .andNot .u64 (x : Int) ((2 ^ (M + X) : Nat) : Int) = ((mg M X x : Nat) : Int) := fun x hx => and_not (by omega) hx
  unfold reals_near.f nearS
  rw [kk (by omega) ha, Option.bind_some]
  by_cases h1 : kd M X a = 4
  · rw [if_pos (by rw [h1]; rfl), reals_near.j0.eq_2, if_pos rfl, if_pos (Or.inl h1)]
  rw [if_neg (show ¬ ((kd M X a : Nat) : Int) = 4 by omega), kk (by omega) hb, Option.bind_some]
  by_cases h2 : kd M X b = 4
  · rw [if_pos (by rw [h2]; rfl), reals_near.j0.eq_2, if_pos rfl, if_pos (Or.inr (Or.inl h2))]
  rw [if_neg (show ¬ ((kd M X b : Nat) : Int) = 4 by omega), kk (by omega) ht, Option.bind_some]
  by_cases h3 : kd M X t = 4
  · have hq : (((kd M X t : Nat) : Int) == 4) = true := by rw [h3]; rfl
    rw [hq, reals_near.j0.eq_2, if_pos rfl, if_pos (Or.inr (Or.inr h3))]
  have hq : (((kd M X t : Nat) : Int) == 4) = false := beq_eq_false_iff_ne.2 (by omega)
  rw [hq, reals_near.j0.eq_2, if_neg (by simp), kk (by omega) ha, Option.bind_some, if_neg (show ¬ (kd M X a = 4 ∨ kd M X b = 4 ∨ kd M X t = 4) by omega)]
  have j1f : ¬ (kd M X a = 3 ∧ kd M X b = 3) → reals_near.j1 (k + 1) (a : Int) (b : Int) (t : Int) false (M : Int) (X : Int) = some (decide (mg M X (addS M X a (turnS M X b)) ≤ mg M X t)) := by
    intro h
    have pd := pt_add hM hM' hX hX' a (turnS M X b)
    have k4 := add_kd hM hM' hX hX' (a := a) (b := turnS M X b) h1 (by rw [(turn_kd M X b).1]; exact h2) (by rw [(turn_kd M X b).1]; exact h)
    rw [reals_near.j1.eq_2, if_neg (by simp), zero_eq hM hM' hX hX', Option.bind_some, sub_eq hM hM' hX hX' (by omega) ha hb, Option.bind_some, hs]
    dsimp only
    rw [low _ pd, low _ ht, cmp_f hM hM' hX hX' (by omega) (pt_low M X _) (pt_low M X _), Option.bind_some, kd_low, kd_low, if_neg (show ¬ (kd M X (addS M X a (turnS M X b)) = 4 ∨ kd M X t = 4) from fun h => h.elim k4 h3)]
    dsimp only
    rw [if_pos rfl, plc_low, plc_low]
    congr 1
    refine decide_eq_decide.2 ?_
    unfold cmpI
    split
    · omega
    · split <;> omega
  by_cases h5 : kd M X a = 3
  · rw [if_pos (by rw [h5]; rfl), kk (by omega) hb, Option.bind_some]
    by_cases h6 : kd M X b = 3
    · have hq6 : (((kd M X b : Nat) : Int) == 3) = true := by rw [h6]; rfl
      rw [hq6, reals_near.j1.eq_2, if_pos rfl, if_pos ⟨h5, h6⟩]
      congr 1
      by_cases hab : a = b
      · subst hab; simp
      · rw [decide_eq_false hab]; exact beq_eq_false_iff_ne.2 (by omega)
    · have hq6 : (((kd M X b : Nat) : Int) == 3) = false := beq_eq_false_iff_ne.2 (by omega)
      rw [hq6, j1f (by omega), if_neg (by omega)]
  · rw [if_neg (show ¬ ((kd M X a : Nat) : Int) = 3 by omega), j1f (by omega), if_neg (by omega)]
end
/-- what is held of two doubles -/
def holdS (c : Nat) (a b t : Nat) : Bool :=
  if c = 1 then nearS 52 11 a b t else if c = 2 then !nearS 52 11 a b t
  else if c = 7 then decide (kd 52 11 a = 4)
  else if kd 52 11 a = 4 ∨ kd 52 11 b = 4 then false
  else if c = 3 then decide (plc 52 11 a < plc 52 11 b) else if c = 4 then decide (plc 52 11 a ≤ plc 52 11 b) else if c = 5 then decide (plc 52 11 b < plc 52 11 a) else decide (plc 52 11 b ≤ plc 52 11 a)
theorem dholds_eq {k c a b t : Nat} (hk : 60 ≤ k) (hc : 1 ≤ c ∧ c ≤ 7) (ha : a < 18446744073709551616) (hb : b < 18446744073709551616) (ht : t < 18446744073709551616) :
    reals_DoubleHolds.f k (c : Int) (a : Int) (b : Int) (t : Int) = some (holdS c a b t) := by
  have pa := pt_d.2 ha
  have pb := pt_d.2 hb
  have pt := pt_d.2 ht
  have c1 : soft_Cmp.f k 52 11 (a : Int) (b : Int) = _ := cmp_f (M := 52) (X := 11) (by omega) (by omega) (by omega) (by omega) (by omega) pa pb
  have c2 : reals_near.f k 52 11 (a : Int) (b : Int) (t : Int) = some (nearS 52 11 a b t) := near_f (M := 52) (X := 11) (by omega) (by omega) (by omega) (by omega) hk pa pb pt
  have c3 : reals_kind.f k 52 11 (a : Int) = some ((kd 52 11 a : Nat) : Int) := kind_eq (M := 52) (X := 11) (by omega) (by omega) (by omega) (by omega) (by omega) pa
  unfold reals_DoubleHolds.f reals_double.f reals_holds_uint64.f holdS
  rw [Option.bind_some]
  dsimp only
  rw [c1, Option.bind_some, c2, c3]
  have hcm : ∀ x y : Int, (cmpI x y < 0 ↔ x < y) ∧ (cmpI x y ≤ 0 ↔ x ≤ y) ∧ (cmpI x y > 0 ↔ y < x) ∧ (cmpI x y ≥ 0 ↔ y ≤ x) := by
    intro x y; unfold cmpI; split
    · omega
    · split <;> omega
  obtain ⟨m1, m2, m3, m4⟩ := hcm (plc 52 11 a) (plc 52 11 b)
  have e : c = 1 ∨ c = 2 ∨ c = 3 ∨ c = 4 ∨ c = 5 ∨ c = 6 ∨ c = 7 := by omega
  clear hc c1 c2 c3
  have hk7 : (((kd 52 11 a : Nat) : Int) == 4) = decide (kd 52 11 a = 4) := by
    by_cases h : kd 52 11 a = 4
    · rw [decide_eq_true h, h]; rfl
    · rw [decide_eq_false h]; exact beq_eq_false_iff_ne.2 (by omega)
  rcases e with rfl | rfl | rfl | rfl | rfl | rfl | rfl
  · rfl
  · rfl
  · by_cases h : kd 52 11 a = 4 ∨ kd 52 11 b = 4
    · simp (config := { decide := true }) only [if_pos h, if_true, if_false, Option.bind_some]
    · simp (config := { decide := true }) only [if_neg h, if_true, if_false, Option.bind_some, m1]
  · by_cases h : kd 52 11 a = 4 ∨ kd 52 11 b = 4
    · simp (config := { decide := true }) only [if_pos h, if_true, if_false, Option.bind_some]
    · simp (config := { decide := true }) only [if_neg h, if_true, if_false, Option.bind_some, m2]
  · by_cases h : kd 52 11 a = 4 ∨ kd 52 11 b = 4
    · simp (config := { decide := true }) only [if_pos h, if_true, if_false, Option.bind_some]
    · simp (config := { decide := true }) only [if_neg h, if_true, if_false, Option.bind_some, m3]
  · by_cases h : kd 52 11 a = 4 ∨ kd 52 11 b = 4
    · simp (config := { decide := true }) only [if_pos h, if_true, if_false, Option.bind_some]
    · simp (config := { decide := true }) only [if_neg h, if_true, if_false, Option.bind_some, m4]
  · simp (config := { decide := true }) only [if_true, if_false, Option.bind_some, hk7]
end Go.Proofs.Ythkifpdachjlgaa.RS
