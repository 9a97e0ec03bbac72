/- Nearness goes either way round; within nothing is what is equal. -/
import Derived.Test.YthkifpdachjlgaaRH
namespace Go.Proofs.Ythkifpdachjlgaa.RS
set_option linter.all false
open Go.RowKit Go.Proofs.Ythkifpdachjlgaa.PQ Go.Proofs.YthkifpdachjlgaaW.PrintWords Go.Proofs.YthkifpdachjlgaaW.PrintLast Go.Proofs.YthkifpdachjlgaaW.PrintMore
open FT
theorem mg_sgn {M X y : Nat} (neg : Bool) (hy : y ≤ inf M X) : mg M X (sgn M X neg + y) = y := (sg_mk (Nat.lt_of_le_of_lt hy inf_lt)).2
theorem mg_sgn0 {M X : Nat} (neg : Bool) : mg M X (sgn M X neg) = 0 := (sg_mk (M := M) (X := X) (y := 0) (neg := neg) (two_pos _)).2
theorem mg_sum {M X : Nat} (z : Int) : mg M X (sumS M X z) = if z = 0 then 0 else pat M (inf M X) z.natAbs 1 := by
  unfold sumS
  split
  · exact mg_sgn0 false
  · exact mg_sgn _ (pat_le ..)
theorem sv_turn (n : Bool) (x : Nat) : sv (!n) x = -sv n x := by unfold sv; cases n <;> simp
section
variable {M X : Nat} (hM : 2 ≤ M) (hM' : M ≤ 52) (hX : 2 ≤ X) (hX' : X ≤ 11)
include hM hM' hX hX'
omit hM hM' hX hX' in
theorem sub_mg {a b : Nat} (h4 : kd M X a ≠ 4) (h4' : kd M X b ≠ 4) (h3 : ¬ (kd M X a = 3 ∧ kd M X b = 3)) : mg M X (addS M X a (turnS M X b)) =
    if kd M X a = 3 ∨ kd M X b = 3 then inf M X else if kd M X a = 1 ∧ kd M X b = 1 then 0
    else if sv (sg M X a) (av M X a) - sv (sg M X b) (av M X b) = 0 then 0 else pat M (inf M X) (sv (sg M X a) (av M X a) - sv (sg M X b) (av M X b)).natAbs 1 := by
  unfold addS
  rw [(turn_kd M X b).1, (turn_kd M X b).2, (turn_sg M X b).1, if_neg (by omega)]
  by_cases c1 : kd M X a = 3
  · rw [if_pos c1, if_neg (by omega), if_pos (Or.inl c1)]; exact mg_sgn _ (Nat.le_refl _)
  · rw [if_neg c1]
    by_cases c2 : kd M X b = 3
    · rw [if_pos c2, if_pos (Or.inr c2)]; exact mg_sgn _ (Nat.le_refl _)
    · rw [if_neg c2, if_neg (show ¬ (kd M X a = 3 ∨ kd M X b = 3) by omega)]
      by_cases c3 : kd M X a = 1 ∧ kd M X b = 1
      · rw [if_pos c3, if_pos c3]; exact mg_sgn0 _
      · rw [if_neg c3, if_neg c3, mg_sum, sv_turn, ← Int.sub_eq_add_neg]
omit hM hM' hX hX' in
theorem near_comm (a b t : Nat) : nearS M X a b t = nearS M X b a t := by
  unfold nearS
  by_cases h : kd M X a = 4 ∨ kd M X b = 4 ∨ kd M X t = 4
  · rw [if_pos h, if_pos (by omega)]
  · rw [if_neg h, if_neg (show ¬ (kd M X b = 4 ∨ kd M X a = 4 ∨ kd M X t = 4) by omega)]
    by_cases h3 : kd M X a = 3 ∧ kd M X b = 3
    · rw [if_pos h3, if_pos ⟨h3.2, h3.1⟩]; exact decide_eq_decide.2 ⟨Eq.symm, Eq.symm⟩
    · rw [if_neg h3, if_neg (fun h5 => h3 ⟨h5.2, h5.1⟩)]
      refine decide_eq_decide.2 ?_
      rw [sub_mg (by omega) (by omega) h3, sub_mg (a := b) (b := a) (by omega) (by omega) (fun h5 => h3 ⟨h5.2, h5.1⟩)]
      generalize sv (sg M X a) (av M X a) = A
      generalize sv (sg M X b) (av M X b) = B
      have e : (B - A).natAbs = (A - B).natAbs := by omega
      rw [e]
      by_cases c1 : kd M X a = 3 ∨ kd M X b = 3
      · rw [if_pos c1, if_pos (by omega)]
      · rw [if_neg c1, if_neg (show ¬ (kd M X b = 3 ∨ kd M X a = 3) by omega)]
        by_cases c2 : kd M X a = 1 ∧ kd M X b = 1
        · rw [if_pos c2, if_pos ⟨c2.2, c2.1⟩]
        · rw [if_neg c2, if_neg (show ¬ (kd M X b = 1 ∧ kd M X a = 1) from fun h5 => c2 ⟨h5.2, h5.1⟩)]
          by_cases c3 : A - B = 0
          · rw [if_pos c3, if_pos (by omega)]
          · rw [if_neg c3, if_neg (by omega)]
theorem pat_pos {n : Nat} (hn : 0 < n) : 0 < pat M (inf M X) n 1 := by
  have hi := inf_pos hM hM' hX hX'
  have v1 : val M 1 = 1 := by
    have := val_at (M := M) (j := 0) (q := 1) Nat.one_le_two_pow (Or.inl rfl)
    rw [Nat.zero_mul, Nat.zero_add, Nat.pow_zero] at this; exact this
  have := le_raw_of (M := M) (n := n) (d := 1) (p := 1) (by omega) (by omega)
  unfold pat; omega
theorem near_zero {a b : Nat} (ha : Pt M X a) (hb : Pt M X b) (h4 : kd M X a ≠ 4) (h4' : kd M X b ≠ 4) : nearS M X a b 0 = decide (plc M X a = plc M X b) := by
  have hi := inf_pos hM hM' hX hX'
  have m0 : mg M X 0 = 0 := Nat.zero_mod _
  have k0 : kd M X 0 = 1 := (kd1 hM hM' hX hX').2 m0
  have hpl : ∀ x, (kd M X x = 3 → plc M X x = sv (sg M X x) (inf M X)) ∧ ((kd M X x = 1 ∨ kd M X x = 2) → -(inf M X : Int) < plc M X x ∧ plc M X x < (inf M X : Int)) := by
    intro x
    refine ⟨fun h => ?_, fun h => ?_⟩
    · unfold plc; rw [(kd3 hM hM' hX hX').1 h]
    · have hm : mg M X x < inf M X := by
        rcases h with h | h
        · rw [(kd1 hM hM' hX hX').1 h]; exact hi
        · exact ((kd2 hM hM' hX hX').1 h).2
      unfold plc sv; split <;> omega
  unfold nearS
  rw [if_neg (show ¬ (kd M X a = 4 ∨ kd M X b = 4 ∨ kd M X 0 = 4) by omega), m0]
  by_cases h3 : kd M X a = 3 ∧ kd M X b = 3
  · rw [if_pos h3, (hpl a).1 h3.1, (hpl b).1 h3.2]
    refine decide_eq_decide.2 ?_
    have ea := pt_split ha
    have eb := pt_split hb
    rw [(kd3 hM hM' hX hX').1 h3.1] at ea
    rw [(kd3 hM hM' hX hX').1 h3.2] at eb
    constructor
    · intro h; rw [h]
    · intro h
      have : sg M X a = sg M X b := by
        unfold sv at h
        cases h1 : sg M X a <;> cases h2 : sg M X b <;> rw [h1, h2] at h <;> simp at h <;> first | rfl | omega
      rw [ea, eb, this]
  · rw [if_neg h3, sub_mg h4 h4' h3]
    refine decide_eq_decide.2 ?_
    by_cases c1 : kd M X a = 3 ∨ kd M X b = 3
    · rw [if_pos c1]
      refine ⟨fun h => by omega, fun h => ?_⟩
      exfalso
      rcases c1 with c | c
      · have p1 := (hpl a).1 c
        have p2 := (hpl b).2 (by have := kd_cases M X b; omega)
        rw [h] at p1
        rw [p1] at p2
        unfold sv at p2; split at p2 <;> omega
      · have p1 := (hpl b).1 c
        have p2 := (hpl a).2 (by have := kd_cases M X a; omega)
        rw [← h] at p1
        rw [p1] at p2
        unfold sv at p2; split at p2 <;> omega
    · rw [if_neg c1]
      by_cases c2 : kd M X a = 1 ∧ kd M X b = 1
      · rw [if_pos c2]
        refine ⟨fun _ => ?_, fun _ => Nat.le_refl _⟩
        unfold plc
        rw [(kd1 hM hM' hX hX').1 c2.1, (kd1 hM hM' hX hX').1 c2.2]
        unfold sv; split <;> split <;> rfl
      · rw [if_neg c2]
        have l1 := sv_lt M (sg M X a) (sg M X b) (mg M X a) (mg M X b)
        have l2 := sv_lt M (sg M X b) (sg M X a) (mg M X b) (mg M X a)
        have fa : plc M X a = sv (sg M X a) (mg M X a) := rfl
        have fb : plc M X b = sv (sg M X b) (mg M X b) := rfl
        have ga : sv (sg M X a) (av M X a) = sv (sg M X a) (val M (mg M X a)) := rfl
        have gb : sv (sg M X b) (av M X b) = sv (sg M X b) (val M (mg M X b)) := rfl
        rw [← fa, ← fb, ← ga, ← gb] at l1
        rw [← fa, ← fb, ← ga, ← gb] at l2
        generalize sv (sg M X a) (av M X a) = A at *
        generalize sv (sg M X b) (av M X b) = B at *
        by_cases c3 : A - B = 0
        · rw [if_pos c3]; exact ⟨fun _ => by omega, fun _ => Nat.le_refl _⟩
        · rw [if_neg c3]
          have := pat_pos hM hM' hX hX' (n := (A - B).natAbs) (by omega)
          exact ⟨fun h => by omega, fun h => by omega⟩
end
end Go.Proofs.Ythkifpdachjlgaa.RS
