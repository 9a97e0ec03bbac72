import Derived.Test.YthkifpdachjlgaaFT6
import Derived.Test.YthkifpdachjlgaaSB
import Derived.Test.YthkifpdachjlgaaSM2
import Derived.Test.YthkifpdachjlgaaSD
import Derived.Test.YthkifpdachjlgaaSK
namespace Go.Proofs.Ythkifpdachjlgaa.RS
set_option linter.all false
open Go.RowKit Go.Proofs.Ythkifpdachjlgaa.PQ Go.Proofs.YthkifpdachjlgaaW.PrintWords Go.Proofs.YthkifpdachjlgaaW.PrintLast Go.Proofs.YthkifpdachjlgaaW.PrintMore
open FT
/-! ### reckoned in a format more than twice as wide, and converted back -/
theorem val_inf {M X : Nat} (hX : 2 ≤ X) : val M (inf M X) = 2 ^ (M + 2 ^ X - 2) := by
  have h4 : 4 ≤ 2 ^ X := Nat.pow_le_pow_right (n := 2) (by omega) hX
  have e : inf M X = (2 ^ X - 3) * 2 ^ M + 2 ^ (M + 1) := by
    unfold inf
    rw [Nat.pow_succ, Nat.mul_comm (2 ^ M) 2, ← Nat.add_mul]; congr 1; omega
  rw [e, val_at (Nat.le_refl _) (Or.inr (Nat.pow_le_pow_right (by omega) (by omega))), ← Nat.pow_add]
  congr 1; omega
/-- how many of the wider format's units one of this is, as a power of 2 -/
def gap (M X M' X' : Nat) : Nat := (least M X - least M' X').toNat
section
variable {M X M' X' : Nat} (hM : 2 ≤ M) (hX : 2 ≤ X) (gM : M' ≤ 52) (gX : X' ≤ 11) (w1 : 2 * M + 4 ≤ M') (w2 : X + 2 ≤ X')
include hM hX gM gX w1 w2
theorem gap_eq : ((gap M X M' X' : Nat) : Int) = least M X - least M' X' ∧ M + 7 ≤ gap M X M' X' ∧ -(least M X) ≤ (gap M X M' X' : Int) ∧ gap M X M' X' ≤ 2200 ∧ M + 2 ^ X - 2 + gap M X M' X' < M' + 2 ^ X' - 2 := by
  have h1 : 4 * 2 ^ (X - 1) ≤ 2 ^ (X' - 1) := by
    have : 2 ^ (X - 1 + 2) ≤ 2 ^ (X' - 1) := Nat.pow_le_pow_right (by omega) (by omega)
    rw [Nat.pow_add] at this; omega
  have h2 : 2 ^ (X' - 1) ≤ 1024 := Nat.pow_le_pow_right (n := 2) (by omega) (show X' - 1 ≤ 10 by omega)
  have h3 : 2 ^ X = 2 * 2 ^ (X - 1) := by rw [← Nat.pow_succ']; congr 1; omega
  have h4 : 2 ^ X' = 2 * 2 ^ (X' - 1) := by rw [← Nat.pow_succ']; congr 1; omega
  have h5 := two_pos (X - 1)
  unfold gap least
  rw [h3, h4]
  omega
theorem wide_inf : ∃ P, P < inf M' X' ∧ val M' P = val M (inf M X) * 2 ^ gap M X M' X' := by
  obtain ⟨_, _, _, _, g5⟩ := gap_eq hM hX gM gX w1 w2
  obtain ⟨P, hP⟩ := fits_val (M := M') (n := 2 ^ (M + 2 ^ X - 2 + gap M X M' X')) ⟨1, M + 2 ^ X - 2 + gap M X M' X', by rw [Nat.one_mul], Nat.one_le_two_pow⟩
  refine ⟨P, ?_, by rw [hP, val_inf hX, ← Nat.pow_add]⟩
  refine Nat.lt_of_not_le fun hle => ?_
  have := val_mono (M := M') hle
  rw [hP, val_inf (by omega)] at this
  have := (Nat.pow_le_pow_iff_right (a := 2) (by omega)).1 this
  omega
theorem wide_pat {y : Nat} (hy : y ≤ inf M X) : pat M' (inf M' X') (val M y * 2 ^ gap M X M' X') 1 < inf M' X' ∧ val M' (pat M' (inf M' X') (val M y * 2 ^ gap M X M' X') 1) = val M y * 2 ^ gap M X M' X' := by
  obtain ⟨P, h1, h2⟩ := wide_inf hM hX gM gX w1 w2
  obtain ⟨Q, hQ⟩ := fits_val (fits_mul (j := gap M X M' X') (fits_mono (show M ≤ M' by omega) (fits_of M y)))
  have hQP : Q ≤ P := by
    refine Nat.le_of_not_lt fun hlt => ?_
    have := val_lt (M := M') hlt
    rw [hQ, h2] at this
    exact absurd (Nat.mul_le_mul_right _ (val_mono hy)) (Nat.not_le.2 this)
  rw [← hQ, pat_val (by omega)]
  exact ⟨by omega, rfl⟩
/-- a pattern in the wider format -/
theorem wide_conv {a : Nat} (ha : Pt M X a) : Pt M' X' (convS M X M' X' a) ∧ kd M' X' (convS M X M' X' a) = kd M X a ∧ (kd M X a ≠ 4 → sg M' X' (convS M X M' X' a) = sg M X a) ∧ (kd M X a = 1 ∨ kd M X a = 2 → av M' X' (convS M X M' X' a) = av M X a * 2 ^ gap M X M' X') := by
  obtain ⟨g1, g2, g3, g4, _⟩ := gap_eq hM hX gM gX w1 w2
  have i' := inf_pos (M := M') (X := X') (by omega) gM (by omega) gX
  have i0 := inf_pos (M := M) (X := X) hM (by omega) hX (by omega)
  have hl := inf_lt (M := M') (X := X')
  have hn := nan_bound (M := M') (X := X') (by omega) gM (by omega) gX
  have fin : kd M X a = 1 ∨ kd M X a = 2 → convS M X M' X' a = sgn M' X' (sg M X a) + pat M' (inf M' X') (av M X a * 2 ^ gap M X M' X') 1 := by
    intro h
    unfold convS
    rw [if_neg (by omega), if_neg (by omega)]
    unfold npat
    have e1 : (least M X - least M' X').toNat = gap M X M' X' := rfl
    have e2 : (-(least M X - least M' X')).toNat = 0 := by omega
    rw [e1, e2]
  have k3 : ∀ neg, kd M' X' (sgn M' X' neg + inf M' X') = 3 ∧ sg M' X' (sgn M' X' neg + inf M' X') = neg := by
    intro neg
    obtain ⟨s1, s2⟩ := sg_mk (neg := neg) hl
    refine ⟨?_, s1⟩
    unfold kd; rw [s2]; exact (kind_iff i').2.2.1.2 rfl
  rcases kd_cases M X a with h | h | h | h
  · have hz := av_zero (M := M) (X := X) hM (by omega) hX (by omega) h
    have hc := fin (Or.inl h)
    have hp0 : pat M' (inf M' X') (av M X a * 2 ^ gap M X M' X') 1 = 0 := by
      have h0 := pat_val (M := M') (I := inf M' X') (p := 0) (by omega)
      rw [val_zero] at h0
      rw [hz, Nat.zero_mul]; exact h0
    rw [hp0] at hc
    obtain ⟨s1, s2⟩ := sg_mk (M := M') (X := X') (y := 0) (neg := sg M X a) (two_pos _)
    rw [hc]
    refine ⟨pt_mk (two_pos _), ?_, fun _ => s1, fun _ => ?_⟩
    · unfold kd at h ⊢; rw [s2, h]; exact (kind_iff i').1.2 rfl
    · unfold av at hz ⊢; rw [s2, hz, val_zero, Nat.zero_mul]
  · have hc := fin (Or.inr h)
    have h2 := (kd2 (M := M) (X := X) hM (by omega) hX (by omega)).1 h
    obtain ⟨p1, p2⟩ := wide_pat hM hX gM gX w1 w2 (y := mg M X a) (by omega)
    have hav : av M X a = val M (mg M X a) := rfl
    rw [← hav] at p1 p2
    obtain ⟨s1, s2⟩ := sg_mk (M := M') (X := X') (neg := sg M X a) (Nat.lt_trans p1 hl)
    rw [hc]
    refine ⟨pt_mk (Nat.lt_trans p1 hl), ?_, fun _ => s1, fun _ => ?_⟩
    · rw [h]
      unfold kd; rw [s2]
      refine (kind_iff i').2.1.2 ⟨?_, p1⟩
      refine Nat.pos_of_ne_zero fun h0 => ?_
      rw [h0, val_zero] at p2
      have h3 := av_pos (M := M) (X := X) hM (by omega) hX (by omega) h
      have := Nat.mul_pos h3 (two_pos (gap M X M' X'))
      omega
    · unfold av at p2 s2 ⊢; rw [s2]; exact p2
  · have hc : convS M X M' X' a = sgn M' X' (sg M X a) + inf M' X' := by
      unfold convS; rw [if_neg (by omega), if_pos h]
    rw [hc, h]
    exact ⟨pt_mk hl, (k3 _).1, fun _ => (k3 _).2, fun h2 => by omega⟩
  · have hc : convS M X M' X' a = nanp M' X' := by unfold convS; rw [if_pos h]
    have hs0 : sgn M' X' false = 0 := rfl
    obtain ⟨s1, s2⟩ := sg_mk (M := M') (X := X') (neg := false) hn
    have hp := pt_mk (M := M') (X := X') (neg := false) hn
    rw [hs0, Nat.zero_add] at s1 s2 hp
    rw [hc, h]
    refine ⟨hp, ?_, fun h2 => absurd rfl h2, fun h2 => by omega⟩
    unfold kd nanp; rw [s2]
    exact (kind_iff i').2.2.2.2 (by have := two_pos (M' - 1); omega)
omit hM hX w1 w2 in
theorem back_nan (hM : 2 ≤ M') (hX : 2 ≤ X') : convS M' X' M X (nanp M' X') = nanp M X := by
  have hn := nan_bound (M := M') (X := X') hM gM hX gX
  have i' := inf_pos (M := M') (X := X') hM gM hX gX
  have hs0 : sgn M' X' false = 0 := rfl
  obtain ⟨s1, s2⟩ := sg_mk (M := M') (X := X') (neg := false) hn
  rw [hs0, Nat.zero_add] at s2
  have hk : kd M' X' (nanp M' X') = 4 := by
    unfold kd nanp; rw [s2]
    exact (kind_iff i').2.2.2.2 (by have := two_pos (M' - 1); omega)
  unfold convS; rw [if_pos hk]
omit hM hX w1 w2 in
theorem back_inf (hM : 2 ≤ M') (hX : 2 ≤ X') (neg : Bool) : convS M' X' M X (sgn M' X' neg + inf M' X') = sgn M X neg + inf M X := by
  have hl := inf_lt (M := M') (X := X')
  have i' := inf_pos (M := M') (X := X') hM gM hX gX
  obtain ⟨s1, s2⟩ := sg_mk (M := M') (X := X') (neg := neg) hl
  have hk : kd M' X' (sgn M' X' neg + inf M' X') = 3 := by
    unfold kd; rw [s2]; exact (kind_iff i').2.2.1.2 rfl
  unfold convS; rw [if_neg (by omega), if_pos hk, s1]
/-- what is rounded in the wider format, converted back -/
theorem back_fin (neg : Bool) {n d : Nat} (hd : 0 < d) (H : raw M (val M' (raw M' (n * 2 ^ gap M X M' X') d)) (2 ^ gap M X M' X') = raw M n d) :
    convS M' X' M X (sgn M' X' neg + pat M' (inf M' X') (n * 2 ^ gap M X M' X') d) = sgn M X neg + pat M (inf M X) n d := by
  obtain ⟨P, hP, hv⟩ := wide_inf hM hX gM gX w1 w2
  obtain ⟨g1, g2, g3, g4, _⟩ := gap_eq hM hX gM gX w1 w2
  obtain ⟨c1, c2⟩ := pat_conv (M := M) (M' := M') (I := inf M X) (I' := inf M' X') hd H hP hv
  by_cases h : pat M' (inf M' X') (n * 2 ^ gap M X M' X') d = inf M' X'
  · rw [h, back_inf gM gX (by omega) (by omega), c1 h]
  · have hle := pat_le M' X' (n * 2 ^ gap M X M' X') d
    have hl := inf_lt (M := M') (X := X')
    have i' := inf_pos (M := M') (X := X') (by omega) gM (by omega) gX
    have hlt : pat M' (inf M' X') (n * 2 ^ gap M X M' X') d < inf M' X' := by omega
    obtain ⟨s1, s2⟩ := sg_mk (M := M') (X := X') (neg := neg) (Nat.lt_trans hlt hl)
    have c2 := c2 h
    generalize pat M' (inf M' X') (n * 2 ^ gap M X M' X') d = y at *
    have hk : kd M' X' (sgn M' X' neg + y) = 1 ∨ kd M' X' (sgn M' X' neg + y) = 2 := by
      unfold kd; rw [s2]
      by_cases h0 : y = 0
      · left; exact (kind_iff i').1.2 h0
      · right; exact (kind_iff i').2.1.2 ⟨by omega, hlt⟩
    unfold convS av
    rw [if_neg (by omega), if_neg (by omega), s1, s2, ← c2]
    unfold npat
    have e1 : (least M' X' - least M X).toNat = 0 := by omega
    have e2 : (-(least M' X' - least M X)).toNat = gap M X M' X' := by omega
    rw [e1, e2, Nat.pow_zero, Nat.mul_one, Nat.one_mul]
omit gM gX w1 w2 in
theorem back_zero (hM' : 2 ≤ M') (hX' : 2 ≤ X') (gM : M' ≤ 52) (gX : X' ≤ 11) (neg : Bool) : convS M' X' M X (sgn M' X' neg) = sgn M X neg := by
  have i' := inf_pos (M := M') (X := X') hM' gM hX' gX
  obtain ⟨s1, s2⟩ := sg_mk (M := M') (X := X') (y := 0) (neg := neg) (two_pos _)
  rw [Nat.add_zero] at s1 s2
  have hk : kd M' X' (sgn M' X' neg) = 1 := by unfold kd; rw [s2]; exact (kind_iff i').1.2 rfl
  unfold convS av
  rw [if_neg (by omega), if_neg (by omega), s1, s2, val_zero, npat_zero (by omega)]; rfl
omit hM hX gM gX w1 w2 in
theorem sv_scale (p q : Bool) (x y c : Nat) : sv p (x * c) + sv q (y * c) = (sv p x + sv q y) * (c : Int) := by
  unfold sv
  cases p <;> cases q <;> simp [Int.add_mul, Int.natCast_mul, Int.neg_mul]
omit hM hX gM gX w1 w2 in
theorem sum_shape (p q : Bool) (a b : Nat) : (sv p a + sv q b).natAbs = a + b ∨ (sv p a + sv q b).natAbs + b = a ∨ (sv p a + sv q b).natAbs + a = b := by
  unfold sv
  cases p <;> cases q <;> simp <;> omega
theorem back_sum (p q : Bool) {a b : Nat} (ha : kd M X a = 1 ∨ kd M X a = 2) (hb : kd M X b = 1 ∨ kd M X b = 2) :
    convS M' X' M X (sumS M' X' (sv p (av M X a * 2 ^ gap M X M' X') + sv q (av M X b * 2 ^ gap M X M' X'))) = sumS M X (sv p (av M X a) + sv q (av M X b)) := by
  obtain ⟨g1, g2, g3, g4, _⟩ := gap_eq hM hX gM gX w1 w2
  rw [sv_scale]
  have hgp := two_pos (gap M X M' X')
  unfold sumS
  by_cases hz : sv p (av M X a) + sv q (av M X b) = 0
  · have hs0 : ∀ m x, sgn m x false = 0 := fun _ _ => rfl
    have e := back_zero (M := M) (X := X) (M' := M') (X' := X') hM hX (by omega) (by omega) gM gX false
    rw [hs0, hs0] at e
    rw [hz, Int.zero_mul, if_pos rfl, if_pos rfl]; exact e
  · have hne : (sv p (av M X a) + sv q (av M X b)) * ((2 ^ gap M X M' X' : Nat) : Int) ≠ 0 := Int.mul_ne_zero hz (by omega)
    have hsn : decide ((sv p (av M X a) + sv q (av M X b)) * ((2 ^ gap M X M' X' : Nat) : Int) < 0) = decide (sv p (av M X a) + sv q (av M X b) < 0) := by
      by_cases hlt : sv p (av M X a) + sv q (av M X b) < 0
      · rw [decide_eq_true hlt, decide_eq_true (Int.mul_neg_of_neg_of_pos hlt (by omega))]
      · rw [decide_eq_false hlt, decide_eq_false (Int.not_lt.2 (Int.mul_nonneg (Int.not_lt.1 hlt) (by omega)))]
    rw [if_neg hne, if_neg hz, hsn, Int.natAbs_mul, Int.natAbs_natCast]
    refine back_fin hM hX gM gX w1 w2 _ (by omega) ?_
    have am := man_lt M (mg M X a)
    have bm := man_lt M (mg M X b)
    have ea : av M X a = man M (mg M X a) * 2 ^ sh M (mg M X a) := rfl
    have eb : av M X b = man M (mg M X b) * 2 ^ sh M (mg M X b) := rfl
    have hsh := sum_shape p q (av M X a) (av M X b)
    rw [ea, eb] at hsh ⊢
    rcases hsh with h | h | h
    · exact dbl_sum (by omega) (by omega) (by omega) am bm (Or.inl h)
    · exact dbl_sum (by omega) (by omega) (by omega) am bm (Or.inr h)
    · exact dbl_sum (by omega) (by omega) (by omega) bm am (Or.inr h)
theorem wide_add {a b : Nat} (ha : Pt M X a) (hb : Pt M X b) : convS M' X' M X (addS M' X' (convS M X M' X' a) (convS M X M' X' b)) = addS M X a b := by
  obtain ⟨_, ka, sa, va⟩ := wide_conv hM hX gM gX w1 w2 ha
  obtain ⟨_, kb, sb, vb⟩ := wide_conv hM hX gM gX w1 w2 hb
  unfold addS
  rw [ka, kb]
  by_cases h4 : kd M X a = 4 ∨ kd M X b = 4
  · rw [if_pos h4, if_pos h4, back_nan gM gX (by omega) (by omega)]
  · rw [if_neg h4, if_neg h4, sa (fun h => h4 (Or.inl h)), sb (fun h => h4 (Or.inr h))]
    by_cases h3 : kd M X a = 3
    · rw [if_pos h3, if_pos h3]
      by_cases h5 : kd M X b = 3 ∧ sg M X a ≠ sg M X b
      · rw [if_pos h5, if_pos h5, back_nan gM gX (by omega) (by omega)]
      · rw [if_neg h5, if_neg h5, back_inf gM gX (by omega) (by omega)]
    · rw [if_neg h3, if_neg h3]
      by_cases h5 : kd M X b = 3
      · rw [if_pos h5, if_pos h5, back_inf gM gX (by omega) (by omega)]
      · rw [if_neg h5, if_neg h5]
        have ca : kd M X a = 1 ∨ kd M X a = 2 := by have := kd_cases M X a; omega
        have cb : kd M X b = 1 ∨ kd M X b = 2 := by have := kd_cases M X b; omega
        by_cases h6 : kd M X a = 1 ∧ kd M X b = 1
        · rw [if_pos h6, if_pos h6, back_zero hM hX (by omega) (by omega) gM gX]
        · rw [if_neg h6, if_neg h6, va ca, vb cb, back_sum hM hX gM gX w1 w2 _ _ ca cb]
theorem wide_turn {b : Nat} (hb : Pt M X b) (h4 : kd M X b ≠ 4) : convS M X M' X' (turnS M X b) = turnS M' X' (convS M X M' X' b) := by
  have hT := turn_pt M X b
  obtain ⟨pa, ka, sa, va⟩ := wide_conv hM hX gM gX w1 w2 hT
  obtain ⟨pb, kb, sb, vb⟩ := wide_conv hM hX gM gX w1 w2 hb
  obtain ⟨t1, t2⟩ := turn_kd M X b
  obtain ⟨t3, t4⟩ := turn_sg M X b
  obtain ⟨u3, u4⟩ := turn_sg M' X' (convS M X M' X' b)
  rw [t1] at ka sa va
  have hs : sg M' X' (convS M X M' X' (turnS M X b)) = sg M' X' (turnS M' X' (convS M X M' X' b)) := by rw [sa h4, u3, sb h4, t3]
  have hm : mg M' X' (convS M X M' X' (turnS M X b)) = mg M' X' (turnS M' X' (convS M X M' X' b)) := by
    rw [u4]
    have i' := inf_pos (M := M') (X := X') (by omega) gM (by omega) gX
    by_cases h3 : kd M X b = 3
    · have h1 : kd M' X' (convS M X M' X' (turnS M X b)) = 3 := by rw [ka, h3]
      have h2 : kd M' X' (convS M X M' X' b) = 3 := by rw [kb, h3]
      have e1 := (kind_iff i').2.2.1.1 h1
      have e2 := (kind_iff i').2.2.1.1 h2
      rw [e1, e2]
    · have hc : kd M X b = 1 ∨ kd M X b = 2 := by have := kd_cases M X b; omega
      have e1 := va hc
      have e2 := vb hc
      rw [t2, ← e2] at e1
      exact val_inj e1
  rw [pt_split pa, pt_split (turn_pt M' X' (convS M X M' X' b)), hs, hm]
theorem wide_sub {a b : Nat} (ha : Pt M X a) (hb : Pt M X b) : convS M' X' M X (addS M' X' (convS M X M' X' a) (turnS M' X' (convS M X M' X' b))) = addS M X a (turnS M X b) := by
  by_cases h4 : kd M X b = 4
  · obtain ⟨_, kb, _, _⟩ := wide_conv hM hX gM gX w1 w2 hb
    have k1 : kd M' X' (turnS M' X' (convS M X M' X' b)) = 4 := by rw [(turn_kd M' X' _).1, kb, h4]
    have k2 : kd M X (turnS M X b) = 4 := by rw [(turn_kd M X b).1, h4]
    unfold addS
    rw [if_pos (Or.inr k1), if_pos (Or.inr k2), back_nan gM gX (by omega) (by omega)]
  · rw [← wide_turn hM hX gM gX w1 w2 hb h4]
    exact wide_add hM hX gM gX w1 w2 ha (turn_pt M X b)
theorem wide_mul {a b : Nat} (ha : Pt M X a) (hb : Pt M X b) : convS M' X' M X (mulS M' X' (convS M X M' X' a) (convS M X M' X' b)) = mulS M X a b := by
  obtain ⟨_, ka, sa, va⟩ := wide_conv hM hX gM gX w1 w2 ha
  obtain ⟨_, kb, sb, vb⟩ := wide_conv hM hX gM gX w1 w2 hb
  obtain ⟨g1, g2, g3, g4, _⟩ := gap_eq hM hX gM gX w1 w2
  obtain ⟨l1, l2, l3⟩ := least_bounds (M := M) (X := X) hM (by omega) hX (by omega)
  unfold mulS
  rw [ka, kb]
  by_cases h4 : kd M X a = 4 ∨ kd M X b = 4 ∨ (kd M X a = 3 ∧ kd M X b = 1) ∨ (kd M X a = 1 ∧ kd M X b = 3)
  · rw [if_pos h4, if_pos h4, back_nan gM gX (by omega) (by omega)]
  · rw [if_neg h4, if_neg h4, sa (by omega), sb (by omega)]
    by_cases h3 : kd M X a = 3 ∨ kd M X b = 3
    · rw [if_pos h3, if_pos h3, back_inf gM gX (by omega) (by omega)]
    · rw [if_neg h3, if_neg h3]
      have ca : kd M X a = 1 ∨ kd M X a = 2 := by have := kd_cases M X a; omega
      have cb : kd M X b = 1 ∨ kd M X b = 2 := by have := kd_cases M X b; omega
      rw [va ca, vb cb]
      have f1 : npat M X (av M X a * av M X b) 1 (least M X) = pat M (inf M X) (av M X a * av M X b) (2 ^ (-(least M X)).toNat) := by
        unfold npat
        have : (least M X).toNat = 0 := by omega
        rw [this, Nat.pow_zero, Nat.mul_one, Nat.one_mul]
      have f2 : npat M' X' (av M X a * 2 ^ gap M X M' X' * (av M X b * 2 ^ gap M X M' X')) 1 (least M' X') = pat M' (inf M' X') (av M X a * av M X b * 2 ^ gap M X M' X') (2 ^ (-(least M X)).toNat) := by
        unfold npat
        have e1 : (least M' X').toNat = 0 := by omega
        have e2 : (-(least M' X')).toNat = (-(least M X)).toNat + gap M X M' X' := by omega
        rw [e1, e2]
        refine pat_congr (Nat.mul_pos (by omega) (two_pos _)) (two_pos _) ?_
        rw [Nat.pow_zero, Nat.mul_one, Nat.one_mul, Nat.pow_add]; ac_rfl
      rw [f1, f2]
      refine back_fin hM hX gM gX w1 w2 _ (two_pos _) ?_
      have am := Nat.le_of_lt (man_lt M (mg M X a))
      have bm := Nat.le_of_lt (man_lt M (mg M X b))
      have ea : av M X a = man M (mg M X a) * 2 ^ sh M (mg M X a) := rfl
      have eb : av M X b = man M (mg M X b) * 2 ^ sh M (mg M X b) := rfl
      refine dbl_exact (two_pos _) (m := av M X a * av M X b * 2 ^ (gap M X M' X' - (-(least M X)).toNat)) ?_ ?_
      · have e6 : 2 ^ gap M X M' X' = 2 ^ (gap M X M' X' - (-(least M X)).toNat) * 2 ^ (-(least M X)).toNat := by rw [← Nat.pow_add]; congr 1; omega
        rw [e6]; ac_rfl
      · refine ⟨man M (mg M X a) * man M (mg M X b), sh M (mg M X a) + sh M (mg M X b) + (gap M X M' X' - (-(least M X)).toNat), ?_, ?_⟩
        · rw [ea, eb, Nat.pow_add, Nat.pow_add]; ac_rfl
        · refine Nat.le_trans (Nat.mul_le_mul am bm) ?_
          rw [← Nat.pow_add]
          exact Nat.pow_le_pow_right (by omega) (by omega)
theorem wide_div {a b : Nat} (ha : Pt M X a) (hb : Pt M X b) : convS M' X' M X (divS M' X' (convS M X M' X' a) (convS M X M' X' b)) = divS M X a b := by
  obtain ⟨_, ka, sa, va⟩ := wide_conv hM hX gM gX w1 w2 ha
  obtain ⟨_, kb, sb, vb⟩ := wide_conv hM hX gM gX w1 w2 hb
  obtain ⟨g1, g2, g3, g4, _⟩ := gap_eq hM hX gM gX w1 w2
  obtain ⟨l1, l2, l3⟩ := least_bounds (M := M) (X := X) hM (by omega) hX (by omega)
  unfold divS
  rw [ka, kb]
  by_cases h4 : kd M X a = 4 ∨ kd M X b = 4 ∨ (kd M X a = 3 ∧ kd M X b = 3) ∨ (kd M X a = 1 ∧ kd M X b = 1)
  · rw [if_pos h4, if_pos h4, back_nan gM gX (by omega) (by omega)]
  · rw [if_neg h4, if_neg h4, sa (by omega), sb (by omega)]
    by_cases h3 : kd M X a = 3 ∨ kd M X b = 1
    · rw [if_pos h3, if_pos h3, back_inf gM gX (by omega) (by omega)]
    · rw [if_neg h3, if_neg h3]
      by_cases h5 : kd M X b = 3
      · rw [if_pos h5, if_pos h5, back_zero hM hX (by omega) (by omega) gM gX]
      · rw [if_neg h5, if_neg h5]
        have ca : kd M X a = 1 ∨ kd M X a = 2 := by have := kd_cases M X a; omega
        have cb : kd M X b = 2 := by have := kd_cases M X b; omega
        have pb := av_pos (M := M) (X := X) hM (by omega) hX (by omega) cb
        rw [va ca, vb (Or.inr cb)]
        have f1 : npat M X (av M X a) (av M X b) (0 - least M X) = pat M (inf M X) (av M X a * 2 ^ (-(least M X)).toNat) (av M X b) := by
          unfold npat
          have e1 : (0 - least M X).toNat = (-(least M X)).toNat := by omega
          have e2 : (-(0 - least M X)).toNat = 0 := by omega
          rw [e1, e2, Nat.pow_zero, Nat.mul_one]
        have f2 : npat M' X' (av M X a * 2 ^ gap M X M' X') (av M X b * 2 ^ gap M X M' X') (0 - least M' X') = pat M' (inf M' X') (av M X a * 2 ^ (-(least M X)).toNat * 2 ^ gap M X M' X') (av M X b) := by
          unfold npat
          have e1 : (0 - least M' X').toNat = (-(least M X)).toNat + gap M X M' X' := by omega
          have e2 : (-(0 - least M' X')).toNat = 0 := by omega
          rw [e1, e2]
          refine pat_congr (Nat.mul_pos (Nat.mul_pos pb (two_pos _)) (two_pos _)) pb ?_
          rw [Nat.pow_zero, Nat.pow_add]; ac_rfl
        rw [f1, f2]
        refine back_fin hM hX gM gX w1 w2 _ pb ?_
        have am := man_lt M (mg M X a)
        have bm := man_lt M (mg M X b)
        have ea : av M X a = man M (mg M X a) * 2 ^ sh M (mg M X a) := rfl
        have eb : av M X b = man M (mg M X b) * 2 ^ sh M (mg M X b) := rfl
        have e7 : man M (mg M X a) * 2 ^ sh M (mg M X a) * 2 ^ (-(least M X)).toNat = man M (mg M X a) * 2 ^ (sh M (mg M X a) + (-(least M X)).toNat) := by rw [Nat.mul_assoc, ← Nat.pow_add]
        rw [ea, eb, e7]
        refine dbl_quo (by omega) (by omega) (by omega) am bm ?_
        refine Nat.pos_of_ne_zero fun h0 => ?_
        rw [eb, h0, Nat.zero_mul] at pb; omega
omit hM hX gM gX w1 w2 in
theorem big_root {V r st m : Nat} (hr : Root V r st) (hV : 2 ^ (m + 1) * 2 ^ (m + 1) ≤ V) : 2 ^ (m + 1) ≤ r := by
  refine Nat.le_of_not_lt fun hlt => ?_
  have h2 : (r + 1) * (r + 1) ≤ 2 ^ (m + 1) * 2 ^ (m + 1) := Nat.mul_le_mul hlt hlt
  exact absurd hr.hi (Nat.not_lt.2 (Nat.le_trans h2 hV))
omit hM hX gM gX w1 w2 in
theorem big_num {m A d : Nat} (hm : m ≤ 52) (hA : 0 < A) : 2 ^ (m + 1) * 2 ^ (m + 1) ≤ A * 2 ^ (128 + d) := by
  rw [← Nat.pow_add]
  have h3 : 2 ^ (m + 1 + (m + 1)) ≤ 2 ^ (128 + d) := Nat.pow_le_pow_right (by omega) (by omega)
  have h4 : 1 * 2 ^ (128 + d) ≤ A * 2 ^ (128 + d) := Nat.mul_le_mul_right _ hA
  rw [Nat.one_mul] at h4
  exact Nat.le_trans h3 h4
omit hM hX gM gX w1 w2 in
/-- any further bits tell the same root -/
theorem rootp_more {m x : Nat} (hm : m ≤ 52) {A : Nat} (hA : 0 < A) (j : Nat) : ∃ R S, Root (A * 2 ^ (128 + (least m x % 2).toNat) * 4 ^ j) R S ∧
    rootp m x A = npat m x (2 * R + S) 1 ((least m x - least m x % 2) / 2 - 64 - 1 - least m x - (j : Int)) := by
  have hr := root_isq (A * 2 ^ (128 + (least m x % 2).toNat))
  have hr' := root_isq (A * 2 ^ (128 + (least m x % 2).toNat) * 4 ^ j)
  refine ⟨_, _, hr', ?_⟩
  have := npat_root (M := m) (X := x) (t := (least m x - least m x % 2) / 2 - 64 - 1 - least m x) (j := j) (big_root hr (big_num hm hA)) hr hr'
  rw [this]; rfl
theorem wide_root {A : Nat} (hA : 0 < A) {ma sa : Nat} (ha : ma < 2 ^ (M + 1)) (hA2 : A = ma * 2 ^ sa) :
    convS M' X' M X (rootp M' X' (A * 2 ^ gap M X M' X')) = rootp M X A := by
  obtain ⟨g1, g2, g3, g4, _⟩ := gap_eq hM hX gM gX w1 w2
  obtain ⟨l1, l2, l3⟩ := least_bounds (M := M) (X := X) hM (by omega) hX (by omega)
  obtain ⟨J, hJ⟩ : ∃ J : Nat, J = 4000 := ⟨4000, rfl⟩
  obtain ⟨j, hj⟩ : ∃ j : Nat, 2 * (j : Int) + least M X % 2 = 2 * J + gap M X M' X' + least M' X' % 2 := ⟨((2 * J + gap M X M' X' + least M' X' % 2 - least M X % 2) / 2).toNat, by omega⟩
  obtain ⟨R, S, h1, h2⟩ := rootp_more (m := M) (x := X) (by omega) hA j
  obtain ⟨R', S', h1', h2'⟩ := rootp_more (m := M') (x := X') gM (Nat.mul_pos hA (two_pos (gap M X M' X'))) J
  have hV : A * 2 ^ (128 + (least M X % 2).toNat) * 4 ^ j = A * 2 ^ gap M X M' X' * 2 ^ (128 + (least M' X' % 2).toNat) * 4 ^ J := by
    have e1 : ∀ i : Nat, 4 ^ i = 2 ^ (2 * i) := fun i => by rw [Nat.pow_mul]
    rw [e1, e1, Nat.mul_assoc, Nat.mul_assoc, Nat.mul_assoc, ← Nat.pow_add, ← Nat.pow_add, ← Nat.pow_add]
    congr 2; omega
  rw [hV] at h1
  obtain ⟨r1, r2⟩ := h1.unique h1'
  subst r1 r2
  have hs0 : ∀ m x, sgn m x false = 0 := fun _ _ => rfl
  obtain ⟨c, hc⟩ : ∃ c : Nat, (least M X - least M X % 2) / 2 - 64 - 1 - least M X - (j : Int) = -((c + 1 : Nat) : Int) := ⟨(-((least M X - least M X % 2) / 2 - 64 - 1 - least M X - (j : Int)) - 1).toNat, by omega⟩
  have hc' : (least M' X' - least M' X' % 2) / 2 - 64 - 1 - least M' X' - (J : Int) = -((c + 1 : Nat) : Int) + gap M X M' X' := by omega
  have f1 : rootp M X A = sgn M X false + pat M (inf M X) (2 * R + S) (2 * 2 ^ c) := by
    rw [h2, hc, hs0, Nat.zero_add]
    unfold npat
    have e1 : (-((c + 1 : Nat) : Int)).toNat = 0 := by omega
    have e2 : (- -((c + 1 : Nat) : Int)).toNat = c + 1 := by omega
    rw [e1, e2, Nat.pow_zero, Nat.mul_one, Nat.one_mul, Nat.pow_succ, Nat.mul_comm (2 ^ c)]
  have f2 : rootp M' X' (A * 2 ^ gap M X M' X') = sgn M' X' false + pat M' (inf M' X') ((2 * R + S) * 2 ^ gap M X M' X') (2 * 2 ^ c) := by
    rw [h2', hc', hs0, Nat.zero_add]
    unfold npat
    refine pat_congr (Nat.mul_pos (by omega) (two_pos _)) (Nat.mul_pos (by omega) (two_pos _)) ?_
    have e1 : (2 * R + S) * 2 ^ (-((c + 1 : Nat) : Int) + (gap M X M' X' : Int)).toNat * (2 * 2 ^ c) = (2 * R + S) * 2 ^ ((-((c + 1 : Nat) : Int) + (gap M X M' X' : Int)).toNat + c + 1) := by rw [Nat.pow_succ, Nat.pow_add]; ac_rfl
    have e2 : (2 * R + S) * 2 ^ gap M X M' X' * (1 * 2 ^ (-(-((c + 1 : Nat) : Int) + (gap M X M' X' : Int))).toNat) = (2 * R + S) * 2 ^ (gap M X M' X' + (-(-((c + 1 : Nat) : Int) + (gap M X M' X' : Int))).toNat) := by rw [Nat.pow_add]; ac_rfl
    rw [e1, e2]; congr 2; omega
  rw [f1, f2]
  refine back_fin hM hX gM gX w1 w2 _ (Nat.mul_pos (by omega) (two_pos _)) ?_
  have e4 : A * 2 ^ gap M X M' X' * 2 ^ (128 + (least M' X' % 2).toNat) * 4 ^ J = ma * 2 ^ (sa + gap M X M' X' + (128 + (least M' X' % 2).toNat) + 2 * J) := by
    have e5 : 4 ^ J = 2 ^ (2 * J) := by rw [Nat.pow_mul]
    rw [hA2, e5, Nat.pow_add 2 (sa + gap M X M' X' + (128 + (least M' X' % 2).toNat)), Nat.pow_add 2 (sa + gap M X M' X'), Nat.pow_add 2 sa]
    generalize 2 ^ (128 + (least M' X' % 2).toNat) = Z
    generalize 2 ^ (2 * J) = Y
    ac_rfl
  rw [e4] at h1
  exact dbl_root (by omega) w1 (by omega) (by omega) ha h1
theorem wide_sqrt {a : Nat} (ha : Pt M X a) : convS M' X' M X (sqrtS M' X' (convS M X M' X' a)) = sqrtS M X a := by
  obtain ⟨pa, ka, sa, va⟩ := wide_conv hM hX gM gX w1 w2 ha
  have back : kd M X a ≠ 4 → kd M X a ≠ 2 → convS M' X' M X (convS M X M' X' a) = a := by
    intro h4 h2
    have hsp := pt_split ha
    rcases kd_cases M X a with h | h | h | h
    · have h0 := (kd1 (M := M) (X := X) hM (by omega) hX (by omega)).1 h
      have k1 : kd M' X' (convS M X M' X' a) = 1 := by rw [ka, h]
      have h0' := (kind_iff (inf_pos (M := M') (X := X') (by omega) gM (by omega) gX)).1.1 k1
      have e : convS M X M' X' a = sgn M' X' (sg M X a) := by rw [pt_split pa, sa h4, h0', Nat.add_zero]
      rw [e, back_zero hM hX (by omega) (by omega) gM gX]
      rw [h0, Nat.add_zero] at hsp
      exact hsp.symm
    · exact absurd h h2
    · have h0 := (kd3 (M := M) (X := X) hM (by omega) hX (by omega)).1 h
      have e : convS M X M' X' a = sgn M' X' (sg M X a) + inf M' X' := by unfold convS; rw [if_neg h4, if_pos h]
      rw [e, back_inf gM gX (by omega) (by omega), ← h0]; exact hsp.symm
    · exact absurd h h4
  unfold sqrtS
  rw [ka]
  by_cases h4 : kd M X a = 4
  · rw [if_neg (fun h => h.elim (fun h => by omega) (fun h => absurd h.1 (by omega))), if_pos (Or.inl h4), if_neg (fun h => h.elim (fun h => by omega) (fun h => absurd h.1 (by omega))), if_pos (Or.inl h4), back_nan gM gX (by omega) (by omega)]
  · rw [sa h4]
    by_cases h1 : kd M X a = 1 ∨ (kd M X a = 3 ∧ sg M X a = false)
    · rw [if_pos h1, if_pos h1]
      refine back h4 ?_
      rcases h1 with h | h
      · omega
      · have := h.1; omega
    · rw [if_neg h1, if_neg h1]
      by_cases h5 : kd M X a = 4 ∨ sg M X a = true
      · rw [if_pos h5, if_pos h5, back_nan gM gX (by omega) (by omega)]
      · rw [if_neg h5, if_neg h5]
        have hs : sg M X a = false := by
          cases hb : sg M X a
          · rfl
          · exact absurd (Or.inr hb) h5
        have hc : kd M X a = 2 := by
          rcases kd_cases M X a with h | h | h | h
          · exact absurd (Or.inl h) h1
          · exact h
          · exact absurd (Or.inr ⟨h, hs⟩) h1
          · exact absurd h h4
        rw [va (Or.inr hc)]
        exact wide_root hM hX gM gX w1 w2 (av_pos (M := M) (X := X) hM (by omega) hX (by omega) hc) (man_lt M (mg M X a)) rfl
end
end Go.Proofs.Ythkifpdachjlgaa.RS
