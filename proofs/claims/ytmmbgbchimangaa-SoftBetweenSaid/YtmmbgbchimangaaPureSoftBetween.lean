/- A number lies between its whole numbers, which differ by 1 or not at all: for every format whose bias is above Mant, and every pattern. -/
import Derived.Test.YtmmbgbchimangaaPQx38
import Derived.Test.YtmmbgbchimangaaRN3
import Derived.Test.YtmmbgbchimangaaRN6
import Derived.Test.YtmmbgbchimangaaSC
import Derived.Test.YtmmbgbchimangaaSW
import Derived.Test.YtmmbgbchimangaaPT
import Derived.Test.YtmmbgbchimangaaLive03
namespace Go.Proofs.Ytmmbgbchimangaa.Pure
set_option linter.all false
open Go.RowKit Go.Proofs.Ytmmbgbchimangaa.PQ Go.Proofs.YtmmbgbchimangaaW.PrintWords Go.Proofs.YtmmbgbchimangaaW.PrintLast Go.Proofs.YtmmbgbchimangaaW.PrintMore
open FT RS
theorem val_inf' {M X : Nat} (hX : 2 ≤ X) : val M (inf M X) = 2 ^ (M + 2 ^ X - 2) := by
  have h4 : 4 ≤ 2 ^ X := Nat.pow_le_pow_right (n := 2) (by omega) hX
  have e : inf M X = (2 ^ X - 3) * 2 ^ M + 2 ^ (M + 1) := by
    unfold inf
    rw [Nat.pow_succ, Nat.mul_comm (2 ^ M) 2, ← Nat.add_mul]; congr 1; omega
  rw [e, val_at (Nat.le_refl _) (Or.inr (Nat.pow_le_pow_right (by omega) (by omega))), ← Nat.pow_add]
  congr 1; omega
theorem plc_mk {M X y : Nat} {s : Bool} (hy : y < 2 ^ (M + X)) : plc M X (sgn M X s + y) = sv s y := by
  obtain ⟨h1, h2⟩ := sg_mk (M := M) (X := X) (neg := s) hy
  unfold plc; rw [h1, h2]
theorem val_le {M p q : Nat} (h : val M p ≤ val M q) : p ≤ q := Nat.le_of_not_lt fun h2 => absurd (val_lt (M := M) h2) (Nat.not_lt.2 h)
theorem cmp_le {x y : Int} : cmpI x y ≤ 0 ↔ x ≤ y := by
  unfold cmpI
  by_cases h1 : x < y
  · rw [if_pos h1]; omega
  · rw [if_neg h1]
    by_cases h2 : y < x
    · rw [if_pos h2]; omega
    · rw [if_neg h2]; omega
theorem sv_up {a b : Nat} (h : a ≤ b) : sv false a ≤ sv false b := by unfold sv; simp; exact h
theorem sv_down {a b : Nat} (h : a ≤ b) : sv true b ≤ sv true a := by unfold sv; simp; exact h
theorem cmp_self (x : Int) : cmpI x x = 0 := by unfold cmpI; rw [if_neg (by omega), if_neg (by omega)]
section
variable {M X : Nat} (hM : 2 ≤ M) (hM' : M ≤ 52) (hX : 2 ≤ X) (hX' : X ≤ 11)
include hM hM' hX hX'
theorem whole_pat (hB : M < 2 ^ (X - 1) - 1) {n : Nat} (hn : n ≤ 2 ^ (M + 1)) : npat M X n 1 (0 - least M X) < inf M X ∧ val M (npat M X n 1 (0 - least M X)) = n * unit M X := by
  obtain ⟨l1, l2, l3⟩ := least_bounds hM hM' hX hX'
  rw [npat_whole hM hM' hX hX']
  have hv : val M (raw M (n * unit M X) 1) = n * unit M X := val_raw_fits (fits_mul (fits_small hn))
  have h2X : 2 ^ X = 2 * 2 ^ (X - 1) := by rw [← Nat.pow_succ']; congr 1; omega
  have hlt : raw M (n * unit M X) 1 < inf M X := by
    refine Nat.lt_of_not_le fun hge => ?_
    have h3 := val_mono (M := M) hge
    rw [hv, val_inf' hX] at h3
    have h4 : n * unit M X ≤ 2 ^ (M + 1) * unit M X := Nat.mul_le_mul_right _ hn
    unfold unit at h4 h3
    rw [← Nat.pow_add] at h4
    have h5 := (Nat.pow_le_pow_iff_right (a := 2) (by omega)).1 (Nat.le_trans h3 h4)
    omega
  unfold pat
  rw [Nat.min_eq_right (Nat.le_of_lt hlt)]
  exact ⟨hlt, hv⟩
theorem step_exact {a : Nat} (ha : Pt M X a) (h2 : kd M X a = 2) (hr : av M X a % unit M X = 0) (up : Bool) : stepS M X a up = a := by
  have hle := ((kd2 hM hM' hX hX').1 h2).2
  unfold stepS
  rw [if_neg (by omega), if_pos h2, if_neg (fun h => h.1 hr), Nat.add_zero, npat_whole hM hM' hX hX', Nat.div_mul_cancel (Nat.dvd_of_mod_eq_zero hr)]
  unfold av
  rw [pat_fits (by omega)]
  exact (pt_split ha).symm
/-- a whole number's pattern is its own whole number -/
theorem whole_kd (hB : M < 2 ^ (X - 1) - 1) (s : Bool) {n : Nat} (hn : n ≤ 2 ^ (M + 1)) : ∃ z, z = sgn M X s + npat M X n 1 (0 - least M X) ∧ Pt M X z ∧ sg M X z = s ∧ av M X z = n * unit M X ∧ plc M X z = sv s (npat M X n 1 (0 - least M X)) ∧
    (n = 0 → kd M X z = 1) ∧ (n ≠ 0 → kd M X z = 2) ∧ ∀ up, stepS M X z up = z := by
  obtain ⟨h1, h2⟩ := whole_pat hM hM' hX hX' hB hn
  have hlt := Nat.lt_trans h1 (inf_lt (M := M) (X := X))
  obtain ⟨s1, s2⟩ := sg_mk (M := M) (X := X) (neg := s) hlt
  have hpt := pt_mk (M := M) (X := X) (neg := s) hlt
  have hav : av M X (sgn M X s + npat M X n 1 (0 - least M X)) = n * unit M X := by unfold av; rw [s2, h2]
  have hU : 0 < unit M X := two_pos _
  have k1 : n = 0 → kd M X (sgn M X s + npat M X n 1 (0 - least M X)) = 1 := by
    intro h
    rw [kd1 hM hM' hX hX', s2]
    refine Nat.eq_zero_of_le_zero (val_le (M := M) ?_)
    rw [h2, h, val_zero]; omega
  have k2 : n ≠ 0 → kd M X (sgn M X s + npat M X n 1 (0 - least M X)) = 2 := by
    intro h
    rw [kd2 hM hM' hX hX', s2]
    refine ⟨Nat.pos_of_ne_zero fun h3 => ?_, h1⟩
    rw [h3, val_zero] at h2
    have := Nat.mul_pos (Nat.pos_of_ne_zero h) hU
    omega
  refine ⟨_, rfl, hpt, s1, hav, plc_mk hlt, k1, k2, fun up => ?_⟩
  by_cases h : n = 0
  · have := k1 h
    unfold stepS
    rw [if_neg (by omega), if_neg (by omega)]
  · exact step_exact hM hM' hX hX' hpt (k2 h) (by rw [hav]; exact Nat.mul_mod_left _ _) up
theorem between_law (hB : M < 2 ^ (X - 1) - 1) {a : Nat} (ha : Pt M X a) (h4 : kd M X a ≠ 4) : Pt M X (stepS M X a false) ∧ Pt M X (stepS M X a true) ∧ plc M X (stepS M X a false) ≤ plc M X a ∧ plc M X a ≤ plc M X (stepS M X a true) ∧
    stepS M X (stepS M X a false) false = stepS M X a false ∧ stepS M X (stepS M X a true) true = stepS M X a true ∧
    ((stepS M X a false = stepS M X a true ∧ stepS M X a false = a) ∨ plc M X (addS M X (stepS M X a false) (sgn M X false + npat M X 1 1 (0 - least M X))) = plc M X (stepS M X a true)) := by
  have same : (∀ up, stepS M X a up = a) → Pt M X (stepS M X a false) ∧ Pt M X (stepS M X a true) ∧ plc M X (stepS M X a false) ≤ plc M X a ∧ plc M X a ≤ plc M X (stepS M X a true) ∧
    stepS M X (stepS M X a false) false = stepS M X a false ∧ stepS M X (stepS M X a true) true = stepS M X a true ∧
    ((stepS M X a false = stepS M X a true ∧ stepS M X a false = a) ∨ plc M X (addS M X (stepS M X a false) (sgn M X false + npat M X 1 1 (0 - least M X))) = plc M X (stepS M X a true)) := by
    intro h
    rw [h, h]
    exact ⟨ha, ha, Int.le_refl _, Int.le_refl _, h _, h _, Or.inl ⟨rfl, rfl⟩⟩
  by_cases h2 : kd M X a = 2
  · by_cases hr : av M X a % unit M X = 0
    · exact same fun up => step_exact hM hM' hX hX' ha h2 hr up
    · obtain ⟨a1, a2, a3, a4, a5⟩ := fin_form hM hM' hX hX' h2
      have hU : 0 < unit M X := two_pos _
      have hsh : sh M (mg M X a) ≤ (-(least M X)).toNat := by
        refine Nat.le_of_not_lt fun h => hr ?_
        rw [a5]
        unfold unit
        exact Nat.mod_eq_zero_of_dvd (Nat.dvd_trans (Nat.pow_dvd_pow 2 (Nat.le_of_lt h)) (Nat.dvd_mul_left _ _))
      have hq : av M X a / unit M X < 2 ^ (M + 1) := by
        rw [Nat.div_lt_iff_lt_mul hU, a5]
        exact Nat.lt_of_lt_of_le (Nat.mul_lt_mul_of_pos_right a2 (two_pos _)) (Nat.mul_le_mul_left _ (Nat.pow_le_pow_right (by omega) hsh))
      have hdm := Nat.div_add_mod (av M X a) (unit M X)
      have hml := Nat.mod_lt (av M X a) hU
      have ef : ∀ up, stepS M X a up = sgn M X (sg M X a) + npat M X (av M X a / unit M X + (if sg M X a ≠ up then 1 else 0)) 1 (0 - least M X) := by
        intro up
        unfold stepS
        rw [if_neg h4, if_pos h2]
        have : (av M X a % unit M X ≠ 0 ∧ sg M X a ≠ up) = (sg M X a ≠ up) := by simp [hr]
        simp only [this]
      have hpa : plc M X a = sv (sg M X a) (mg M X a) := rfl
      have hva : val M (mg M X a) = av M X a := rfl
      obtain ⟨o, ho, opt, osg, oav, opl, _, okd, _⟩ := whole_kd hM hM' hX hX' hB false (n := 1) (by have := two_pos (M + 1); omega)
      have okd := okd (by omega)
      rw [ef, ef, hpa, ← ho]
      generalize sg M X a = s at *
      generalize hQ : av M X a / unit M X = q at *
      generalize av M X a = V at *
      generalize mg M X a = y at *
      rw [Nat.mul_comm] at hdm
      have hq1 : (q + 1) * unit M X = q * unit M X + unit M X := by rw [Nat.add_mul, Nat.one_mul]
      obtain ⟨z0, e0, p0, g0, v0, l0, k01, k02, w0⟩ := whole_kd hM hM' hX hX' hB s (n := q) (by omega)
      obtain ⟨z1, e1, p1, g1, v1, l1, k11, k12, w1⟩ := whole_kd hM hM' hX hX' hB s (n := q + 1) (by omega)
      obtain ⟨i0, u0⟩ := whole_pat hM hM' hX hX' hB (n := q) (by omega)
      obtain ⟨i1, u1⟩ := whole_pat hM hM' hX hX' hB (n := q + 1) (by omega)
      have le0 : npat M X q 1 (0 - least M X) ≤ y := val_le (M := M) (by rw [u0, hva]; omega)
      have le1 : y ≤ npat M X (q + 1) 1 (0 - least M X) := val_le (M := M) (by rw [u1, hva, hq1]; omega)
      have np : ∀ n, n ≤ 2 ^ (M + 1) → pat M (inf M X) (n * unit M X) 1 = npat M X n 1 (0 - least M X) := fun n _ => (npat_whole hM hM' hX hX').symm
      cases hs : s
      · subst hs
        have t0 : q + (if false ≠ false then 1 else 0) = q := by simp
        have t1 : q + (if false ≠ true then 1 else 0) = q + 1 := by simp
        rw [t0, t1, ← e0, ← e1, l0, l1]
        have add : addS M X z0 o = z1 := by
          have nn : ¬ (kd M X z0 = 4 ∨ kd M X o = 4) ∧ ¬ kd M X z0 = 3 ∧ ¬ kd M X o = 3 ∧ ¬ (kd M X z0 = 1 ∧ kd M X o = 1) := by
            by_cases h : q = 0
            · have := k01 h; omega
            · have := k02 h; omega
          unfold addS
          rw [if_neg nn.1, if_neg nn.2.1, if_neg nn.2.2.1, if_neg nn.2.2.2, g0, osg, sv_add_same, v0, oav, Nat.one_mul, ← hq1, sumS_sv _ (by omega), np _ (by omega), e1]
        refine ⟨p0, p1, ?_, ?_, w0 _, w1 _, Or.inr ?_⟩
        · exact sv_up le0
        · exact sv_up le1
        · rw [add, l1]
      · subst hs
        have t0 : q + (if true ≠ false then 1 else 0) = q + 1 := by simp
        have t1 : q + (if true ≠ true then 1 else 0) = q := by simp
        rw [t0, t1, ← e0, ← e1, l0, l1]
        have add : plc M X (addS M X z1 o) = sv true (npat M X q 1 (0 - least M X)) := by
          have nn : ¬ (kd M X z1 = 4 ∨ kd M X o = 4) ∧ ¬ kd M X z1 = 3 ∧ ¬ kd M X o = 3 ∧ ¬ (kd M X z1 = 1 ∧ kd M X o = 1) := by
            have := k12 (by omega); omega
          have hsum : sv true ((q + 1) * unit M X) + sv false (1 * unit M X) = sv true (q * unit M X) := by
            rw [hq1, Nat.one_mul]; unfold sv; simp; omega
          unfold addS
          rw [if_neg nn.1, if_neg nn.2.1, if_neg nn.2.2.1, if_neg nn.2.2.2, g1, osg, v1, oav, hsum]
          by_cases h : q = 0
          · have hz : sumS M X (sv true (q * unit M X)) = sgn M X false + 0 := by rw [h, Nat.zero_mul]; rfl
            have hz2 : npat M X q 1 (0 - least M X) = 0 := by
              have h0 := pat_fits (M := M) (X := X) (y := 0) (Nat.zero_le _)
              rw [val_zero] at h0
              rw [h, ← np 0 (by omega), Nat.zero_mul, h0]
            rw [hz, hz2, plc_mk (two_pos _)]; rfl
          · rw [sumS_sv _ (by have := Nat.mul_pos (Nat.pos_of_ne_zero h) hU; omega), np _ (by omega), ← e0, l0]
        refine ⟨p1, p0, ?_, ?_, w1 _, w0 _, Or.inr add⟩
        · exact sv_down le1
        · exact sv_down le0
  · exact same fun up => by unfold stepS; rw [if_neg h4, if_neg h2]
/-- a comparison's number -/
theorem cmp_num {k : Nat} (hk : 20 ≤ k) {a b : Nat} (ha : Pt M X a) (hb : Pt M X b) : ∃ c o, soft_Cmp.f k (M : Int) (X : Int) (a : Int) (b : Int) = some (c, o, 0) ∧ (c = 0 ∨ c = cmpI (plc M X a) (plc M X b)) := by
  rw [cmp_f hM hM' hX hX' hk ha hb]
  split
  · exact ⟨_, _, rfl, Or.inl rfl⟩
  · exact ⟨_, _, rfl, Or.inr rfl⟩
end
theorem SoftBetween (a0_0 : Int) (a0_1 : Int) (a1 : Int) (_w0_0 : (Lit.int .i64 a0_0).wf = true) (_w0_1 : (Lit.int .i64 a0_1).wf = true) (w1 : (Lit.int .u64 a1).wf = true) : ∃ k, grottolaw03_SoftBetween.f k a0_0 a0_1 a1 = some true := by
  obtain ⟨a, rfl, ha⟩ := wf_u64 w1
  clear w1 _w0_0 _w0_1
  refine ⟨501000, ?_⟩
  have hl : ∀ k, 500000 ≤ k → (grottolaw03_live.f k).bind (fun t => some t) = some true := by
    intro k hk; rw [live03_k (by omega)]; rfl
  have hj : ∀ x y, grottolaw03_SoftBetween.j0 501000 (a : Int) true x y = some true := by
    intro x y; rw [grottolaw03_SoftBetween.j0.eq_2, if_pos rfl]; exact hl _ (by omega)
  unfold grottolaw03_SoftBetween.f
  by_cases hg : RS.Good a0_0 a0_1 a
  · obtain ⟨M, X, rfl, rfl, hM, hM', hX, hX', pa⟩ := hg.nat
    rw [rcheck_ok hM hM' hX hX', Option.bind_some, if_pos rfl, rbias_eq hM hM' hX hX' (by omega), Option.bind_some]
    by_cases hB : 2 ^ (X - 1) - 1 ≤ M
    · rw [decide_eq_true (by omega)]; exact hj _ _
    · have op : grottoref02_Open.f 500999 (M : Int) (X : Int) (a : Int) = some (((kd M X a : Nat) : Int), sg M X a, ex M X a, ((mt M X a : Nat) : Int), 0) := ropen_ok hM hM' hX hX' (by omega) pa
      rw [decide_eq_false (by omega), grottolaw03_SoftBetween.j0.eq_2, if_neg (by simp), op, Option.bind_some, floor_eq hM hM' hX hX' (by omega) pa, Option.bind_some, ceil_eq hM hM' hX hX' (by omega) pa, Option.bind_some]
      dsimp only
      rw [if_pos rfl]
      by_cases h4 : kd M X a = 4
      · have e4 : ∀ up, stepS M X a up = inf M X + 2 ^ (M - 1) := fun up => by unfold stepS; rw [if_pos h4]; rfl
        have w00 : wrap64 (0 + 0) = 0 := by decide +kernel
        simp only [grottolaw03_num.f, Option.bind_some]
        rw [if_pos (by rw [h4]; rfl), rnan_eq hM hM' hX hX' (by omega), Option.bind_some, e4, e4, if_pos rfl, if_pos rfl, w00, if_pos rfl]
        exact hl _ (by omega)
      · obtain ⟨px, py, b1, b2, b3, b4, b5⟩ := between_law hM hM' hX hX' (Nat.lt_of_not_le hB) pa h4
        have z0 : ((0 : Nat) : Int) = 0 := rfl
        have z1 : ((1 : Nat) : Int) = 1 := rfl
        have hf : sgn M X false = 0 := rfl
        have one := rpack_ok hM hM' hX hX' (k := 500999) (by omega) false (hi := 0) (lo := 1) (by omega) (by omega) (e := 0) (by omega) (by omega) false (by intro h; cases h)
        have hone : npat M X (2 * (0 * 18446744073709551616 + 1) + (if false = true then 1 else 0)) 1 (0 - 1 - least M X) = npat M X 1 1 (0 - least M X) := by
          have := npat_units (M := M) (X := X) (n := 1) (s := (-(least M X)).toNat)
          obtain ⟨l1, l2, l3⟩ := least_bounds hM hM' hX hX'
          have e : least M X + (((-(least M X)).toNat : Nat) : Int) = 0 := by omega
          rw [e] at this
          rw [npat_whole hM hM' hX hX']
          exact this
        rw [z0, z1, hone] at one
        obtain ⟨c1, o1, f1, v1⟩ := cmp_num hM hM' hX hX' (k := 500999) (by omega) px pa
        obtain ⟨c2, o2, f2, v2⟩ := cmp_num hM hM' hX hX' (k := 500999) (by omega) pa py
        have p1 : Pt M X (sgn M X false + npat M X 1 1 (0 - least M X)) := pt_npat _ _ _ _
        have pu := pt_add hM hM' hX hX' (stepS M X a false) (sgn M X false + npat M X 1 1 (0 - least M X))
        have g1 : c1 ≤ 0 := v1.elim (fun h => by omega) (fun h => by rw [h]; exact cmp_le.2 b1)
        have g2 : c2 ≤ 0 := v2.elim (fun h => by omega) (fun h => by rw [h]; exact cmp_le.2 b2)
        have w0 : wrap64 (wrap64 (wrap64 (wrap64 (wrap64 (wrap64 (0 + 0) + 0) + 0) + 0) + 0) + 0) = 0 := by decide +kernel
        rw [if_neg (by omega), f1, Option.bind_some, f2, Option.bind_some, floor_eq hM hM' hX hX' (by omega) px, Option.bind_some, ceil_eq hM hM' hX hX' (by omega) py, Option.bind_some, one, Option.bind_some]
        dsimp only
        rw [add_eq hM hM' hX hX' (by omega) px p1, Option.bind_some]
        simp only [grottolaw03_num.f, Option.bind_some]
        rw [w0, if_pos rfl, if_neg (by omega), if_neg (by omega), b3, if_pos rfl, b4, bne_self_eq_false, grottolaw03_SoftBetween.j1.eq_2, if_neg (by simp)]
        obtain ⟨c3, o3, f3, v3⟩ := cmp_num hM hM' hX hX' (k := 500998) (by omega) pu py
        rw [f3, Option.bind_some]
        dsimp only
        rcases b5 with ⟨h1, h2⟩ | h
        · rw [if_pos (by rw [h1]), if_pos (by rw [h2])]; exact hl _ (by omega)
        · have g3 : c3 = 0 := v3.elim id (fun h2 => by rw [h2, h, cmp_self])
          have := hl 500998 (by omega)
          rw [g3]
          simp only [if_true, this, ite_self]
  · have hob : ¬ Ok a0_0 a0_1 ∨ 1 + a0_1 + a0_0 < (blen a : Int) := by
      by_cases h : Ok a0_0 a0_1
      · exact Or.inr (Int.not_le.1 fun h2 => hg ⟨h, h2⟩)
      · exact Or.inl h
    have hng : grottolaw03_SoftBetween.j0 501000 (a : Int) false a0_0 a0_1 = some true := by
      rw [grottolaw03_SoftBetween.j0.eq_2, if_neg (by simp), ropen_bad (by omega) ha hob, Option.bind_some, floor_ng (by omega) ha hg, Option.bind_some, ceil_ng (by omega) ha hg, Option.bind_some]
      dsimp only
      simp only [grottolaw03_num.f, Option.bind_some, if_true]
      rw [if_neg (by decide)]
      exact hl _ (by omega)
    by_cases h : Ok a0_0 a0_1
    · obtain ⟨M, X, rfl, rfl, hM, hM', hX, hX'⟩ := h.nat
      rw [rcheck_ok hM hM' hX hX', Option.bind_some, if_pos rfl, rbias_eq hM hM' hX hX' (by omega), Option.bind_some]
      by_cases hB : 2 ^ (X - 1) - 1 ≤ M
      · rw [decide_eq_true (by omega)]; exact hj _ _
      · rw [decide_eq_false (by omega)]; exact hng
    · rw [rcheck_bad h, Option.bind_some, if_neg (by decide)]; exact hng
end Go.Proofs.Ytmmbgbchimangaa.Pure
