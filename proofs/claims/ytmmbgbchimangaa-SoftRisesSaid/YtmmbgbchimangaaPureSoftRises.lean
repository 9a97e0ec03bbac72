/- With a greater summand no sum is smaller: for every format and every three patterns; or a sum refuses. -/
import Derived.Test.YtmmbgbchimangaaPQx36
import Derived.Test.YtmmbgbchimangaaRC
import Derived.Test.YtmmbgbchimangaaPT1
import Derived.Test.YtmmbgbchimangaaLive03
namespace Go.Proofs.Ytmmbgbchimangaa.Pure
set_option linter.all false
open Go.RowKit Go.Proofs.Ytmmbgbchimangaa.PQ Go.Proofs.YtmmbgbchimangaaW.PrintWords Go.Proofs.YtmmbgbchimangaaW.PrintLast Go.Proofs.YtmmbgbchimangaaW.PrintMore
open FT RS
theorem plc_mk {M X y : Nat} {s : Bool} (hy : y < 2 ^ (M + X)) : plc M X (sgn M X s + y) = sv s y := by
  obtain ⟨h1, h2⟩ := sg_mk (M := M) (X := X) (neg := s) hy
  unfold plc; rw [h1, h2]
/-- a sum's place -/
def rnd (M X : Nat) (z : Int) : Int := sv (decide (z < 0)) (pat M (inf M X) z.natAbs 1)
theorem rnd_mono {M X : Nat} {x y : Int} (h : x ≤ y) : rnd M X x ≤ rnd M X y := by
  unfold rnd
  by_cases hx : x < 0
  · rw [decide_eq_true hx]
    by_cases hy : y < 0
    · rw [decide_eq_true hy]
      have := pat_mono (M := M) (I := inf M X) (n := y.natAbs) (n' := x.natAbs) (d := 1) (d' := 1) (by omega) (by omega) (by omega)
      unfold sv; rw [if_pos rfl, if_pos rfl]; omega
    · rw [decide_eq_false hy]
      unfold sv; rw [if_pos rfl, if_neg (by simp)]; omega
  · have hy : ¬ y < 0 := by omega
    rw [decide_eq_false hx, decide_eq_false hy]
    have := pat_mono (M := M) (I := inf M X) (n := x.natAbs) (n' := y.natAbs) (d := 1) (d' := 1) (by omega) (by omega) (by omega)
    unfold sv; rw [if_neg (by simp), if_neg (by simp)]; omega
theorem rnd_in (M X : Nat) (z : Int) : -(inf M X : Int) ≤ rnd M X z ∧ rnd M X z ≤ inf M X := by
  have := pat_le M X z.natAbs 1
  unfold rnd sv; split <;> omega
theorem plc_sum (M X : Nat) (z : Int) : plc M X (sumS M X z) = rnd M X z := by
  have h0 : sgn M X false = 0 := rfl
  have hv := pat_fits (M := M) (X := X) (y := 0) (Nat.zero_le _)
  rw [val_zero] at hv
  unfold sumS
  by_cases h : z = 0
  · have e := plc_mk (M := M) (X := X) (s := false) (y := 0) (two_pos _)
    rw [h0] at e
    rw [if_pos h, h]
    show plc M X (0 + 0) = _
    rw [e]
    unfold rnd
    rw [decide_eq_false (by omega), Int.natAbs_zero, hv]
  · rw [if_neg h, plc_mk (Nat.lt_of_le_of_lt (pat_le ..) inf_lt)]; rfl
section
variable {M X : Nat} (hM : 2 ≤ M) (hM' : M ≤ 52) (hX : 2 ≤ X) (hX' : X ≤ 11)
include hM hM' hX hX'
theorem nan_kd : kd M X (nanp M X) = 4 := by
  have hb := nan_bound hM hM' hX hX'
  have h0 : sgn M X false = 0 := rfl
  have := (sg_mk (M := M) (X := X) (neg := false) hb).2
  rw [h0, Nat.zero_add] at this
  rw [kd4 hM hM' hX hX']
  unfold nanp
  rw [this]
  have := two_pos (M - 1)
  omega
/-- a sum's place, of what is no NaN -/
theorem plc_add {a c : Nat} (h : kd M X (addS M X a c) ≠ 4) : kd M X a ≠ 4 ∧ kd M X c ≠ 4 ∧ (kd M X a = 3 → plc M X (addS M X a c) = sv (sg M X a) (inf M X)) ∧ (kd M X c = 3 → plc M X (addS M X a c) = sv (sg M X c) (inf M X)) ∧
    (kd M X a ≠ 3 → kd M X c ≠ 3 → plc M X (addS M X a c) = rnd M X (sv (sg M X a) (av M X a) + sv (sg M X c) (av M X c))) := by
  have hn := nan_kd hM hM' hX hX'
  have hil := inf_lt (M := M) (X := X)
  have e1 : ¬ (kd M X a = 4 ∨ kd M X c = 4) := fun h1 => h (by unfold addS; rw [if_pos h1]; exact hn)
  refine ⟨fun h1 => e1 (Or.inl h1), fun h1 => e1 (Or.inr h1), fun ha => ?_, fun hc => ?_, fun ha hc => ?_⟩
  · by_cases h2 : kd M X c = 3 ∧ sg M X a ≠ sg M X c
    · exact absurd (by unfold addS; rw [if_neg e1, if_pos ha, if_pos h2]; exact hn) h
    · unfold addS; rw [if_neg e1, if_pos ha, if_neg h2, plc_mk hil]
  · by_cases ha : kd M X a = 3
    · by_cases h2 : kd M X c = 3 ∧ sg M X a ≠ sg M X c
      · exact absurd (by unfold addS; rw [if_neg e1, if_pos ha, if_pos h2]; exact hn) h
      · have hs : sg M X a = sg M X c := Decidable.byContradiction fun h3 => h2 ⟨hc, h3⟩
        unfold addS; rw [if_neg e1, if_pos ha, if_neg h2, plc_mk hil, hs]
    · unfold addS; rw [if_neg e1, if_neg ha, if_pos hc, plc_mk hil]
  · unfold addS
    rw [if_neg e1, if_neg ha, if_neg hc]
    by_cases h1 : kd M X a = 1 ∧ kd M X c = 1
    · have e := plc_mk (M := M) (X := X) (s := sg M X a && sg M X c) (y := 0) (two_pos _)
      have z1 : ∀ s, sv s 0 = 0 := fun s => (sv_zero s).2 rfl
      have hv := pat_fits (M := M) (X := X) (y := 0) (Nat.zero_le _)
      rw [val_zero] at hv
      have hr : rnd M X (0 + 0) = 0 := by
        show sv (decide ((0 : Int) < 0)) (pat M (inf M X) 0 1) = 0
        rw [hv, z1]
      rw [if_pos h1, av_zero hM hM' hX hX' h1.1, av_zero hM hM' hX hX' h1.2, z1, z1, hr]
      rw [Nat.add_zero] at e
      rw [e, z1]
    · rw [if_neg h1, plc_sum]
theorem rises {a b c : Nat} (hx : kd M X (addS M X a c) ≠ 4) (hy : kd M X (addS M X b c) ≠ 4) (h : plc M X a ≤ plc M X b) : plc M X (addS M X a c) ≤ plc M X (addS M X b c) := by
  obtain ⟨na, nc, a3, ac3, af⟩ := plc_add hM hM' hX hX' hx
  obtain ⟨nb, _, b3, bc3, bf⟩ := plc_add hM hM' hX hX' hy
  by_cases kc : kd M X c = 3
  · rw [ac3 kc, bc3 kc]; exact Int.le_refl _
  · have pa : ∀ x, kd M X x = 3 → plc M X x = sv (sg M X x) (inf M X) := fun x h => by unfold plc; rw [(kd3 hM hM' hX hX').1 h]
    have pf : ∀ x, kd M X x ≠ 3 → kd M X x ≠ 4 → -(inf M X : Int) < plc M X x ∧ plc M X x < (inf M X : Int) := by
      intro x h3 h4
      have hinf := inf_pos hM hM' hX hX'
      have hm : mg M X x < inf M X := by
        rcases kd_cases M X x with h | h | h | h
        · rw [(kd1 hM hM' hX hX').1 h]; exact hinf
        · exact ((kd2 hM hM' hX hX').1 h).2
        · exact absurd h h3
        · exact absurd h h4
      unfold plc sv; split <;> omega
    by_cases ka : kd M X a = 3
    · by_cases kb : kd M X b = 3
      · rw [a3 ka, b3 kb, ← pa a ka, ← pa b kb]; exact h
      · have h1 := pf b kb nb
        have h2 := pa a ka
        have h3 := a3 ka
        rw [bf kb kc, h3]
        have h4 := rnd_in M X (sv (sg M X b) (av M X b) + sv (sg M X c) (av M X c))
        rw [← h2]; unfold sv at h2; split at h2 <;> omega
    · by_cases kb : kd M X b = 3
      · have h1 := pf a ka na
        have h2 := pa b kb
        have h3 := b3 kb
        rw [af ka kc, h3]
        have h4 := rnd_in M X (sv (sg M X a) (av M X a) + sv (sg M X c) (av M X c))
        rw [← h2]; unfold sv at h2; split at h2 <;> omega
      · rw [af ka kc, bf kb kc]
        refine rnd_mono (Int.add_le_add_right ?_ _)
        have h1 := sv_lt M (sg M X b) (sg M X a) (mg M X b) (mg M X a)
        exact Int.not_lt.1 fun h2 => Int.not_lt.2 h (h1.2 h2)
end
theorem SoftRises (a0_0 : Int) (a0_1 : Int) (a1 : Int) (a2 : Int) (a3 : Int) (_w0_0 : (Lit.int .i64 a0_0).wf = true) (_w0_1 : (Lit.int .i64 a0_1).wf = true) (w1 : (Lit.int .u64 a1).wf = true) (w2 : (Lit.int .u64 a2).wf = true) (w3 : (Lit.int .u64 a3).wf = true) : ∃ k, grottolaw03_SoftRises.f k a0_0 a0_1 a1 a2 a3 = some true := by
  obtain ⟨a, rfl, ha⟩ := wf_u64 w1
  obtain ⟨b, rfl, hb⟩ := wf_u64 w2
  obtain ⟨c, rfl, hc⟩ := wf_u64 w3
  clear w1 w2 w3 _w0_0 _w0_1
  refine ⟨5000, ?_⟩
  have hl : ∀ k, 4000 ≤ k → (grottolaw03_live.f k).bind (fun t => some t) = some true := by
    intro k hk; rw [live03_k (by omega)]; rfl
  unfold grottolaw03_SoftRises.f
  by_cases hg : RS.Good a0_0 a0_1 a ∧ RS.Good a0_0 a0_1 b ∧ RS.Good a0_0 a0_1 c
  · obtain ⟨M, X, rfl, rfl, hM, hM', hX, hX', pa⟩ := hg.1.nat
    obtain ⟨M2, X2, e1, e2, _, _, _, _, pb⟩ := hg.2.1.nat
    obtain rfl : M = M2 := by omega
    obtain rfl : X = X2 := by omega
    obtain ⟨M2, X2, e1, e2, _, _, _, _, pc⟩ := hg.2.2.nat
    obtain rfl : M = M2 := by omega
    obtain rfl : X = X2 := by omega
    have px := pt_add hM hM' hX hX' a c
    have py := pt_add hM hM' hX hX' b c
    have w00 : wrap64 (0 + 0) = 0 := by decide +kernel
    have hnn : addS M X a c = nanp M X ∨ addS M X b c = nanp M X → grottolaw03_SoftRises.j1 4999 ((addS M X a c : Nat) : Int) ((addS M X b c : Nat) : Int) (if kd M X a = 4 ∨ kd M X b = 4 then 0 else cmpI (plc M X a) (plc M X b)) true (M : Int) (X : Int) = some true := by
      intro h
      have hn : grottoref02_NaN.f 4998 (M : Int) (X : Int) = some ((nanp M X : Nat) : Int) := rnan_eq hM hM' hX hX' (by omega)
      rw [grottolaw03_SoftRises.j1.eq_2, if_pos rfl, hn, Option.bind_some, Option.bind_some]
      have hl := hl 4998 (by omega)
      rcases h with h | h
      · rw [if_pos (by rw [h])]; exact hl
      · rw [if_pos (show ((addS M X b c : Nat) : Int) = ((nanp M X : Nat) : Int) by rw [h]), hl, ite_self]
    have c1 := rcmp_eq hM hM' hX hX' (k := 5000) (by omega) pa pb
    obtain ⟨n2, c2⟩ : ∃ n, grottoref03_Cmp.f 5000 (M : Int) (X : Int) (c : Int) (c : Int) = some (n, !decide (kd M X c = 4), 0) := by
      rw [rcmp_eq hM hM' hX hX' (k := 5000) (by omega) pc pc]
      by_cases h : kd M X c = 4
      · rw [if_pos (Or.inl h), decide_eq_true h]; exact ⟨_, rfl⟩
      · rw [if_neg (fun h2 => h2.elim h h), decide_eq_false h]; exact ⟨_, rfl⟩
    have b00 : ((0 : Int) != 0) = false := by decide
    rw [add_eq hM hM' hX hX' (by omega) pa pc, Option.bind_some, add_eq hM hM' hX hX' (by omega) pb pc, Option.bind_some, c1, Option.bind_some, c2, Option.bind_some]
    clear c1 c2
    dsimp only
    rw [b00]
    by_cases hab : kd M X a = 4 ∨ kd M X b = 4
    · have hn : addS M X a c = nanp M X ∨ addS M X b c = nanp M X := by
        rcases hab with h | h
        · left; unfold addS; rw [if_pos (Or.inl h)]
        · right; unfold addS; rw [if_pos (Or.inl h)]
      have hnn := hnn hn
      rw [if_pos hab] at hnn
      rw [if_pos hab]
      dsimp only
      rw [if_pos rfl, grottolaw03_SoftRises.j0.eq_2, if_neg (by simp)]
      simp only [grottolaw03_num.f, Option.bind_some]
      rw [w00, if_pos rfl, if_neg (by simp)]
      exact hnn
    · rw [if_neg hab] at hnn
      rw [if_neg hab]
      dsimp only
      rw [if_pos rfl, grottolaw03_SoftRises.j0.eq_2, if_neg (by simp)]
      simp only [grottolaw03_num.f, Option.bind_some, if_true, w00]
      by_cases hcn : kd M X c = 4
      · rw [decide_eq_true hcn]
        exact hnn (Or.inl (by unfold addS; rw [if_pos (Or.inr hcn)]))
      · rw [decide_eq_false hcn]
        show grottolaw03_SoftRises.j1 4999 _ _ _ false _ _ = _
        rw [grottolaw03_SoftRises.j1.eq_2, if_neg (by simp), cmp_f hM hM' hX hX' (by omega) px py, Option.bind_some]
        have hl := hl 4998 (by omega)
        simp only [hl]
        by_cases hxy : kd M X (addS M X a c) = 4 ∨ kd M X (addS M X b c) = 4
        · rw [if_pos hxy]; rfl
        · rw [if_neg hxy]
          have nx : kd M X (addS M X a c) ≠ 4 := fun h => hxy (Or.inl h)
          have ny : kd M X (addS M X b c) ≠ 4 := fun h => hxy (Or.inr h)
          have r1 := rises hM hM' hX hX' nx ny
          have r2 := rises hM hM' hX hX' ny nx
          generalize plc M X (addS M X a c) = x at *
          generalize plc M X (addS M X b c) = y at *
          generalize plc M X a = A at *
          generalize plc M X b = B at *
          dsimp only
          rw [if_pos rfl]
          unfold cmpI
          rcases Int.lt_trichotomy A B with h | h | h
          · have h1 := r1 (by omega)
            rw [if_pos h]
            by_cases h2 : x < y
            · rw [if_pos h2]; rfl
            · have e2 : (if x < y then (-1 : Int) else if y < x then 1 else 0) = 0 := by rw [if_neg (by omega), if_neg (by omega)]
              rw [e2]; rfl
          · have h1 := r1 (by omega)
            have h2 := r2 (by omega)
            have e1 : (if A < B then (-1 : Int) else if B < A then 1 else 0) = 0 := by rw [if_neg (by omega), if_neg (by omega)]
            have e2 : (if x < y then (-1 : Int) else if y < x then 1 else 0) = 0 := by rw [if_neg (by omega), if_neg (by omega)]
            rw [e1, e2]; rfl
          · have h1 := r2 (by omega)
            have e1 : (if A < B then (-1 : Int) else if B < A then 1 else 0) = 1 := by rw [if_neg (by omega), if_pos h]
            rw [e1]
            by_cases h2 : y < x
            · have e2 : (if x < y then (-1 : Int) else if y < x then 1 else 0) = 1 := by rw [if_neg (by omega), if_pos h2]
              rw [e2]; rfl
            · have e2 : (if x < y then (-1 : Int) else if y < x then 1 else 0) = 0 := by rw [if_neg (by omega), if_neg (by omega)]
              rw [e2]; rfl
  · have hl := hl 4999 (by omega)
    have key : ∀ x9 x10 x11 x12 x13 x14 x17, x10 = 1 ∨ x12 = 1 → grottolaw03_SoftRises.j0 5000 x9 x10 x11 x12 x13 x14 x17 true a0_0 a0_1 = some true := by
      intro x9 x10 x11 x12 x13 x14 x17 h
      rw [grottolaw03_SoftRises.j0.eq_2, if_pos rfl]
      simp only [grottolaw03_num.f, Option.bind_some, hl]
      rcases h with h | h
      · rw [if_pos h]
      · rw [if_pos h, ite_self]
    have s1 : ∃ x e, soft_Add.f 5000 a0_0 a0_1 (a : Int) (c : Int) = some (x, e) ∧ (¬ (RS.Good a0_0 a0_1 a ∧ RS.Good a0_0 a0_1 c) → e = 1) := by
      by_cases h : RS.Good a0_0 a0_1 a ∧ RS.Good a0_0 a0_1 c
      · obtain ⟨M, X, rfl, rfl, hM, hM', hX, hX', pa⟩ := h.1.nat
        obtain ⟨M2, X2, e1, e2, _, _, _, _, pc⟩ := h.2.nat
        obtain rfl : M = M2 := by omega
        obtain rfl : X = X2 := by omega
        exact ⟨_, _, add_eq hM hM' hX hX' (by omega) pa pc, fun h2 => absurd h h2⟩
      · exact ⟨_, _, add_ng (by omega) ha hc h, fun _ => rfl⟩
    have s2 : ∃ x e, soft_Add.f 5000 a0_0 a0_1 (b : Int) (c : Int) = some (x, e) ∧ (¬ (RS.Good a0_0 a0_1 b ∧ RS.Good a0_0 a0_1 c) → e = 1) := by
      by_cases h : RS.Good a0_0 a0_1 b ∧ RS.Good a0_0 a0_1 c
      · obtain ⟨M, X, rfl, rfl, hM, hM', hX, hX', pa⟩ := h.1.nat
        obtain ⟨M2, X2, e1, e2, _, _, _, _, pc⟩ := h.2.nat
        obtain rfl : M = M2 := by omega
        obtain rfl : X = X2 := by omega
        exact ⟨_, _, add_eq hM hM' hX hX' (by omega) pa pc, fun h2 => absurd h h2⟩
      · exact ⟨_, _, add_ng (by omega) hb hc h, fun _ => rfl⟩
    obtain ⟨x, e, f1, v1⟩ := s1
    obtain ⟨y, g, f2, v2⟩ := s2
    have hor : e = 1 ∨ g = 1 := by
      by_cases h1 : RS.Good a0_0 a0_1 a ∧ RS.Good a0_0 a0_1 c
      · exact Or.inr (v2 fun h2 => hg ⟨h1.1, h2.1, h1.2⟩)
      · exact Or.inl (v1 h1)
    rw [f1, Option.bind_some, f2, Option.bind_some]
    dsimp only
    have cc : ∀ {u v : Nat}, u < 18446744073709551616 → v < 18446744073709551616 → ∃ n o t, grottoref03_Cmp.f 5000 a0_0 a0_1 (u : Int) (v : Int) = some (n, o, t) ∧ ((RS.Good a0_0 a0_1 u ∧ RS.Good a0_0 a0_1 v) → t = 0) ∧ (¬ (RS.Good a0_0 a0_1 u ∧ RS.Good a0_0 a0_1 v) → t = 1) := by
      intro u v hu hv
      by_cases h : RS.Good a0_0 a0_1 u ∧ RS.Good a0_0 a0_1 v
      · obtain ⟨M, X, rfl, rfl, hM, hM', hX, hX', pa⟩ := h.1.nat
        obtain ⟨M2, X2, e1, e2, _, _, _, _, pc⟩ := h.2.nat
        obtain rfl : M = M2 := by omega
        obtain rfl : X = X2 := by omega
        rw [rcmp_eq hM hM' hX hX' (by omega) pa pc]
        split <;> exact ⟨_, _, _, rfl, fun _ => rfl, fun h2 => absurd h h2⟩
      · exact ⟨_, _, _, rcmp_ng (by omega) hu hv h, fun h2 => absurd h2 h, fun _ => rfl⟩
    obtain ⟨n1, o1, t1, g1, p1, q1⟩ := cc ha hb
    obtain ⟨n2, o2, t2, g2, p2, q2⟩ := cc hc hc
    rw [g1, Option.bind_some, g2, Option.bind_some]
    dsimp only
    by_cases h1 : RS.Good a0_0 a0_1 a ∧ RS.Good a0_0 a0_1 b
    · have h2 : ¬ (RS.Good a0_0 a0_1 c ∧ RS.Good a0_0 a0_1 c) := fun h => hg ⟨h1.1, h1.2, h.1⟩
      rw [p1 h1, if_pos rfl, q2 h2]
      exact key _ _ _ _ _ _ _ hor
    · rw [q1 h1, if_neg (by decide)]
      exact key _ _ _ _ _ _ _ hor
end Go.Proofs.Ytmmbgbchimangaa.Pure
