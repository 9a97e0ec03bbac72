/- Of two doubles just one of below, above, and neither holds; of what is no number none; a greater tolerance holds where a smaller one does: for every two doubles and every two tolerances. -/
import Derived.Test.YthkifpdachjlgaaPQx32
import Derived.Test.YthkifpdachjlgaaRH2
import Derived.Test.YthkifpdachjlgaaLive04
namespace Go.Proofs.Ythkifpdachjlgaa.Pure
set_option linter.all false
open Go.RowKit Go.Proofs.Ythkifpdachjlgaa.PQ Go.Proofs.YthkifpdachjlgaaW.PrintWords Go.Proofs.YthkifpdachjlgaaW.PrintLast Go.Proofs.YthkifpdachjlgaaW.PrintMore
open FT RS
theorem RealsOrder (a0 : Int) (a1 : Int) (a2 : Int) (a3 : Int) (w0 : (Lit.int .u64 a0).wf = true) (w1 : (Lit.int .u64 a1).wf = true) (w2 : (Lit.int .u64 a2).wf = true) (w3 : (Lit.int .u64 a3).wf = true) : ∃ k, grottolaw04_RealsOrder.f k a0 a1 a2 a3 = some true := by
  obtain ⟨a, rfl, ha⟩ := wf_u64 w0
  obtain ⟨b, rfl, hb⟩ := wf_u64 w1
  obtain ⟨t, rfl, ht⟩ := wf_u64 w2
  obtain ⟨m, rfl, hm⟩ := wf_u64 w3
  clear w0 w1 w2 w3
  refine ⟨208, ?_⟩
  have lv : ∀ {k : Nat}, 100 ≤ k → grottolaw04_live.f k = some true := live04_k
  have h0 : (0 : Nat) < 18446744073709551616 := by omega
  have H := fun {k c a b t : Nat} (hk : 60 ≤ k) (hc : 1 ≤ c ∧ c ≤ 7) (ha : a < 18446744073709551616) (hb : b < 18446744073709551616) (ht : t < 18446744073709551616) => dholds_eq hk hc ha hb ht
  have H3 : reals_DoubleHolds.f 208 3 (a : Int) (b : Int) (t : Int) = some (holdS 3 a b t) := H (c := 3) (by omega) (by omega) ha hb ht
  have H5 : reals_DoubleHolds.f 208 5 (a : Int) (b : Int) (t : Int) = some (holdS 5 a b t) := H (c := 5) (by omega) (by omega) ha hb ht
  have H4 : reals_DoubleHolds.f 208 4 (a : Int) (b : Int) (t : Int) = some (holdS 4 a b t) := H (c := 4) (by omega) (by omega) ha hb ht
  have H6 : reals_DoubleHolds.f 208 6 (a : Int) (b : Int) (t : Int) = some (holdS 6 a b t) := H (c := 6) (by omega) (by omega) ha hb ht
  have H1 : reals_DoubleHolds.f 208 1 (a : Int) (b : Int) (t : Int) = some (nearS 52 11 a b t) := H (c := 1) (by omega) (by omega) ha hb ht
  have H2 : reals_DoubleHolds.f 208 2 (a : Int) (b : Int) (t : Int) = some (!nearS 52 11 a b t) := H (c := 2) (by omega) (by omega) ha hb ht
  have H1' : reals_DoubleHolds.f 208 1 (b : Int) (a : Int) (t : Int) = some (nearS 52 11 b a t) := H (c := 1) (by omega) (by omega) hb ha ht
  have H7a : reals_DoubleHolds.f 207 7 (a : Int) 0 0 = some (decide (kd 52 11 a = 4)) := H (c := 7) (b := 0) (t := 0) (by omega) (by omega) ha h0 h0
  have H7b : reals_DoubleHolds.f 207 7 (b : Int) 0 0 = some (decide (kd 52 11 b = 4)) := H (c := 7) (b := 0) (t := 0) (by omega) (by omega) hb h0 h0
  have H10 : reals_DoubleHolds.f 202 1 (a : Int) (b : Int) 0 = some (nearS 52 11 a b 0) := H (c := 1) (t := 0) (by omega) (by omega) ha hb h0
  have ml : ∀ x, mg 52 11 x < 18446744073709551616 := fun x => pt_d.1 (pt_low 52 11 x)
  have Hm : reals_DoubleHolds.f 201 4 ((mg 52 11 t : Nat) : Int) ((mg 52 11 m : Nat) : Int) 0 = some (holdS 4 (mg 52 11 t) (mg 52 11 m) 0) := H (c := 4) (t := 0) (by omega) (by omega) (ml t) (ml m) h0
  have H1m : reals_DoubleHolds.f 201 1 (a : Int) (b : Int) (m : Int) = some (nearS 52 11 a b m) := H (c := 1) (by omega) (by omega) ha hb hm
  have lowb : ∀ x : Nat, x < 18446744073709551616 → Go.bits .and .u64 (x : Int) 9223372036854775807 = ((mg 52 11 x : Nat) : Int) := fun x hx => and_mod (i := 63) hx (by omega)
  clear H
  have nb : ∀ p : Bool, (p == !p) = false := fun p => by cases p <;> rfl
  unfold grottolaw04_RealsOrder.f
  rw [H3, Option.bind_some, H5, Option.bind_some, H4, Option.bind_some, H6, Option.bind_some, H1, Option.bind_some, H2, Option.bind_some, nb, if_neg (by simp), H1', Option.bind_some, near_comm b a t, bne_self_eq_false, grottolaw04_RealsOrder.j0.eq_2, if_neg (by simp), H7a, Option.bind_some]
  have nan : (kd 52 11 a = 4 ∨ kd 52 11 b = 4) → grottolaw04_RealsOrder.j1 207 (a : Int) (b : Int) (t : Int) (m : Int) (holdS 3 a b t) (holdS 5 a b t) (holdS 4 a b t) (holdS 6 a b t) (nearS 52 11 a b t) true = some true := by
    intro h
    have z : ∀ c, (c = 3 ∨ c = 4 ∨ c = 5 ∨ c = 6) → holdS c a b t = false := by
      intro c hc
      unfold holdS
      rw [if_neg (by omega), if_neg (by omega), if_neg (by omega), if_pos h]
    have zn : nearS 52 11 a b t = false := by unfold nearS; rw [if_pos (by omega)]
    rw [z 3 (by omega), z 5 (by omega), z 4 (by omega), z 6 (by omega), zn, grottolaw04_RealsOrder.j1.eq_2, if_pos rfl]
    simp only [Bool.false_eq_true, if_false, lv (show 100 ≤ 206 by omega), Option.bind_some]
  by_cases ka : kd 52 11 a = 4
  · rw [decide_eq_true ka, if_pos rfl]; exact nan (Or.inl ka)
  rw [decide_eq_false ka, if_neg (by simp), H7b, Option.bind_some]
  by_cases kb : kd 52 11 b = 4
  · rw [decide_eq_true kb]; exact nan (Or.inr kb)
  clear nan
  have last : grottolaw04_RealsOrder.j6 202 (a : Int) (b : Int) (t : Int) (m : Int) (nearS 52 11 a b t) false = some true := by
    rw [grottolaw04_RealsOrder.j6.eq_2, if_neg (by simp)]
    by_cases hn : nearS 52 11 a b t = true
    · rw [if_pos hn, lowb t ht, lowb m hm, Hm, Option.bind_some, H1m]
      by_cases hle : holdS 4 (mg 52 11 t) (mg 52 11 m) 0 = true
      · have key : nearS 52 11 a b m = true := by
          have kt : kd 52 11 t ≠ 4 := by
            intro h; unfold nearS at hn; rw [if_pos (by omega)] at hn; exact absurd hn (by simp)
          unfold holdS at hle
          rw [if_neg (by omega), if_neg (by omega), if_neg (by omega), kd_low, kd_low] at hle
          by_cases km : kd 52 11 m = 4
          · rw [if_pos (Or.inr km)] at hle; exact absurd hle (by simp)
          rw [if_neg (by omega), if_neg (by omega), if_pos rfl, plc_low, plc_low] at hle
          have hle := of_decide_eq_true hle
          unfold nearS at hn ⊢
          rw [if_neg (by omega)] at hn ⊢
          by_cases h3 : kd 52 11 a = 3 ∧ kd 52 11 b = 3
          · rw [if_pos h3] at hn ⊢; exact hn
          · rw [if_neg h3] at hn ⊢
            have := of_decide_eq_true hn
            exact decide_eq_true (by omega)
        rw [if_pos hle, Option.bind_some, if_pos key, lv (by omega), Option.bind_some]
      · rw [if_neg hle, lv (by omega), Option.bind_some]
    · rw [if_neg hn, lv (by omega), Option.bind_some]
  have nz := near_zero (M := 52) (X := 11) (by omega) (by omega) (by omega) (by omega) (pt_d.2 ha) (pt_d.2 hb) ka kb
  have v3 : holdS 3 a b t = decide (plc 52 11 a < plc 52 11 b) := by
    unfold holdS; rw [if_neg (by omega), if_neg (by omega), if_neg (by omega), if_neg (by omega), if_pos rfl]
  have v4 : holdS 4 a b t = decide (plc 52 11 a ≤ plc 52 11 b) := by
    unfold holdS; rw [if_neg (by omega), if_neg (by omega), if_neg (by omega), if_neg (by omega), if_neg (by omega), if_pos rfl]
  have v5 : holdS 5 a b t = decide (plc 52 11 b < plc 52 11 a) := by
    unfold holdS; rw [if_neg (by omega), if_neg (by omega), if_neg (by omega), if_neg (by omega), if_neg (by omega), if_neg (by omega), if_pos rfl]
  have v6 : holdS 6 a b t = decide (plc 52 11 b ≤ plc 52 11 a) := by
    unfold holdS; rw [if_neg (by omega), if_neg (by omega), if_neg (by omega), if_neg (by omega), if_neg (by omega), if_neg (by omega), if_neg (by omega)]
  have w1 : wrap64 (0 + 1) = 1 := by decide +kernel
  rw [decide_eq_false kb, v3, v4, v5, v6]
  generalize plc 52 11 a = p at *
  generalize plc 52 11 b = q at *
  rcases Int.lt_trichotomy p q with h | h | h
  · rw [decide_eq_true h, decide_eq_false (show ¬ q < p by omega), decide_eq_true (show p ≤ q by omega), decide_eq_false (show ¬ q ≤ p by omega)]
    rw [decide_eq_false (show ¬ p = q by omega)] at nz
    rw [grottolaw04_RealsOrder.j1.eq_2, if_neg (by simp), if_pos rfl, grottolaw04_RealsOrder.j2.eq_2, if_neg (by simp), grottolaw04_RealsOrder.j3.eq_2, if_pos rfl, grottolaw04_RealsOrder.j4.eq_2, if_neg (by simp), grottolaw04_RealsOrder.j5.eq_2, if_pos (by decide), if_neg (by simp), if_neg (by simp), H10, Option.bind_some, if_pos rfl, nz]
    exact last
  · rw [decide_eq_false (show ¬ p < q by omega), decide_eq_false (show ¬ q < p by omega), decide_eq_true (show p ≤ q by omega), decide_eq_true (show q ≤ p by omega)]
    rw [decide_eq_true h] at nz
    rw [grottolaw04_RealsOrder.j1.eq_2, if_neg (by simp), if_neg (by simp), grottolaw04_RealsOrder.j2.eq_2, if_neg (by simp), grottolaw04_RealsOrder.j3.eq_2, if_pos rfl, grottolaw04_RealsOrder.j4.eq_2, if_pos rfl, w1, grottolaw04_RealsOrder.j5.eq_2, if_pos rfl, if_neg (by simp), if_neg (by simp), H10, Option.bind_some, if_pos rfl, nz]
    exact last
  · rw [decide_eq_false (show ¬ p < q by omega), decide_eq_true (show q < p by omega), decide_eq_false (show ¬ p ≤ q by omega), decide_eq_true (show q ≤ p by omega)]
    rw [decide_eq_false (show ¬ p = q by omega)] at nz
    rw [grottolaw04_RealsOrder.j1.eq_2, if_neg (by simp), if_neg (by simp), grottolaw04_RealsOrder.j2.eq_2, if_pos rfl, w1, grottolaw04_RealsOrder.j3.eq_2, if_neg (by simp), grottolaw04_RealsOrder.j4.eq_2, if_neg (by simp), grottolaw04_RealsOrder.j5.eq_2, if_pos rfl, if_neg (by simp), if_neg (by simp), H10, Option.bind_some, if_neg (by simp), nz]
    exact last
end Go.Proofs.Ythkifpdachjlgaa.Pure
