-- by a program of this claim
import Derived.Test.YtcfmmkapefpjjaaPQx0
import Derived.Test.YtcfmmkapefpjjaaPQx6
namespace Go.Proofs.Ytcfmmkapefpjjaa.PQ
open Go.RowKit Go.Proofs.YtcfmmkapefpjjaaW.PrintWords Go.Proofs.YtcfmmkapefpjjaaW.PrintLast Go.Proofs.YtcfmmkapefpjjaaW.PrintMore Go.Proofs.Ytcfmmkapefpjjaa.Z
attribute [local go_sem] max2_int min2_int max_two min_two max_three min_three max_four min_four   -- for this text's walks alone
set_option linter.unusedVariables false
set_option linter.unusedSimpArgs false

/-! ### grottolaw02_value: function 15 -/
def grottolaw02_value.f (k : Nat) (a0_0 : Int) (a0_1 : Int) (a1 : Int) : Option (Int) := if 0 ≤ a0_0 then (if (shr .i64 a1 a0_0) = 0 then ((grottoref02_Least.f k a0_0 a0_1).bind fun t348 => (if 0 ≤ (wrap64 (24 + t348)) then (some (shl .i64 (Go.bits .and .i64 a1 (wrap64 ((shl .i64 1 a0_0) - 1))) (wrap64 (24 + t348)))) else (none))) else ((grottoref02_Least.f k a0_0 a0_1).bind fun t349 => (if 0 ≤ (wrap64 ((wrap64 ((wrap64 (24 + t349)) + (shr .i64 a1 a0_0))) - 1)) then (some (shl .i64 (wrap64 ((wrap64 ((Go.bits .and .i64 a1 (wrap64 ((shl .i64 1 a0_0) - 1))) + (wrap64 ((shl .i64 1 a0_0) - 1)))) + 1)) (wrap64 ((wrap64 ((wrap64 (24 + t349)) + (shr .i64 a1 a0_0))) - 1)))) else (none)))) else (none)
theorem grottolaw02_value.mono : ∀ a0 a1 a2 k, LeO (grottolaw02_value.f k a0 a1 a2) (grottolaw02_value.f (k + 1) a0 a1 a2) := by
  intro a0 a1 a2 k
  unfold grottolaw02_value.f
  repeat' first
      | (with_reducible exact grottoref02_Least.mono _ _ _)
      | (with_reducible exact LeO.refl _)
      | (with_reducible exact LeO.none _)
      | (with_reducible refine LeO.ite ?_ ?_)
      | (with_reducible refine LeO.bind ?_ (fun _ => ?_))
      | exact grottoref02_Least.mono _ _ _
      | exact LeO.none _
      | refine LeO.ite ?_ ?_
      | refine LeO.bind ?_ (fun _ => ?_)
set_option maxHeartbeats 8000000 in
set_option maxRecDepth 100000 in
theorem grottolaw02_value.calls (k : Nat) (a0_0 : Int) (a0_1 : Int) (a1 : Int) (r : Int) (w : World) (h : grottolaw02_value.f k a0_0 a0_1 a1 = some r) :
    Calls Try.prog 15 #[.agg #[.int .i64 a0_0, .int .i64 a0_1], .int .i64 a1] w fun e w' => e = .returned (.int .i64 r) ∧ Below w.heap.size w w' := by
  have hu23 := Try.underlying23
  have HB := Aside0.mk (Below.refl w.heap.size w)
  have H : (if 0 ≤ a0_0 then (if (shr .i64 a1 a0_0) = 0 then ((grottoref02_Least.f k a0_0 a0_1).bind fun t348 => (if 0 ≤ (wrap64 (24 + t348)) then (some (shl .i64 (Go.bits .and .i64 a1 (wrap64 ((shl .i64 1 a0_0) - 1))) (wrap64 (24 + t348)))) else (none))) else ((grottoref02_Least.f k a0_0 a0_1).bind fun t349 => (if 0 ≤ (wrap64 ((wrap64 ((wrap64 (24 + t349)) + (shr .i64 a1 a0_0))) - 1)) then (some (shl .i64 (wrap64 ((wrap64 ((Go.bits .and .i64 a1 (wrap64 ((shl .i64 1 a0_0) - 1))) + (wrap64 ((shl .i64 1 a0_0) - 1)))) + 1)) (wrap64 ((wrap64 ((wrap64 (24 + t349)) + (shr .i64 a1 a0_0))) - 1)))) else (none)))) else (none)) = some r := h
  clear h
  by_cases c3 : 0 ≤ a0_0
  · rw [if_pos c3] at H
    have c3b0 := eq_true c3
    have c3b1 : decide (0 ≤ a0_0) = true := decide_eq_true c3
    clear c3
    obtain ⟨ji4, hji4⟩ : ∃ j_ : Int, (shl .i64 1 a0_0) = j_ := ⟨_, rfl⟩
    replace H : (if (shr .i64 a1 a0_0) = 0 then ((grottoref02_Least.f k a0_0 a0_1).bind fun t348 => (if 0 ≤ (wrap64 (24 + t348)) then (some (shl .i64 (Go.bits .and .i64 a1 (wrap64 ((ji4) - 1))) (wrap64 (24 + t348)))) else (none))) else ((grottoref02_Least.f k a0_0 a0_1).bind fun t349 => (if 0 ≤ (wrap64 ((wrap64 ((wrap64 (24 + t349)) + (shr .i64 a1 a0_0))) - 1)) then (some (shl .i64 (wrap64 ((wrap64 ((Go.bits .and .i64 a1 (wrap64 ((ji4) - 1))) + (wrap64 ((ji4) - 1)))) + 1)) (wrap64 ((wrap64 ((wrap64 (24 + t349)) + (shr .i64 a1 a0_0))) - 1)))) else (none)))) = some r := by first | (rw [hji4] at H; exact H) | (simp only [hji4] at H ⊢; exact H)
    have hji4_ : (IntKind.i64.wrap (1 * 2 ^ min a0_0.toNat 64)) = ji4 := hji4
    have hji4z : a0_0 ≤ 64 → (IntKind.i64.wrap (1 * 2 ^ a0_0.toNat)) = ji4 := shl_small hji4
    have hji4u : (IntKind.i64.wrap (2 ^ min a0_0.toNat 64)) = ji4 := by have h_ := hji4_; rw [Int.one_mul] at h_; exact h_
    have hji4v : a0_0 ≤ 64 → (IntKind.i64.wrap (2 ^ a0_0.toNat)) = ji4 := fun hle_ => by have h_ := hji4z hle_; rw [Int.one_mul] at h_; exact h_
    have hji4y : (wrap64 (1 * 2 ^ min a0_0.toNat 64)) = ji4 := (i64_w _).symm.trans hji4_
    have hji4x : a0_0 ≤ 64 → (wrap64 (1 * 2 ^ a0_0.toNat)) = ji4 := fun h_ => (i64_w _).symm.trans (hji4z h_)
    have c5b0 := eq_true (of_decide_eq_true (by first | (with_reducible assumption) | assumption) : 0 ≤ a0_0)
    obtain ⟨ji6, hji6⟩ : ∃ j_ : Int, (shr .i64 a1 a0_0) = j_ := ⟨_, rfl⟩
    replace H : (if (ji6) = 0 then ((grottoref02_Least.f k a0_0 a0_1).bind fun t348 => (if 0 ≤ (wrap64 (24 + t348)) then (some (shl .i64 (Go.bits .and .i64 a1 (wrap64 ((ji4) - 1))) (wrap64 (24 + t348)))) else (none))) else ((grottoref02_Least.f k a0_0 a0_1).bind fun t349 => (if 0 ≤ (wrap64 ((wrap64 ((wrap64 (24 + t349)) + (ji6))) - 1)) then (some (shl .i64 (wrap64 ((wrap64 ((Go.bits .and .i64 a1 (wrap64 ((ji4) - 1))) + (wrap64 ((ji4) - 1)))) + 1)) (wrap64 ((wrap64 ((wrap64 (24 + t349)) + (ji6))) - 1)))) else (none)))) = some r := by first | (rw [hji6] at H; exact H) | (simp only [hji6] at H ⊢; exact H)
    have hji6_ : (a1 / 2 ^ min a0_0.toNat 64) = ji6 := hji6
    have hji6z : a0_0 ≤ 64 → (a1 / 2 ^ a0_0.toNat) = ji6 := shr_small hji6
    by_cases c7 : (ji6) = 0
    · rw [if_pos c7] at H
      have c7b0 : ((ji6) == 0) = true := beq_iff_eq.mpr c7
      have c7b1 : ((ji6) != 0) = false := bne_eq_false_iff_eq.mpr c7
      clear c7
      replace H := Option.bind_eq_some_iff.mp H
      obtain ⟨t348, A80, H⟩ := H
      replace H : (if 0 ≤ (wrap64 (24 + t348)) then (some (shl .i64 (Go.bits .and .i64 a1 (wrap64 ((ji4) - 1))) (wrap64 (24 + t348)))) else (none)) = some r := H
      have A8 := Aside0.mk A80
      clear A80
      obtain ⟨ji9, hji9⟩ : ∃ j_ : Int, (wrap64 (24 + t348)) = j_ := ⟨_, rfl⟩
      replace H : (if 0 ≤ (ji9) then (some (shl .i64 (Go.bits .and .i64 a1 (wrap64 ((ji4) - 1))) (ji9))) else (none)) = some r := by first | (rw [hji9] at H; exact H) | (simp only [hji9] at H ⊢; exact H)
      (try rw [hji9] at A8)
      have hji9w : (IntKind.i64.wrap (24 + t348)) = ji9 := (i64_w _).trans hji9
      by_cases c10 : 0 ≤ (ji9)
      · rw [if_pos c10] at H
        have c10b0 := eq_true c10
        have c10b1 : decide (0 ≤ (ji9)) = true := decide_eq_true c10
        clear c10
        obtain ⟨ji11, hji11⟩ : ∃ j_ : Int, (shl .i64 (Go.bits .and .i64 a1 (wrap64 ((ji4) - 1))) (ji9)) = j_ := ⟨_, rfl⟩
        replace H : (some ji11) = some r := by first | (rw [hji11] at H; exact H) | (simp only [hji11] at H ⊢; exact H)
        (try rw [hji11] at A8)
        have hji11_ : (IntKind.i64.wrap ((Go.bits .and .i64 a1 (wrap64 ((ji4) - 1))) * 2 ^ min (ji9).toNat 64)) = ji11 := hji11
        have hji11z : (ji9) ≤ 64 → (IntKind.i64.wrap ((Go.bits .and .i64 a1 (wrap64 ((ji4) - 1))) * 2 ^ (ji9).toNat)) = ji11 := shl_small hji11
        have hji11y : (wrap64 ((Go.bits .and .i64 a1 (wrap64 ((ji4) - 1))) * 2 ^ min (ji9).toNat 64)) = ji11 := (i64_w _).symm.trans hji11_
        have hji11x : (ji9) ≤ 64 → (wrap64 ((Go.bits .and .i64 a1 (wrap64 ((ji4) - 1))) * 2 ^ (ji9).toNat)) = ji11 := fun h_ => (i64_w _).symm.trans (hji11z h_)
        obtain rfl := Option.some.inj H
        go_enter Try.func15, Try.ntmps15
        go_wp2_with (first | ((with_reducible refine gate_dst (N := 2) rfl ?_); refine zbox (N := 2) (cs := #[.int .i64 a0_0, .int .i64 a0_1]) (t := 23) ?_; intro gb347 hg w12 hbox hb; have BK347 := Aside0.mk hbox; have GW347 := zge hg HB; have GE347 := zge hg HB; replace HB := zbs HB hb; clear hb hbox hg; obtain ⟨hcz13_0, hcz13_1, hfz13_0, hfz13_1⟩ := zc2 BK347) | ((with_reducible refine gate_callee (f := 36) rfl ?_); refine zgo (some 23) Try.func36 #[.agg #[.int .i64 a0_0, .int .i64 a0_1]] ?_; (with_reducible refine (grottoref02_Least.calls k a0_0 a0_1 t348 _ A8.out).mono ?_); rintro e w14 ⟨rfl, hb⟩; refine ⟨_, rfl, ?_⟩; replace BK347 := zkb BK347 hb; replace HB := zbs HB hb; (try clear hb); (try clear hb2); (try clear hk); (try clear hi)))
        go_ret
        exact ⟨by first | rfl | (simp [errW_none, errW_some] <;> rfl) | (simp only [← hji4, ← hji6, ← hji9, ← hji11]; first | rfl | (simp [errW_none, errW_some] <;> rfl)) | (simp [*, errW_none, errW_some] <;> rfl), zb HB⟩
      · rw [if_neg c10] at H
        exact absurd H (by simp)
    · rw [if_neg c7] at H
      have c7b0 : ((ji6) == 0) = false := beq_eq_false_iff_ne.mpr c7
      have c7b1 : ((ji6) != 0) = true := bne_iff_ne.mpr c7
      replace H := Option.bind_eq_some_iff.mp H
      obtain ⟨t349, A150, H⟩ := H
      replace H : (if 0 ≤ (wrap64 ((wrap64 ((wrap64 (24 + t349)) + (ji6))) - 1)) then (some (shl .i64 (wrap64 ((wrap64 ((Go.bits .and .i64 a1 (wrap64 ((ji4) - 1))) + (wrap64 ((ji4) - 1)))) + 1)) (wrap64 ((wrap64 ((wrap64 (24 + t349)) + (ji6))) - 1)))) else (none)) = some r := H
      have A15 := Aside0.mk A150
      clear A150
      obtain ⟨ji16, hji16⟩ : ∃ j_ : Int, (wrap64 ((wrap64 ((wrap64 (24 + t349)) + (ji6))) - 1)) = j_ := ⟨_, rfl⟩
      replace H : (if 0 ≤ (ji16) then (some (shl .i64 (wrap64 ((wrap64 ((Go.bits .and .i64 a1 (wrap64 ((ji4) - 1))) + (wrap64 ((ji4) - 1)))) + 1)) (ji16))) else (none)) = some r := by first | (rw [hji16] at H; exact H) | (simp only [hji16] at H ⊢; exact H)
      (try rw [hji16] at A15)
      have hji16w : (IntKind.i64.wrap ((wrap64 ((wrap64 (24 + t349)) + (ji6))) - 1)) = ji16 := (i64_w _).trans hji16
      by_cases c17 : 0 ≤ (ji16)
      · rw [if_pos c17] at H
        have c17b0 := eq_true c17
        have c17b1 : decide (0 ≤ (ji16)) = true := decide_eq_true c17
        clear c17
        obtain ⟨ji18, hji18⟩ : ∃ j_ : Int, (shl .i64 (wrap64 ((wrap64 ((Go.bits .and .i64 a1 (wrap64 ((ji4) - 1))) + (wrap64 ((ji4) - 1)))) + 1)) (ji16)) = j_ := ⟨_, rfl⟩
        replace H : (some ji18) = some r := by first | (rw [hji18] at H; exact H) | (simp only [hji18] at H ⊢; exact H)
        (try rw [hji18] at A15)
        have hji18_ : (IntKind.i64.wrap ((wrap64 ((wrap64 ((Go.bits .and .i64 a1 (wrap64 ((ji4) - 1))) + (wrap64 ((ji4) - 1)))) + 1)) * 2 ^ min (ji16).toNat 64)) = ji18 := hji18
        have hji18z : (ji16) ≤ 64 → (IntKind.i64.wrap ((wrap64 ((wrap64 ((Go.bits .and .i64 a1 (wrap64 ((ji4) - 1))) + (wrap64 ((ji4) - 1)))) + 1)) * 2 ^ (ji16).toNat)) = ji18 := shl_small hji18
        have hji18y : (wrap64 ((wrap64 ((wrap64 ((Go.bits .and .i64 a1 (wrap64 ((ji4) - 1))) + (wrap64 ((ji4) - 1)))) + 1)) * 2 ^ min (ji16).toNat 64)) = ji18 := (i64_w _).symm.trans hji18_
        have hji18x : (ji16) ≤ 64 → (wrap64 ((wrap64 ((wrap64 ((Go.bits .and .i64 a1 (wrap64 ((ji4) - 1))) + (wrap64 ((ji4) - 1)))) + 1)) * 2 ^ (ji16).toNat)) = ji18 := fun h_ => (i64_w _).symm.trans (hji18z h_)
        obtain rfl := Option.some.inj H
        go_enter Try.func15, Try.ntmps15
        go_wp2_with (first | ((with_reducible refine gate_dst (N := 2) rfl ?_); refine zbox (N := 2) (cs := #[.int .i64 a0_0, .int .i64 a0_1]) (t := 23) ?_; intro gb347 hg w19 hbox hb; have BK347 := Aside0.mk hbox; have GW347 := zge hg HB; have GE347 := zge hg HB; replace HB := zbs HB hb; clear hb hbox hg; obtain ⟨hcz20_0, hcz20_1, hfz20_0, hfz20_1⟩ := zc2 BK347) | ((with_reducible refine gate_callee (f := 36) rfl ?_); refine zgo (some 31) Try.func36 #[.agg #[.int .i64 a0_0, .int .i64 a0_1]] ?_; (with_reducible refine (grottoref02_Least.calls k a0_0 a0_1 t349 _ A15.out).mono ?_); rintro e w21 ⟨rfl, hb⟩; refine ⟨_, rfl, ?_⟩; replace BK347 := zkb BK347 hb; replace HB := zbs HB hb; (try clear hb); (try clear hb2); (try clear hk); (try clear hi)))
        go_ret
        exact ⟨by first | rfl | (simp [errW_none, errW_some] <;> rfl) | (simp only [← hji4, ← hji6, ← hji16, ← hji18]; first | rfl | (simp [errW_none, errW_some] <;> rfl)) | (simp [*, errW_none, errW_some] <;> rfl), zb HB⟩
      · rw [if_neg c17] at H
        exact absurd H (by simp)
  · rw [if_neg c3] at H
    exact absurd H (by simp)

end Go.Proofs.Ytcfmmkapefpjjaa.PQ
