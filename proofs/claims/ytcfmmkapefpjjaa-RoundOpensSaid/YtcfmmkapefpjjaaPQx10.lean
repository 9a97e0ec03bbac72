-- by a program of this claim
import Derived.Test.YtcfmmkapefpjjaaPQx0
import Derived.Test.YtcfmmkapefpjjaaPQx6
namespace Go.Proofs.Ytcfmmkapefpjjaa.PQ
open Go.RowKit Go.Proofs.YtcfmmkapefpjjaaW.PrintWords Go.Proofs.YtcfmmkapefpjjaaW.PrintLast Go.Proofs.YtcfmmkapefpjjaaW.PrintMore Go.Proofs.Ytcfmmkapefpjjaa.Z
attribute [local go_sem] max2_int min2_int max_two min_two max_three min_three max_four min_four   -- for this text's walks alone
set_option linter.unusedVariables false
set_option linter.unusedSimpArgs false

/-! ### grottoref02_Open: function 17 -/
mutual
def grottoref02_Open.j0 : Nat → Int → Int → Bool → Int → Int → Int → Bool → Int → Int → Option (Int × Bool × Int × Int × Int)
  | 0, _, _, _, _, _, _, _, _, _ => none
  | k + 1, x6, x7, x55, x400000, x400001, x407000, x407001, x407002, x407003 => if x55 = true then (some (3, x407001, x407002, x407003, 0)) else ((grottoref02_power.f k x400001).bind fun t408 => (if x7 = (IntKind.u64.wrap (t408 - 1)) then (some (4, x407001, x407002, x407003, 0)) else (if x7 = 0 then (grottoref02_Open.j1 k x6 x7 (x6 == 0) x400000 x400001 x407000 x407001 x407002 x407003) else (grottoref02_Open.j1 k x6 x7 false x400000 x400001 x407000 x407001 x407002 x407003))))
def grottoref02_Open.j1 : Nat → Int → Int → Bool → Int → Int → Int → Bool → Int → Int → Option (Int × Bool × Int × Int × Int)
  | 0, _, _, _, _, _, _, _, _, _ => none
  | k + 1, x6, x7, x75, x400000, x400001, x407000, x407001, x407002, x407003 => if x75 = true then (some (1, x407001, x407002, x407003, 0)) else (if x7 = 0 then ((grottoref02_Least.f k x400000 x400001).bind fun t409 => (some (2, x407001, t409, x6, 0))) else ((grottoref02_power.f k x400000).bind fun t410 => ((grottoref02_Bias.f k x400000 x400001).bind fun t411 => (some (2, x407001, wrap64 ((wrap64 ((wrap64 (x7)) - t411)) - x400000), IntKind.u64.wrap (t410 + x6), 0)))))
end
def grottoref02_Open.f (k : Nat) (a0_0 : Int) (a0_1 : Int) (a1 : Int) : Option (Int × Bool × Int × Int × Int) := (grottoref02_Check.f a0_0 a0_1).bind fun t401 => (if t401 = 0 then ((grottoref02_power.f k a0_0).bind fun t402 => (if t402 = 0 then (none) else ((grottoref02_power.f k a0_0).bind fun t403 => (if t403 = 0 then (none) else ((grottoref02_power.f k a0_1).bind fun t404 => (if t404 = 0 then (none) else ((grottoref02_power.f k a0_1).bind fun t405 => (if t405 = 0 then (none) else (if (IntKind.u64.wrap (Int.tdiv (IntKind.u64.wrap (Int.tdiv a1 t403)) t405)) > 1 then (some (0, false, 0, 0, 1)) else ((grottoref02_power.f k a0_1).bind fun t407 => (if (Int.tmod (IntKind.u64.wrap (Int.tdiv a1 t403)) t404) = (IntKind.u64.wrap (t407 - 1)) then (grottoref02_Open.j0 k (Int.tmod a1 t402) (Int.tmod (IntKind.u64.wrap (Int.tdiv a1 t403)) t404) ((Int.tmod a1 t402) == 0) a0_0 a0_1 0 ((IntKind.u64.wrap (Int.tdiv (IntKind.u64.wrap (Int.tdiv a1 t403)) t405)) == 1) 0 0) else (grottoref02_Open.j0 k (Int.tmod a1 t402) (Int.tmod (IntKind.u64.wrap (Int.tdiv a1 t403)) t404) false a0_0 a0_1 0 ((IntKind.u64.wrap (Int.tdiv (IntKind.u64.wrap (Int.tdiv a1 t403)) t405)) == 1) 0 0)))))))))))) else (some (0, false, 0, 0, 1)))
theorem grottoref02_Open.mono_l : ∀ k, (∀ y0 y1 y2 y3 y4 y5 y6 y7 y8, LeO (grottoref02_Open.j0 k y0 y1 y2 y3 y4 y5 y6 y7 y8) (grottoref02_Open.j0 (k + 1) y0 y1 y2 y3 y4 y5 y6 y7 y8)) ∧ (∀ y0 y1 y2 y3 y4 y5 y6 y7 y8, LeO (grottoref02_Open.j1 k y0 y1 y2 y3 y4 y5 y6 y7 y8) (grottoref02_Open.j1 (k + 1) y0 y1 y2 y3 y4 y5 y6 y7 y8))
  | 0 => ⟨fun _ _ _ _ _ _ _ _ _ r h => by simp [grottoref02_Open.j0] at h, fun _ _ _ _ _ _ _ _ _ r h => by simp [grottoref02_Open.j1] at h⟩
  | k + 1 => by
    obtain ⟨ih0, ih1⟩ := grottoref02_Open.mono_l k
    refine ⟨?_, ?_⟩
    · intro y0 y1 y2 y3 y4 y5 y6 y7 y8
      unfold grottoref02_Open.j0
      repeat' first
      | (with_reducible exact ih0 _ _ _ _ _ _ _ _ _)
      | (with_reducible exact ih1 _ _ _ _ _ _ _ _ _)
      | (with_reducible exact grottoref02_Bias.mono _ _ _)
      | (with_reducible exact grottoref02_Least.mono _ _ _)
      | (with_reducible exact grottoref02_power.mono _ _)
      | (with_reducible exact LeO.refl _)
      | (with_reducible exact LeO.none _)
      | (with_reducible refine LeO.ite ?_ ?_)
      | (with_reducible refine LeO.bind ?_ (fun _ => ?_))
      | exact ih0 _ _ _ _ _ _ _ _ _
      | exact ih1 _ _ _ _ _ _ _ _ _
      | exact grottoref02_Bias.mono _ _ _
      | exact grottoref02_Least.mono _ _ _
      | exact grottoref02_power.mono _ _
      | exact LeO.none _
      | refine LeO.ite ?_ ?_
      | refine LeO.bind ?_ (fun _ => ?_)
    · intro y0 y1 y2 y3 y4 y5 y6 y7 y8
      unfold grottoref02_Open.j1
      repeat' first
      | (with_reducible exact ih0 _ _ _ _ _ _ _ _ _)
      | (with_reducible exact ih1 _ _ _ _ _ _ _ _ _)
      | (with_reducible exact grottoref02_Bias.mono _ _ _)
      | (with_reducible exact grottoref02_Least.mono _ _ _)
      | (with_reducible exact grottoref02_power.mono _ _)
      | (with_reducible exact LeO.refl _)
      | (with_reducible exact LeO.none _)
      | (with_reducible refine LeO.ite ?_ ?_)
      | (with_reducible refine LeO.bind ?_ (fun _ => ?_))
      | exact ih0 _ _ _ _ _ _ _ _ _
      | exact ih1 _ _ _ _ _ _ _ _ _
      | exact grottoref02_Bias.mono _ _ _
      | exact grottoref02_Least.mono _ _ _
      | exact grottoref02_power.mono _ _
      | exact LeO.none _
      | refine LeO.ite ?_ ?_
      | refine LeO.bind ?_ (fun _ => ?_)
theorem grottoref02_Open.mono : ∀ a0 a1 a2 k, LeO (grottoref02_Open.f k a0 a1 a2) (grottoref02_Open.f (k + 1) a0 a1 a2) := by
  intro a0 a1 a2 k
  obtain ⟨ih0, ih1⟩ := grottoref02_Open.mono_l k
  unfold grottoref02_Open.f
  repeat' first
      | (with_reducible exact ih0 _ _ _ _ _ _ _ _ _)
      | (with_reducible exact ih1 _ _ _ _ _ _ _ _ _)
      | (with_reducible exact grottoref02_Bias.mono _ _ _)
      | (with_reducible exact grottoref02_Least.mono _ _ _)
      | (with_reducible exact grottoref02_power.mono _ _)
      | (with_reducible exact LeO.refl _)
      | (with_reducible exact LeO.none _)
      | (with_reducible refine LeO.ite ?_ ?_)
      | (with_reducible refine LeO.bind ?_ (fun _ => ?_))
      | exact ih0 _ _ _ _ _ _ _ _ _
      | exact ih1 _ _ _ _ _ _ _ _ _
      | exact grottoref02_Bias.mono _ _ _
      | exact grottoref02_Least.mono _ _ _
      | exact grottoref02_power.mono _ _
      | exact LeO.none _
      | refine LeO.ite ?_ ?_
      | refine LeO.bind ?_ (fun _ => ?_)
def grottoref02_Open.T10 : Bool × List (List Nat × List Nat) := (true, [([], []), ([0], [0]), ([1], [1]), ([], []), ([2, 3], [2, 3]), ([], []), ([5], [5]), ([], []), ([7, 2], [7]), ([6, 8], [6, 8]), ([], []), ([10], [10]), ([9, 11], [9, 11]), ([], []), ([13, 8], [13]), ([0, 1, 2, 3, 4, 13, 14], []), ([15, 4, 14, 0, 1, 2, 3, 4, 13, 14], [4, 15]), ([0, 1, 2, 3, 4, 5, 6, 7, 8, 9, 10, 11, 12, 13, 14, 15, 16], []), ([17, 12, 16, 0, 1, 2, 3, 4, 5, 6, 7, 8, 9, 10, 11, 12, 13, 14, 15, 16], [12, 17])])
def grottoref02_Open.B10 : List Nat := [0, 1, 3, 0, 15, 0, 32, 0, 135, 487, 0, 1024, 4071, 0, 8583, 24991, 57759, 131071, 262143]
theorem grottoref02_Open.tab10 : rtab .any (opsOf Try.f17 10) = grottoref02_Open.T10 := by kernel_rfl
theorem grottoref02_Open.bits10 : waitsOk grottoref02_Open.T10.2 grottoref02_Open.B10 = true := by kernel_rfl
set_option maxHeartbeats 8000000 in
set_option maxRecDepth 100000 in
theorem grottoref02_Open.calls (k : Nat) (a0_0 : Int) (a0_1 : Int) (a1 : Int) (r1 : Int) (r2 : Bool) (r3 : Int) (r4 : Int) (r5 : Int) (w : World) (h : grottoref02_Open.f k a0_0 a0_1 a1 = some (r1, r2, r3, r4, r5)) :
    Calls Try.prog 17 #[.agg #[.int .i64 a0_0, .int .i64 a0_1], .int .u64 a1] w fun e w' => e = .returned (.tuple #[.agg #[.int .i64 r1, .bool r2, .int .i64 r3, .int .u64 r4], .int .i64 r5]) ∧ Below w.heap.size w w' := by
  have hu23 := Try.underlying23
  have hu42 := Try.underlying42
  have HB := Aside0.mk (Below.refl w.heap.size w)
  have H : ((grottoref02_Check.f a0_0 a0_1).bind fun t401 => (if t401 = 0 then ((grottoref02_power.f k a0_0).bind fun t402 => (if t402 = 0 then (none) else ((grottoref02_power.f k a0_0).bind fun t403 => (if t403 = 0 then (none) else ((grottoref02_power.f k a0_1).bind fun t404 => (if t404 = 0 then (none) else ((grottoref02_power.f k a0_1).bind fun t405 => (if t405 = 0 then (none) else (if (IntKind.u64.wrap (Int.tdiv (IntKind.u64.wrap (Int.tdiv a1 t403)) t405)) > 1 then (some (0, false, 0, 0, 1)) else ((grottoref02_power.f k a0_1).bind fun t407 => (if (Int.tmod (IntKind.u64.wrap (Int.tdiv a1 t403)) t404) = (IntKind.u64.wrap (t407 - 1)) then (grottoref02_Open.j0 k (Int.tmod a1 t402) (Int.tmod (IntKind.u64.wrap (Int.tdiv a1 t403)) t404) ((Int.tmod a1 t402) == 0) a0_0 a0_1 0 ((IntKind.u64.wrap (Int.tdiv (IntKind.u64.wrap (Int.tdiv a1 t403)) t405)) == 1) 0 0) else (grottoref02_Open.j0 k (Int.tmod a1 t402) (Int.tmod (IntKind.u64.wrap (Int.tdiv a1 t403)) t404) false a0_0 a0_1 0 ((IntKind.u64.wrap (Int.tdiv (IntKind.u64.wrap (Int.tdiv a1 t403)) t405)) == 1) 0 0)))))))))))) else (some (0, false, 0, 0, 1)))) = some (r1, r2, r3, r4, r5) := h
  clear h
  replace H := Option.bind_eq_some_iff.mp H
  obtain ⟨t401, A30, H⟩ := H
  replace H : (if t401 = 0 then ((grottoref02_power.f k a0_0).bind fun t402 => (if t402 = 0 then (none) else ((grottoref02_power.f k a0_0).bind fun t403 => (if t403 = 0 then (none) else ((grottoref02_power.f k a0_1).bind fun t404 => (if t404 = 0 then (none) else ((grottoref02_power.f k a0_1).bind fun t405 => (if t405 = 0 then (none) else (if (IntKind.u64.wrap (Int.tdiv (IntKind.u64.wrap (Int.tdiv a1 t403)) t405)) > 1 then (some (0, false, 0, 0, 1)) else ((grottoref02_power.f k a0_1).bind fun t407 => (if (Int.tmod (IntKind.u64.wrap (Int.tdiv a1 t403)) t404) = (IntKind.u64.wrap (t407 - 1)) then (grottoref02_Open.j0 k (Int.tmod a1 t402) (Int.tmod (IntKind.u64.wrap (Int.tdiv a1 t403)) t404) ((Int.tmod a1 t402) == 0) a0_0 a0_1 0 ((IntKind.u64.wrap (Int.tdiv (IntKind.u64.wrap (Int.tdiv a1 t403)) t405)) == 1) 0 0) else (grottoref02_Open.j0 k (Int.tmod a1 t402) (Int.tmod (IntKind.u64.wrap (Int.tdiv a1 t403)) t404) false a0_0 a0_1 0 ((IntKind.u64.wrap (Int.tdiv (IntKind.u64.wrap (Int.tdiv a1 t403)) t405)) == 1) 0 0)))))))))))) else (some (0, false, 0, 0, 1))) = some (r1, r2, r3, r4, r5) := H
  have A3 := Aside0.mk A30
  clear A30
  by_cases c4 : t401 = 0
  · rw [if_pos c4] at H
    have c4b0 : (t401 == 0) = true := beq_iff_eq.mpr c4
    have c4b1 : (t401 != 0) = false := bne_eq_false_iff_eq.mpr c4
    clear c4
    replace H := Option.bind_eq_some_iff.mp H
    obtain ⟨t402, A50, H⟩ := H
    replace H : (if t402 = 0 then (none) else ((grottoref02_power.f k a0_0).bind fun t403 => (if t403 = 0 then (none) else ((grottoref02_power.f k a0_1).bind fun t404 => (if t404 = 0 then (none) else ((grottoref02_power.f k a0_1).bind fun t405 => (if t405 = 0 then (none) else (if (IntKind.u64.wrap (Int.tdiv (IntKind.u64.wrap (Int.tdiv a1 t403)) t405)) > 1 then (some (0, false, 0, 0, 1)) else ((grottoref02_power.f k a0_1).bind fun t407 => (if (Int.tmod (IntKind.u64.wrap (Int.tdiv a1 t403)) t404) = (IntKind.u64.wrap (t407 - 1)) then (grottoref02_Open.j0 k (Int.tmod a1 t402) (Int.tmod (IntKind.u64.wrap (Int.tdiv a1 t403)) t404) ((Int.tmod a1 t402) == 0) a0_0 a0_1 0 ((IntKind.u64.wrap (Int.tdiv (IntKind.u64.wrap (Int.tdiv a1 t403)) t405)) == 1) 0 0) else (grottoref02_Open.j0 k (Int.tmod a1 t402) (Int.tmod (IntKind.u64.wrap (Int.tdiv a1 t403)) t404) false a0_0 a0_1 0 ((IntKind.u64.wrap (Int.tdiv (IntKind.u64.wrap (Int.tdiv a1 t403)) t405)) == 1) 0 0))))))))))) = some (r1, r2, r3, r4, r5) := H
    have A5 := Aside0.mk A50
    clear A50
    by_cases c6 : t402 = 0
    · rw [if_pos c6] at H
      exact absurd H (by simp)
    · rw [if_neg c6] at H
      have c6b0 : (t402 == 0) = false := beq_eq_false_iff_ne.mpr c6
      have c6b1 : (t402 != 0) = true := bne_iff_ne.mpr c6
      replace H := Option.bind_eq_some_iff.mp H
      obtain ⟨t403, A70, H⟩ := H
      replace H : (if t403 = 0 then (none) else ((grottoref02_power.f k a0_1).bind fun t404 => (if t404 = 0 then (none) else ((grottoref02_power.f k a0_1).bind fun t405 => (if t405 = 0 then (none) else (if (IntKind.u64.wrap (Int.tdiv (IntKind.u64.wrap (Int.tdiv a1 t403)) t405)) > 1 then (some (0, false, 0, 0, 1)) else ((grottoref02_power.f k a0_1).bind fun t407 => (if (Int.tmod (IntKind.u64.wrap (Int.tdiv a1 t403)) t404) = (IntKind.u64.wrap (t407 - 1)) then (grottoref02_Open.j0 k (Int.tmod a1 t402) (Int.tmod (IntKind.u64.wrap (Int.tdiv a1 t403)) t404) ((Int.tmod a1 t402) == 0) a0_0 a0_1 0 ((IntKind.u64.wrap (Int.tdiv (IntKind.u64.wrap (Int.tdiv a1 t403)) t405)) == 1) 0 0) else (grottoref02_Open.j0 k (Int.tmod a1 t402) (Int.tmod (IntKind.u64.wrap (Int.tdiv a1 t403)) t404) false a0_0 a0_1 0 ((IntKind.u64.wrap (Int.tdiv (IntKind.u64.wrap (Int.tdiv a1 t403)) t405)) == 1) 0 0))))))))) = some (r1, r2, r3, r4, r5) := H
      have A7 := Aside0.mk A70
      clear A70
      by_cases c8 : t403 = 0
      · rw [if_pos c8] at H
        exact absurd H (by simp)
      · rw [if_neg c8] at H
        have c8b0 : (t403 == 0) = false := beq_eq_false_iff_ne.mpr c8
        have c8b1 : (t403 != 0) = true := bne_iff_ne.mpr c8
        replace H := Option.bind_eq_some_iff.mp H
        obtain ⟨t404, A90, H⟩ := H
        replace H : (if t404 = 0 then (none) else ((grottoref02_power.f k a0_1).bind fun t405 => (if t405 = 0 then (none) else (if (IntKind.u64.wrap (Int.tdiv (IntKind.u64.wrap (Int.tdiv a1 t403)) t405)) > 1 then (some (0, false, 0, 0, 1)) else ((grottoref02_power.f k a0_1).bind fun t407 => (if (Int.tmod (IntKind.u64.wrap (Int.tdiv a1 t403)) t404) = (IntKind.u64.wrap (t407 - 1)) then (grottoref02_Open.j0 k (Int.tmod a1 t402) (Int.tmod (IntKind.u64.wrap (Int.tdiv a1 t403)) t404) ((Int.tmod a1 t402) == 0) a0_0 a0_1 0 ((IntKind.u64.wrap (Int.tdiv (IntKind.u64.wrap (Int.tdiv a1 t403)) t405)) == 1) 0 0) else (grottoref02_Open.j0 k (Int.tmod a1 t402) (Int.tmod (IntKind.u64.wrap (Int.tdiv a1 t403)) t404) false a0_0 a0_1 0 ((IntKind.u64.wrap (Int.tdiv (IntKind.u64.wrap (Int.tdiv a1 t403)) t405)) == 1) 0 0))))))) = some (r1, r2, r3, r4, r5) := H
        have A9 := Aside0.mk A90
        clear A90
        by_cases c10 : t404 = 0
        · rw [if_pos c10] at H
          exact absurd H (by simp)
        · rw [if_neg c10] at H
          have c10b0 : (t404 == 0) = false := beq_eq_false_iff_ne.mpr c10
          have c10b1 : (t404 != 0) = true := bne_iff_ne.mpr c10
          replace H := Option.bind_eq_some_iff.mp H
          obtain ⟨t405, A110, H⟩ := H
          replace H : (if t405 = 0 then (none) else (if (IntKind.u64.wrap (Int.tdiv (IntKind.u64.wrap (Int.tdiv a1 t403)) t405)) > 1 then (some (0, false, 0, 0, 1)) else ((grottoref02_power.f k a0_1).bind fun t407 => (if (Int.tmod (IntKind.u64.wrap (Int.tdiv a1 t403)) t404) = (IntKind.u64.wrap (t407 - 1)) then (grottoref02_Open.j0 k (Int.tmod a1 t402) (Int.tmod (IntKind.u64.wrap (Int.tdiv a1 t403)) t404) ((Int.tmod a1 t402) == 0) a0_0 a0_1 0 ((IntKind.u64.wrap (Int.tdiv (IntKind.u64.wrap (Int.tdiv a1 t403)) t405)) == 1) 0 0) else (grottoref02_Open.j0 k (Int.tmod a1 t402) (Int.tmod (IntKind.u64.wrap (Int.tdiv a1 t403)) t404) false a0_0 a0_1 0 ((IntKind.u64.wrap (Int.tdiv (IntKind.u64.wrap (Int.tdiv a1 t403)) t405)) == 1) 0 0))))) = some (r1, r2, r3, r4, r5) := H
          have A11 := Aside0.mk A110
          clear A110
          by_cases c12 : t405 = 0
          · rw [if_pos c12] at H
            exact absurd H (by simp)
          · rw [if_neg c12] at H
            have c12b0 : (t405 == 0) = false := beq_eq_false_iff_ne.mpr c12
            have c12b1 : (t405 != 0) = true := bne_iff_ne.mpr c12
            by_cases c13 : (IntKind.u64.wrap (Int.tdiv (IntKind.u64.wrap (Int.tdiv a1 t403)) t405)) > 1
            · rw [if_pos c13] at H
              have c13b0 : decide (1 < (IntKind.u64.wrap (Int.tdiv (IntKind.u64.wrap (Int.tdiv a1 t403)) t405))) = true := decide_eq_true c13
              clear c13
              simp only [Option.some.injEq, Prod.mk.injEq] at H
              obtain ⟨rfl, rfl, rfl, rfl, rfl⟩ := H
              go_enter Try.func17, Try.ntmps17
              go_wp2_with (first | ((with_reducible refine gate_dst (N := 2) rfl ?_); refine zbox (N := 2) (cs := #[.int .i64 a0_0, .int .i64 a0_1]) (t := 23) ?_; intro gb399 hg w14 hbox hb; have BK399 := Aside0.mk hbox; have GW399 := zge hg HB; have GE399 := zge hg HB; replace HB := zbs HB hb; clear hb hbox hg) | ((with_reducible refine gate_dst (N := 4) rfl ?_); refine zbox (N := 4) (cs := #[.int .i64 0, .bool false, .int .i64 0, .int .u64 0]) (t := 42) ?_; intro gb400 hg w15 hbox hb; have BK400 := Aside0.mk hbox; have GW400 := zge hg HB; have GE400 := zge hg HB; have NB399_400 := znl hg BK399; have NB400_399 := zng hg BK399; replace BK399 := zkb BK399 hb; replace HB := zbs HB hb; clear hb hbox hg; have hnb16 := NB399_400.out; have hnc16 := NB400_399.out; obtain ⟨hcz17_0, hcz17_1, hfz17_0, hfz17_1⟩ := zc2 BK399) | ((with_reducible refine gate_callee (f := 19) rfl ?_); refine zgo (some 10) Try.func19 #[.agg #[.int .i64 a0_0, .int .i64 a0_1]] ?_; (with_reducible refine (grottoref02_Check.calls a0_0 a0_1 t401 _ A3.out).mono ?_); rintro e w18 ⟨rfl, hb⟩; refine ⟨_, rfl, ?_⟩; replace BK399 := zkb BK399 hb; replace BK400 := zkb BK400 hb; replace HB := zbs HB hb; (try clear hb); (try clear hb2); (try clear hk); (try clear hi); obtain ⟨hcz19_0, hcz19_1, hfz19_0, hfz19_1⟩ := zc2 BK399) | ((with_reducible refine gate_callee (f := 39) rfl ?_); refine zgo (some 16) Try.func39 #[.int .i64 a0_0] ?_; (with_reducible refine (grottoref02_power.calls k a0_0 t402 _ A5.out).mono ?_); rintro e w' ⟨rfl, ⟨nd, rfl⟩⟩; refine ⟨_, rfl, ?_⟩; (try (rw [drewN_self w18]; generalize hq_ : World.drewN w18 _ = w18; have n0_ : Aside0 (w18.heap[gb399]? = some (.cells #[.int .i64 a0_0, .int .i64 a0_1] 23 (0, 0))) := ⟨by rw [← hq_]; exact (zk BK399)⟩; have n1_ : Aside0 (w18.heap[gb400]? = some (.cells #[.int .i64 0, .bool false, .int .i64 0, .int .u64 0] 42 (0, 0))) := ⟨by rw [← hq_]; exact (zk BK400)⟩; have n2_ : Aside0 (Below w.heap.size w w18) := ⟨by rw [← hq_]; exact (zb HB)⟩; clear BK399 BK400 HB hq_; have BK399 := n0_; have BK400 := n1_; have HB := n2_; clear n0_ n1_ n2_; obtain ⟨y399_0, y399_1, y399_2, y399_3⟩ := zc2 BK399; obtain ⟨y400_0, y400_1, y400_2, y400_3, y400_4, y400_5, y400_6, y400_7⟩ := zc4 BK400))) | ((with_reducible refine gate_callee (f := 39) rfl ?_); refine zgo (some 21) Try.func39 #[.int .i64 a0_0] ?_; (with_reducible refine (grottoref02_power.calls k a0_0 t403 _ A7.out).mono ?_); rintro e w' ⟨rfl, ⟨nd, rfl⟩⟩; refine ⟨_, rfl, ?_⟩; (try (rw [drewN_self w18]; generalize hq_ : World.drewN w18 _ = w18; have n0_ : Aside0 (w18.heap[gb399]? = some (.cells #[.int .i64 a0_0, .int .i64 a0_1] 23 (0, 0))) := ⟨by rw [← hq_]; exact (zk BK399)⟩; have n1_ : Aside0 (w18.heap[gb400]? = some (.cells #[.int .i64 0, .bool false, .int .i64 0, .int .u64 0] 42 (0, 0))) := ⟨by rw [← hq_]; exact (zk BK400)⟩; have n2_ : Aside0 (Below w.heap.size w w18) := ⟨by rw [← hq_]; exact (zb HB)⟩; clear BK399 BK400 HB hq_; have BK399 := n0_; have BK400 := n1_; have HB := n2_; clear n0_ n1_ n2_; obtain ⟨y399_0, y399_1, y399_2, y399_3⟩ := zc2 BK399; obtain ⟨y400_0, y400_1, y400_2, y400_3, y400_4, y400_5, y400_6, y400_7⟩ := zc4 BK400))) | ((with_reducible refine gate_callee (f := 39) rfl ?_); refine zgo (some 26) Try.func39 #[.int .i64 a0_1] ?_; (with_reducible refine (grottoref02_power.calls k a0_1 t404 _ A9.out).mono ?_); rintro e w' ⟨rfl, ⟨nd, rfl⟩⟩; refine ⟨_, rfl, ?_⟩; (try (rw [drewN_self w18]; generalize hq_ : World.drewN w18 _ = w18; have n0_ : Aside0 (w18.heap[gb399]? = some (.cells #[.int .i64 a0_0, .int .i64 a0_1] 23 (0, 0))) := ⟨by rw [← hq_]; exact (zk BK399)⟩; have n1_ : Aside0 (w18.heap[gb400]? = some (.cells #[.int .i64 0, .bool false, .int .i64 0, .int .u64 0] 42 (0, 0))) := ⟨by rw [← hq_]; exact (zk BK400)⟩; have n2_ : Aside0 (Below w.heap.size w w18) := ⟨by rw [← hq_]; exact (zb HB)⟩; clear BK399 BK400 HB hq_; have BK399 := n0_; have BK400 := n1_; have HB := n2_; clear n0_ n1_ n2_; obtain ⟨y399_0, y399_1, y399_2, y399_3⟩ := zc2 BK399; obtain ⟨y400_0, y400_1, y400_2, y400_3, y400_4, y400_5, y400_6, y400_7⟩ := zc4 BK400))) | ((with_reducible refine gate_callee (f := 39) rfl ?_); refine zgo (some 31) Try.func39 #[.int .i64 a0_1] ?_; (with_reducible refine (grottoref02_power.calls k a0_1 t405 _ A11.out).mono ?_); rintro e w' ⟨rfl, ⟨nd, rfl⟩⟩; refine ⟨_, rfl, ?_⟩; (try (rw [drewN_self w18]; generalize hq_ : World.drewN w18 _ = w18; have n0_ : Aside0 (w18.heap[gb399]? = some (.cells #[.int .i64 a0_0, .int .i64 a0_1] 23 (0, 0))) := ⟨by rw [← hq_]; exact (zk BK399)⟩; have n1_ : Aside0 (w18.heap[gb400]? = some (.cells #[.int .i64 0, .bool false, .int .i64 0, .int .u64 0] 42 (0, 0))) := ⟨by rw [← hq_]; exact (zk BK400)⟩; have n2_ : Aside0 (Below w.heap.size w w18) := ⟨by rw [← hq_]; exact (zb HB)⟩; clear BK399 BK400 HB hq_; have BK399 := n0_; have BK400 := n1_; have HB := n2_; clear n0_ n1_ n2_; obtain ⟨y399_0, y399_1, y399_2, y399_3⟩ := zc2 BK399; obtain ⟨y400_0, y400_1, y400_2, y400_3, y400_4, y400_5, y400_6, y400_7⟩ := zc4 BK400)); obtain ⟨hcz20_0, hcz20_1, hcz20_2, hcz20_3, hfz20_0, hfz20_1, hfz20_2, hfz20_3⟩ := zc4 BK400))
              refine bodyPost_ret (results_ct rfl _ _ gb400 42 #[.int .i64 0, .bool false, .int .i64 0, .int .u64 0] (0, 0) _ rfl (zkp BK400) Try.underlying42 rfl (by kernel_rfl)) rfl ?_
              exact ⟨by first | rfl | (simp [errW_none, errW_some] <;> rfl) | (simp [*, errW_none, errW_some] <;> rfl), zb HB⟩
            · rw [if_neg c13] at H
              have c13b0 : decide (1 < (IntKind.u64.wrap (Int.tdiv (IntKind.u64.wrap (Int.tdiv a1 t403)) t405))) = false := decide_eq_false c13
              clear c13
              have HC21 := Aside0.mk H
              clear H
              go_enter Try.func17, Try.ntmps17
              go_upto_region 11 with (first | ((with_reducible refine gate_dst (N := 2) rfl ?_); refine zbox (N := 2) (cs := #[.int .i64 a0_0, .int .i64 a0_1]) (t := 23) ?_; intro gb399 hg w22 hbox hb; have BK399 := Aside0.mk hbox; have GW399 := zge hg HB; have GE399 := zge hg HB; replace HB := zbs HB hb; clear hb hbox hg) | ((with_reducible refine gate_dst (N := 4) rfl ?_); refine zbox (N := 4) (cs := #[.int .i64 0, .bool false, .int .i64 0, .int .u64 0]) (t := 42) ?_; intro gb400 hg w23 hbox hb; have BK400 := Aside0.mk hbox; have GW400 := zge hg HB; have GE400 := zge hg HB; have NB399_400 := znl hg BK399; have NB400_399 := zng hg BK399; replace BK399 := zkb BK399 hb; replace HB := zbs HB hb; clear hb hbox hg; have hnb24 := NB399_400.out; have hnc24 := NB400_399.out; obtain ⟨hcz25_0, hcz25_1, hfz25_0, hfz25_1⟩ := zc2 BK399) | ((with_reducible refine gate_callee (f := 19) rfl ?_); refine zgo (some 10) Try.func19 #[.agg #[.int .i64 a0_0, .int .i64 a0_1]] ?_; (with_reducible refine (grottoref02_Check.calls a0_0 a0_1 t401 _ A3.out).mono ?_); rintro e w26 ⟨rfl, hb⟩; refine ⟨_, rfl, ?_⟩; replace BK399 := zkb BK399 hb; replace BK400 := zkb BK400 hb; replace HB := zbs HB hb; (try clear hb); (try clear hb2); (try clear hk); (try clear hi); obtain ⟨hcz27_0, hcz27_1, hfz27_0, hfz27_1⟩ := zc2 BK399) | ((with_reducible refine gate_callee (f := 39) rfl ?_); refine zgo (some 16) Try.func39 #[.int .i64 a0_0] ?_; (with_reducible refine (grottoref02_power.calls k a0_0 t402 _ A5.out).mono ?_); rintro e w' ⟨rfl, ⟨nd, rfl⟩⟩; refine ⟨_, rfl, ?_⟩; (try (rw [drewN_self w26]; generalize hq_ : World.drewN w26 _ = w26; have n0_ : Aside0 (w26.heap[gb399]? = some (.cells #[.int .i64 a0_0, .int .i64 a0_1] 23 (0, 0))) := ⟨by rw [← hq_]; exact (zk BK399)⟩; have n1_ : Aside0 (w26.heap[gb400]? = some (.cells #[.int .i64 0, .bool false, .int .i64 0, .int .u64 0] 42 (0, 0))) := ⟨by rw [← hq_]; exact (zk BK400)⟩; have n2_ : Aside0 (Below w.heap.size w w26) := ⟨by rw [← hq_]; exact (zb HB)⟩; clear BK399 BK400 HB hq_; have BK399 := n0_; have BK400 := n1_; have HB := n2_; clear n0_ n1_ n2_; obtain ⟨y399_0, y399_1, y399_2, y399_3⟩ := zc2 BK399; obtain ⟨y400_0, y400_1, y400_2, y400_3, y400_4, y400_5, y400_6, y400_7⟩ := zc4 BK400))) | ((with_reducible refine gate_callee (f := 39) rfl ?_); refine zgo (some 21) Try.func39 #[.int .i64 a0_0] ?_; (with_reducible refine (grottoref02_power.calls k a0_0 t403 _ A7.out).mono ?_); rintro e w' ⟨rfl, ⟨nd, rfl⟩⟩; refine ⟨_, rfl, ?_⟩; (try (rw [drewN_self w26]; generalize hq_ : World.drewN w26 _ = w26; have n0_ : Aside0 (w26.heap[gb399]? = some (.cells #[.int .i64 a0_0, .int .i64 a0_1] 23 (0, 0))) := ⟨by rw [← hq_]; exact (zk BK399)⟩; have n1_ : Aside0 (w26.heap[gb400]? = some (.cells #[.int .i64 0, .bool false, .int .i64 0, .int .u64 0] 42 (0, 0))) := ⟨by rw [← hq_]; exact (zk BK400)⟩; have n2_ : Aside0 (Below w.heap.size w w26) := ⟨by rw [← hq_]; exact (zb HB)⟩; clear BK399 BK400 HB hq_; have BK399 := n0_; have BK400 := n1_; have HB := n2_; clear n0_ n1_ n2_; obtain ⟨y399_0, y399_1, y399_2, y399_3⟩ := zc2 BK399; obtain ⟨y400_0, y400_1, y400_2, y400_3, y400_4, y400_5, y400_6, y400_7⟩ := zc4 BK400))) | ((with_reducible refine gate_callee (f := 39) rfl ?_); refine zgo (some 26) Try.func39 #[.int .i64 a0_1] ?_; (with_reducible refine (grottoref02_power.calls k a0_1 t404 _ A9.out).mono ?_); rintro e w' ⟨rfl, ⟨nd, rfl⟩⟩; refine ⟨_, rfl, ?_⟩; (try (rw [drewN_self w26]; generalize hq_ : World.drewN w26 _ = w26; have n0_ : Aside0 (w26.heap[gb399]? = some (.cells #[.int .i64 a0_0, .int .i64 a0_1] 23 (0, 0))) := ⟨by rw [← hq_]; exact (zk BK399)⟩; have n1_ : Aside0 (w26.heap[gb400]? = some (.cells #[.int .i64 0, .bool false, .int .i64 0, .int .u64 0] 42 (0, 0))) := ⟨by rw [← hq_]; exact (zk BK400)⟩; have n2_ : Aside0 (Below w.heap.size w w26) := ⟨by rw [← hq_]; exact (zb HB)⟩; clear BK399 BK400 HB hq_; have BK399 := n0_; have BK400 := n1_; have HB := n2_; clear n0_ n1_ n2_; obtain ⟨y399_0, y399_1, y399_2, y399_3⟩ := zc2 BK399; obtain ⟨y400_0, y400_1, y400_2, y400_3, y400_4, y400_5, y400_6, y400_7⟩ := zc4 BK400))) | ((with_reducible refine gate_callee (f := 39) rfl ?_); refine zgo (some 31) Try.func39 #[.int .i64 a0_1] ?_; (with_reducible refine (grottoref02_power.calls k a0_1 t405 _ A11.out).mono ?_); rintro e w' ⟨rfl, ⟨nd, rfl⟩⟩; refine ⟨_, rfl, ?_⟩; (try (rw [drewN_self w26]; generalize hq_ : World.drewN w26 _ = w26; have n0_ : Aside0 (w26.heap[gb399]? = some (.cells #[.int .i64 a0_0, .int .i64 a0_1] 23 (0, 0))) := ⟨by rw [← hq_]; exact (zk BK399)⟩; have n1_ : Aside0 (w26.heap[gb400]? = some (.cells #[.int .i64 0, .bool false, .int .i64 0, .int .u64 0] 42 (0, 0))) := ⟨by rw [← hq_]; exact (zk BK400)⟩; have n2_ : Aside0 (Below w.heap.size w w26) := ⟨by rw [← hq_]; exact (zb HB)⟩; clear BK399 BK400 HB hq_; have BK399 := n0_; have BK400 := n1_; have HB := n2_; clear n0_ n1_ n2_; obtain ⟨y399_0, y399_1, y399_2, y399_3⟩ := zc2 BK399; obtain ⟨y400_0, y400_1, y400_2, y400_3, y400_4, y400_5, y400_6, y400_7⟩ := zc4 BK400))) | ((with_reducible refine gate_dst (N := 8) rfl ?_); refine zbox (N := 8) (cs := #[.int .i64 0, .bool false, .int .i64 0, .int .u64 0]) (t := 42) ?_; intro gb406 hg w28 hbox hb; have BK406 := Aside0.mk hbox; have GW406 := zge hg HB; have GE406 := zge hg HB; have NB399_406 := znl hg BK399; have NB406_399 := zng hg BK399; have NB400_406 := znl hg BK400; have NB406_400 := zng hg BK400; replace BK399 := zkb BK399 hb; replace BK400 := zkb BK400 hb; replace HB := zbs HB hb; clear hb hbox hg; have hnb29 := NB406_399.out; have hnc29 := NB399_406.out; have hnb30 := NB406_400.out; have hnc30 := NB400_406.out; obtain ⟨hcz31_0, hcz31_1, hcz31_2, hcz31_3, hfz31_0, hfz31_1, hfz31_2, hfz31_3⟩ := zc4 BK406))
              (try simp only [Act.put, List.setIfInBounds_toArray, List.set_cons_zero, List.set_cons_succ])
              go_cut [55] (fun v55 wc => ∃ (kq : Nat) (x55_20 : Bool), v55 = .bool x55_20 ∧ Aside0 (grottoref02_Open.j0 kq (Int.tmod a1 t402) (Int.tmod (IntKind.u64.wrap (Int.tdiv a1 t403)) t404) x55_20 a0_0 a0_1 0 ((IntKind.u64.wrap (Int.tdiv (IntKind.u64.wrap (Int.tdiv a1 t403)) t405)) == 1) 0 0 = some (r1, r2, r3, r4, r5)) ∧ Aside0 (kq ≤ k) ∧ Aside0 (wc.heap[gb399]? = some (.cells #[.int .i64 a0_0, .int .i64 a0_1] 23 (0, 0))) ∧ Aside0 (wc.heap[gb400]? = some (.cells #[.int .i64 0, .bool false, .int .i64 0, .int .u64 0] 42 (0, 0))) ∧ Aside0 (wc.heap[gb406]? = some (.cells #[.int .i64 0, .bool ((IntKind.u64.wrap (Int.tdiv (IntKind.u64.wrap (Int.tdiv a1 t403)) t405)) == 1), .int .i64 0, .int .u64 0] 42 (0, 0))) ∧ Aside0 (Below w.heap.size w wc))
              case first =>
                have H := HC21.out
                clear HC21
                replace H := Option.bind_eq_some_iff.mp H
                obtain ⟨t407, A320, H⟩ := H
                replace H : (if (Int.tmod (IntKind.u64.wrap (Int.tdiv a1 t403)) t404) = (IntKind.u64.wrap (t407 - 1)) then (grottoref02_Open.j0 k (Int.tmod a1 t402) (Int.tmod (IntKind.u64.wrap (Int.tdiv a1 t403)) t404) ((Int.tmod a1 t402) == 0) a0_0 a0_1 0 ((IntKind.u64.wrap (Int.tdiv (IntKind.u64.wrap (Int.tdiv a1 t403)) t405)) == 1) 0 0) else (grottoref02_Open.j0 k (Int.tmod a1 t402) (Int.tmod (IntKind.u64.wrap (Int.tdiv a1 t403)) t404) false a0_0 a0_1 0 ((IntKind.u64.wrap (Int.tdiv (IntKind.u64.wrap (Int.tdiv a1 t403)) t405)) == 1) 0 0)) = some (r1, r2, r3, r4, r5) := H
                have A32 := Aside0.mk A320
                clear A320
                by_cases c33 : (Int.tmod (IntKind.u64.wrap (Int.tdiv a1 t403)) t404) = (IntKind.u64.wrap (t407 - 1))
                · rw [if_pos c33] at H
                  have c33b0 : ((Int.tmod (IntKind.u64.wrap (Int.tdiv a1 t403)) t404) == (IntKind.u64.wrap (t407 - 1))) = true := beq_iff_eq.mpr c33
                  have c33b1 : ((Int.tmod (IntKind.u64.wrap (Int.tdiv a1 t403)) t404) != (IntKind.u64.wrap (t407 - 1))) = false := bne_eq_false_iff_eq.mpr c33
                  clear c33
                  (first | rw [c33b0] | (simp only [i64_w, i32_w]; rw [c33b0]) | skip)
                  have H' := Aside0.mk H
                  clear H
                  have hnb34 := NB399_400.out
                  have hnc34 := NB400_399.out
                  have hnb35 := NB399_406.out
                  have hnc35 := NB406_399.out
                  obtain ⟨hcz36_0, hcz36_1, hfz36_0, hfz36_1⟩ := zc2 BK399
                  go_wp2_with (first | ((with_reducible refine gate_callee (f := 39) rfl ?_); refine zgo (some 59) Try.func39 #[.int .i64 a0_1] ?_; (with_reducible refine (grottoref02_power.calls k a0_1 t407 _ A32.out).mono ?_); rintro e w' ⟨rfl, ⟨nd, rfl⟩⟩; refine ⟨_, rfl, ?_⟩))
                  go_meet
                  case rel => exact ⟨_, (((Int.tmod a1 t402) == 0)), (by first | rfl | (simp; done) | (simp [*]; done)), H', ⟨by first | omega | exact Nat.le_refl _⟩, ⟨zk BK399⟩, ⟨zk BK400⟩, ⟨zkp BK406⟩, ⟨zb HB⟩⟩
                · rw [if_neg c33] at H
                  have c33b0 : ((Int.tmod (IntKind.u64.wrap (Int.tdiv a1 t403)) t404) == (IntKind.u64.wrap (t407 - 1))) = false := beq_eq_false_iff_ne.mpr c33
                  have c33b1 : ((Int.tmod (IntKind.u64.wrap (Int.tdiv a1 t403)) t404) != (IntKind.u64.wrap (t407 - 1))) = true := bne_iff_ne.mpr c33
                  (first | rw [c33b0] | (simp only [i64_w, i32_w]; rw [c33b0]) | skip)
                  have H' := Aside0.mk H
                  clear H
                  have hnb37 := NB399_400.out
                  have hnc37 := NB400_399.out
                  have hnb38 := NB399_406.out
                  have hnc38 := NB406_399.out
                  obtain ⟨hcz39_0, hcz39_1, hfz39_0, hfz39_1⟩ := zc2 BK399
                  go_wp2_with (first | ((with_reducible refine gate_callee (f := 39) rfl ?_); refine zgo (some 59) Try.func39 #[.int .i64 a0_1] ?_; (with_reducible refine (grottoref02_power.calls k a0_1 t407 _ A32.out).mono ?_); rintro e w' ⟨rfl, ⟨nd, rfl⟩⟩; refine ⟨_, rfl, ?_⟩))
                  go_meet
                  case rel => exact ⟨_, (false), (by first | rfl | (simp; done) | (simp [*]; done)), H', ⟨by first | omega | exact Nat.le_refl _⟩, ⟨zk BK399⟩, ⟨zk BK400⟩, ⟨zkp BK406⟩, ⟨zb HB⟩⟩
              case rest =>
                clear HC21
                try clear c1
                try clear c2
                try clear p2
                try clear c3
                try clear c4
                try clear c4b0
                try clear c4b1
                try clear c6
                try clear c6b0
                try clear c6b1
                try clear c8
                try clear c8b0
                try clear c8b1
                try clear c10
                try clear c10b0
                try clear c10b1
                try clear c12
                try clear c12b0
                try clear c12b1
                try clear c13
                try clear c13b0
                try clear c16
                try clear c17
                try clear c19
                try clear c24
                try clear c29
                try clear c30
                try clear c33
                try clear c33b0
                try clear c33b1
                try clear c34
                try clear c35
                try clear c37
                try clear c38
                try clear c39
                try clear hcz17_0
                try clear hcz17_1
                try clear hcz19_0
                try clear hcz19_1
                try clear hcz20_0
                try clear hcz20_1
                try clear hcz20_2
                try clear hcz20_3
                try clear hcz25_0
                try clear hcz25_1
                try clear hcz27_0
                try clear hcz27_1
                try clear hcz31_0
                try clear hcz31_1
                try clear hcz31_2
                try clear hcz31_3
                try clear hcz36_0
                try clear hcz36_1
                try clear hcz39_0
                try clear hcz39_1
                try clear hfz17_0
                try clear hfz17_1
                try clear hfz19_0
                try clear hfz19_1
                try clear hfz20_0
                try clear hfz20_1
                try clear hfz20_2
                try clear hfz20_3
                try clear hfz25_0
                try clear hfz25_1
                try clear hfz27_0
                try clear hfz27_1
                try clear hfz31_0
                try clear hfz31_1
                try clear hfz31_2
                try clear hfz31_3
                try clear hfz36_0
                try clear hfz36_1
                try clear hfz39_0
                try clear hfz39_1
                obtain ⟨kq, x55_20, rfl, HA, HJ20, BK399, BK400, BK406, HB⟩ := hcut
                cases kq with
                | zero => exact absurd HA.out (by simp [grottoref02_Open.j0])
                | succ kj20 =>
                  have H := HA.out
                  clear HA
                  simp only [grottoref02_Open.j0] at H
                  by_cases c40 : x55_20 = true
                  · subst c40
                    have H1 : (some (3, ((IntKind.u64.wrap (Int.tdiv (IntKind.u64.wrap (Int.tdiv a1 t403)) t405)) == 1), 0, 0, 0)) = some (r1, r2, r3, r4, r5) := by rw [if_pos rfl] at H; exact H
                    clear H
                    have H := H1
                    clear H1
                    simp only [Option.some.injEq, Prod.mk.injEq] at H
                    obtain ⟨rfl, rfl, rfl, rfl, rfl⟩ := H
                    have hnb41 := NB406_399.out
                    have hnc41 := NB399_406.out
                    have hnb42 := NB406_400.out
                    have hnc42 := NB400_406.out
                    obtain ⟨hcz43_0, hcz43_1, hcz43_2, hcz43_3, hfz43_0, hfz43_1, hfz43_2, hfz43_3⟩ := zc4 BK406
                    have hnb44 := NB400_399.out
                    have hnc44 := NB399_400.out
                    obtain ⟨hcz45_0, hcz45_1, hcz45_2, hcz45_3, hfz45_0, hfz45_1, hfz45_2, hfz45_3⟩ := zc4 BK400
                    go_wp2
                    refine bodyPost_ret (results_ct rfl _ _ gb400 42 #[.int .i64 3, .bool ((IntKind.u64.wrap (Int.tdiv (IntKind.u64.wrap (Int.tdiv a1 t403)) t405)) == 1), .int .i64 0, .int .u64 0] (0, 0) _ rfl (zkp BK400) Try.underlying42 rfl (by kernel_rfl)) rfl ?_
                    exact ⟨by first | rfl | (simp [errW_none, errW_some] <;> rfl) | (simp [*, errW_none, errW_some] <;> rfl), zb HB⟩
                  · replace c40 := Bool.eq_false_iff.mpr c40
                    subst c40
                    have H1 : ((grottoref02_power.f kj20 a0_1).bind fun t408 => (if (Int.tmod (IntKind.u64.wrap (Int.tdiv a1 t403)) t404) = (IntKind.u64.wrap (t408 - 1)) then (some (4, ((IntKind.u64.wrap (Int.tdiv (IntKind.u64.wrap (Int.tdiv a1 t403)) t405)) == 1), 0, 0, 0)) else (if (Int.tmod (IntKind.u64.wrap (Int.tdiv a1 t403)) t404) = 0 then (grottoref02_Open.j1 kj20 (Int.tmod a1 t402) (Int.tmod (IntKind.u64.wrap (Int.tdiv a1 t403)) t404) ((Int.tmod a1 t402) == 0) a0_0 a0_1 0 ((IntKind.u64.wrap (Int.tdiv (IntKind.u64.wrap (Int.tdiv a1 t403)) t405)) == 1) 0 0) else (grottoref02_Open.j1 kj20 (Int.tmod a1 t402) (Int.tmod (IntKind.u64.wrap (Int.tdiv a1 t403)) t404) false a0_0 a0_1 0 ((IntKind.u64.wrap (Int.tdiv (IntKind.u64.wrap (Int.tdiv a1 t403)) t405)) == 1) 0 0)))) = some (r1, r2, r3, r4, r5) := by rw [if_neg (show ¬ (false = true) by decide)] at H; exact H
                    clear H
                    have H := H1
                    clear H1
                    replace H := Option.bind_eq_some_iff.mp H
                    obtain ⟨t408, A460, H⟩ := H
                    replace H : (if (Int.tmod (IntKind.u64.wrap (Int.tdiv a1 t403)) t404) = (IntKind.u64.wrap (t408 - 1)) then (some (4, ((IntKind.u64.wrap (Int.tdiv (IntKind.u64.wrap (Int.tdiv a1 t403)) t405)) == 1), 0, 0, 0)) else (if (Int.tmod (IntKind.u64.wrap (Int.tdiv a1 t403)) t404) = 0 then (grottoref02_Open.j1 kj20 (Int.tmod a1 t402) (Int.tmod (IntKind.u64.wrap (Int.tdiv a1 t403)) t404) ((Int.tmod a1 t402) == 0) a0_0 a0_1 0 ((IntKind.u64.wrap (Int.tdiv (IntKind.u64.wrap (Int.tdiv a1 t403)) t405)) == 1) 0 0) else (grottoref02_Open.j1 kj20 (Int.tmod a1 t402) (Int.tmod (IntKind.u64.wrap (Int.tdiv a1 t403)) t404) false a0_0 a0_1 0 ((IntKind.u64.wrap (Int.tdiv (IntKind.u64.wrap (Int.tdiv a1 t403)) t405)) == 1) 0 0))) = some (r1, r2, r3, r4, r5) := H
                    have A46 := Aside0.mk A460
                    clear A460
                    by_cases c47 : (Int.tmod (IntKind.u64.wrap (Int.tdiv a1 t403)) t404) = (IntKind.u64.wrap (t408 - 1))
                    · rw [if_pos c47] at H
                      have c47b0 : ((Int.tmod (IntKind.u64.wrap (Int.tdiv a1 t403)) t404) == (IntKind.u64.wrap (t408 - 1))) = true := beq_iff_eq.mpr c47
                      have c47b1 : ((Int.tmod (IntKind.u64.wrap (Int.tdiv a1 t403)) t404) != (IntKind.u64.wrap (t408 - 1))) = false := bne_eq_false_iff_eq.mpr c47
                      clear c47
                      simp only [Option.some.injEq, Prod.mk.injEq] at H
                      obtain ⟨rfl, rfl, rfl, rfl, rfl⟩ := H
                      have hnb48 := NB399_400.out
                      have hnc48 := NB400_399.out
                      have hnb49 := NB399_406.out
                      have hnc49 := NB406_399.out
                      obtain ⟨hcz50_0, hcz50_1, hfz50_0, hfz50_1⟩ := zc2 BK399
                      go_wp2_with (first | ((with_reducible refine gate_callee (f := 39) rfl ?_); refine zgo (some 71) Try.func39 #[.int .i64 a0_1] ?_; (with_reducible refine (grottoref02_power.calls kj20 a0_1 t408 _ A46.out).mono ?_); rintro e w' ⟨rfl, ⟨nd, rfl⟩⟩; refine ⟨_, rfl, ?_⟩; (try (rw [drewN_self wc]; generalize hq_ : World.drewN wc _ = wc; have n0_ : Aside0 (wc.heap[gb399]? = some (.cells #[.int .i64 a0_0, .int .i64 a0_1] 23 (0, 0))) := ⟨by rw [← hq_]; exact (zk BK399)⟩; have n1_ : Aside0 (wc.heap[gb400]? = some (.cells #[.int .i64 0, .bool false, .int .i64 0, .int .u64 0] 42 (0, 0))) := ⟨by rw [← hq_]; exact (zk BK400)⟩; have n2_ : Aside0 (wc.heap[gb406]? = some (.cells #[.int .i64 0, .bool ((IntKind.u64.wrap (Int.tdiv (IntKind.u64.wrap (Int.tdiv a1 t403)) t405)) == 1), .int .i64 0, .int .u64 0] 42 (0, 0))) := ⟨by rw [← hq_]; exact (zk BK406)⟩; have n3_ : Aside0 (Below w.heap.size w wc) := ⟨by rw [← hq_]; exact (zb HB)⟩; clear BK399 BK400 BK406 HB hq_; have BK399 := n0_; have BK400 := n1_; have BK406 := n2_; have HB := n3_; clear n0_ n1_ n2_ n3_; obtain ⟨y399_0, y399_1, y399_2, y399_3⟩ := zc2 BK399; obtain ⟨y400_0, y400_1, y400_2, y400_3, y400_4, y400_5, y400_6, y400_7⟩ := zc4 BK400; obtain ⟨y406_0, y406_1, y406_2, y406_3, y406_4, y406_5, y406_6, y406_7⟩ := zc4 BK406)); have hnb51 := NB406_400.out; have hnc51 := NB400_406.out; obtain ⟨hcz52_0, hcz52_1, hcz52_2, hcz52_3, hfz52_0, hfz52_1, hfz52_2, hfz52_3⟩ := zc4 BK406; obtain ⟨hcz53_0, hcz53_1, hcz53_2, hcz53_3, hfz53_0, hfz53_1, hfz53_2, hfz53_3⟩ := zc4 BK400))
                      refine bodyPost_ret (results_ct rfl _ _ gb400 42 #[.int .i64 4, .bool ((IntKind.u64.wrap (Int.tdiv (IntKind.u64.wrap (Int.tdiv a1 t403)) t405)) == 1), .int .i64 0, .int .u64 0] (0, 0) _ rfl (zkp BK400) Try.underlying42 rfl (by kernel_rfl)) rfl ?_
                      exact ⟨by first | rfl | (simp [errW_none, errW_some] <;> rfl) | (simp [*, errW_none, errW_some] <;> rfl), zb HB⟩
                    · rw [if_neg c47] at H
                      have c47b0 : ((Int.tmod (IntKind.u64.wrap (Int.tdiv a1 t403)) t404) == (IntKind.u64.wrap (t408 - 1))) = false := beq_eq_false_iff_ne.mpr c47
                      have c47b1 : ((Int.tmod (IntKind.u64.wrap (Int.tdiv a1 t403)) t404) != (IntKind.u64.wrap (t408 - 1))) = true := bne_iff_ne.mpr c47
                      have HC54 := Aside0.mk H
                      clear H
                      have hnb55 := NB399_400.out
                      have hnc55 := NB400_399.out
                      have hnb56 := NB399_406.out
                      have hnc56 := NB406_399.out
                      obtain ⟨hcz57_0, hcz57_1, hfz57_0, hfz57_1⟩ := zc2 BK399
                      go_upto_region 15 with (first | ((with_reducible refine gate_callee (f := 39) rfl ?_); refine zgo (some 71) Try.func39 #[.int .i64 a0_1] ?_; (with_reducible refine (grottoref02_power.calls kj20 a0_1 t408 _ A46.out).mono ?_); rintro e w' ⟨rfl, ⟨nd, rfl⟩⟩; refine ⟨_, rfl, ?_⟩))
                      (try simp only [Act.put, List.setIfInBounds_toArray, List.set_cons_zero, List.set_cons_succ])
                      go_cut [75] (fun v75 wc => ∃ (kq : Nat) (x75_53 : Bool), v75 = .bool x75_53 ∧ Aside0 (grottoref02_Open.j1 kq (Int.tmod a1 t402) (Int.tmod (IntKind.u64.wrap (Int.tdiv a1 t403)) t404) x75_53 a0_0 a0_1 0 ((IntKind.u64.wrap (Int.tdiv (IntKind.u64.wrap (Int.tdiv a1 t403)) t405)) == 1) 0 0 = some (r1, r2, r3, r4, r5)) ∧ Aside0 (kq ≤ kj20) ∧ Aside0 (wc.heap[gb399]? = some (.cells #[.int .i64 a0_0, .int .i64 a0_1] 23 (0, 0))) ∧ Aside0 (wc.heap[gb400]? = some (.cells #[.int .i64 0, .bool false, .int .i64 0, .int .u64 0] 42 (0, 0))) ∧ Aside0 (wc.heap[gb406]? = some (.cells #[.int .i64 0, .bool ((IntKind.u64.wrap (Int.tdiv (IntKind.u64.wrap (Int.tdiv a1 t403)) t405)) == 1), .int .i64 0, .int .u64 0] 42 (0, 0))) ∧ Aside0 (Below w.heap.size w wc))
                      case first =>
                        have H := HC54.out
                        clear HC54
                        by_cases c58 : (Int.tmod (IntKind.u64.wrap (Int.tdiv a1 t403)) t404) = 0
                        · rw [if_pos c58] at H
                          have c58b0 : ((Int.tmod (IntKind.u64.wrap (Int.tdiv a1 t403)) t404) == 0) = true := beq_iff_eq.mpr c58
                          have c58b1 : ((Int.tmod (IntKind.u64.wrap (Int.tdiv a1 t403)) t404) != 0) = false := bne_eq_false_iff_eq.mpr c58
                          clear c58
                          (first | rw [c58b0] | (simp only [i64_w, i32_w]; rw [c58b0]) | skip)
                          have H' := Aside0.mk H
                          clear H
                          go_wp2
                          go_meet
                          case rel => exact ⟨_, (((Int.tmod a1 t402) == 0)), (by first | rfl | (simp; done) | (simp [*]; done)), H', ⟨by have := HJ20.out; first | omega | exact Nat.le_refl _⟩, ⟨zk BK399⟩, ⟨zk BK400⟩, ⟨zk BK406⟩, ⟨zb HB⟩⟩
                        · rw [if_neg c58] at H
                          have c58b0 : ((Int.tmod (IntKind.u64.wrap (Int.tdiv a1 t403)) t404) == 0) = false := beq_eq_false_iff_ne.mpr c58
                          have c58b1 : ((Int.tmod (IntKind.u64.wrap (Int.tdiv a1 t403)) t404) != 0) = true := bne_iff_ne.mpr c58
                          (first | rw [c58b0] | (simp only [i64_w, i32_w]; rw [c58b0]) | skip)
                          have H' := Aside0.mk H
                          clear H
                          go_wp2
                          go_meet
                          case rel => exact ⟨_, (false), (by first | rfl | (simp; done) | (simp [*]; done)), H', ⟨by have := HJ20.out; first | omega | exact Nat.le_refl _⟩, ⟨zk BK399⟩, ⟨zk BK400⟩, ⟨zk BK406⟩, ⟨zb HB⟩⟩
                      case rest =>
                        clear HC54
                        try clear c1
                        try clear c2
                        try clear p2
                        try clear c3
                        try clear c4
                        try clear c4b0
                        try clear c4b1
                        try clear c5
                        try clear c6
                        try clear c6b0
                        try clear c6b1
                        try clear c8
                        try clear c8b0
                        try clear c8b1
                        try clear c10
                        try clear c10b0
                        try clear c10b1
                        try clear c12
                        try clear c12b0
                        try clear c12b1
                        try clear c13
                        try clear c13b0
                        try clear c16
                        try clear c17
                        try clear c19
                        try clear c24
                        try clear c29
                        try clear c30
                        try clear c33
                        try clear c33b0
                        try clear c33b1
                        try clear c34
                        try clear c35
                        try clear c37
                        try clear c38
                        try clear c39
                        try clear c40
                        try clear c41
                        try clear c42
                        try clear c44
                        try clear c47
                        try clear c47b0
                        try clear c47b1
                        try clear c48
                        try clear c49
                        try clear c51
                        try clear c55
                        try clear c56
                        try clear c58
                        try clear c58b0
                        try clear c58b1
                        try clear hcz17_0
                        try clear hcz17_1
                        try clear hcz19_0
                        try clear hcz19_1
                        try clear hcz20_0
                        try clear hcz20_1
                        try clear hcz20_2
                        try clear hcz20_3
                        try clear hcz25_0
                        try clear hcz25_1
                        try clear hcz27_0
                        try clear hcz27_1
                        try clear hcz31_0
                        try clear hcz31_1
                        try clear hcz31_2
                        try clear hcz31_3
                        try clear hcz36_0
                        try clear hcz36_1
                        try clear hcz39_0
                        try clear hcz39_1
                        try clear hcz43_0
                        try clear hcz43_1
                        try clear hcz43_2
                        try clear hcz43_3
                        try clear hcz45_0
                        try clear hcz45_1
                        try clear hcz45_2
                        try clear hcz45_3
                        try clear hcz50_0
                        try clear hcz50_1
                        try clear hcz52_0
                        try clear hcz52_1
                        try clear hcz52_2
                        try clear hcz52_3
                        try clear hcz53_0
                        try clear hcz53_1
                        try clear hcz53_2
                        try clear hcz53_3
                        try clear hcz57_0
                        try clear hcz57_1
                        try clear hfz17_0
                        try clear hfz17_1
                        try clear hfz19_0
                        try clear hfz19_1
                        try clear hfz20_0
                        try clear hfz20_1
                        try clear hfz20_2
                        try clear hfz20_3
                        try clear hfz25_0
                        try clear hfz25_1
                        try clear hfz27_0
                        try clear hfz27_1
                        try clear hfz31_0
                        try clear hfz31_1
                        try clear hfz31_2
                        try clear hfz31_3
                        try clear hfz36_0
                        try clear hfz36_1
                        try clear hfz39_0
                        try clear hfz39_1
                        try clear hfz43_0
                        try clear hfz43_1
                        try clear hfz43_2
                        try clear hfz43_3
                        try clear hfz45_0
                        try clear hfz45_1
                        try clear hfz45_2
                        try clear hfz45_3
                        try clear hfz50_0
                        try clear hfz50_1
                        try clear hfz52_0
                        try clear hfz52_1
                        try clear hfz52_2
                        try clear hfz52_3
                        try clear hfz53_0
                        try clear hfz53_1
                        try clear hfz53_2
                        try clear hfz53_3
                        try clear hfz57_0
                        try clear hfz57_1
                        try clear p2
                        obtain ⟨kq, x75_53, rfl, HA, HJ53, BK399, BK400, BK406, HB⟩ := hcut
                        cases kq with
                        | zero => exact absurd HA.out (by simp [grottoref02_Open.j1])
                        | succ kj53 =>
                          have H := HA.out
                          clear HA
                          simp only [grottoref02_Open.j1] at H
                          by_cases c59 : x75_53 = true
                          · subst c59
                            have H1 : (some (1, ((IntKind.u64.wrap (Int.tdiv (IntKind.u64.wrap (Int.tdiv a1 t403)) t405)) == 1), 0, 0, 0)) = some (r1, r2, r3, r4, r5) := by rw [if_pos rfl] at H; exact H
                            clear H
                            have H := H1
                            clear H1
                            simp only [Option.some.injEq, Prod.mk.injEq] at H
                            obtain ⟨rfl, rfl, rfl, rfl, rfl⟩ := H
                            have hnb60 := NB406_399.out
                            have hnc60 := NB399_406.out
                            have hnb61 := NB406_400.out
                            have hnc61 := NB400_406.out
                            obtain ⟨hcz62_0, hcz62_1, hcz62_2, hcz62_3, hfz62_0, hfz62_1, hfz62_2, hfz62_3⟩ := zc4 BK406
                            have hnb63 := NB400_399.out
                            have hnc63 := NB399_400.out
                            obtain ⟨hcz64_0, hcz64_1, hcz64_2, hcz64_3, hfz64_0, hfz64_1, hfz64_2, hfz64_3⟩ := zc4 BK400
                            go_wp2
                            refine bodyPost_ret (results_ct rfl _ _ gb400 42 #[.int .i64 1, .bool ((IntKind.u64.wrap (Int.tdiv (IntKind.u64.wrap (Int.tdiv a1 t403)) t405)) == 1), .int .i64 0, .int .u64 0] (0, 0) _ rfl (zkp BK400) Try.underlying42 rfl (by kernel_rfl)) rfl ?_
                            exact ⟨by first | rfl | (simp [errW_none, errW_some] <;> rfl) | (simp [*, errW_none, errW_some] <;> rfl), zb HB⟩
                          · replace c59 := Bool.eq_false_iff.mpr c59
                            subst c59
                            have H1 : (if (Int.tmod (IntKind.u64.wrap (Int.tdiv a1 t403)) t404) = 0 then ((grottoref02_Least.f kj53 a0_0 a0_1).bind fun t409 => (some (2, ((IntKind.u64.wrap (Int.tdiv (IntKind.u64.wrap (Int.tdiv a1 t403)) t405)) == 1), t409, (Int.tmod a1 t402), 0))) else ((grottoref02_power.f kj53 a0_0).bind fun t410 => ((grottoref02_Bias.f kj53 a0_0 a0_1).bind fun t411 => (some (2, ((IntKind.u64.wrap (Int.tdiv (IntKind.u64.wrap (Int.tdiv a1 t403)) t405)) == 1), wrap64 ((wrap64 ((wrap64 ((Int.tmod (IntKind.u64.wrap (Int.tdiv a1 t403)) t404))) - t411)) - a0_0), IntKind.u64.wrap (t410 + (Int.tmod a1 t402)), 0))))) = some (r1, r2, r3, r4, r5) := by rw [if_neg (show ¬ (false = true) by decide)] at H; exact H
                            clear H
                            have H := H1
                            clear H1
                            by_cases c65 : (Int.tmod (IntKind.u64.wrap (Int.tdiv a1 t403)) t404) = 0
                            · rw [if_pos c65] at H
                              have c65b0 : ((Int.tmod (IntKind.u64.wrap (Int.tdiv a1 t403)) t404) == 0) = true := beq_iff_eq.mpr c65
                              have c65b1 : ((Int.tmod (IntKind.u64.wrap (Int.tdiv a1 t403)) t404) != 0) = false := bne_eq_false_iff_eq.mpr c65
                              clear c65
                              replace H := Option.bind_eq_some_iff.mp H
                              obtain ⟨t409, A660, H⟩ := H
                              replace H : (some (2, ((IntKind.u64.wrap (Int.tdiv (IntKind.u64.wrap (Int.tdiv a1 t403)) t405)) == 1), t409, (Int.tmod a1 t402), 0)) = some (r1, r2, r3, r4, r5) := H
                              have A66 := Aside0.mk A660
                              clear A660
                              simp only [Option.some.injEq, Prod.mk.injEq] at H
                              obtain ⟨rfl, rfl, rfl, rfl, rfl⟩ := H
                              have hnb67 := NB399_400.out
                              have hnc67 := NB400_399.out
                              have hnb68 := NB399_406.out
                              have hnc68 := NB406_399.out
                              obtain ⟨hcz69_0, hcz69_1, hfz69_0, hfz69_1⟩ := zc2 BK399
                              go_wp2_with (first | ((with_reducible refine gate_callee (f := 36) rfl ?_); refine zgo (some 88) Try.func36 #[.agg #[.int .i64 a0_0, .int .i64 a0_1]] ?_; (with_reducible refine (grottoref02_Least.calls kj53 a0_0 a0_1 t409 _ A66.out).mono ?_); rintro e w70 ⟨rfl, hb⟩; refine ⟨_, rfl, ?_⟩; replace BK399 := zkb BK399 hb; replace BK400 := zkb BK400 hb; replace BK406 := Aside0.mk (blk_below (g := gb406) (o := .cells #[.int .i64 0, .bool ((IntKind.u64.wrap (Int.tdiv (IntKind.u64.wrap (Int.tdiv a1 t403)) t405)) == 1), .int .i64 0, .int .u64 0] 42 (0, 0)) (zk BK406) hb); replace HB := zbs HB hb; (try clear hb); (try clear hb2); (try clear hk); (try clear hi); have hnb71 := NB406_400.out; have hnc71 := NB400_406.out; obtain ⟨hcz72_0, hcz72_1, hcz72_2, hcz72_3, hfz72_0, hfz72_1, hfz72_2, hfz72_3⟩ := zc4 BK406; obtain ⟨hcz73_0, hcz73_1, hcz73_2, hcz73_3, hfz73_0, hfz73_1, hfz73_2, hfz73_3⟩ := zc4 BK400))
                              refine bodyPost_ret (results_ct rfl _ _ gb400 42 #[.int .i64 2, .bool ((IntKind.u64.wrap (Int.tdiv (IntKind.u64.wrap (Int.tdiv a1 t403)) t405)) == 1), .int .i64 t409, .int .u64 (Int.tmod a1 t402)] (0, 0) _ rfl (zkp BK400) Try.underlying42 rfl (by kernel_rfl)) rfl ?_
                              exact ⟨by first | rfl | (simp [errW_none, errW_some] <;> rfl) | (simp [*, errW_none, errW_some] <;> rfl), zb HB⟩
                            · rw [if_neg c65] at H
                              have c65b0 : ((Int.tmod (IntKind.u64.wrap (Int.tdiv a1 t403)) t404) == 0) = false := beq_eq_false_iff_ne.mpr c65
                              have c65b1 : ((Int.tmod (IntKind.u64.wrap (Int.tdiv a1 t403)) t404) != 0) = true := bne_iff_ne.mpr c65
                              replace H := Option.bind_eq_some_iff.mp H
                              obtain ⟨t410, A740, H⟩ := H
                              replace H : ((grottoref02_Bias.f kj53 a0_0 a0_1).bind fun t411 => (some (2, ((IntKind.u64.wrap (Int.tdiv (IntKind.u64.wrap (Int.tdiv a1 t403)) t405)) == 1), wrap64 ((wrap64 ((wrap64 ((Int.tmod (IntKind.u64.wrap (Int.tdiv a1 t403)) t404))) - t411)) - a0_0), IntKind.u64.wrap (t410 + (Int.tmod a1 t402)), 0))) = some (r1, r2, r3, r4, r5) := H
                              have A74 := Aside0.mk A740
                              clear A740
                              replace H := Option.bind_eq_some_iff.mp H
                              obtain ⟨t411, A750, H⟩ := H
                              replace H : (some (2, ((IntKind.u64.wrap (Int.tdiv (IntKind.u64.wrap (Int.tdiv a1 t403)) t405)) == 1), wrap64 ((wrap64 ((wrap64 ((Int.tmod (IntKind.u64.wrap (Int.tdiv a1 t403)) t404))) - t411)) - a0_0), IntKind.u64.wrap (t410 + (Int.tmod a1 t402)), 0)) = some (r1, r2, r3, r4, r5) := H
                              have A75 := Aside0.mk A750
                              clear A750
                              simp only [Option.some.injEq, Prod.mk.injEq] at H
                              obtain ⟨rfl, rfl, rfl, rfl, rfl⟩ := H
                              try go_wp2
                              replace BK399 := Aside0.mk (blk_drew BK399.out)
                              replace BK400 := Aside0.mk (blk_drew BK400.out)
                              replace BK406 := Aside0.mk (blk_drew BK406.out)
                              replace HB := Aside0.mk (below_drew1 HB.out)
                              refine start_ (n := 19) (S := fun w' => w'.cell? ⟨gb399, 0, none⟩ = some (.int .i64 a0_0) ∧ w'.cell? ⟨gb399, 1, none⟩ = some (.int .i64 a0_1)) (ds := []) #[false, false, false, false, false, false, false, false, false, false, false, false, false, false, false, false, false, false, false] (by kernel_rfl) rfl rfl ⟨(blk_cell BK399.out 0).trans rfl, (blk_cell BK399.out 1).trans rfl⟩ (fun hHeld => ?_); refine with_tabW grottoref02_Open.tab10 grottoref02_Open.bits10 (fun HT_ HW_ => ?_)
                              generalize wc.drew = w76 at BK399 BK400 BK406 HB hHeld ⊢
                              refine zpure_ (i := 0) (N := some 39) #[true, false, false, false, false, false, false, false, false, false, false, false, false, false, false, false, false, false, false] (any_of HT_.out (by kernel_rfl)) ?_
                              refine zpure_ (i := 3) (N := some 42) #[true, false, false, true, false, false, false, false, false, false, false, false, false, false, false, false, false, false, false] (any_of HT_.out (by kernel_rfl)) ?_
                              refine zpure_ (i := 5) (N := some 44) #[true, false, false, true, false, true, false, false, false, false, false, false, false, false, false, false, false, false, false] (any_of HT_.out (by kernel_rfl)) ?_
                              refine zpure_ (i := 6) (N := some 45) #[true, false, false, true, false, true, true, false, false, false, false, false, false, false, false, false, false, false, false] (any_of HT_.out (by kernel_rfl)) ?_
                              refine zpure_ (i := 10) (N := some 49) #[true, false, false, true, false, true, true, false, false, false, true, false, false, false, false, false, false, false, false] (any_of HT_.out (by kernel_rfl)) ?_
                              refine zpure_ (i := 13) (N := some 52) #[true, false, false, true, false, true, true, false, false, false, true, false, false, true, false, false, false, false, false] (any_of HT_.out (by kernel_rfl)) ?_
                              refine ztake_ (i := 1) (N := some 40) #[true, true, false, true, false, true, true, false, false, false, true, false, false, true, false, false, false, false, false] rfl (take_ofW HT_.out HW_.out (by kernel_rfl)) hHeld (Or.inl ⟨by rfl, by rintro w' ⟨s0, s1⟩; go_simp; with_reducible rfl⟩) ?_
                              refine ztake_ (i := 7) (N := some 46) #[true, true, false, true, false, true, true, true, false, false, true, false, false, true, false, false, false, false, false] rfl (take_ofW HT_.out HW_.out (by kernel_rfl)) hHeld (Or.inl ⟨by rfl, by rintro w' ⟨s0, s1⟩; go_simp; with_reducible rfl⟩) ?_
                              refine ztake_ (i := 11) (N := some 50) #[true, true, false, true, false, true, true, true, false, false, true, true, false, true, false, false, false, false, false] rfl (take_ofW HT_.out HW_.out (by kernel_rfl)) hHeld (Or.inl ⟨by rfl, by rintro w' ⟨s0, s1⟩; go_simp; with_reducible rfl⟩) ?_
                              refine one_ (i := 2) (N := some 41) #[true, true, true, true, false, true, true, true, false, false, true, true, false, true, false, false, false, false, false] rfl rfl (one_of HT_.out (by kernel_rfl)) (by decide) (fun K hK => ?_)
                              refine goes_ Try.func39 (by kernel_rfl) rfl #[.int .i64 a0_0] (by rfl) rfl rfl (by (try simp only [List.map_toArray, List.map_cons, List.map_nil]); first | done | rfl | (simp only [List.length_drop, List.length_take]; rfl)) ?_
                              with_reducible refine (grottoref02_power.calls kj53 a0_0 t410 _ A74.out).mono ?_
                              rintro e w' ⟨rfl, ⟨nd, rfl⟩⟩
                              refine ⟨_, rfl, ?_⟩
                              refine hK.out _ _ ⟨(blk_cell BK399.out 0).trans rfl, (blk_cell BK399.out 1).trans rfl⟩ (fun hHeld => ?_)
                              clear hK K
                              refine norm_ (a' := ?_) ?_ ?_
                              rotate_left
                              · show Act.put _ (some 41) _ = _
                                simp only [Act.put, List.setIfInBounds_toArray, List.set_cons_zero, List.set_cons_succ, i64_w, i32_w]
                                rfl
                              refine zpure_ (i := 4) (N := some 43) #[true, true, true, true, true, true, true, true, false, false, true, true, false, true, false, false, false, false, false] (any_of HT_.out (by kernel_rfl)) ?_
                              refine one_ (i := 8) (N := some 47) #[true, true, true, true, true, true, true, true, true, false, true, true, false, true, false, false, false, false, false] rfl rfl (one_of HT_.out (by kernel_rfl)) (by decide) (fun K hK => ?_)
                              refine goes_ Try.func40 (by kernel_rfl) rfl #[.agg #[.int .i64 a0_0, .int .i64 a0_1]] (by rfl) rfl rfl (by (try simp only [List.map_toArray, List.map_cons, List.map_nil]); first | done | rfl | (simp only [List.length_drop, List.length_take]; rfl)) ?_
                              with_reducible refine (grottoref02_Bias.calls kj53 a0_0 a0_1 t411 _ A75.out).mono ?_
                              rintro e w77 ⟨rfl, hb⟩
                              refine ⟨_, rfl, ?_⟩
                              replace BK399 := zkb BK399 hb
                              replace BK400 := zkb BK400 hb
                              replace BK406 := Aside0.mk (blk_below (g := gb406) (o := .cells #[.int .i64 0, .bool ((IntKind.u64.wrap (Int.tdiv (IntKind.u64.wrap (Int.tdiv a1 t403)) t405)) == 1), .int .i64 0, .int .u64 0] 42 (0, 0)) (zk BK406) hb)
                              replace HB := zbs HB hb
                              (try clear hb)
                              (try clear hb2)
                              (try clear hk)
                              (try clear hi)
                              refine hK.out _ _ ⟨(blk_cell BK399.out 0).trans rfl, (blk_cell BK399.out 1).trans rfl⟩ (fun hHeld => ?_)
                              clear hK K
                              refine norm_ (a' := ?_) ?_ ?_
                              rotate_left
                              · show Act.put _ (some 47) _ = _
                                simp only [Act.put, List.setIfInBounds_toArray, List.set_cons_zero, List.set_cons_succ, i64_w, i32_w]
                                rfl
                              refine zpure_ (i := 9) (N := some 48) #[true, true, true, true, true, true, true, true, true, true, true, true, false, true, false, false, false, false, false] (any_of HT_.out (by kernel_rfl)) ?_
                              refine zpure_ (i := 12) (N := some 51) #[true, true, true, true, true, true, true, true, true, true, true, true, true, true, false, false, false, false, false] (any_of HT_.out (by kernel_rfl)) ?_
                              refine one_ (i := 14) (N := none) #[true, true, true, true, true, true, true, true, true, true, true, true, true, true, true, false, false, false, false] rfl rfl (one_of HT_.out (by kernel_rfl)) (by decide) (fun K hK => ?_)
                              have hs78 : w77.cell? ⟨gb406, 0, none⟩ = some (.int .i64 0) := (blk_cell BK406.out 0).trans rfl
                              have hfs78 := blk_frozen BK406.out 0
                              have hns78_0 := NB399_406.out
                              have hns78_1 := NB400_406.out
                              have hms78_0 := NB406_399.out
                              have hms78_1 := NB406_400.out
                              refine skip_ (w1 := ?_) (by rfl) rfl ?_ ?_
                              rotate_left
                              · go_simp
                                rfl
                              refine hK.out _ _ ⟨((cell_far (p := ⟨gb406, _, none⟩) NB399_406.out _).trans (hHeld.1)), ((cell_far (p := ⟨gb406, _, none⟩) NB399_406.out _).trans (hHeld.2))⟩ (fun hHeld => ?_)
                              clear hK K
                              refine zpure_ (i := 15) (N := some 53) #[true, true, true, true, true, true, true, true, true, true, true, true, true, true, true, true, false, false, false] (any_of HT_.out (by kernel_rfl)) ?_
                              refine one_ (i := 16) (N := none) #[true, true, true, true, true, true, true, true, true, true, true, true, true, true, true, true, true, false, false] rfl rfl (one_of HT_.out (by kernel_rfl)) (by decide) (fun K hK => ?_)
                              have hs79 : w77.cell? ⟨gb406, 3, none⟩ = some (.int .u64 0) := (blk_cell BK406.out 3).trans rfl
                              have hfs79 := blk_frozen BK406.out 3
                              have hns79_0 := NB399_406.out
                              have hns79_1 := NB400_406.out
                              have hms79_0 := NB406_399.out
                              have hms79_1 := NB406_400.out
                              refine skip_ (w1 := ?_) (by rfl) rfl ?_ ?_
                              rotate_left
                              · go_simp
                                rfl
                              refine hK.out _ _ ⟨((cell_far (p := ⟨gb406, _, none⟩) NB399_406.out _).trans (hHeld.1)), ((cell_far (p := ⟨gb406, _, none⟩) NB399_406.out _).trans (hHeld.2))⟩ (fun hHeld => ?_)
                              clear hK K
                              refine zpure_ (i := 17) (N := some 54) #[true, true, true, true, true, true, true, true, true, true, true, true, true, true, true, true, true, true, false] (any_of HT_.out (by kernel_rfl)) ?_
                              refine one_ (i := 18) (N := none) #[true, true, true, true, true, true, true, true, true, true, true, true, true, true, true, true, true, true, true] rfl rfl (one_of HT_.out (by kernel_rfl)) (by decide) (fun K hK => ?_)
                              have hs80 : w77.cell? ⟨gb406, 2, none⟩ = some (.int .i64 0) := (blk_cell BK406.out 2).trans rfl
                              have hfs80 := blk_frozen BK406.out 2
                              have hns80_0 := NB399_406.out
                              have hns80_1 := NB400_406.out
                              have hms80_0 := NB406_399.out
                              have hms80_1 := NB406_400.out
                              refine skip_ (w1 := ?_) (by rfl) rfl ?_ ?_
                              rotate_left
                              · go_simp
                                rfl
                              refine hK.out _ _ ⟨((cell_far (p := ⟨gb406, _, none⟩) NB399_406.out _).trans (hHeld.1)), ((cell_far (p := ⟨gb406, _, none⟩) NB399_406.out _).trans (hHeld.2))⟩ (fun hHeld => ?_)
                              clear hK K
                              refine done_ (done_of HT_.out (by kernel_rfl)) ?_
                              have hnb81 := NB406_399.out
                              have hnc81 := NB399_406.out
                              have hnb82 := NB406_400.out
                              have hnc82 := NB400_406.out
                              obtain ⟨hcz83_0, hcz83_1, hcz83_2, hcz83_3, hfz83_0, hfz83_1, hfz83_2, hfz83_3⟩ := zc4 BK406
                              have hnb84 := NB400_399.out
                              have hnc84 := NB399_400.out
                              obtain ⟨hcz85_0, hcz85_1, hcz85_2, hcz85_3, hfz85_0, hfz85_1, hfz85_2, hfz85_3⟩ := zc4 BK400
                              try go_wp2
                              refine bodyPost_ret (results_ct rfl _ _ gb400 42 #[.int .i64 2, .bool ((IntKind.u64.wrap (Int.tdiv (IntKind.u64.wrap (Int.tdiv a1 t403)) t405)) == 1), .int .i64 (wrap64 ((wrap64 ((wrap64 ((Int.tmod (IntKind.u64.wrap (Int.tdiv a1 t403)) t404))) - t411)) - a0_0)), .int .u64 (IntKind.u64.wrap (t410 + (Int.tmod a1 t402)))] (0, 0) _ rfl (zkp BK400) Try.underlying42 rfl (by kernel_rfl)) rfl ?_
                              exact ⟨by first | rfl | (simp [errW_none, errW_some] <;> rfl) | (simp [*, errW_none, errW_some] <;> rfl), zb HB⟩
  · rw [if_neg c4] at H
    have c4b0 : (t401 == 0) = false := beq_eq_false_iff_ne.mpr c4
    have c4b1 : (t401 != 0) = true := bne_iff_ne.mpr c4
    simp only [Option.some.injEq, Prod.mk.injEq] at H
    obtain ⟨rfl, rfl, rfl, rfl, rfl⟩ := H
    go_enter Try.func17, Try.ntmps17
    go_wp2_with (first | ((with_reducible refine gate_dst (N := 2) rfl ?_); refine zbox (N := 2) (cs := #[.int .i64 a0_0, .int .i64 a0_1]) (t := 23) ?_; intro gb399 hg w86 hbox hb; have BK399 := Aside0.mk hbox; have GW399 := zge hg HB; have GE399 := zge hg HB; replace HB := zbs HB hb; clear hb hbox hg) | ((with_reducible refine gate_dst (N := 4) rfl ?_); refine zbox (N := 4) (cs := #[.int .i64 0, .bool false, .int .i64 0, .int .u64 0]) (t := 42) ?_; intro gb400 hg w87 hbox hb; have BK400 := Aside0.mk hbox; have GW400 := zge hg HB; have GE400 := zge hg HB; have NB399_400 := znl hg BK399; have NB400_399 := zng hg BK399; replace BK399 := zkb BK399 hb; replace HB := zbs HB hb; clear hb hbox hg; have hnb88 := NB399_400.out; have hnc88 := NB400_399.out; obtain ⟨hcz89_0, hcz89_1, hfz89_0, hfz89_1⟩ := zc2 BK399) | ((with_reducible refine gate_callee (f := 19) rfl ?_); refine zgo (some 10) Try.func19 #[.agg #[.int .i64 a0_0, .int .i64 a0_1]] ?_; (with_reducible refine (grottoref02_Check.calls a0_0 a0_1 t401 _ A3.out).mono ?_); rintro e w90 ⟨rfl, hb⟩; refine ⟨_, rfl, ?_⟩; replace BK399 := zkb BK399 hb; replace BK400 := zkb BK400 hb; replace HB := zbs HB hb; (try clear hb); (try clear hb2); (try clear hk); (try clear hi); obtain ⟨hcz91_0, hcz91_1, hcz91_2, hcz91_3, hfz91_0, hfz91_1, hfz91_2, hfz91_3⟩ := zc4 BK400))
    refine bodyPost_ret (results_ct rfl _ _ gb400 42 #[.int .i64 0, .bool false, .int .i64 0, .int .u64 0] (0, 0) _ rfl (zkp BK400) Try.underlying42 rfl (by kernel_rfl)) rfl ?_
    exact ⟨by first | rfl | (simp [errW_none, errW_some] <;> rfl) | (simp [*, errW_none, errW_some] <;> rfl), zb HB⟩

/-! ### grottoref02_NaN: function 21 -/
def grottoref02_NaN.f (k : Nat) (a0_0 : Int) (a0_1 : Int) : Option (Int) := (grottoref02_power.f k a0_1).bind fun t416 => ((grottoref02_power.f k (wrap64 (a0_0 - 1))).bind fun t417 => ((grottoref02_Whole.f k a0_0 a0_1 false (IntKind.u64.wrap (t416 - 1)) t417).bind fun t418 => (some t418)))
theorem grottoref02_NaN.mono : ∀ a0 a1 k, LeO (grottoref02_NaN.f k a0 a1) (grottoref02_NaN.f (k + 1) a0 a1) := by
  intro a0 a1 k
  unfold grottoref02_NaN.f
  repeat' first
      | (with_reducible exact grottoref02_Whole.mono _ _ _ _ _ _)
      | (with_reducible exact grottoref02_power.mono _ _)
      | (with_reducible exact LeO.refl _)
      | (with_reducible exact LeO.none _)
      | (with_reducible refine LeO.ite ?_ ?_)
      | (with_reducible refine LeO.bind ?_ (fun _ => ?_))
      | exact grottoref02_Whole.mono _ _ _ _ _ _
      | exact grottoref02_power.mono _ _
      | exact LeO.none _
      | refine LeO.ite ?_ ?_
      | refine LeO.bind ?_ (fun _ => ?_)
def grottoref02_NaN.T1 : Bool × List (List Nat × List Nat) := (true, [([], []), ([], []), ([1], [1]), ([2], [2]), ([3], [3]), ([], []), ([5], [5]), ([6], [6]), ([7, 3], [7]), ([0, 4, 8, 8], [0, 4, 8]), ([9, 9, 0, 1, 2, 3, 4, 5, 6, 7, 8, 9], [9])])
def grottoref02_NaN.B1 : List Nat := [0, 0, 2, 6, 14, 0, 32, 96, 238, 511, 1023]
theorem grottoref02_NaN.tab1 : rtab .any (opsOf Try.f21 1) = grottoref02_NaN.T1 := by kernel_rfl
theorem grottoref02_NaN.bits1 : waitsOk grottoref02_NaN.T1.2 grottoref02_NaN.B1 = true := by kernel_rfl
set_option maxHeartbeats 8000000 in
set_option maxRecDepth 100000 in
theorem grottoref02_NaN.calls (k : Nat) (a0_0 : Int) (a0_1 : Int) (r : Int) (w : World) (h : grottoref02_NaN.f k a0_0 a0_1 = some r) :
    Calls Try.prog 21 #[.agg #[.int .i64 a0_0, .int .i64 a0_1]] w fun e w' => e = .returned (.int .u64 r) ∧ Below w.heap.size w w' := by
  have hu23 := Try.underlying23
  have HB := Aside0.mk (Below.refl w.heap.size w)
  have H : ((grottoref02_power.f k a0_1).bind fun t416 => ((grottoref02_power.f k (wrap64 (a0_0 - 1))).bind fun t417 => ((grottoref02_Whole.f k a0_0 a0_1 false (IntKind.u64.wrap (t416 - 1)) t417).bind fun t418 => (some t418)))) = some r := h
  clear h
  replace H := Option.bind_eq_some_iff.mp H
  obtain ⟨t416, A20, H⟩ := H
  replace H : ((grottoref02_power.f k (wrap64 (a0_0 - 1))).bind fun t417 => ((grottoref02_Whole.f k a0_0 a0_1 false (IntKind.u64.wrap (t416 - 1)) t417).bind fun t418 => (some t418))) = some r := H
  have A2 := Aside0.mk A20
  clear A20
  replace H := Option.bind_eq_some_iff.mp H
  obtain ⟨t417, A30, H⟩ := H
  replace H : ((grottoref02_Whole.f k a0_0 a0_1 false (IntKind.u64.wrap (t416 - 1)) t417).bind fun t418 => (some t418)) = some r := H
  have A3 := Aside0.mk A30
  clear A30
  replace H := Option.bind_eq_some_iff.mp H
  obtain ⟨t418, A40, H⟩ := H
  replace H : (some t418) = some r := H
  have A4 := Aside0.mk A40
  clear A40
  obtain rfl := Option.some.inj H
  go_enter Try.func21, Try.ntmps21
  try go_wp2_with (first | ((with_reducible refine gate_dst (N := 1) rfl ?_); refine zbox (N := 1) (cs := #[.int .i64 a0_0, .int .i64 a0_1]) (t := 23) ?_; intro gb415 hg w5 hbox hb; have BK415 := Aside0.mk hbox; have GW415 := zge hg HB; have GE415 := zge hg HB; replace HB := zbs HB hb; clear hb hbox hg))
  replace BK415 := Aside0.mk (blk_drew BK415.out)
  replace HB := Aside0.mk (below_drew1 HB.out)
  refine start_ (n := 11) (S := fun w' => w'.cell? ⟨gb415, 0, none⟩ = some (.int .i64 a0_0) ∧ w'.cell? ⟨gb415, 1, none⟩ = some (.int .i64 a0_1)) (ds := []) #[false, false, false, false, false, false, false, false, false, false, false] (by kernel_rfl) rfl rfl ⟨(blk_cell BK415.out 0).trans rfl, (blk_cell BK415.out 1).trans rfl⟩ (fun hHeld => ?_); refine with_tabW grottoref02_NaN.tab1 grottoref02_NaN.bits1 (fun HT_ HW_ => ?_)
  generalize w5.drew = w6 at BK415 HB hHeld ⊢
  refine zpure_ (i := 1) (N := some 4) #[false, true, false, false, false, false, false, false, false, false, false] (any_of HT_.out (by kernel_rfl)) ?_
  refine zpure_ (i := 5) (N := some 8) #[false, true, false, false, false, true, false, false, false, false, false] (any_of HT_.out (by kernel_rfl)) ?_
  refine ztake_ (i := 0) (N := some 3) #[true, true, false, false, false, true, false, false, false, false, false] rfl (take_ofW HT_.out HW_.out (by kernel_rfl)) hHeld (Or.inl ⟨by rfl, by rintro w' ⟨s0, s1⟩; go_simp; with_reducible rfl⟩) ?_
  refine ztake_ (i := 2) (N := some 5) #[true, true, true, false, false, true, false, false, false, false, false] rfl (take_ofW HT_.out HW_.out (by kernel_rfl)) hHeld (Or.inl ⟨by rfl, by rintro w' ⟨s0, s1⟩; go_simp; with_reducible rfl⟩) ?_
  refine ztake_ (i := 6) (N := some 9) #[true, true, true, false, false, true, true, false, false, false, false] rfl (take_ofW HT_.out HW_.out (by kernel_rfl)) hHeld (Or.inl ⟨by rfl, by rintro w' ⟨s0, s1⟩; go_simp; with_reducible rfl⟩) ?_
  refine zpure_ (i := 7) (N := some 10) #[true, true, true, false, false, true, true, true, false, false, false] (any_of HT_.out (by kernel_rfl)) ?_
  refine one_ (i := 3) (N := some 6) #[true, true, true, true, false, true, true, true, false, false, false] rfl rfl (one_of HT_.out (by kernel_rfl)) (by decide) (fun K hK => ?_)
  refine goes_ Try.func39 (by kernel_rfl) rfl #[.int .i64 a0_1] (by rfl) rfl rfl (by (try simp only [List.map_toArray, List.map_cons, List.map_nil]); first | done | rfl | (simp only [List.length_drop, List.length_take]; rfl)) ?_
  with_reducible refine (grottoref02_power.calls k a0_1 t416 _ A2.out).mono ?_
  rintro e w' ⟨rfl, ⟨nd, rfl⟩⟩
  refine ⟨_, rfl, ?_⟩
  refine hK.out _ _ ⟨(blk_cell BK415.out 0).trans rfl, (blk_cell BK415.out 1).trans rfl⟩ (fun hHeld => ?_)
  clear hK K
  refine norm_ (a' := ?_) ?_ ?_
  rotate_left
  · show Act.put _ (some 6) _ = _
    simp only [Act.put, List.setIfInBounds_toArray, List.set_cons_zero, List.set_cons_succ, i64_w, i32_w]
    rfl
  refine zpure_ (i := 4) (N := some 7) #[true, true, true, true, true, true, true, true, false, false, false] (any_of HT_.out (by kernel_rfl)) ?_
  refine one_ (i := 8) (N := some 11) #[true, true, true, true, true, true, true, true, true, false, false] rfl rfl (one_of HT_.out (by kernel_rfl)) (by decide) (fun K hK => ?_)
  refine goes_ Try.func39 (by kernel_rfl) rfl #[.int .i64 (wrap64 (a0_0 - 1))] (by rfl) rfl rfl (by (try simp only [List.map_toArray, List.map_cons, List.map_nil]); first | done | rfl | (simp only [List.length_drop, List.length_take]; rfl)) ?_
  with_reducible refine (grottoref02_power.calls k (wrap64 (a0_0 - 1)) t417 _ A3.out).mono ?_
  rintro e w' ⟨rfl, ⟨nd, rfl⟩⟩
  refine ⟨_, rfl, ?_⟩
  refine hK.out _ _ ⟨(blk_cell BK415.out 0).trans rfl, (blk_cell BK415.out 1).trans rfl⟩ (fun hHeld => ?_)
  clear hK K
  refine norm_ (a' := ?_) ?_ ?_
  rotate_left
  · show Act.put _ (some 11) _ = _
    simp only [Act.put, List.setIfInBounds_toArray, List.set_cons_zero, List.set_cons_succ, i64_w, i32_w]
    rfl
  refine one_ (i := 9) (N := some 12) #[true, true, true, true, true, true, true, true, true, true, false] rfl rfl (one_of HT_.out (by kernel_rfl)) (by decide) (fun K hK => ?_)
  refine goes_ Try.func41 (by kernel_rfl) rfl #[.agg #[.int .i64 a0_0, .int .i64 a0_1], .bool false, .int .u64 (IntKind.u64.wrap (t416 - 1)), .int .u64 t417] (by rfl) rfl rfl (by (try simp only [List.map_toArray, List.map_cons, List.map_nil]); first | done | rfl | (simp only [List.length_drop, List.length_take]; rfl)) ?_
  with_reducible refine (grottoref02_Whole.calls k a0_0 a0_1 false (IntKind.u64.wrap (t416 - 1)) t417 t418 _ A4.out).mono ?_
  rintro e w7 ⟨rfl, hb⟩
  refine ⟨_, rfl, ?_⟩
  replace BK415 := zkb BK415 hb
  replace HB := zbs HB hb
  (try clear hb)
  (try clear hb2)
  (try clear hk)
  (try clear hi)
  refine hK.out _ _ ⟨(blk_cell BK415.out 0).trans rfl, (blk_cell BK415.out 1).trans rfl⟩ (fun hHeld => ?_)
  clear hK K
  refine norm_ (a' := ?_) ?_ ?_
  rotate_left
  · show Act.put _ (some 12) _ = _
    simp only [Act.put, List.setIfInBounds_toArray, List.set_cons_zero, List.set_cons_succ, i64_w, i32_w]
    rfl
  refine zpure_ (i := 10) (N := some 2) #[true, true, true, true, true, true, true, true, true, true, true] (any_of HT_.out (by kernel_rfl)) ?_
  refine done_ (done_of HT_.out (by kernel_rfl)) ?_
  try go_wp2
  go_ret
  exact ⟨by first | rfl | (simp [errW_none, errW_some] <;> rfl) | (simp [*, errW_none, errW_some] <;> rfl), zb HB⟩

end Go.Proofs.Ytcfmmkapefpjjaa.PQ
