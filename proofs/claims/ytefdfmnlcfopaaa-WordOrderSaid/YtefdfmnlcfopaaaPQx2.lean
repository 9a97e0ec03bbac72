-- by a program of this claim
import Derived.Test.YtefdfmnlcfopaaaPQx0
import Derived.Test.YtefdfmnlcfopaaaPQx1
namespace Go.Proofs.Ytefdfmnlcfopaaa.PQ
open Go.RowKit Go.Proofs.YtefdfmnlcfopaaaW.PrintWords Go.Proofs.YtefdfmnlcfopaaaW.PrintLast Go.Proofs.YtefdfmnlcfopaaaW.PrintMore Go.Proofs.Ytefdfmnlcfopaaa.Z
attribute [local go_sem] max2_int min2_int max_two min_two max_three min_three max_four min_four   -- for this text's walks alone
set_option linter.unusedVariables false
set_option linter.unusedSimpArgs false

/-! ### grottolaw01_WordOrder: function 3 -/
mutual
def grottolaw01_WordOrder.l0 : Nat → Int → Int → Int → Int → Option (Bool)
  | 0, _, _, _, _ => none
  | k + 1, x0, x1, x2, x7 => if x7 < 2 then ((word_Holds.f (wrap64 (3 + (wrap64 (4 * x7)))) x0 x1).bind fun t103 => (if t103 = true then (grottolaw01_WordOrder.j1 k x0 x1 x2 x7 (wrap64 (3 + (wrap64 (4 * x7)))) (wrap64 (4 + (wrap64 (4 * x7)))) (wrap64 (5 + (wrap64 (4 * x7)))) (wrap64 (6 + (wrap64 (4 * x7)))) (0 + 1)) else (grottolaw01_WordOrder.j1 k x0 x1 x2 x7 (wrap64 (3 + (wrap64 (4 * x7)))) (wrap64 (4 + (wrap64 (4 * x7)))) (wrap64 (5 + (wrap64 (4 * x7)))) (wrap64 (6 + (wrap64 (4 * x7)))) 0))) else ((word_Holds.f 2 x0 x1).bind fun t101 => ((word_Holds.f 1 x0 x1).bind fun t102 => (some (t101 != t102))))
def grottolaw01_WordOrder.j1 : Nat → Int → Int → Int → Int → Int → Int → Int → Int → Int → Option (Bool)
  | 0, _, _, _, _, _, _, _, _, _ => none
  | k + 1, x0, x1, x2, x7, x8, x9, x10, x11, x12 => (word_Holds.f 1 x0 x1).bind fun t104 => (if t104 = true then (grottolaw01_WordOrder.j2 k x0 x1 x2 x7 x8 x9 x10 x11 (wrap64 (x12 + 1))) else (grottolaw01_WordOrder.j2 k x0 x1 x2 x7 x8 x9 x10 x11 x12))
def grottolaw01_WordOrder.j2 : Nat → Int → Int → Int → Int → Int → Int → Int → Int → Int → Option (Bool)
  | 0, _, _, _, _, _, _, _, _, _ => none
  | k + 1, x0, x1, x2, x7, x8, x9, x10, x11, x12 => (word_Holds.f x10 x0 x1).bind fun t105 => (if t105 = true then (grottolaw01_WordOrder.j3 k x0 x1 x2 x7 x8 x9 x10 x11 (wrap64 (x12 + 1))) else (grottolaw01_WordOrder.j3 k x0 x1 x2 x7 x8 x9 x10 x11 x12))
def grottolaw01_WordOrder.j3 : Nat → Int → Int → Int → Int → Int → Int → Int → Int → Int → Option (Bool)
  | 0, _, _, _, _, _, _, _, _, _ => none
  | k + 1, x0, x1, x2, x7, x8, x9, x10, x11, x12 => if x12 = 1 then ((word_Holds.f x9 x0 x1).bind fun t106 => ((word_Holds.f x8 x0 x1).bind fun t107 => (if (t106 == t107) = true then (grottolaw01_WordOrder.j4 k x0 x1 x2 x7 x11 true) else ((word_Holds.f x11 x0 x1).bind fun t108 => ((word_Holds.f x10 x0 x1).bind fun t109 => (if (t108 == t109) = true then (grottolaw01_WordOrder.j4 k x0 x1 x2 x7 x11 true) else ((word_Holds.f x8 x0 x1).bind fun t110 => ((word_Holds.f x10 x1 x0).bind fun t111 => (grottolaw01_WordOrder.j4 k x0 x1 x2 x7 x11 (t110 != t111)))))))))) else (grottolaw01_WordOrder.j4 k x0 x1 x2 x7 x11 true)
def grottolaw01_WordOrder.j4 : Nat → Int → Int → Int → Int → Int → Bool → Option (Bool)
  | 0, _, _, _, _, _, _ => none
  | k + 1, x0, x1, x2, x7, x11, x80 => if x80 = true then (some false) else ((word_Holds.f x11 x0 x1).bind fun t112 => (if t112 = true then ((word_Holds.f x11 x1 x2).bind fun t113 => (if t113 = true then ((word_Holds.f x11 x0 x2).bind fun t114 => (if t114 = true then (grottolaw01_WordOrder.l0 k x0 x1 x2 (wrap64 (x7 + 1))) else (some false))) else (grottolaw01_WordOrder.l0 k x0 x1 x2 (wrap64 (x7 + 1))))) else (grottolaw01_WordOrder.l0 k x0 x1 x2 (wrap64 (x7 + 1)))))
end
def grottolaw01_WordOrder.f (k : Nat) (a0 : Int) (a1 : Int) (a2 : Int) : Option (Bool) := grottolaw01_WordOrder.l0 k a0 a1 a2 0
theorem grottolaw01_WordOrder.mono_l : ∀ k, (∀ y0 y1 y2 y3, LeO (grottolaw01_WordOrder.l0 k y0 y1 y2 y3) (grottolaw01_WordOrder.l0 (k + 1) y0 y1 y2 y3)) ∧ (∀ y0 y1 y2 y3 y4 y5 y6 y7 y8, LeO (grottolaw01_WordOrder.j1 k y0 y1 y2 y3 y4 y5 y6 y7 y8) (grottolaw01_WordOrder.j1 (k + 1) y0 y1 y2 y3 y4 y5 y6 y7 y8)) ∧ (∀ y0 y1 y2 y3 y4 y5 y6 y7 y8, LeO (grottolaw01_WordOrder.j2 k y0 y1 y2 y3 y4 y5 y6 y7 y8) (grottolaw01_WordOrder.j2 (k + 1) y0 y1 y2 y3 y4 y5 y6 y7 y8)) ∧ (∀ y0 y1 y2 y3 y4 y5 y6 y7 y8, LeO (grottolaw01_WordOrder.j3 k y0 y1 y2 y3 y4 y5 y6 y7 y8) (grottolaw01_WordOrder.j3 (k + 1) y0 y1 y2 y3 y4 y5 y6 y7 y8)) ∧ (∀ y0 y1 y2 y3 y4 y5, LeO (grottolaw01_WordOrder.j4 k y0 y1 y2 y3 y4 y5) (grottolaw01_WordOrder.j4 (k + 1) y0 y1 y2 y3 y4 y5))
  | 0 => ⟨fun _ _ _ _ r h => by simp [grottolaw01_WordOrder.l0] at h, fun _ _ _ _ _ _ _ _ _ r h => by simp [grottolaw01_WordOrder.j1] at h, fun _ _ _ _ _ _ _ _ _ r h => by simp [grottolaw01_WordOrder.j2] at h, fun _ _ _ _ _ _ _ _ _ r h => by simp [grottolaw01_WordOrder.j3] at h, fun _ _ _ _ _ _ r h => by simp [grottolaw01_WordOrder.j4] at h⟩
  | k + 1 => by
    obtain ⟨ih0, ih1, ih2, ih3, ih4⟩ := grottolaw01_WordOrder.mono_l k
    refine ⟨?_, ?_, ?_, ?_, ?_⟩
    · intro y0 y1 y2 y3
      unfold grottolaw01_WordOrder.l0
      repeat' first
      | (with_reducible exact ih0 _ _ _ _)
      | (with_reducible exact ih1 _ _ _ _ _ _ _ _ _)
      | (with_reducible exact ih2 _ _ _ _ _ _ _ _ _)
      | (with_reducible exact ih3 _ _ _ _ _ _ _ _ _)
      | (with_reducible exact ih4 _ _ _ _ _ _)
      | (with_reducible exact LeO.refl _)
      | (with_reducible exact LeO.none _)
      | (with_reducible refine LeO.ite ?_ ?_)
      | (with_reducible refine LeO.bind ?_ (fun _ => ?_))
      | exact ih0 _ _ _ _
      | exact ih1 _ _ _ _ _ _ _ _ _
      | exact ih2 _ _ _ _ _ _ _ _ _
      | exact ih3 _ _ _ _ _ _ _ _ _
      | exact ih4 _ _ _ _ _ _
      | exact LeO.none _
      | refine LeO.ite ?_ ?_
      | refine LeO.bind ?_ (fun _ => ?_)
    · intro y0 y1 y2 y3 y4 y5 y6 y7 y8
      unfold grottolaw01_WordOrder.j1
      repeat' first
      | (with_reducible exact ih0 _ _ _ _)
      | (with_reducible exact ih1 _ _ _ _ _ _ _ _ _)
      | (with_reducible exact ih2 _ _ _ _ _ _ _ _ _)
      | (with_reducible exact ih3 _ _ _ _ _ _ _ _ _)
      | (with_reducible exact ih4 _ _ _ _ _ _)
      | (with_reducible exact LeO.refl _)
      | (with_reducible exact LeO.none _)
      | (with_reducible refine LeO.ite ?_ ?_)
      | (with_reducible refine LeO.bind ?_ (fun _ => ?_))
      | exact ih0 _ _ _ _
      | exact ih1 _ _ _ _ _ _ _ _ _
      | exact ih2 _ _ _ _ _ _ _ _ _
      | exact ih3 _ _ _ _ _ _ _ _ _
      | exact ih4 _ _ _ _ _ _
      | exact LeO.none _
      | refine LeO.ite ?_ ?_
      | refine LeO.bind ?_ (fun _ => ?_)
    · intro y0 y1 y2 y3 y4 y5 y6 y7 y8
      unfold grottolaw01_WordOrder.j2
      repeat' first
      | (with_reducible exact ih0 _ _ _ _)
      | (with_reducible exact ih1 _ _ _ _ _ _ _ _ _)
      | (with_reducible exact ih2 _ _ _ _ _ _ _ _ _)
      | (with_reducible exact ih3 _ _ _ _ _ _ _ _ _)
      | (with_reducible exact ih4 _ _ _ _ _ _)
      | (with_reducible exact LeO.refl _)
      | (with_reducible exact LeO.none _)
      | (with_reducible refine LeO.ite ?_ ?_)
      | (with_reducible refine LeO.bind ?_ (fun _ => ?_))
      | exact ih0 _ _ _ _
      | exact ih1 _ _ _ _ _ _ _ _ _
      | exact ih2 _ _ _ _ _ _ _ _ _
      | exact ih3 _ _ _ _ _ _ _ _ _
      | exact ih4 _ _ _ _ _ _
      | exact LeO.none _
      | refine LeO.ite ?_ ?_
      | refine LeO.bind ?_ (fun _ => ?_)
    · intro y0 y1 y2 y3 y4 y5 y6 y7 y8
      unfold grottolaw01_WordOrder.j3
      repeat' first
      | (with_reducible exact ih0 _ _ _ _)
      | (with_reducible exact ih1 _ _ _ _ _ _ _ _ _)
      | (with_reducible exact ih2 _ _ _ _ _ _ _ _ _)
      | (with_reducible exact ih3 _ _ _ _ _ _ _ _ _)
      | (with_reducible exact ih4 _ _ _ _ _ _)
      | (with_reducible exact LeO.refl _)
      | (with_reducible exact LeO.none _)
      | (with_reducible refine LeO.ite ?_ ?_)
      | (with_reducible refine LeO.bind ?_ (fun _ => ?_))
      | exact ih0 _ _ _ _
      | exact ih1 _ _ _ _ _ _ _ _ _
      | exact ih2 _ _ _ _ _ _ _ _ _
      | exact ih3 _ _ _ _ _ _ _ _ _
      | exact ih4 _ _ _ _ _ _
      | exact LeO.none _
      | refine LeO.ite ?_ ?_
      | refine LeO.bind ?_ (fun _ => ?_)
    · intro y0 y1 y2 y3 y4 y5
      unfold grottolaw01_WordOrder.j4
      repeat' first
      | (with_reducible exact ih0 _ _ _ _)
      | (with_reducible exact ih1 _ _ _ _ _ _ _ _ _)
      | (with_reducible exact ih2 _ _ _ _ _ _ _ _ _)
      | (with_reducible exact ih3 _ _ _ _ _ _ _ _ _)
      | (with_reducible exact ih4 _ _ _ _ _ _)
      | (with_reducible exact LeO.refl _)
      | (with_reducible exact LeO.none _)
      | (with_reducible refine LeO.ite ?_ ?_)
      | (with_reducible refine LeO.bind ?_ (fun _ => ?_))
      | exact ih0 _ _ _ _
      | exact ih1 _ _ _ _ _ _ _ _ _
      | exact ih2 _ _ _ _ _ _ _ _ _
      | exact ih3 _ _ _ _ _ _ _ _ _
      | exact ih4 _ _ _ _ _ _
      | exact LeO.none _
      | refine LeO.ite ?_ ?_
      | refine LeO.bind ?_ (fun _ => ?_)
theorem grottolaw01_WordOrder.mono : ∀ a0 a1 a2 k, LeO (grottolaw01_WordOrder.f k a0 a1 a2) (grottolaw01_WordOrder.f (k + 1) a0 a1 a2) := by
  intro a0 a1 a2 k
  obtain ⟨ih0, ih1, ih2, ih3, ih4⟩ := grottolaw01_WordOrder.mono_l k
  unfold grottolaw01_WordOrder.f
  repeat' first
      | (with_reducible exact ih0 _ _ _ _)
      | (with_reducible exact ih1 _ _ _ _ _ _ _ _ _)
      | (with_reducible exact ih2 _ _ _ _ _ _ _ _ _)
      | (with_reducible exact ih3 _ _ _ _ _ _ _ _ _)
      | (with_reducible exact ih4 _ _ _ _ _ _)
      | (with_reducible exact LeO.refl _)
      | (with_reducible exact LeO.none _)
      | (with_reducible refine LeO.ite ?_ ?_)
      | (with_reducible refine LeO.bind ?_ (fun _ => ?_))
      | exact ih0 _ _ _ _
      | exact ih1 _ _ _ _ _ _ _ _ _
      | exact ih2 _ _ _ _ _ _ _ _ _
      | exact ih3 _ _ _ _ _ _ _ _ _
      | exact ih4 _ _ _ _ _ _
      | exact LeO.none _
      | refine LeO.ite ?_ ?_
      | refine LeO.bind ?_ (fun _ => ?_)
set_option maxHeartbeats 8000000 in
set_option maxRecDepth 100000 in
theorem grottolaw01_WordOrder.calls (k : Nat) (a0 : Int) (a1 : Int) (a2 : Int) (r : Bool) (w : World) (h : grottolaw01_WordOrder.f k a0 a1 a2 = some r) :
    Calls Try.prog 3 #[.int .u32 a0, .int .u32 a1, .int .u32 a2] w fun e w' => e = .returned (.bool r) ∧ Drawn0 w w' := by
  have H : (grottolaw01_WordOrder.l0 k a0 a1 a2 0) = some r := h
  clear h
  have H' := Aside0.mk H
  clear H
  go_enter Try.func3, Try.ntmps3
  go_wp2
  go_loopg [7] k (fun kq v7 w' => ∃ (x7_1 : Int), v7 = .int .i64 x7_1 ∧ Aside0 (grottolaw01_WordOrder.l0 kq a0 a1 a2 x7_1 = some r) ∧ Aside0 (kq ≤ k) ∧ Drawn0 w w')
  case atStart => exact ⟨(0), (by first | rfl | (simp; done) | (simp [*]; done)), H', ⟨Nat.le_refl _⟩, by repeat (first | exact Drawn0.refl _ | apply Drawn0.step)⟩
  case round =>
    clear H'
    try clear p2
    try clear c3
    obtain ⟨x7_1, rfl, HA, HK1, ⟨m1, rfl⟩⟩ := hrel
    cases gk with
    | zero => exact absurd HA.out (by simp [grottolaw01_WordOrder.l0])
    | succ k1 =>
      have H := HA.out
      clear HA
      simp only [grottolaw01_WordOrder.l0] at H
      by_cases c4 : x7_1 < 2
      · rw [if_pos c4] at H
        have c4b0 : decide (x7_1 < 2) = true := decide_eq_true c4
        clear c4
        replace H := Option.bind_eq_some_iff.mp H
        obtain ⟨t103, A50, H⟩ := H
        replace H : (if t103 = true then (grottolaw01_WordOrder.j1 k1 a0 a1 a2 x7_1 (wrap64 (3 + (wrap64 (4 * x7_1)))) (wrap64 (4 + (wrap64 (4 * x7_1)))) (wrap64 (5 + (wrap64 (4 * x7_1)))) (wrap64 (6 + (wrap64 (4 * x7_1)))) (0 + 1)) else (grottolaw01_WordOrder.j1 k1 a0 a1 a2 x7_1 (wrap64 (3 + (wrap64 (4 * x7_1)))) (wrap64 (4 + (wrap64 (4 * x7_1)))) (wrap64 (5 + (wrap64 (4 * x7_1)))) (wrap64 (6 + (wrap64 (4 * x7_1)))) 0)) = some r := H
        have A5 := Aside0.mk A50
        clear A50
        have HC6 := Aside0.mk H
        clear H
        go_upto_if 32 with (first | ((with_reducible refine gate_callee (f := 4) rfl ?_); refine zgo (some 32) Try.func4 #[.int .i64 (wrap64 (3 + (wrap64 (4 * x7_1)))), .int .u32 a0, .int .u32 a1] ?_; (with_reducible refine (word_Holds.calls (wrap64 (3 + (wrap64 (4 * x7_1)))) a0 a1 t103 _ A5.out).mono ?_); rintro e w' ⟨rfl, ⟨nd, rfl⟩⟩; refine ⟨_, rfl, ?_⟩))
        (try simp only [Act.put, List.setIfInBounds_toArray, List.set_cons_zero, List.set_cons_succ])
        go_cut [12] (fun v12 wc => ∃ (kq : Nat) (x12_5 : Int), v12 = .int .i64 x12_5 ∧ Aside0 (grottolaw01_WordOrder.j1 kq a0 a1 a2 x7_1 (wrap64 (3 + (wrap64 (4 * x7_1)))) (wrap64 (4 + (wrap64 (4 * x7_1)))) (wrap64 (5 + (wrap64 (4 * x7_1)))) (wrap64 (6 + (wrap64 (4 * x7_1)))) x12_5 = some r) ∧ Aside0 (kq ≤ k1) ∧ Drawn0 w wc)
        case first =>
          have H := HC6.out
          clear HC6
          by_cases c7 : t103 = true
          · subst c7
            have H1 : (grottolaw01_WordOrder.j1 k1 a0 a1 a2 x7_1 (wrap64 (3 + (wrap64 (4 * x7_1)))) (wrap64 (4 + (wrap64 (4 * x7_1)))) (wrap64 (5 + (wrap64 (4 * x7_1)))) (wrap64 (6 + (wrap64 (4 * x7_1)))) (0 + 1)) = some r := by rw [if_pos rfl] at H; exact H
            clear H
            have H := H1
            clear H1
            have H' := Aside0.mk H
            clear H
            go_wp2
            go_meet
            case rel => exact ⟨_, (0 + 1), (by first | rfl | (simp; done) | (simp [*]; done)), H', ⟨by have := HK1.out; first | omega | exact Nat.le_refl _⟩, by repeat (first | exact Drawn0.refl _ | apply Drawn0.step)⟩
          · replace c7 := Bool.eq_false_iff.mpr c7
            subst c7
            have H1 : (grottolaw01_WordOrder.j1 k1 a0 a1 a2 x7_1 (wrap64 (3 + (wrap64 (4 * x7_1)))) (wrap64 (4 + (wrap64 (4 * x7_1)))) (wrap64 (5 + (wrap64 (4 * x7_1)))) (wrap64 (6 + (wrap64 (4 * x7_1)))) 0) = some r := by rw [if_neg (show ¬ (false = true) by decide)] at H; exact H
            clear H
            have H := H1
            clear H1
            have H' := Aside0.mk H
            clear H
            go_wp2
            go_meet
            case rel => exact ⟨_, (0), (by first | rfl | (simp; done) | (simp [*]; done)), H', ⟨by have := HK1.out; first | omega | exact Nat.le_refl _⟩, by repeat (first | exact Drawn0.refl _ | apply Drawn0.step)⟩
        case rest =>
          clear HC6
          try clear p2
          try clear c3
          try clear c4
          try clear c4b0
          try clear p6
          try clear c7
          try clear p2
          obtain ⟨kq, x12_5, rfl, HA, HJ5, ⟨mc5, rfl⟩⟩ := hcut
          cases kq with
          | zero => exact absurd HA.out (by simp [grottolaw01_WordOrder.j1])
          | succ kj5 =>
            have H := HA.out
            clear HA
            simp only [grottolaw01_WordOrder.j1] at H
            replace H := Option.bind_eq_some_iff.mp H
            obtain ⟨t104, A80, H⟩ := H
            replace H : (if t104 = true then (grottolaw01_WordOrder.j2 kj5 a0 a1 a2 x7_1 (wrap64 (3 + (wrap64 (4 * x7_1)))) (wrap64 (4 + (wrap64 (4 * x7_1)))) (wrap64 (5 + (wrap64 (4 * x7_1)))) (wrap64 (6 + (wrap64 (4 * x7_1)))) (wrap64 (x12_5 + 1))) else (grottolaw01_WordOrder.j2 kj5 a0 a1 a2 x7_1 (wrap64 (3 + (wrap64 (4 * x7_1)))) (wrap64 (4 + (wrap64 (4 * x7_1)))) (wrap64 (5 + (wrap64 (4 * x7_1)))) (wrap64 (6 + (wrap64 (4 * x7_1)))) x12_5)) = some r := H
            have A8 := Aside0.mk A80
            clear A80
            have HC9 := Aside0.mk H
            clear H
            go_upto_if 37 with (first | ((with_reducible refine gate_callee (f := 4) rfl ?_); refine zgo (some 37) Try.func4 #[.int .i64 1, .int .u32 a0, .int .u32 a1] ?_; (with_reducible refine (word_Holds.calls 1 a0 a1 t104 _ A8.out).mono ?_); rintro e w' ⟨rfl, ⟨nd, rfl⟩⟩; refine ⟨_, rfl, ?_⟩))
            (try simp only [Act.put, List.setIfInBounds_toArray, List.set_cons_zero, List.set_cons_succ])
            go_cut [12] (fun v12 wc => ∃ (kq : Nat) (x12_8 : Int), v12 = .int .i64 x12_8 ∧ Aside0 (grottolaw01_WordOrder.j2 kq a0 a1 a2 x7_1 (wrap64 (3 + (wrap64 (4 * x7_1)))) (wrap64 (4 + (wrap64 (4 * x7_1)))) (wrap64 (5 + (wrap64 (4 * x7_1)))) (wrap64 (6 + (wrap64 (4 * x7_1)))) x12_8 = some r) ∧ Aside0 (kq ≤ kj5) ∧ Drawn0 w wc)
            case first =>
              have H := HC9.out
              clear HC9
              by_cases c10 : t104 = true
              · subst c10
                have H1 : (grottolaw01_WordOrder.j2 kj5 a0 a1 a2 x7_1 (wrap64 (3 + (wrap64 (4 * x7_1)))) (wrap64 (4 + (wrap64 (4 * x7_1)))) (wrap64 (5 + (wrap64 (4 * x7_1)))) (wrap64 (6 + (wrap64 (4 * x7_1)))) (wrap64 (x12_5 + 1))) = some r := by rw [if_pos rfl] at H; exact H
                clear H
                have H := H1
                clear H1
                have H' := Aside0.mk H
                clear H
                go_wp2
                go_meet
                case rel => exact ⟨_, (wrap64 (x12_5 + 1)), (by first | rfl | (simp; done) | (simp [*]; done)), H', ⟨by have := HK1.out; have := HJ5.out; first | omega | exact Nat.le_refl _⟩, by repeat (first | exact Drawn0.refl _ | apply Drawn0.step)⟩
              · replace c10 := Bool.eq_false_iff.mpr c10
                subst c10
                have H1 : (grottolaw01_WordOrder.j2 kj5 a0 a1 a2 x7_1 (wrap64 (3 + (wrap64 (4 * x7_1)))) (wrap64 (4 + (wrap64 (4 * x7_1)))) (wrap64 (5 + (wrap64 (4 * x7_1)))) (wrap64 (6 + (wrap64 (4 * x7_1)))) x12_5) = some r := by rw [if_neg (show ¬ (false = true) by decide)] at H; exact H
                clear H
                have H := H1
                clear H1
                have H' := Aside0.mk H
                clear H
                go_wp2
                go_meet
                case rel => exact ⟨_, (x12_5), (by first | rfl | (simp; done) | (simp [*]; done)), H', ⟨by have := HK1.out; have := HJ5.out; first | omega | exact Nat.le_refl _⟩, by repeat (first | exact Drawn0.refl _ | apply Drawn0.step)⟩
            case rest =>
              clear HC9
              try clear c1
              try clear p2
              try clear c3
              try clear c4
              try clear c4b0
              try clear c5
              try clear p6
              try clear c7
              try clear c10
              try clear p2
              try clear p6
              obtain ⟨kq, x12_8, rfl, HA, HJ8, ⟨mc8, rfl⟩⟩ := hcut
              cases kq with
              | zero => exact absurd HA.out (by simp [grottolaw01_WordOrder.j2])
              | succ kj8 =>
                have H := HA.out
                clear HA
                simp only [grottolaw01_WordOrder.j2] at H
                replace H := Option.bind_eq_some_iff.mp H
                obtain ⟨t105, A110, H⟩ := H
                replace H : (if t105 = true then (grottolaw01_WordOrder.j3 kj8 a0 a1 a2 x7_1 (wrap64 (3 + (wrap64 (4 * x7_1)))) (wrap64 (4 + (wrap64 (4 * x7_1)))) (wrap64 (5 + (wrap64 (4 * x7_1)))) (wrap64 (6 + (wrap64 (4 * x7_1)))) (wrap64 (x12_8 + 1))) else (grottolaw01_WordOrder.j3 kj8 a0 a1 a2 x7_1 (wrap64 (3 + (wrap64 (4 * x7_1)))) (wrap64 (4 + (wrap64 (4 * x7_1)))) (wrap64 (5 + (wrap64 (4 * x7_1)))) (wrap64 (6 + (wrap64 (4 * x7_1)))) x12_8)) = some r := H
                have A11 := Aside0.mk A110
                clear A110
                have HC12 := Aside0.mk H
                clear H
                go_upto_if 43 with (first | ((with_reducible refine gate_callee (f := 4) rfl ?_); refine zgo (some 43) Try.func4 #[.int .i64 (wrap64 (5 + (wrap64 (4 * x7_1)))), .int .u32 a0, .int .u32 a1] ?_; (with_reducible refine (word_Holds.calls (wrap64 (5 + (wrap64 (4 * x7_1)))) a0 a1 t105 _ A11.out).mono ?_); rintro e w' ⟨rfl, ⟨nd, rfl⟩⟩; refine ⟨_, rfl, ?_⟩))
                (try simp only [Act.put, List.setIfInBounds_toArray, List.set_cons_zero, List.set_cons_succ])
                go_cut [12] (fun v12 wc => ∃ (kq : Nat) (x12_11 : Int), v12 = .int .i64 x12_11 ∧ Aside0 (grottolaw01_WordOrder.j3 kq a0 a1 a2 x7_1 (wrap64 (3 + (wrap64 (4 * x7_1)))) (wrap64 (4 + (wrap64 (4 * x7_1)))) (wrap64 (5 + (wrap64 (4 * x7_1)))) (wrap64 (6 + (wrap64 (4 * x7_1)))) x12_11 = some r) ∧ Aside0 (kq ≤ kj8) ∧ Drawn0 w wc)
                case first =>
                  have H := HC12.out
                  clear HC12
                  by_cases c13 : t105 = true
                  · subst c13
                    have H1 : (grottolaw01_WordOrder.j3 kj8 a0 a1 a2 x7_1 (wrap64 (3 + (wrap64 (4 * x7_1)))) (wrap64 (4 + (wrap64 (4 * x7_1)))) (wrap64 (5 + (wrap64 (4 * x7_1)))) (wrap64 (6 + (wrap64 (4 * x7_1)))) (wrap64 (x12_8 + 1))) = some r := by rw [if_pos rfl] at H; exact H
                    clear H
                    have H := H1
                    clear H1
                    have H' := Aside0.mk H
                    clear H
                    go_wp2
                    go_meet
                    case rel => exact ⟨_, (wrap64 (x12_8 + 1)), (by first | rfl | (simp; done) | (simp [*]; done)), H', ⟨by have := HK1.out; have := HJ5.out; have := HJ8.out; first | omega | exact Nat.le_refl _⟩, by repeat (first | exact Drawn0.refl _ | apply Drawn0.step)⟩
                  · replace c13 := Bool.eq_false_iff.mpr c13
                    subst c13
                    have H1 : (grottolaw01_WordOrder.j3 kj8 a0 a1 a2 x7_1 (wrap64 (3 + (wrap64 (4 * x7_1)))) (wrap64 (4 + (wrap64 (4 * x7_1)))) (wrap64 (5 + (wrap64 (4 * x7_1)))) (wrap64 (6 + (wrap64 (4 * x7_1)))) x12_8) = some r := by rw [if_neg (show ¬ (false = true) by decide)] at H; exact H
                    clear H
                    have H := H1
                    clear H1
                    have H' := Aside0.mk H
                    clear H
                    go_wp2
                    go_meet
                    case rel => exact ⟨_, (x12_8), (by first | rfl | (simp; done) | (simp [*]; done)), H', ⟨by have := HK1.out; have := HJ5.out; have := HJ8.out; first | omega | exact Nat.le_refl _⟩, by repeat (first | exact Drawn0.refl _ | apply Drawn0.step)⟩
                case rest =>
                  clear HC12
                  try clear c1
                  try clear p2
                  try clear c3
                  try clear c4
                  try clear c4b0
                  try clear c5
                  try clear p6
                  try clear c7
                  try clear c8
                  try clear c10
                  try clear c13
                  try clear p2
                  try clear p6
                  obtain ⟨kq, x12_11, rfl, HA, HJ11, ⟨mc11, rfl⟩⟩ := hcut
                  cases kq with
                  | zero => exact absurd HA.out (by simp [grottolaw01_WordOrder.j3])
                  | succ kj11 =>
                    have H := HA.out
                    clear HA
                    simp only [grottolaw01_WordOrder.j3] at H
                    have HC14 := Aside0.mk H
                    clear H
                    go_upto_region 12 with (fail)
                    go_cut [80] (fun v80 wc => ∃ (kq : Nat) (x80_13 : Bool), v80 = .bool x80_13 ∧ Aside0 (grottolaw01_WordOrder.j4 kq a0 a1 a2 x7_1 (wrap64 (6 + (wrap64 (4 * x7_1)))) x80_13 = some r) ∧ Aside0 (kq ≤ kj11) ∧ Drawn0 w wc)
                    case first =>
                      have H := HC14.out
                      clear HC14
                      by_cases c15 : x12_11 = 1
                      · rw [if_pos c15] at H
                        have c15b0 : (x12_11 == 1) = true := beq_iff_eq.mpr c15
                        have c15b1 : (x12_11 != 1) = false := bne_eq_false_iff_eq.mpr c15
                        clear c15
                        (first | rw [c15b0] | (simp only [i64_w, i32_w]; rw [c15b0]) | skip)
                        replace H := Option.bind_eq_some_iff.mp H
                        obtain ⟨t106, A160, H⟩ := H
                        replace H : ((word_Holds.f (wrap64 (3 + (wrap64 (4 * x7_1)))) a0 a1).bind fun t107 => (if (t106 == t107) = true then (grottolaw01_WordOrder.j4 kj11 a0 a1 a2 x7_1 (wrap64 (6 + (wrap64 (4 * x7_1)))) true) else ((word_Holds.f (wrap64 (6 + (wrap64 (4 * x7_1)))) a0 a1).bind fun t108 => ((word_Holds.f (wrap64 (5 + (wrap64 (4 * x7_1)))) a0 a1).bind fun t109 => (if (t108 == t109) = true then (grottolaw01_WordOrder.j4 kj11 a0 a1 a2 x7_1 (wrap64 (6 + (wrap64 (4 * x7_1)))) true) else ((word_Holds.f (wrap64 (3 + (wrap64 (4 * x7_1)))) a0 a1).bind fun t110 => ((word_Holds.f (wrap64 (5 + (wrap64 (4 * x7_1)))) a1 a0).bind fun t111 => (grottolaw01_WordOrder.j4 kj11 a0 a1 a2 x7_1 (wrap64 (6 + (wrap64 (4 * x7_1)))) (t110 != t111))))))))) = some r := H
                        have A16 := Aside0.mk A160
                        clear A160
                        replace H := Option.bind_eq_some_iff.mp H
                        obtain ⟨t107, A170, H⟩ := H
                        replace H : (if (t106 == t107) = true then (grottolaw01_WordOrder.j4 kj11 a0 a1 a2 x7_1 (wrap64 (6 + (wrap64 (4 * x7_1)))) true) else ((word_Holds.f (wrap64 (6 + (wrap64 (4 * x7_1)))) a0 a1).bind fun t108 => ((word_Holds.f (wrap64 (5 + (wrap64 (4 * x7_1)))) a0 a1).bind fun t109 => (if (t108 == t109) = true then (grottolaw01_WordOrder.j4 kj11 a0 a1 a2 x7_1 (wrap64 (6 + (wrap64 (4 * x7_1)))) true) else ((word_Holds.f (wrap64 (3 + (wrap64 (4 * x7_1)))) a0 a1).bind fun t110 => ((word_Holds.f (wrap64 (5 + (wrap64 (4 * x7_1)))) a1 a0).bind fun t111 => (grottolaw01_WordOrder.j4 kj11 a0 a1 a2 x7_1 (wrap64 (6 + (wrap64 (4 * x7_1)))) (t110 != t111)))))))) = some r := H
                        have A17 := Aside0.mk A170
                        clear A170
                        by_cases c18 : (t106 == t107) = true
                        · rw [if_pos c18] at H
                          have c18b0 : (t106 == t107) = true := c18
                          (try (have c18b1 : decide (t106 = t107) = true := by simpa using c18))
                          (try (have c18b2 : (t106 == t107) = true := by simpa using c18))
                          clear c18
                          have H' := Aside0.mk H
                          clear H
                          go_wp2_with (first | (go_at_call 4; (with_reducible refine (word_Holds.calls (wrap64 (4 + (wrap64 (4 * x7_1)))) a0 a1 t106 _ A16.out).mono ?_); rintro e w' ⟨rfl, ⟨nd, rfl⟩⟩) | (go_at_call 4; (with_reducible refine (word_Holds.calls (wrap64 (3 + (wrap64 (4 * x7_1)))) a0 a1 t107 _ A17.out).mono ?_); rintro e w' ⟨rfl, ⟨nd, rfl⟩⟩))
                          go_meet
                          case rel => exact ⟨_, (true), (by first | rfl | (simp; done) | (simp [*]; done)), H', ⟨by have := HK1.out; have := HJ5.out; have := HJ8.out; have := HJ11.out; first | omega | exact Nat.le_refl _⟩, by repeat (first | exact Drawn0.refl _ | apply Drawn0.step)⟩
                        · rw [if_neg c18] at H
                          have c18b0 : (t106 == t107) = false := by simpa using c18
                          (try (have c18b1 : decide (t106 = t107) = false := by simpa using c18))
                          (try (have c18b2 : (t106 == t107) = false := by simpa using c18))
                          (try (have c18b3 : ¬ (t106 = t107) := by simpa using c18))
                          clear c18
                          replace H := Option.bind_eq_some_iff.mp H
                          obtain ⟨t108, A190, H⟩ := H
                          replace H : ((word_Holds.f (wrap64 (5 + (wrap64 (4 * x7_1)))) a0 a1).bind fun t109 => (if (t108 == t109) = true then (grottolaw01_WordOrder.j4 kj11 a0 a1 a2 x7_1 (wrap64 (6 + (wrap64 (4 * x7_1)))) true) else ((word_Holds.f (wrap64 (3 + (wrap64 (4 * x7_1)))) a0 a1).bind fun t110 => ((word_Holds.f (wrap64 (5 + (wrap64 (4 * x7_1)))) a1 a0).bind fun t111 => (grottolaw01_WordOrder.j4 kj11 a0 a1 a2 x7_1 (wrap64 (6 + (wrap64 (4 * x7_1)))) (t110 != t111)))))) = some r := H
                          have A19 := Aside0.mk A190
                          clear A190
                          replace H := Option.bind_eq_some_iff.mp H
                          obtain ⟨t109, A200, H⟩ := H
                          replace H : (if (t108 == t109) = true then (grottolaw01_WordOrder.j4 kj11 a0 a1 a2 x7_1 (wrap64 (6 + (wrap64 (4 * x7_1)))) true) else ((word_Holds.f (wrap64 (3 + (wrap64 (4 * x7_1)))) a0 a1).bind fun t110 => ((word_Holds.f (wrap64 (5 + (wrap64 (4 * x7_1)))) a1 a0).bind fun t111 => (grottolaw01_WordOrder.j4 kj11 a0 a1 a2 x7_1 (wrap64 (6 + (wrap64 (4 * x7_1)))) (t110 != t111))))) = some r := H
                          have A20 := Aside0.mk A200
                          clear A200
                          by_cases c21 : (t108 == t109) = true
                          · rw [if_pos c21] at H
                            have c21b0 : (t108 == t109) = true := c21
                            (try (have c21b1 : decide (t108 = t109) = true := by simpa using c21))
                            (try (have c21b2 : (t108 == t109) = true := by simpa using c21))
                            clear c21
                            have H' := Aside0.mk H
                            clear H
                            go_wp2_with (first | (go_at_call 4; (with_reducible refine (word_Holds.calls (wrap64 (4 + (wrap64 (4 * x7_1)))) a0 a1 t106 _ A16.out).mono ?_); rintro e w' ⟨rfl, ⟨nd, rfl⟩⟩) | (go_at_call 4; (with_reducible refine (word_Holds.calls (wrap64 (3 + (wrap64 (4 * x7_1)))) a0 a1 t107 _ A17.out).mono ?_); rintro e w' ⟨rfl, ⟨nd, rfl⟩⟩) | (go_at_call 4; (with_reducible refine (word_Holds.calls (wrap64 (6 + (wrap64 (4 * x7_1)))) a0 a1 t108 _ A19.out).mono ?_); rintro e w' ⟨rfl, ⟨nd, rfl⟩⟩) | (go_at_call 4; (with_reducible refine (word_Holds.calls (wrap64 (5 + (wrap64 (4 * x7_1)))) a0 a1 t109 _ A20.out).mono ?_); rintro e w' ⟨rfl, ⟨nd, rfl⟩⟩))
                            go_meet
                            case rel => exact ⟨_, (true), (by first | rfl | (simp; done) | (simp [*]; done)), H', ⟨by have := HK1.out; have := HJ5.out; have := HJ8.out; have := HJ11.out; first | omega | exact Nat.le_refl _⟩, by repeat (first | exact Drawn0.refl _ | apply Drawn0.step)⟩
                          · rw [if_neg c21] at H
                            have c21b0 : (t108 == t109) = false := by simpa using c21
                            (try (have c21b1 : decide (t108 = t109) = false := by simpa using c21))
                            (try (have c21b2 : (t108 == t109) = false := by simpa using c21))
                            (try (have c21b3 : ¬ (t108 = t109) := by simpa using c21))
                            clear c21
                            replace H := Option.bind_eq_some_iff.mp H
                            obtain ⟨t110, A220, H⟩ := H
                            have E_ := Aside0.mk (Option.some.inj (A17.out.symm.trans A220) : t107 = t110)
                            replace H : ((word_Holds.f (wrap64 (5 + (wrap64 (4 * x7_1)))) a1 a0).bind fun t111 => (grottolaw01_WordOrder.j4 kj11 a0 a1 a2 x7_1 (wrap64 (6 + (wrap64 (4 * x7_1)))) (t110 != t111))) = some r := H
                            have A22 := Aside0.mk A220
                            clear A220
                            replace H := Option.bind_eq_some_iff.mp H
                            obtain ⟨t111, A230, H⟩ := H
                            replace H : (grottolaw01_WordOrder.j4 kj11 a0 a1 a2 x7_1 (wrap64 (6 + (wrap64 (4 * x7_1)))) (t110 != t111)) = some r := H
                            have A23 := Aside0.mk A230
                            clear A230
                            have H' := Aside0.mk H
                            clear H
                            go_wp2_with (first | (go_at_call 4; (with_reducible refine (word_Holds.calls (wrap64 (4 + (wrap64 (4 * x7_1)))) a0 a1 t106 _ A16.out).mono ?_); rintro e w' ⟨rfl, ⟨nd, rfl⟩⟩) | (go_at_call 4; (with_reducible refine (word_Holds.calls (wrap64 (3 + (wrap64 (4 * x7_1)))) a0 a1 t107 _ A17.out).mono ?_); rintro e w' ⟨rfl, ⟨nd, rfl⟩⟩) | (go_at_call 4; (with_reducible refine (word_Holds.calls (wrap64 (6 + (wrap64 (4 * x7_1)))) a0 a1 t108 _ A19.out).mono ?_); rintro e w' ⟨rfl, ⟨nd, rfl⟩⟩) | (go_at_call 4; (with_reducible refine (word_Holds.calls (wrap64 (5 + (wrap64 (4 * x7_1)))) a0 a1 t109 _ A20.out).mono ?_); rintro e w' ⟨rfl, ⟨nd, rfl⟩⟩) | (go_at_call 4; (with_reducible refine (word_Holds.calls (wrap64 (3 + (wrap64 (4 * x7_1)))) a0 a1 t110 _ A22.out).mono ?_); rintro e w' ⟨rfl, ⟨nd, rfl⟩⟩) | (go_at_call 4; (with_reducible refine (word_Holds.calls (wrap64 (5 + (wrap64 (4 * x7_1)))) a1 a0 t111 _ A23.out).mono ?_); rintro e w' ⟨rfl, ⟨nd, rfl⟩⟩))
                            go_meet
                            case rel => exact ⟨_, ((t110 != t111)), (by have e_ := E_.out; subst e_; cases t107 <;> cases t111 <;> first | rfl | (simp; done)), H', ⟨by have := HK1.out; have := HJ5.out; have := HJ8.out; have := HJ11.out; first | omega | exact Nat.le_refl _⟩, by repeat (first | exact Drawn0.refl _ | apply Drawn0.step)⟩
                      · rw [if_neg c15] at H
                        have c15b0 : (x12_11 == 1) = false := beq_eq_false_iff_ne.mpr c15
                        have c15b1 : (x12_11 != 1) = true := bne_iff_ne.mpr c15
                        (first | rw [c15b0] | (simp only [i64_w, i32_w]; rw [c15b0]) | skip)
                        have H' := Aside0.mk H
                        clear H
                        go_wp2
                        go_meet
                        case rel => exact ⟨_, (true), (by first | rfl | (simp; done) | (simp [*]; done)), H', ⟨by have := HK1.out; have := HJ5.out; have := HJ8.out; have := HJ11.out; first | omega | exact Nat.le_refl _⟩, by repeat (first | exact Drawn0.refl _ | apply Drawn0.step)⟩
                    case rest =>
                      clear HC14
                      try clear c1
                      try clear c2
                      try clear p2
                      try clear c3
                      try clear c4
                      try clear c4b0
                      try clear c5
                      try clear p6
                      try clear c7
                      try clear c8
                      try clear c10
                      try clear c11
                      try clear c13
                      try clear c15
                      try clear c15b0
                      try clear c15b1
                      try clear c18
                      try clear c18b0
                      try clear c18b1
                      try clear c18b2
                      try clear c21
                      try clear c21b0
                      try clear c21b1
                      try clear c21b2
                      try clear p2
                      try clear p6
                      obtain ⟨kq, x80_13, rfl, HA, HJ13, ⟨mc13, rfl⟩⟩ := hcut
                      cases kq with
                      | zero => exact absurd HA.out (by simp [grottolaw01_WordOrder.j4])
                      | succ kj13 =>
                        have H := HA.out
                        clear HA
                        simp only [grottolaw01_WordOrder.j4] at H
                        by_cases c24 : x80_13 = true
                        · subst c24
                          have H1 : (some false) = some r := by rw [if_pos rfl] at H; exact H
                          clear H
                          have H := H1
                          clear H1
                          obtain rfl := Option.some.inj H
                          go_wp2
                          go_ret
                          exact ⟨by first | rfl | (simp; done) | (simp [*]; done), by repeat (first | exact Drawn0.refl _ | apply Drawn0.step)⟩
                        · replace c24 := Bool.eq_false_iff.mpr c24
                          subst c24
                          have H1 : ((word_Holds.f (wrap64 (6 + (wrap64 (4 * x7_1)))) a0 a1).bind fun t112 => (if t112 = true then ((word_Holds.f (wrap64 (6 + (wrap64 (4 * x7_1)))) a1 a2).bind fun t113 => (if t113 = true then ((word_Holds.f (wrap64 (6 + (wrap64 (4 * x7_1)))) a0 a2).bind fun t114 => (if t114 = true then (grottolaw01_WordOrder.l0 kj13 a0 a1 a2 (wrap64 (x7_1 + 1))) else (some false))) else (grottolaw01_WordOrder.l0 kj13 a0 a1 a2 (wrap64 (x7_1 + 1))))) else (grottolaw01_WordOrder.l0 kj13 a0 a1 a2 (wrap64 (x7_1 + 1))))) = some r := by rw [if_neg (show ¬ (false = true) by decide)] at H; exact H
                          clear H
                          have H := H1
                          clear H1
                          replace H := Option.bind_eq_some_iff.mp H
                          obtain ⟨t112, A250, H⟩ := H
                          replace H : (if t112 = true then ((word_Holds.f (wrap64 (6 + (wrap64 (4 * x7_1)))) a1 a2).bind fun t113 => (if t113 = true then ((word_Holds.f (wrap64 (6 + (wrap64 (4 * x7_1)))) a0 a2).bind fun t114 => (if t114 = true then (grottolaw01_WordOrder.l0 kj13 a0 a1 a2 (wrap64 (x7_1 + 1))) else (some false))) else (grottolaw01_WordOrder.l0 kj13 a0 a1 a2 (wrap64 (x7_1 + 1))))) else (grottolaw01_WordOrder.l0 kj13 a0 a1 a2 (wrap64 (x7_1 + 1)))) = some r := H
                          have A25 := Aside0.mk A250
                          clear A250
                          by_cases c26 : t112 = true
                          · subst c26
                            have H1 : ((word_Holds.f (wrap64 (6 + (wrap64 (4 * x7_1)))) a1 a2).bind fun t113 => (if t113 = true then ((word_Holds.f (wrap64 (6 + (wrap64 (4 * x7_1)))) a0 a2).bind fun t114 => (if t114 = true then (grottolaw01_WordOrder.l0 kj13 a0 a1 a2 (wrap64 (x7_1 + 1))) else (some false))) else (grottolaw01_WordOrder.l0 kj13 a0 a1 a2 (wrap64 (x7_1 + 1))))) = some r := by rw [if_pos rfl] at H; exact H
                            clear H
                            have H := H1
                            clear H1
                            replace H := Option.bind_eq_some_iff.mp H
                            obtain ⟨t113, A270, H⟩ := H
                            replace H : (if t113 = true then ((word_Holds.f (wrap64 (6 + (wrap64 (4 * x7_1)))) a0 a2).bind fun t114 => (if t114 = true then (grottolaw01_WordOrder.l0 kj13 a0 a1 a2 (wrap64 (x7_1 + 1))) else (some false))) else (grottolaw01_WordOrder.l0 kj13 a0 a1 a2 (wrap64 (x7_1 + 1)))) = some r := H
                            have A27 := Aside0.mk A270
                            clear A270
                            by_cases c28 : t113 = true
                            · subst c28
                              have H1 : ((word_Holds.f (wrap64 (6 + (wrap64 (4 * x7_1)))) a0 a2).bind fun t114 => (if t114 = true then (grottolaw01_WordOrder.l0 kj13 a0 a1 a2 (wrap64 (x7_1 + 1))) else (some false))) = some r := by rw [if_pos rfl] at H; exact H
                              clear H
                              have H := H1
                              clear H1
                              replace H := Option.bind_eq_some_iff.mp H
                              obtain ⟨t114, A290, H⟩ := H
                              replace H : (if t114 = true then (grottolaw01_WordOrder.l0 kj13 a0 a1 a2 (wrap64 (x7_1 + 1))) else (some false)) = some r := H
                              have A29 := Aside0.mk A290
                              clear A290
                              by_cases c30 : t114 = true
                              · subst c30
                                have H1 : (grottolaw01_WordOrder.l0 kj13 a0 a1 a2 (wrap64 (x7_1 + 1))) = some r := by rw [if_pos rfl] at H; exact H
                                clear H
                                have H := H1
                                clear H1
                                have H' := Aside0.mk H
                                clear H
                                go_wp2_with (first | ((with_reducible refine gate_callee (f := 4) rfl ?_); refine zgo (some 84) Try.func4 #[.int .i64 (wrap64 (6 + (wrap64 (4 * x7_1)))), .int .u32 a0, .int .u32 a1] ?_; (with_reducible refine (word_Holds.calls (wrap64 (6 + (wrap64 (4 * x7_1)))) a0 a1 true _ A25.out).mono ?_); rintro e w' ⟨rfl, ⟨nd, rfl⟩⟩; refine ⟨_, rfl, ?_⟩) | (go_at_call 4; (with_reducible refine (word_Holds.calls (wrap64 (6 + (wrap64 (4 * x7_1)))) a1 a2 true _ A27.out).mono ?_); rintro e w' ⟨rfl, ⟨nd, rfl⟩⟩) | (go_at_call 4; (with_reducible refine (word_Holds.calls (wrap64 (6 + (wrap64 (4 * x7_1)))) a0 a2 true _ A29.out).mono ?_); rintro e w' ⟨rfl, ⟨nd, rfl⟩⟩))
                                go_roundg kj13
                                case measure => have := HK1.out; have := HJ5.out; have := HJ8.out; have := HJ11.out; have := HJ13.out; omega
                                case rel => exact ⟨(wrap64 (x7_1 + 1)), (by first | rfl | (simp; done) | (simp [*]; done)), H', ⟨by have := HK1.out; have := HJ5.out; have := HJ8.out; have := HJ11.out; have := HJ13.out; omega⟩, by repeat (first | exact Drawn0.refl _ | apply Drawn0.step)⟩
                              · replace c30 := Bool.eq_false_iff.mpr c30
                                subst c30
                                have H1 : (some false) = some r := by rw [if_neg (show ¬ (false = true) by decide)] at H; exact H
                                clear H
                                have H := H1
                                clear H1
                                obtain rfl := Option.some.inj H
                                go_wp2_with (first | ((with_reducible refine gate_callee (f := 4) rfl ?_); refine zgo (some 84) Try.func4 #[.int .i64 (wrap64 (6 + (wrap64 (4 * x7_1)))), .int .u32 a0, .int .u32 a1] ?_; (with_reducible refine (word_Holds.calls (wrap64 (6 + (wrap64 (4 * x7_1)))) a0 a1 true _ A25.out).mono ?_); rintro e w' ⟨rfl, ⟨nd, rfl⟩⟩; refine ⟨_, rfl, ?_⟩) | (go_at_call 4; (with_reducible refine (word_Holds.calls (wrap64 (6 + (wrap64 (4 * x7_1)))) a1 a2 true _ A27.out).mono ?_); rintro e w' ⟨rfl, ⟨nd, rfl⟩⟩) | (go_at_call 4; (with_reducible refine (word_Holds.calls (wrap64 (6 + (wrap64 (4 * x7_1)))) a0 a2 false _ A29.out).mono ?_); rintro e w' ⟨rfl, ⟨nd, rfl⟩⟩))
                                go_ret
                                exact ⟨by first | rfl | (simp; done) | (simp [*]; done), by repeat (first | exact Drawn0.refl _ | apply Drawn0.step)⟩
                            · replace c28 := Bool.eq_false_iff.mpr c28
                              subst c28
                              have H1 : (grottolaw01_WordOrder.l0 kj13 a0 a1 a2 (wrap64 (x7_1 + 1))) = some r := by rw [if_neg (show ¬ (false = true) by decide)] at H; exact H
                              clear H
                              have H := H1
                              clear H1
                              have H' := Aside0.mk H
                              clear H
                              go_wp2_with (first | ((with_reducible refine gate_callee (f := 4) rfl ?_); refine zgo (some 84) Try.func4 #[.int .i64 (wrap64 (6 + (wrap64 (4 * x7_1)))), .int .u32 a0, .int .u32 a1] ?_; (with_reducible refine (word_Holds.calls (wrap64 (6 + (wrap64 (4 * x7_1)))) a0 a1 true _ A25.out).mono ?_); rintro e w' ⟨rfl, ⟨nd, rfl⟩⟩; refine ⟨_, rfl, ?_⟩) | (go_at_call 4; (with_reducible refine (word_Holds.calls (wrap64 (6 + (wrap64 (4 * x7_1)))) a1 a2 false _ A27.out).mono ?_); rintro e w' ⟨rfl, ⟨nd, rfl⟩⟩))
                              go_roundg kj13
                              case measure => have := HK1.out; have := HJ5.out; have := HJ8.out; have := HJ11.out; have := HJ13.out; omega
                              case rel => exact ⟨(wrap64 (x7_1 + 1)), (by first | rfl | (simp; done) | (simp [*]; done)), H', ⟨by have := HK1.out; have := HJ5.out; have := HJ8.out; have := HJ11.out; have := HJ13.out; omega⟩, by repeat (first | exact Drawn0.refl _ | apply Drawn0.step)⟩
                          · replace c26 := Bool.eq_false_iff.mpr c26
                            subst c26
                            have H1 : (grottolaw01_WordOrder.l0 kj13 a0 a1 a2 (wrap64 (x7_1 + 1))) = some r := by rw [if_neg (show ¬ (false = true) by decide)] at H; exact H
                            clear H
                            have H := H1
                            clear H1
                            have H' := Aside0.mk H
                            clear H
                            go_wp2_with (first | ((with_reducible refine gate_callee (f := 4) rfl ?_); refine zgo (some 84) Try.func4 #[.int .i64 (wrap64 (6 + (wrap64 (4 * x7_1)))), .int .u32 a0, .int .u32 a1] ?_; (with_reducible refine (word_Holds.calls (wrap64 (6 + (wrap64 (4 * x7_1)))) a0 a1 false _ A25.out).mono ?_); rintro e w' ⟨rfl, ⟨nd, rfl⟩⟩; refine ⟨_, rfl, ?_⟩))
                            go_roundg kj13
                            case measure => have := HK1.out; have := HJ5.out; have := HJ8.out; have := HJ11.out; have := HJ13.out; omega
                            case rel => exact ⟨(wrap64 (x7_1 + 1)), (by first | rfl | (simp; done) | (simp [*]; done)), H', ⟨by have := HK1.out; have := HJ5.out; have := HJ8.out; have := HJ11.out; have := HJ13.out; omega⟩, by repeat (first | exact Drawn0.refl _ | apply Drawn0.step)⟩
      · rw [if_neg c4] at H
        have c4b0 : decide (x7_1 < 2) = false := decide_eq_false c4
        clear c4
        replace H := Option.bind_eq_some_iff.mp H
        obtain ⟨t101, A310, H⟩ := H
        replace H : ((word_Holds.f 1 a0 a1).bind fun t102 => (some (t101 != t102))) = some r := H
        have A31 := Aside0.mk A310
        clear A310
        replace H := Option.bind_eq_some_iff.mp H
        obtain ⟨t102, A320, H⟩ := H
        replace H : (some (t101 != t102)) = some r := H
        have A32 := Aside0.mk A320
        clear A320
        obtain rfl := Option.some.inj H
        go_wp2_with (first | ((with_reducible refine gate_callee (f := 4) rfl ?_); refine zgo (some 100) Try.func4 #[.int .i64 2, .int .u32 a0, .int .u32 a1] ?_; (with_reducible refine (word_Holds.calls 2 a0 a1 t101 _ A31.out).mono ?_); rintro e w' ⟨rfl, ⟨nd, rfl⟩⟩; refine ⟨_, rfl, ?_⟩) | ((with_reducible refine gate_callee (f := 4) rfl ?_); refine zgo (some 103) Try.func4 #[.int .i64 1, .int .u32 a0, .int .u32 a1] ?_; (with_reducible refine (word_Holds.calls 1 a0 a1 t102 _ A32.out).mono ?_); rintro e w' ⟨rfl, ⟨nd, rfl⟩⟩; refine ⟨_, rfl, ?_⟩))
        go_ret
        exact ⟨by first | rfl | (simp; done) | (simp [*]; done), by repeat (first | exact Drawn0.refl _ | apply Drawn0.step)⟩

/-- THE ONE PURE STATEMENT of grottolaw01_WordOrder: yours. -/
def grottolaw01_WordOrder.Pure : Prop := ∀ (a0 : Int) (a1 : Int) (a2 : Int), (Lit.int .u32 a0).wf = true → (Lit.int .u32 a1).wf = true → (Lit.int .u32 a2).wf = true → ∃ k, grottolaw01_WordOrder.f k a0 a1 a2 = some true
theorem grottolaw01_WordOrder.walk (P : grottolaw01_WordOrder.Pure) (a0 : Int) (a1 : Int) (a2 : Int) (w : World) (w0 : (Lit.int .u32 a0).wf = true) (w1 : (Lit.int .u32 a1).wf = true) (w2 : (Lit.int .u32 a2).wf = true) :
    Calls Try.prog 3 #[.int .u32 a0, .int .u32 a1, .int .u32 a2] w fun e w' => e = .returned (.bool true) ∧ Below w.heap.size w w' := by
  obtain ⟨k, h⟩ := P a0 a1 a2 w0 w1 w2
  refine (grottolaw01_WordOrder.calls k a0 a1 a2 true w h).mono ?_
  rintro e w' ⟨rfl, hd⟩
  exact ⟨rfl, hd.below⟩

end Go.Proofs.Ytefdfmnlcfopaaa.PQ
