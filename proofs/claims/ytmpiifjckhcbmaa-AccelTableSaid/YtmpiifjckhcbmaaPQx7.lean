-- by a program of this claim
import Derived.Test.YtmpiifjckhcbmaaPQx0
namespace Go.Proofs.Ytmpiifjckhcbmaa.PQ
open Go.RowKit Go.Proofs.YtmpiifjckhcbmaaW.PrintWords Go.Proofs.YtmpiifjckhcbmaaW.PrintLast Go.Proofs.YtmpiifjckhcbmaaW.PrintMore Go.Proofs.Ytmpiifjckhcbmaa.Z
attribute [local go_sem] max2_int min2_int max_two min_two max_three min_three max_four min_four   -- for this text's walks alone
set_option linter.unusedVariables false
set_option linter.unusedSimpArgs false

/-! ### accel_one: function 59 -/
def accel_one.f (a0 : Bool) : Option (Int) := if a0 = true then (some 1) else (some 0)
set_option maxHeartbeats 8000000 in
set_option maxRecDepth 100000 in
theorem accel_one.calls (a0 : Bool) (r : Int) (w : World) (h : accel_one.f a0 = some r) :
    Calls Try.prog 59 #[.bool a0] w fun e w' => e = .returned (.int .u32 r) ∧ Drawn0 w w' := by
  have H : (if a0 = true then (some 1) else (some 0)) = some r := h
  clear h
  by_cases c2 : a0 = true
  · subst c2
    have H1 : (some 1) = some r := by rw [if_pos rfl] at H; exact H
    clear H
    have H := H1
    clear H1
    obtain rfl := Option.some.inj H
    go_enter Try.func59, Try.ntmps59
    go_wp2
    go_ret
    exact ⟨by first | rfl | (simp; done) | (simp [*]; done), by repeat (first | exact Drawn0.refl _ | apply Drawn0.step)⟩
  · replace c2 := Bool.eq_false_iff.mpr c2
    subst c2
    have H1 : (some 0) = some r := by rw [if_neg (show ¬ (false = true) by decide)] at H; exact H
    clear H
    have H := H1
    clear H1
    obtain rfl := Option.some.inj H
    go_enter Try.func59, Try.ntmps59
    go_wp2
    go_ret
    exact ⟨by first | rfl | (simp; done) | (simp [*]; done), by repeat (first | exact Drawn0.refl _ | apply Drawn0.step)⟩

/-! ### accel_Slip: function 23 -/
def accel_Slip.f (a0 : Int) : Option (ByteArray) := if a0 = 1 then (some (⟨#[91, 42, 42, 32, 80, 114, 111, 103, 114, 97, 109, 109, 105, 110, 103, 32, 101, 114, 114, 111, 114, 58, 32, 116, 114, 105, 101, 100, 32, 116, 111, 32, 102, 105, 110, 100, 32, 116, 104, 101, 32, 34, 46, 34, 32, 111, 102, 32, 40, 115, 111, 109, 101, 116, 104, 105, 110, 103, 41, 32, 42, 42, 93]⟩ : ByteArray)) else (if a0 = 2 then (some (⟨#[91, 42, 42, 32, 80, 114, 111, 103, 114, 97, 109, 109, 105, 110, 103, 32, 101, 114, 114, 111, 114, 58, 32, 116, 114, 105, 101, 100, 32, 116, 111, 32, 97, 112, 112, 108, 121, 32, 39, 111, 102, 99, 108, 97, 115, 115, 39, 32, 119, 105, 116, 104, 32, 110, 111, 110, 45, 99, 108, 97, 115, 115, 32, 42, 42, 93]⟩ : ByteArray)) else (if a0 = 3 then (some (⟨#[91, 42, 42, 32, 80, 114, 111, 103, 114, 97, 109, 109, 105, 110, 103, 32, 101, 114, 114, 111, 114, 58, 32, 116, 114, 105, 101, 100, 32, 116, 111, 32, 114, 101, 97, 100, 32, 40, 115, 111, 109, 101, 116, 104, 105, 110, 103, 41, 32, 42, 42, 93]⟩ : ByteArray)) else (some (⟨#[]⟩ : ByteArray))))
set_option maxHeartbeats 8000000 in
set_option maxRecDepth 100000 in
theorem accel_Slip.calls (a0 : Int) (r : ByteArray) (w : World) (h : accel_Slip.f a0 = some r) :
    Calls Try.prog 23 #[.int .i64 a0] w fun e w' => e = .returned (.string r) ∧ Drawn0 w w' := by
  have H : (if a0 = 1 then (some (⟨#[91, 42, 42, 32, 80, 114, 111, 103, 114, 97, 109, 109, 105, 110, 103, 32, 101, 114, 114, 111, 114, 58, 32, 116, 114, 105, 101, 100, 32, 116, 111, 32, 102, 105, 110, 100, 32, 116, 104, 101, 32, 34, 46, 34, 32, 111, 102, 32, 40, 115, 111, 109, 101, 116, 104, 105, 110, 103, 41, 32, 42, 42, 93]⟩ : ByteArray)) else (if a0 = 2 then (some (⟨#[91, 42, 42, 32, 80, 114, 111, 103, 114, 97, 109, 109, 105, 110, 103, 32, 101, 114, 114, 111, 114, 58, 32, 116, 114, 105, 101, 100, 32, 116, 111, 32, 97, 112, 112, 108, 121, 32, 39, 111, 102, 99, 108, 97, 115, 115, 39, 32, 119, 105, 116, 104, 32, 110, 111, 110, 45, 99, 108, 97, 115, 115, 32, 42, 42, 93]⟩ : ByteArray)) else (if a0 = 3 then (some (⟨#[91, 42, 42, 32, 80, 114, 111, 103, 114, 97, 109, 109, 105, 110, 103, 32, 101, 114, 114, 111, 114, 58, 32, 116, 114, 105, 101, 100, 32, 116, 111, 32, 114, 101, 97, 100, 32, 40, 115, 111, 109, 101, 116, 104, 105, 110, 103, 41, 32, 42, 42, 93]⟩ : ByteArray)) else (some (⟨#[]⟩ : ByteArray))))) = some r := h
  clear h
  by_cases c2 : a0 = 1
  · rw [if_pos c2] at H
    have c2b0 : (a0 == 1) = true := beq_iff_eq.mpr c2
    have c2b1 : (a0 != 1) = false := bne_eq_false_iff_eq.mpr c2
    clear c2
    obtain rfl := Option.some.inj H
    go_enter Try.func23, Try.ntmps23
    go_wp2
    go_ret
    exact ⟨by first | rfl | (simp; done) | (simp [*]; done), by repeat (first | exact Drawn0.refl _ | apply Drawn0.step)⟩
  · rw [if_neg c2] at H
    have c2b0 : (a0 == 1) = false := beq_eq_false_iff_ne.mpr c2
    have c2b1 : (a0 != 1) = true := bne_iff_ne.mpr c2
    by_cases c3 : a0 = 2
    · rw [if_pos c3] at H
      have c3b0 : (a0 == 2) = true := beq_iff_eq.mpr c3
      have c3b1 : (a0 != 2) = false := bne_eq_false_iff_eq.mpr c3
      clear c3
      obtain rfl := Option.some.inj H
      go_enter Try.func23, Try.ntmps23
      go_wp2
      go_ret
      exact ⟨by first | rfl | (simp; done) | (simp [*]; done), by repeat (first | exact Drawn0.refl _ | apply Drawn0.step)⟩
    · rw [if_neg c3] at H
      have c3b0 : (a0 == 2) = false := beq_eq_false_iff_ne.mpr c3
      have c3b1 : (a0 != 2) = true := bne_iff_ne.mpr c3
      by_cases c4 : a0 = 3
      · rw [if_pos c4] at H
        have c4b0 : (a0 == 3) = true := beq_iff_eq.mpr c4
        have c4b1 : (a0 != 3) = false := bne_eq_false_iff_eq.mpr c4
        clear c4
        obtain rfl := Option.some.inj H
        go_enter Try.func23, Try.ntmps23
        go_wp2
        go_ret
        exact ⟨by first | rfl | (simp; done) | (simp [*]; done), by repeat (first | exact Drawn0.refl _ | apply Drawn0.step)⟩
      · rw [if_neg c4] at H
        have c4b0 : (a0 == 3) = false := beq_eq_false_iff_ne.mpr c4
        have c4b1 : (a0 != 3) = true := bne_iff_ne.mpr c4
        obtain rfl := Option.some.inj H
        go_enter Try.func23, Try.ntmps23
        go_wp2
        go_ret
        exact ⟨by first | rfl | (simp; done) | (simp [*]; done), by repeat (first | exact Drawn0.refl _ | apply Drawn0.step)⟩

end Go.Proofs.Ytmpiifjckhcbmaa.PQ
