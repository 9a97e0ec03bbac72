-- by a program of this claim
import Derived.Test.YtefdfmnlcfopaaaDoorPQx0
import Derived.Test.YtefdfmnlcfopaaaDoorPQx1
import Derived.Test.YtefdfmnlcfopaaaDoorPQx8
namespace Go.Proofs.YtefdfmnlcfopaaaDoor.PQ
open Go.RowKit Go.Proofs.YtefdfmnlcfopaaaDoorW.PrintWords Go.Proofs.YtefdfmnlcfopaaaDoorW.PrintLast Go.Proofs.YtefdfmnlcfopaaaDoorW.PrintMore Go.Proofs.YtefdfmnlcfopaaaDoor.Z
attribute [local go_sem] max2_int min2_int max_two min_two max_three min_three max_four min_four   -- for this text's walks alone
set_option linter.unusedVariables false
set_option linter.unusedSimpArgs false

/-! ### grottolaw01_WordHolds: function 9 -/
def grottolaw01_WordHolds.f (k : Nat) (a0 : Int) (a1 : Int) (a2 : Int) : Option (Bool) := (word_Holds.f a0 a1 a2).bind fun t264 => ((grottoref01_Holds.f a0 a1 a2).bind fun t265 => (if (t264 == t265) = true then ((grottolaw01_live.f k).bind fun t266 => (some t266)) else (some false)))
theorem grottolaw01_WordHolds.mono : ∀ a0 a1 a2 k, LeO (grottolaw01_WordHolds.f k a0 a1 a2) (grottolaw01_WordHolds.f (k + 1) a0 a1 a2) := by
  intro a0 a1 a2 k
  unfold grottolaw01_WordHolds.f
  repeat' first
      | (with_reducible exact grottolaw01_live.mono _)
      | (with_reducible exact LeO.refl _)
      | (with_reducible exact LeO.none _)
      | (with_reducible refine LeO.ite ?_ ?_)
      | (with_reducible refine LeO.bind ?_ (fun _ => ?_))
      | exact grottolaw01_live.mono _
      | exact LeO.none _
      | refine LeO.ite ?_ ?_
      | refine LeO.bind ?_ (fun _ => ?_)
set_option maxHeartbeats 8000000 in
set_option maxRecDepth 100000 in
theorem grottolaw01_WordHolds.calls (k : Nat) (a0 : Int) (a1 : Int) (a2 : Int) (r : Bool) (w : World) (HT : Tab w) (h : grottolaw01_WordHolds.f k a0 a1 a2 = some r) :
    Calls Tryd.prog 9 #[.int .i64 a0, .int .u32 a1, .int .u32 a2] w fun e w' => e = .returned (.bool r) ∧ Below w.heap.size w w' := by
  have HB := Aside0.mk (Below.refl w.heap.size w)
  have H : ((word_Holds.f a0 a1 a2).bind fun t264 => ((grottoref01_Holds.f a0 a1 a2).bind fun t265 => (if (t264 == t265) = true then ((grottolaw01_live.f k).bind fun t266 => (some t266)) else (some false)))) = some r := h
  clear h
  replace H := Option.bind_eq_some_iff.mp H
  obtain ⟨t264, A40, H⟩ := H
  replace H : ((grottoref01_Holds.f a0 a1 a2).bind fun t265 => (if (t264 == t265) = true then ((grottolaw01_live.f k).bind fun t266 => (some t266)) else (some false))) = some r := H
  have A4 := Aside0.mk A40
  clear A40
  replace H := Option.bind_eq_some_iff.mp H
  obtain ⟨t265, A50, H⟩ := H
  replace H : (if (t264 == t265) = true then ((grottolaw01_live.f k).bind fun t266 => (some t266)) else (some false)) = some r := H
  have A5 := Aside0.mk A50
  clear A50
  by_cases c6 : (t264 == t265) = true
  · rw [if_pos c6] at H
    have c6b0 : (t264 == t265) = true := c6
    (try (have c6b1 : decide (t264 = t265) = true := by simpa using c6))
    (try (have c6b2 : (t264 == t265) = true := by simpa using c6))
    clear c6
    replace H := Option.bind_eq_some_iff.mp H
    obtain ⟨t266, A70, H⟩ := H
    replace H : (some t266) = some r := H
    have A7 := Aside0.mk A70
    clear A70
    obtain rfl := Option.some.inj H
    go_enter Tryd.func9, Tryd.ntmps9
    go_wp2_with (first | ((with_reducible refine gate_callee (f := 36) rfl ?_); refine zgo (some 10) Tryd.func36 #[.int .i64 a0, .int .u32 a1, .int .u32 a2] ?_; (with_reducible refine (word_Holds.calls a0 a1 a2 t264 _ A4.out).mono ?_); rintro e w' ⟨rfl, ⟨nd, rfl⟩⟩; refine ⟨_, rfl, ?_⟩) | ((with_reducible refine gate_callee (f := 37) rfl ?_); refine zgo (some 14) Tryd.func37 #[.int .i64 a0, .int .u32 a1, .int .u32 a2] ?_; (with_reducible refine (grottoref01_Holds.calls a0 a1 a2 t265 _ A5.out).mono ?_); rintro e w' ⟨rfl, ⟨nd, rfl⟩⟩; refine ⟨_, rfl, ?_⟩) | (go_at_call 12; (with_reducible refine (grottolaw01_live.calls k  t266 _ (tbl HT HB) A7.out).mono ?_); rintro e w8 ⟨rfl, hb⟩; replace HB := zbs HB hb; (try clear hb); (try clear hb2); (try clear hk); (try clear hi)))
    go_ret
    exact ⟨by first | rfl | (simp [errW_none, errW_some] <;> rfl) | (simp [*, errW_none, errW_some] <;> rfl), zb HB⟩
  · rw [if_neg c6] at H
    have c6b0 : (t264 == t265) = false := by simpa using c6
    (try (have c6b1 : decide (t264 = t265) = false := by simpa using c6))
    (try (have c6b2 : (t264 == t265) = false := by simpa using c6))
    (try (have c6b3 : ¬ (t264 = t265) := by simpa using c6))
    clear c6
    obtain rfl := Option.some.inj H
    go_enter Tryd.func9, Tryd.ntmps9
    go_wp2_with (first | ((with_reducible refine gate_callee (f := 36) rfl ?_); refine zgo (some 10) Tryd.func36 #[.int .i64 a0, .int .u32 a1, .int .u32 a2] ?_; (with_reducible refine (word_Holds.calls a0 a1 a2 t264 _ A4.out).mono ?_); rintro e w' ⟨rfl, ⟨nd, rfl⟩⟩; refine ⟨_, rfl, ?_⟩) | ((with_reducible refine gate_callee (f := 37) rfl ?_); refine zgo (some 14) Tryd.func37 #[.int .i64 a0, .int .u32 a1, .int .u32 a2] ?_; (with_reducible refine (grottoref01_Holds.calls a0 a1 a2 t265 _ A5.out).mono ?_); rintro e w' ⟨rfl, ⟨nd, rfl⟩⟩; refine ⟨_, rfl, ?_⟩))
    go_ret
    exact ⟨by first | rfl | (simp [errW_none, errW_some] <;> rfl) | (simp [*, errW_none, errW_some] <;> rfl), zb HB⟩


end Go.Proofs.YtefdfmnlcfopaaaDoor.PQ
