-- by a program of this claim
import Derived.Test.YtefdfmnlcfopaaaDoorPQx0
import Derived.Test.YtefdfmnlcfopaaaDoorPQx1
import Derived.Test.YtefdfmnlcfopaaaDoorPQx8
namespace Go.Proofs.YtefdfmnlcfopaaaDoor.PQ
open Go.RowKit Go.Proofs.YtefdfmnlcfopaaaDoorW.PrintWords Go.Proofs.YtefdfmnlcfopaaaDoorW.PrintLast Go.Proofs.YtefdfmnlcfopaaaDoorW.PrintMore Go.Proofs.YtefdfmnlcfopaaaDoor.Z
attribute [local go_sem] max2_int min2_int max_two min_two max_three min_three max_four min_four   -- for this text's walks alone
set_option linter.unusedVariables false
set_option linter.unusedSimpArgs false

/-! ### grottolaw01_WordAligns: function 6 -/
def grottolaw01_WordAligns.f (k : Nat) (a0 : Int) (a1 : Int) : Option (Bool) := (word_Align.f a0 a1).bind fun bt225 => ((grottoref01_Align.f a0 a1).bind fun bt227 => (if bt225.1 = bt227.1 then (if (bt225.2 != bt227.2) = true then (some false) else (if bt225.2 = true then (if a1 = 0 then (none) else (if (Int.tmod bt225.1 a1) = 0 then (if bt225.1 ≥ a0 then (if ((bt225.1 - a0) % 4294967296) < a1 then ((grottolaw01_live.f k).bind fun t229 => (some t229)) else (some false)) else (some false)) else (some false))) else ((grottolaw01_live.f k).bind fun t230 => (some t230)))) else (some false)))
theorem grottolaw01_WordAligns.mono : ∀ a0 a1 k, LeO (grottolaw01_WordAligns.f k a0 a1) (grottolaw01_WordAligns.f (k + 1) a0 a1) := by
  intro a0 a1 k
  unfold grottolaw01_WordAligns.f
  repeat' first
      | (with_reducible exact grottolaw01_live.mono _)
      | (with_reducible exact LeO.refl _)
      | (with_reducible exact LeO.none _)
      | (with_reducible refine LeO.ite ?_ ?_)
      | (with_reducible refine LeO.bind ?_ (fun _ => ?_))
      | exact grottolaw01_live.mono _
      | exact LeO.none _
      | refine LeO.ite ?_ ?_
      | refine LeO.bind ?_ (fun _ => ?_)
set_option maxHeartbeats 8000000 in
set_option maxRecDepth 100000 in
theorem grottolaw01_WordAligns.calls (k : Nat) (a0 : Int) (a1 : Int) (r : Bool) (w : World) (HT : Tab w) (h : grottolaw01_WordAligns.f k a0 a1 = some r) :
    Calls Tryd.prog 6 #[.int .u32 a0, .int .u32 a1] w fun e w' => e = .returned (.bool r) ∧ Below w.heap.size w w' := by
  have HB := Aside0.mk (Below.refl w.heap.size w)
  have H : ((word_Align.f a0 a1).bind fun bt225 => ((grottoref01_Align.f a0 a1).bind fun bt227 => (if bt225.1 = bt227.1 then (if (bt225.2 != bt227.2) = true then (some false) else (if bt225.2 = true then (if a1 = 0 then (none) else (if (Int.tmod bt225.1 a1) = 0 then (if bt225.1 ≥ a0 then (if ((bt225.1 - a0) % 4294967296) < a1 then ((grottolaw01_live.f k).bind fun t229 => (some t229)) else (some false)) else (some false)) else (some false))) else ((grottolaw01_live.f k).bind fun t230 => (some t230)))) else (some false)))) = some r := h
  clear h
  replace H := Option.bind_eq_some_iff.mp H
  obtain ⟨⟨t225, t226⟩, A30, H⟩ := H
  replace H : ((grottoref01_Align.f a0 a1).bind fun bt227 => (if t225 = bt227.1 then (if (t226 != bt227.2) = true then (some false) else (if t226 = true then (if a1 = 0 then (none) else (if (Int.tmod t225 a1) = 0 then (if t225 ≥ a0 then (if ((t225 - a0) % 4294967296) < a1 then ((grottolaw01_live.f k).bind fun t229 => (some t229)) else (some false)) else (some false)) else (some false))) else ((grottolaw01_live.f k).bind fun t230 => (some t230)))) else (some false))) = some r := H
  have A3 := Aside0.mk A30
  clear A30
  replace H := Option.bind_eq_some_iff.mp H
  obtain ⟨⟨t227, t228⟩, A40, H⟩ := H
  replace H : (if t225 = t227 then (if (t226 != t228) = true then (some false) else (if t226 = true then (if a1 = 0 then (none) else (if (Int.tmod t225 a1) = 0 then (if t225 ≥ a0 then (if ((t225 - a0) % 4294967296) < a1 then ((grottolaw01_live.f k).bind fun t229 => (some t229)) else (some false)) else (some false)) else (some false))) else ((grottolaw01_live.f k).bind fun t230 => (some t230)))) else (some false)) = some r := H
  have A4 := Aside0.mk A40
  clear A40
  by_cases c5 : t225 = t227
  · rw [if_pos c5] at H
    have c5b0 : (t225 == t227) = true := beq_iff_eq.mpr c5
    have c5b1 : (t225 != t227) = false := bne_eq_false_iff_eq.mpr c5
    clear c5
    by_cases c6 : (t226 != t228) = true
    · rw [if_pos c6] at H
      have c6b0 : (t226 != t228) = true := c6
      (try (have c6b1 : decide (t226 = t228) = false := by simpa using c6))
      (try (have c6b2 : (t226 == t228) = false := by simpa using c6))
      (try (have c6b3 : ¬ (t226 = t228) := by simpa using c6))
      clear c6
      obtain rfl := Option.some.inj H
      go_enter Tryd.func6, Tryd.ntmps6
      go_wp2_with (first | ((with_reducible refine gate_callee (f := 26) rfl ?_); refine zgo (some 12) Tryd.func26 #[.int .u32 a0, .int .u32 a1] ?_; (with_reducible refine (word_Align.calls a0 a1 t225 t226 _ A3.out).mono ?_); rintro e w' ⟨rfl, ⟨nd, rfl⟩⟩; refine ⟨_, rfl, ?_⟩) | ((with_reducible refine gate_callee (f := 27) rfl ?_); refine zgo (some 18) Tryd.func27 #[.int .u32 a0, .int .u32 a1] ?_; (with_reducible refine (grottoref01_Align.calls a0 a1 t227 t228 _ A4.out).mono ?_); rintro e w' ⟨rfl, ⟨nd, rfl⟩⟩; refine ⟨_, rfl, ?_⟩))
      go_ret
      exact ⟨by first | rfl | (simp [errW_none, errW_some] <;> rfl) | (simp [*, errW_none, errW_some] <;> rfl), zb HB⟩
    · rw [if_neg c6] at H
      have c6b0 : (t226 != t228) = false := by simpa using c6
      (try (have c6b1 : decide (t226 = t228) = true := by simpa using c6))
      (try (have c6b2 : (t226 == t228) = true := by simpa using c6))
      clear c6
      by_cases c7 : t226 = true
      · subst c7
        have H1 : (if a1 = 0 then (none) else (if (Int.tmod t225 a1) = 0 then (if t225 ≥ a0 then (if ((t225 - a0) % 4294967296) < a1 then ((grottolaw01_live.f k).bind fun t229 => (some t229)) else (some false)) else (some false)) else (some false))) = some r := by rw [if_pos rfl] at H; exact H
        clear H
        have H := H1
        clear H1
        by_cases c8 : a1 = 0
        · rw [if_pos c8] at H
          exact absurd H (by simp)
        · rw [if_neg c8] at H
          have c8b0 : (a1 == 0) = false := beq_eq_false_iff_ne.mpr c8
          have c8b1 : (a1 != 0) = true := bne_iff_ne.mpr c8
          by_cases c9 : (Int.tmod t225 a1) = 0
          · rw [if_pos c9] at H
            have c9b0 : ((Int.tmod t225 a1) == 0) = true := beq_iff_eq.mpr c9
            have c9b1 : ((Int.tmod t225 a1) != 0) = false := bne_eq_false_iff_eq.mpr c9
            clear c9
            by_cases c10 : t225 ≥ a0
            · rw [if_pos c10] at H
              have c10b0 : decide (a0 ≤ t225) = true := decide_eq_true c10
              clear c10
              by_cases c11 : ((t225 - a0) % 4294967296) < a1
              · rw [if_pos c11] at H
                have c11b0 : decide (((t225 - a0) % 4294967296) < a1) = true := decide_eq_true c11
                clear c11
                replace H := Option.bind_eq_some_iff.mp H
                obtain ⟨t229, A120, H⟩ := H
                replace H : (some t229) = some r := H
                have A12 := Aside0.mk A120
                clear A120
                obtain rfl := Option.some.inj H
                go_enter Tryd.func6, Tryd.ntmps6
                go_wp2_with (first | ((with_reducible refine gate_callee (f := 26) rfl ?_); refine zgo (some 12) Tryd.func26 #[.int .u32 a0, .int .u32 a1] ?_; (with_reducible refine (word_Align.calls a0 a1 t225 true _ A3.out).mono ?_); rintro e w' ⟨rfl, ⟨nd, rfl⟩⟩; refine ⟨_, rfl, ?_⟩) | ((with_reducible refine gate_callee (f := 27) rfl ?_); refine zgo (some 18) Tryd.func27 #[.int .u32 a0, .int .u32 a1] ?_; (with_reducible refine (grottoref01_Align.calls a0 a1 t227 t228 _ A4.out).mono ?_); rintro e w' ⟨rfl, ⟨nd, rfl⟩⟩; refine ⟨_, rfl, ?_⟩) | (go_at_call 12; (with_reducible refine (grottolaw01_live.calls k  t229 _ (tbl HT HB) A12.out).mono ?_); rintro e w13 ⟨rfl, hb⟩; replace HB := zbs HB hb; (try clear hb); (try clear hb2); (try clear hk); (try clear hi)))
                go_ret
                exact ⟨by first | rfl | (simp [errW_none, errW_some] <;> rfl) | (simp [*, errW_none, errW_some] <;> rfl), zb HB⟩
              · rw [if_neg c11] at H
                have c11b0 : decide (((t225 - a0) % 4294967296) < a1) = false := decide_eq_false c11
                clear c11
                obtain rfl := Option.some.inj H
                go_enter Tryd.func6, Tryd.ntmps6
                go_wp2_with (first | ((with_reducible refine gate_callee (f := 26) rfl ?_); refine zgo (some 12) Tryd.func26 #[.int .u32 a0, .int .u32 a1] ?_; (with_reducible refine (word_Align.calls a0 a1 t225 true _ A3.out).mono ?_); rintro e w' ⟨rfl, ⟨nd, rfl⟩⟩; refine ⟨_, rfl, ?_⟩) | ((with_reducible refine gate_callee (f := 27) rfl ?_); refine zgo (some 18) Tryd.func27 #[.int .u32 a0, .int .u32 a1] ?_; (with_reducible refine (grottoref01_Align.calls a0 a1 t227 t228 _ A4.out).mono ?_); rintro e w' ⟨rfl, ⟨nd, rfl⟩⟩; refine ⟨_, rfl, ?_⟩))
                go_ret
                exact ⟨by first | rfl | (simp [errW_none, errW_some] <;> rfl) | (simp [*, errW_none, errW_some] <;> rfl), zb HB⟩
            · rw [if_neg c10] at H
              have c10b0 : decide (a0 ≤ t225) = false := decide_eq_false c10
              clear c10
              obtain rfl := Option.some.inj H
              go_enter Tryd.func6, Tryd.ntmps6
              go_wp2_with (first | ((with_reducible refine gate_callee (f := 26) rfl ?_); refine zgo (some 12) Tryd.func26 #[.int .u32 a0, .int .u32 a1] ?_; (with_reducible refine (word_Align.calls a0 a1 t225 true _ A3.out).mono ?_); rintro e w' ⟨rfl, ⟨nd, rfl⟩⟩; refine ⟨_, rfl, ?_⟩) | ((with_reducible refine gate_callee (f := 27) rfl ?_); refine zgo (some 18) Tryd.func27 #[.int .u32 a0, .int .u32 a1] ?_; (with_reducible refine (grottoref01_Align.calls a0 a1 t227 t228 _ A4.out).mono ?_); rintro e w' ⟨rfl, ⟨nd, rfl⟩⟩; refine ⟨_, rfl, ?_⟩))
              go_ret
              exact ⟨by first | rfl | (simp [errW_none, errW_some] <;> rfl) | (simp [*, errW_none, errW_some] <;> rfl), zb HB⟩
          · rw [if_neg c9] at H
            have c9b0 : ((Int.tmod t225 a1) == 0) = false := beq_eq_false_iff_ne.mpr c9
            have c9b1 : ((Int.tmod t225 a1) != 0) = true := bne_iff_ne.mpr c9
            obtain rfl := Option.some.inj H
            go_enter Tryd.func6, Tryd.ntmps6
            go_wp2_with (first | ((with_reducible refine gate_callee (f := 26) rfl ?_); refine zgo (some 12) Tryd.func26 #[.int .u32 a0, .int .u32 a1] ?_; (with_reducible refine (word_Align.calls a0 a1 t225 true _ A3.out).mono ?_); rintro e w' ⟨rfl, ⟨nd, rfl⟩⟩; refine ⟨_, rfl, ?_⟩) | ((with_reducible refine gate_callee (f := 27) rfl ?_); refine zgo (some 18) Tryd.func27 #[.int .u32 a0, .int .u32 a1] ?_; (with_reducible refine (grottoref01_Align.calls a0 a1 t227 t228 _ A4.out).mono ?_); rintro e w' ⟨rfl, ⟨nd, rfl⟩⟩; refine ⟨_, rfl, ?_⟩))
            go_ret
            exact ⟨by first | rfl | (simp [errW_none, errW_some] <;> rfl) | (simp [*, errW_none, errW_some] <;> rfl), zb HB⟩
      · replace c7 := Bool.eq_false_iff.mpr c7
        subst c7
        have H1 : ((grottolaw01_live.f k).bind fun t230 => (some t230)) = some r := by rw [if_neg (show ¬ (false = true) by decide)] at H; exact H
        clear H
        have H := H1
        clear H1
        replace H := Option.bind_eq_some_iff.mp H
        obtain ⟨t230, A140, H⟩ := H
        replace H : (some t230) = some r := H
        have A14 := Aside0.mk A140
        clear A140
        obtain rfl := Option.some.inj H
        go_enter Tryd.func6, Tryd.ntmps6
        go_wp2_with (first | ((with_reducible refine gate_callee (f := 26) rfl ?_); refine zgo (some 12) Tryd.func26 #[.int .u32 a0, .int .u32 a1] ?_; (with_reducible refine (word_Align.calls a0 a1 t225 false _ A3.out).mono ?_); rintro e w' ⟨rfl, ⟨nd, rfl⟩⟩; refine ⟨_, rfl, ?_⟩) | ((with_reducible refine gate_callee (f := 27) rfl ?_); refine zgo (some 18) Tryd.func27 #[.int .u32 a0, .int .u32 a1] ?_; (with_reducible refine (grottoref01_Align.calls a0 a1 t227 t228 _ A4.out).mono ?_); rintro e w' ⟨rfl, ⟨nd, rfl⟩⟩; refine ⟨_, rfl, ?_⟩) | (go_at_call 12; (with_reducible refine (grottolaw01_live.calls k  t230 _ (tbl HT HB) A14.out).mono ?_); rintro e w15 ⟨rfl, hb⟩; replace HB := zbs HB hb; (try clear hb); (try clear hb2); (try clear hk); (try clear hi)))
        go_ret
        exact ⟨by first | rfl | (simp [errW_none, errW_some] <;> rfl) | (simp [*, errW_none, errW_some] <;> rfl), zb HB⟩
  · rw [if_neg c5] at H
    have c5b0 : (t225 == t227) = false := beq_eq_false_iff_ne.mpr c5
    have c5b1 : (t225 != t227) = true := bne_iff_ne.mpr c5
    obtain rfl := Option.some.inj H
    go_enter Tryd.func6, Tryd.ntmps6
    go_wp2_with (first | ((with_reducible refine gate_callee (f := 26) rfl ?_); refine zgo (some 12) Tryd.func26 #[.int .u32 a0, .int .u32 a1] ?_; (with_reducible refine (word_Align.calls a0 a1 t225 t226 _ A3.out).mono ?_); rintro e w' ⟨rfl, ⟨nd, rfl⟩⟩; refine ⟨_, rfl, ?_⟩) | ((with_reducible refine gate_callee (f := 27) rfl ?_); refine zgo (some 18) Tryd.func27 #[.int .u32 a0, .int .u32 a1] ?_; (with_reducible refine (grottoref01_Align.calls a0 a1 t227 t228 _ A4.out).mono ?_); rintro e w' ⟨rfl, ⟨nd, rfl⟩⟩; refine ⟨_, rfl, ?_⟩))
    go_ret
    exact ⟨by first | rfl | (simp [errW_none, errW_some] <;> rfl) | (simp [*, errW_none, errW_some] <;> rfl), zb HB⟩


end Go.Proofs.YtefdfmnlcfopaaaDoor.PQ
