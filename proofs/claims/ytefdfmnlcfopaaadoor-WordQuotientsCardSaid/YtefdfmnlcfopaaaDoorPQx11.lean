-- by a program of this claim
import Derived.Test.YtefdfmnlcfopaaaDoorPQx0
import Derived.Test.YtefdfmnlcfopaaaDoorPQx1
import Derived.Test.YtefdfmnlcfopaaaDoorPQx8
namespace Go.Proofs.YtefdfmnlcfopaaaDoor.PQ
open Go.RowKit Go.Proofs.YtefdfmnlcfopaaaDoorW.PrintWords Go.Proofs.YtefdfmnlcfopaaaDoorW.PrintLast Go.Proofs.YtefdfmnlcfopaaaDoorW.PrintMore Go.Proofs.YtefdfmnlcfopaaaDoor.Z
attribute [local go_sem] max2_int min2_int max_two min_two max_three min_three max_four min_four   -- for this text's walks alone
set_option linter.unusedVariables false
set_option linter.unusedSimpArgs false

/-! ### grottolaw01_WordQuotients: function 5 -/
def grottolaw01_WordQuotients.f (k : Nat) (a0 : Int) (a1 : Int) : Option (Bool) := (word_Div.f a0 a1).bind fun bt209 => ((word_Mod.f a0 a1).bind fun bt211 => (if a1 = 0 then (if bt209.1 = 0 then (if bt211.1 = 0 then ((grottolaw01_num.f bt209.2).bind fun t213 => (if t213 = 10 then ((grottolaw01_num.f bt211.2).bind fun t214 => (if t214 = 10 then ((grottolaw01_live.f k).bind fun t215 => (some t215)) else (some false))) else (some false))) else (some false)) else (some false)) else ((grottoref01_Int.f a0).bind fun t216 => ((grottoref01_Int.f a1).bind fun t217 => ((grottoref01_Int.f bt211.1).bind fun t218 => ((grottolaw01_num.f bt209.2).bind fun t219 => ((grottolaw01_num.f bt211.2).bind fun t220 => (if (wrap64 (t219 + t220)) = 0 then (if ((((bt209.1 * a1) % 4294967296) + bt211.1) % 4294967296) = a0 then (if t216 ≥ 0 then (if t218 < 0 then (some false) else (if t216 ≤ 0 then (if t218 > 0 then (some false) else (if t218 < (mx t217 (wrap64 (-t217))) then (if (wrap64 (-t218)) < (mx t217 (wrap64 (-t217))) then ((grottolaw01_live.f k).bind fun t221 => (some t221)) else (some false)) else (some false))) else (if t218 < (mx t217 (wrap64 (-t217))) then (if (wrap64 (-t218)) < (mx t217 (wrap64 (-t217))) then ((grottolaw01_live.f k).bind fun t222 => (some t222)) else (some false)) else (some false)))) else (if t216 ≤ 0 then (if t218 > 0 then (some false) else (if t218 < (mx t217 (wrap64 (-t217))) then (if (wrap64 (-t218)) < (mx t217 (wrap64 (-t217))) then ((grottolaw01_live.f k).bind fun t223 => (some t223)) else (some false)) else (some false))) else (if t218 < (mx t217 (wrap64 (-t217))) then (if (wrap64 (-t218)) < (mx t217 (wrap64 (-t217))) then ((grottolaw01_live.f k).bind fun t224 => (some t224)) else (some false)) else (some false)))) else (some false)) else (some false)))))))))
theorem grottolaw01_WordQuotients.mono : ∀ a0 a1 k, LeO (grottolaw01_WordQuotients.f k a0 a1) (grottolaw01_WordQuotients.f (k + 1) a0 a1) := by
  intro a0 a1 k
  unfold grottolaw01_WordQuotients.f
  repeat' first
      | (with_reducible exact grottolaw01_live.mono _)
      | (with_reducible exact LeO.refl _)
      | (with_reducible exact LeO.none _)
      | (with_reducible refine LeO.ite ?_ ?_)
      | (with_reducible refine LeO.bind ?_ (fun _ => ?_))
      | exact grottolaw01_live.mono _
      | exact LeO.none _
      | refine LeO.ite ?_ ?_
      | refine LeO.bind ?_ (fun _ => ?_)
set_option maxHeartbeats 8000000 in
set_option maxRecDepth 100000 in
theorem grottolaw01_WordQuotients.calls (k : Nat) (a0 : Int) (a1 : Int) (r : Bool) (w : World) (HT : Tab w) (h : grottolaw01_WordQuotients.f k a0 a1 = some r) :
    Calls Tryd.prog 5 #[.int .u32 a0, .int .u32 a1] w fun e w' => e = .returned (.bool r) ∧ Below w.heap.size w w' := by
  have HB := Aside0.mk (Below.refl w.heap.size w)
  have H : ((word_Div.f a0 a1).bind fun bt209 => ((word_Mod.f a0 a1).bind fun bt211 => (if a1 = 0 then (if bt209.1 = 0 then (if bt211.1 = 0 then ((grottolaw01_num.f bt209.2).bind fun t213 => (if t213 = 10 then ((grottolaw01_num.f bt211.2).bind fun t214 => (if t214 = 10 then ((grottolaw01_live.f k).bind fun t215 => (some t215)) else (some false))) else (some false))) else (some false)) else (some false)) else ((grottoref01_Int.f a0).bind fun t216 => ((grottoref01_Int.f a1).bind fun t217 => ((grottoref01_Int.f bt211.1).bind fun t218 => ((grottolaw01_num.f bt209.2).bind fun t219 => ((grottolaw01_num.f bt211.2).bind fun t220 => (if (wrap64 (t219 + t220)) = 0 then (if ((((bt209.1 * a1) % 4294967296) + bt211.1) % 4294967296) = a0 then (if t216 ≥ 0 then (if t218 < 0 then (some false) else (if t216 ≤ 0 then (if t218 > 0 then (some false) else (if t218 < (mx t217 (wrap64 (-t217))) then (if (wrap64 (-t218)) < (mx t217 (wrap64 (-t217))) then ((grottolaw01_live.f k).bind fun t221 => (some t221)) else (some false)) else (some false))) else (if t218 < (mx t217 (wrap64 (-t217))) then (if (wrap64 (-t218)) < (mx t217 (wrap64 (-t217))) then ((grottolaw01_live.f k).bind fun t222 => (some t222)) else (some false)) else (some false)))) else (if t216 ≤ 0 then (if t218 > 0 then (some false) else (if t218 < (mx t217 (wrap64 (-t217))) then (if (wrap64 (-t218)) < (mx t217 (wrap64 (-t217))) then ((grottolaw01_live.f k).bind fun t223 => (some t223)) else (some false)) else (some false))) else (if t218 < (mx t217 (wrap64 (-t217))) then (if (wrap64 (-t218)) < (mx t217 (wrap64 (-t217))) then ((grottolaw01_live.f k).bind fun t224 => (some t224)) else (some false)) else (some false)))) else (some false)) else (some false)))))))))) = some r := h
  clear h
  replace H := Option.bind_eq_some_iff.mp H
  obtain ⟨⟨t209, t210⟩, A30, H⟩ := H
  replace H : ((word_Mod.f a0 a1).bind fun bt211 => (if a1 = 0 then (if t209 = 0 then (if bt211.1 = 0 then ((grottolaw01_num.f t210).bind fun t213 => (if t213 = 10 then ((grottolaw01_num.f bt211.2).bind fun t214 => (if t214 = 10 then ((grottolaw01_live.f k).bind fun t215 => (some t215)) else (some false))) else (some false))) else (some false)) else (some false)) else ((grottoref01_Int.f a0).bind fun t216 => ((grottoref01_Int.f a1).bind fun t217 => ((grottoref01_Int.f bt211.1).bind fun t218 => ((grottolaw01_num.f t210).bind fun t219 => ((grottolaw01_num.f bt211.2).bind fun t220 => (if (wrap64 (t219 + t220)) = 0 then (if ((((t209 * a1) % 4294967296) + bt211.1) % 4294967296) = a0 then (if t216 ≥ 0 then (if t218 < 0 then (some false) else (if t216 ≤ 0 then (if t218 > 0 then (some false) else (if t218 < (mx t217 (wrap64 (-t217))) then (if (wrap64 (-t218)) < (mx t217 (wrap64 (-t217))) then ((grottolaw01_live.f k).bind fun t221 => (some t221)) else (some false)) else (some false))) else (if t218 < (mx t217 (wrap64 (-t217))) then (if (wrap64 (-t218)) < (mx t217 (wrap64 (-t217))) then ((grottolaw01_live.f k).bind fun t222 => (some t222)) else (some false)) else (some false)))) else (if t216 ≤ 0 then (if t218 > 0 then (some false) else (if t218 < (mx t217 (wrap64 (-t217))) then (if (wrap64 (-t218)) < (mx t217 (wrap64 (-t217))) then ((grottolaw01_live.f k).bind fun t223 => (some t223)) else (some false)) else (some false))) else (if t218 < (mx t217 (wrap64 (-t217))) then (if (wrap64 (-t218)) < (mx t217 (wrap64 (-t217))) then ((grottolaw01_live.f k).bind fun t224 => (some t224)) else (some false)) else (some false)))) else (some false)) else (some false))))))))) = some r := H
  have A3 := Aside0.mk A30
  clear A30
  replace H := Option.bind_eq_some_iff.mp H
  obtain ⟨⟨t211, t212⟩, A40, H⟩ := H
  replace H : (if a1 = 0 then (if t209 = 0 then (if t211 = 0 then ((grottolaw01_num.f t210).bind fun t213 => (if t213 = 10 then ((grottolaw01_num.f t212).bind fun t214 => (if t214 = 10 then ((grottolaw01_live.f k).bind fun t215 => (some t215)) else (some false))) else (some false))) else (some false)) else (some false)) else ((grottoref01_Int.f a0).bind fun t216 => ((grottoref01_Int.f a1).bind fun t217 => ((grottoref01_Int.f t211).bind fun t218 => ((grottolaw01_num.f t210).bind fun t219 => ((grottolaw01_num.f t212).bind fun t220 => (if (wrap64 (t219 + t220)) = 0 then (if ((((t209 * a1) % 4294967296) + t211) % 4294967296) = a0 then (if t216 ≥ 0 then (if t218 < 0 then (some false) else (if t216 ≤ 0 then (if t218 > 0 then (some false) else (if t218 < (mx t217 (wrap64 (-t217))) then (if (wrap64 (-t218)) < (mx t217 (wrap64 (-t217))) then ((grottolaw01_live.f k).bind fun t221 => (some t221)) else (some false)) else (some false))) else (if t218 < (mx t217 (wrap64 (-t217))) then (if (wrap64 (-t218)) < (mx t217 (wrap64 (-t217))) then ((grottolaw01_live.f k).bind fun t222 => (some t222)) else (some false)) else (some false)))) else (if t216 ≤ 0 then (if t218 > 0 then (some false) else (if t218 < (mx t217 (wrap64 (-t217))) then (if (wrap64 (-t218)) < (mx t217 (wrap64 (-t217))) then ((grottolaw01_live.f k).bind fun t223 => (some t223)) else (some false)) else (some false))) else (if t218 < (mx t217 (wrap64 (-t217))) then (if (wrap64 (-t218)) < (mx t217 (wrap64 (-t217))) then ((grottolaw01_live.f k).bind fun t224 => (some t224)) else (some false)) else (some false)))) else (some false)) else (some false)))))))) = some r := H
  have A4 := Aside0.mk A40
  clear A40
  by_cases c5 : a1 = 0
  · rw [if_pos c5] at H
    have c5b0 : (a1 == 0) = true := beq_iff_eq.mpr c5
    have c5b1 : (a1 != 0) = false := bne_eq_false_iff_eq.mpr c5
    clear c5
    by_cases c6 : t209 = 0
    · rw [if_pos c6] at H
      have c6b0 : (t209 == 0) = true := beq_iff_eq.mpr c6
      have c6b1 : (t209 != 0) = false := bne_eq_false_iff_eq.mpr c6
      clear c6
      by_cases c7 : t211 = 0
      · rw [if_pos c7] at H
        have c7b0 : (t211 == 0) = true := beq_iff_eq.mpr c7
        have c7b1 : (t211 != 0) = false := bne_eq_false_iff_eq.mpr c7
        clear c7
        replace H := Option.bind_eq_some_iff.mp H
        obtain ⟨t213, A80, H⟩ := H
        replace H : (if t213 = 10 then ((grottolaw01_num.f t212).bind fun t214 => (if t214 = 10 then ((grottolaw01_live.f k).bind fun t215 => (some t215)) else (some false))) else (some false)) = some r := H
        have A8 := Aside0.mk A80
        clear A80
        by_cases c9 : t213 = 10
        · rw [if_pos c9] at H
          have c9b0 : (t213 == 10) = true := beq_iff_eq.mpr c9
          have c9b1 : (t213 != 10) = false := bne_eq_false_iff_eq.mpr c9
          clear c9
          replace H := Option.bind_eq_some_iff.mp H
          obtain ⟨t214, A100, H⟩ := H
          replace H : (if t214 = 10 then ((grottolaw01_live.f k).bind fun t215 => (some t215)) else (some false)) = some r := H
          have A10 := Aside0.mk A100
          clear A100
          by_cases c11 : t214 = 10
          · rw [if_pos c11] at H
            have c11b0 : (t214 == 10) = true := beq_iff_eq.mpr c11
            have c11b1 : (t214 != 10) = false := bne_eq_false_iff_eq.mpr c11
            clear c11
            replace H := Option.bind_eq_some_iff.mp H
            obtain ⟨t215, A120, H⟩ := H
            replace H : (some t215) = some r := H
            have A12 := Aside0.mk A120
            clear A120
            obtain rfl := Option.some.inj H
            go_enter Tryd.func5, Tryd.ntmps5
            go_wp2_with (first | ((with_reducible refine gate_callee (f := 21) rfl ?_); refine zgo (some 15) Tryd.func21 #[.int .u32 a0, .int .u32 a1] ?_; (with_reducible refine (word_Div.calls a0 a1 t209 t210 _ A3.out).mono ?_); rintro e w' ⟨rfl, ⟨nd, rfl⟩⟩; refine ⟨_, rfl, ?_⟩) | ((with_reducible refine gate_callee (f := 22) rfl ?_); refine zgo (some 21) Tryd.func22 #[.int .u32 a0, .int .u32 a1] ?_; (with_reducible refine (word_Mod.calls a0 a1 t211 t212 _ A4.out).mono ?_); rintro e w' ⟨rfl, ⟨nd, rfl⟩⟩; refine ⟨_, rfl, ?_⟩) | (go_at_call 17; (with_reducible refine (grottolaw01_num.calls t210 t213 _ A8.out).mono ?_); rintro e w' ⟨rfl, ⟨nd, rfl⟩⟩) | (go_at_call 17; (with_reducible refine (grottolaw01_num.calls t212 t214 _ A10.out).mono ?_); rintro e w' ⟨rfl, ⟨nd, rfl⟩⟩) | (go_at_call 12; (with_reducible refine (grottolaw01_live.calls k  t215 _ (tbl HT HB) A12.out).mono ?_); rintro e w13 ⟨rfl, hb⟩; replace HB := zbs HB hb; (try clear hb); (try clear hb2); (try clear hk); (try clear hi)))
            go_ret
            exact ⟨by first | rfl | (simp [errW_none, errW_some] <;> rfl) | (simp [*, errW_none, errW_some] <;> rfl), zb HB⟩
          · rw [if_neg c11] at H
            have c11b0 : (t214 == 10) = false := beq_eq_false_iff_ne.mpr c11
            have c11b1 : (t214 != 10) = true := bne_iff_ne.mpr c11
            obtain rfl := Option.some.inj H
            go_enter Tryd.func5, Tryd.ntmps5
            go_wp2_with (first | ((with_reducible refine gate_callee (f := 21) rfl ?_); refine zgo (some 15) Tryd.func21 #[.int .u32 a0, .int .u32 a1] ?_; (with_reducible refine (word_Div.calls a0 a1 t209 t210 _ A3.out).mono ?_); rintro e w' ⟨rfl, ⟨nd, rfl⟩⟩; refine ⟨_, rfl, ?_⟩) | ((with_reducible refine gate_callee (f := 22) rfl ?_); refine zgo (some 21) Tryd.func22 #[.int .u32 a0, .int .u32 a1] ?_; (with_reducible refine (word_Mod.calls a0 a1 t211 t212 _ A4.out).mono ?_); rintro e w' ⟨rfl, ⟨nd, rfl⟩⟩; refine ⟨_, rfl, ?_⟩) | (go_at_call 17; (with_reducible refine (grottolaw01_num.calls t210 t213 _ A8.out).mono ?_); rintro e w' ⟨rfl, ⟨nd, rfl⟩⟩) | (go_at_call 17; (with_reducible refine (grottolaw01_num.calls t212 t214 _ A10.out).mono ?_); rintro e w' ⟨rfl, ⟨nd, rfl⟩⟩))
            go_ret
            exact ⟨by first | rfl | (simp [errW_none, errW_some] <;> rfl) | (simp [*, errW_none, errW_some] <;> rfl), zb HB⟩
        · rw [if_neg c9] at H
          have c9b0 : (t213 == 10) = false := beq_eq_false_iff_ne.mpr c9
          have c9b1 : (t213 != 10) = true := bne_iff_ne.mpr c9
          obtain rfl := Option.some.inj H
          go_enter Tryd.func5, Tryd.ntmps5
          go_wp2_with (first | ((with_reducible refine gate_callee (f := 21) rfl ?_); refine zgo (some 15) Tryd.func21 #[.int .u32 a0, .int .u32 a1] ?_; (with_reducible refine (word_Div.calls a0 a1 t209 t210 _ A3.out).mono ?_); rintro e w' ⟨rfl, ⟨nd, rfl⟩⟩; refine ⟨_, rfl, ?_⟩) | ((with_reducible refine gate_callee (f := 22) rfl ?_); refine zgo (some 21) Tryd.func22 #[.int .u32 a0, .int .u32 a1] ?_; (with_reducible refine (word_Mod.calls a0 a1 t211 t212 _ A4.out).mono ?_); rintro e w' ⟨rfl, ⟨nd, rfl⟩⟩; refine ⟨_, rfl, ?_⟩) | (go_at_call 17; (with_reducible refine (grottolaw01_num.calls t210 t213 _ A8.out).mono ?_); rintro e w' ⟨rfl, ⟨nd, rfl⟩⟩))
          go_ret
          exact ⟨by first | rfl | (simp [errW_none, errW_some] <;> rfl) | (simp [*, errW_none, errW_some] <;> rfl), zb HB⟩
      · rw [if_neg c7] at H
        have c7b0 : (t211 == 0) = false := beq_eq_false_iff_ne.mpr c7
        have c7b1 : (t211 != 0) = true := bne_iff_ne.mpr c7
        obtain rfl := Option.some.inj H
        go_enter Tryd.func5, Tryd.ntmps5
        go_wp2_with (first | ((with_reducible refine gate_callee (f := 21) rfl ?_); refine zgo (some 15) Tryd.func21 #[.int .u32 a0, .int .u32 a1] ?_; (with_reducible refine (word_Div.calls a0 a1 t209 t210 _ A3.out).mono ?_); rintro e w' ⟨rfl, ⟨nd, rfl⟩⟩; refine ⟨_, rfl, ?_⟩) | ((with_reducible refine gate_callee (f := 22) rfl ?_); refine zgo (some 21) Tryd.func22 #[.int .u32 a0, .int .u32 a1] ?_; (with_reducible refine (word_Mod.calls a0 a1 t211 t212 _ A4.out).mono ?_); rintro e w' ⟨rfl, ⟨nd, rfl⟩⟩; refine ⟨_, rfl, ?_⟩))
        go_ret
        exact ⟨by first | rfl | (simp [errW_none, errW_some] <;> rfl) | (simp [*, errW_none, errW_some] <;> rfl), zb HB⟩
    · rw [if_neg c6] at H
      have c6b0 : (t209 == 0) = false := beq_eq_false_iff_ne.mpr c6
      have c6b1 : (t209 != 0) = true := bne_iff_ne.mpr c6
      obtain rfl := Option.some.inj H
      go_enter Tryd.func5, Tryd.ntmps5
      go_wp2_with (first | ((with_reducible refine gate_callee (f := 21) rfl ?_); refine zgo (some 15) Tryd.func21 #[.int .u32 a0, .int .u32 a1] ?_; (with_reducible refine (word_Div.calls a0 a1 t209 t210 _ A3.out).mono ?_); rintro e w' ⟨rfl, ⟨nd, rfl⟩⟩; refine ⟨_, rfl, ?_⟩) | ((with_reducible refine gate_callee (f := 22) rfl ?_); refine zgo (some 21) Tryd.func22 #[.int .u32 a0, .int .u32 a1] ?_; (with_reducible refine (word_Mod.calls a0 a1 t211 t212 _ A4.out).mono ?_); rintro e w' ⟨rfl, ⟨nd, rfl⟩⟩; refine ⟨_, rfl, ?_⟩))
      go_ret
      exact ⟨by first | rfl | (simp [errW_none, errW_some] <;> rfl) | (simp [*, errW_none, errW_some] <;> rfl), zb HB⟩
  · rw [if_neg c5] at H
    have c5b0 : (a1 == 0) = false := beq_eq_false_iff_ne.mpr c5
    have c5b1 : (a1 != 0) = true := bne_iff_ne.mpr c5
    replace H := Option.bind_eq_some_iff.mp H
    obtain ⟨t216, A140, H⟩ := H
    replace H : ((grottoref01_Int.f a1).bind fun t217 => ((grottoref01_Int.f t211).bind fun t218 => ((grottolaw01_num.f t210).bind fun t219 => ((grottolaw01_num.f t212).bind fun t220 => (if (wrap64 (t219 + t220)) = 0 then (if ((((t209 * a1) % 4294967296) + t211) % 4294967296) = a0 then (if t216 ≥ 0 then (if t218 < 0 then (some false) else (if t216 ≤ 0 then (if t218 > 0 then (some false) else (if t218 < (mx t217 (wrap64 (-t217))) then (if (wrap64 (-t218)) < (mx t217 (wrap64 (-t217))) then ((grottolaw01_live.f k).bind fun t221 => (some t221)) else (some false)) else (some false))) else (if t218 < (mx t217 (wrap64 (-t217))) then (if (wrap64 (-t218)) < (mx t217 (wrap64 (-t217))) then ((grottolaw01_live.f k).bind fun t222 => (some t222)) else (some false)) else (some false)))) else (if t216 ≤ 0 then (if t218 > 0 then (some false) else (if t218 < (mx t217 (wrap64 (-t217))) then (if (wrap64 (-t218)) < (mx t217 (wrap64 (-t217))) then ((grottolaw01_live.f k).bind fun t223 => (some t223)) else (some false)) else (some false))) else (if t218 < (mx t217 (wrap64 (-t217))) then (if (wrap64 (-t218)) < (mx t217 (wrap64 (-t217))) then ((grottolaw01_live.f k).bind fun t224 => (some t224)) else (some false)) else (some false)))) else (some false)) else (some false)))))) = some r := H
    have A14 := Aside0.mk A140
    clear A140
    replace H := Option.bind_eq_some_iff.mp H
    obtain ⟨t217, A150, H⟩ := H
    replace H : ((grottoref01_Int.f t211).bind fun t218 => ((grottolaw01_num.f t210).bind fun t219 => ((grottolaw01_num.f t212).bind fun t220 => (if (wrap64 (t219 + t220)) = 0 then (if ((((t209 * a1) % 4294967296) + t211) % 4294967296) = a0 then (if t216 ≥ 0 then (if t218 < 0 then (some false) else (if t216 ≤ 0 then (if t218 > 0 then (some false) else (if t218 < (mx t217 (wrap64 (-t217))) then (if (wrap64 (-t218)) < (mx t217 (wrap64 (-t217))) then ((grottolaw01_live.f k).bind fun t221 => (some t221)) else (some false)) else (some false))) else (if t218 < (mx t217 (wrap64 (-t217))) then (if (wrap64 (-t218)) < (mx t217 (wrap64 (-t217))) then ((grottolaw01_live.f k).bind fun t222 => (some t222)) else (some false)) else (some false)))) else (if t216 ≤ 0 then (if t218 > 0 then (some false) else (if t218 < (mx t217 (wrap64 (-t217))) then (if (wrap64 (-t218)) < (mx t217 (wrap64 (-t217))) then ((grottolaw01_live.f k).bind fun t223 => (some t223)) else (some false)) else (some false))) else (if t218 < (mx t217 (wrap64 (-t217))) then (if (wrap64 (-t218)) < (mx t217 (wrap64 (-t217))) then ((grottolaw01_live.f k).bind fun t224 => (some t224)) else (some false)) else (some false)))) else (some false)) else (some false))))) = some r := H
    have A15 := Aside0.mk A150
    clear A150
    replace H := Option.bind_eq_some_iff.mp H
    obtain ⟨t218, A160, H⟩ := H
    replace H : ((grottolaw01_num.f t210).bind fun t219 => ((grottolaw01_num.f t212).bind fun t220 => (if (wrap64 (t219 + t220)) = 0 then (if ((((t209 * a1) % 4294967296) + t211) % 4294967296) = a0 then (if t216 ≥ 0 then (if t218 < 0 then (some false) else (if t216 ≤ 0 then (if t218 > 0 then (some false) else (if t218 < (mx t217 (wrap64 (-t217))) then (if (wrap64 (-t218)) < (mx t217 (wrap64 (-t217))) then ((grottolaw01_live.f k).bind fun t221 => (some t221)) else (some false)) else (some false))) else (if t218 < (mx t217 (wrap64 (-t217))) then (if (wrap64 (-t218)) < (mx t217 (wrap64 (-t217))) then ((grottolaw01_live.f k).bind fun t222 => (some t222)) else (some false)) else (some false)))) else (if t216 ≤ 0 then (if t218 > 0 then (some false) else (if t218 < (mx t217 (wrap64 (-t217))) then (if (wrap64 (-t218)) < (mx t217 (wrap64 (-t217))) then ((grottolaw01_live.f k).bind fun t223 => (some t223)) else (some false)) else (some false))) else (if t218 < (mx t217 (wrap64 (-t217))) then (if (wrap64 (-t218)) < (mx t217 (wrap64 (-t217))) then ((grottolaw01_live.f k).bind fun t224 => (some t224)) else (some false)) else (some false)))) else (some false)) else (some false)))) = some r := H
    have A16 := Aside0.mk A160
    clear A160
    replace H := Option.bind_eq_some_iff.mp H
    obtain ⟨t219, A170, H⟩ := H
    replace H : ((grottolaw01_num.f t212).bind fun t220 => (if (wrap64 (t219 + t220)) = 0 then (if ((((t209 * a1) % 4294967296) + t211) % 4294967296) = a0 then (if t216 ≥ 0 then (if t218 < 0 then (some false) else (if t216 ≤ 0 then (if t218 > 0 then (some false) else (if t218 < (mx t217 (wrap64 (-t217))) then (if (wrap64 (-t218)) < (mx t217 (wrap64 (-t217))) then ((grottolaw01_live.f k).bind fun t221 => (some t221)) else (some false)) else (some false))) else (if t218 < (mx t217 (wrap64 (-t217))) then (if (wrap64 (-t218)) < (mx t217 (wrap64 (-t217))) then ((grottolaw01_live.f k).bind fun t222 => (some t222)) else (some false)) else (some false)))) else (if t216 ≤ 0 then (if t218 > 0 then (some false) else (if t218 < (mx t217 (wrap64 (-t217))) then (if (wrap64 (-t218)) < (mx t217 (wrap64 (-t217))) then ((grottolaw01_live.f k).bind fun t223 => (some t223)) else (some false)) else (some false))) else (if t218 < (mx t217 (wrap64 (-t217))) then (if (wrap64 (-t218)) < (mx t217 (wrap64 (-t217))) then ((grottolaw01_live.f k).bind fun t224 => (some t224)) else (some false)) else (some false)))) else (some false)) else (some false))) = some r := H
    have A17 := Aside0.mk A170
    clear A170
    replace H := Option.bind_eq_some_iff.mp H
    obtain ⟨t220, A180, H⟩ := H
    replace H : (if (wrap64 (t219 + t220)) = 0 then (if ((((t209 * a1) % 4294967296) + t211) % 4294967296) = a0 then (if t216 ≥ 0 then (if t218 < 0 then (some false) else (if t216 ≤ 0 then (if t218 > 0 then (some false) else (if t218 < (mx t217 (wrap64 (-t217))) then (if (wrap64 (-t218)) < (mx t217 (wrap64 (-t217))) then ((grottolaw01_live.f k).bind fun t221 => (some t221)) else (some false)) else (some false))) else (if t218 < (mx t217 (wrap64 (-t217))) then (if (wrap64 (-t218)) < (mx t217 (wrap64 (-t217))) then ((grottolaw01_live.f k).bind fun t222 => (some t222)) else (some false)) else (some false)))) else (if t216 ≤ 0 then (if t218 > 0 then (some false) else (if t218 < (mx t217 (wrap64 (-t217))) then (if (wrap64 (-t218)) < (mx t217 (wrap64 (-t217))) then ((grottolaw01_live.f k).bind fun t223 => (some t223)) else (some false)) else (some false))) else (if t218 < (mx t217 (wrap64 (-t217))) then (if (wrap64 (-t218)) < (mx t217 (wrap64 (-t217))) then ((grottolaw01_live.f k).bind fun t224 => (some t224)) else (some false)) else (some false)))) else (some false)) else (some false)) = some r := H
    have A18 := Aside0.mk A180
    clear A180
    by_cases c19 : (wrap64 (t219 + t220)) = 0
    · rw [if_pos c19] at H
      have c19b0 : ((wrap64 (t219 + t220)) == 0) = true := beq_iff_eq.mpr c19
      have c19b1 : ((wrap64 (t219 + t220)) != 0) = false := bne_eq_false_iff_eq.mpr c19
      clear c19
      by_cases c20 : ((((t209 * a1) % 4294967296) + t211) % 4294967296) = a0
      · rw [if_pos c20] at H
        have c20b0 : (((((t209 * a1) % 4294967296) + t211) % 4294967296) == a0) = true := beq_iff_eq.mpr c20
        have c20b1 : (((((t209 * a1) % 4294967296) + t211) % 4294967296) != a0) = false := bne_eq_false_iff_eq.mpr c20
        have c20z : (((t209 * a1) % 4294967296) + t211) % 4294967296 = (t209 * a1 + t211) % 4294967296 := by omega
        have c20y : ((t209 * a1 + t211) % 4294967296 == a0) = true := by rw [← c20z]; exact c20b0
        have c20x : ((t209 * a1 + t211) % 4294967296 != a0) = false := by rw [← c20z]; exact c20b1
        clear c20
        by_cases c21 : t216 ≥ 0
        · rw [if_pos c21] at H
          have c21b0 : decide (0 ≤ t216) = true := decide_eq_true c21
          clear c21
          by_cases c22 : t218 < 0
          · rw [if_pos c22] at H
            have c22b0 : decide (t218 < 0) = true := decide_eq_true c22
            clear c22
            obtain rfl := Option.some.inj H
            go_enter Tryd.func5, Tryd.ntmps5
            go_wp2_with (first | ((with_reducible refine gate_callee (f := 21) rfl ?_); refine zgo (some 15) Tryd.func21 #[.int .u32 a0, .int .u32 a1] ?_; (with_reducible refine (word_Div.calls a0 a1 t209 t210 _ A3.out).mono ?_); rintro e w' ⟨rfl, ⟨nd, rfl⟩⟩; refine ⟨_, rfl, ?_⟩) | ((with_reducible refine gate_callee (f := 22) rfl ?_); refine zgo (some 21) Tryd.func22 #[.int .u32 a0, .int .u32 a1] ?_; (with_reducible refine (word_Mod.calls a0 a1 t211 t212 _ A4.out).mono ?_); rintro e w' ⟨rfl, ⟨nd, rfl⟩⟩; refine ⟨_, rfl, ?_⟩) | ((with_reducible refine gate_callee (f := 25) rfl ?_); refine zgo (some 46) Tryd.func25 #[.int .u32 a0] ?_; (with_reducible refine (grottoref01_Int.calls a0 t216 _ A14.out).mono ?_); rintro e w' ⟨rfl, ⟨nd, rfl⟩⟩; refine ⟨_, rfl, ?_⟩) | ((with_reducible refine gate_callee (f := 25) rfl ?_); refine zgo (some 48) Tryd.func25 #[.int .u32 a1] ?_; (with_reducible refine (grottoref01_Int.calls a1 t217 _ A15.out).mono ?_); rintro e w' ⟨rfl, ⟨nd, rfl⟩⟩; refine ⟨_, rfl, ?_⟩) | ((with_reducible refine gate_callee (f := 25) rfl ?_); refine zgo (some 50) Tryd.func25 #[.int .u32 t211] ?_; (with_reducible refine (grottoref01_Int.calls t211 t218 _ A16.out).mono ?_); rintro e w' ⟨rfl, ⟨nd, rfl⟩⟩; refine ⟨_, rfl, ?_⟩) | ((with_reducible refine gate_callee (f := 17) rfl ?_); refine zgo (some 52) Tryd.func17 #[.int .i64 t210] ?_; (with_reducible refine (grottolaw01_num.calls t210 t219 _ A17.out).mono ?_); rintro e w' ⟨rfl, ⟨nd, rfl⟩⟩; refine ⟨_, rfl, ?_⟩) | ((with_reducible refine gate_callee (f := 17) rfl ?_); refine zgo (some 54) Tryd.func17 #[.int .i64 t212] ?_; (with_reducible refine (grottolaw01_num.calls t212 t220 _ A18.out).mono ?_); rintro e w' ⟨rfl, ⟨nd, rfl⟩⟩; refine ⟨_, rfl, ?_⟩))
            go_ret
            exact ⟨by first | rfl | (simp [errW_none, errW_some] <;> rfl) | (simp [*, errW_none, errW_some] <;> rfl), zb HB⟩
          · rw [if_neg c22] at H
            have c22b0 : decide (t218 < 0) = false := decide_eq_false c22
            clear c22
            by_cases c23 : t216 ≤ 0
            · rw [if_pos c23] at H
              have c23b0 : decide (t216 ≤ 0) = true := decide_eq_true c23
              clear c23
              by_cases c24 : t218 > 0
              · rw [if_pos c24] at H
                have c24b0 : decide (0 < t218) = true := decide_eq_true c24
                clear c24
                obtain rfl := Option.some.inj H
                go_enter Tryd.func5, Tryd.ntmps5
                go_wp2_with (first | ((with_reducible refine gate_callee (f := 21) rfl ?_); refine zgo (some 15) Tryd.func21 #[.int .u32 a0, .int .u32 a1] ?_; (with_reducible refine (word_Div.calls a0 a1 t209 t210 _ A3.out).mono ?_); rintro e w' ⟨rfl, ⟨nd, rfl⟩⟩; refine ⟨_, rfl, ?_⟩) | ((with_reducible refine gate_callee (f := 22) rfl ?_); refine zgo (some 21) Tryd.func22 #[.int .u32 a0, .int .u32 a1] ?_; (with_reducible refine (word_Mod.calls a0 a1 t211 t212 _ A4.out).mono ?_); rintro e w' ⟨rfl, ⟨nd, rfl⟩⟩; refine ⟨_, rfl, ?_⟩) | ((with_reducible refine gate_callee (f := 25) rfl ?_); refine zgo (some 46) Tryd.func25 #[.int .u32 a0] ?_; (with_reducible refine (grottoref01_Int.calls a0 t216 _ A14.out).mono ?_); rintro e w' ⟨rfl, ⟨nd, rfl⟩⟩; refine ⟨_, rfl, ?_⟩) | ((with_reducible refine gate_callee (f := 25) rfl ?_); refine zgo (some 48) Tryd.func25 #[.int .u32 a1] ?_; (with_reducible refine (grottoref01_Int.calls a1 t217 _ A15.out).mono ?_); rintro e w' ⟨rfl, ⟨nd, rfl⟩⟩; refine ⟨_, rfl, ?_⟩) | ((with_reducible refine gate_callee (f := 25) rfl ?_); refine zgo (some 50) Tryd.func25 #[.int .u32 t211] ?_; (with_reducible refine (grottoref01_Int.calls t211 t218 _ A16.out).mono ?_); rintro e w' ⟨rfl, ⟨nd, rfl⟩⟩; refine ⟨_, rfl, ?_⟩) | ((with_reducible refine gate_callee (f := 17) rfl ?_); refine zgo (some 52) Tryd.func17 #[.int .i64 t210] ?_; (with_reducible refine (grottolaw01_num.calls t210 t219 _ A17.out).mono ?_); rintro e w' ⟨rfl, ⟨nd, rfl⟩⟩; refine ⟨_, rfl, ?_⟩) | ((with_reducible refine gate_callee (f := 17) rfl ?_); refine zgo (some 54) Tryd.func17 #[.int .i64 t212] ?_; (with_reducible refine (grottolaw01_num.calls t212 t220 _ A18.out).mono ?_); rintro e w' ⟨rfl, ⟨nd, rfl⟩⟩; refine ⟨_, rfl, ?_⟩))
                go_ret
                exact ⟨by first | rfl | (simp [errW_none, errW_some] <;> rfl) | (simp [*, errW_none, errW_some] <;> rfl), zb HB⟩
              · rw [if_neg c24] at H
                have c24b0 : decide (0 < t218) = false := decide_eq_false c24
                clear c24
                obtain ⟨ji25, hji25⟩ : ∃ j_ : Int, (mx t217 (wrap64 (-t217))) = j_ := ⟨_, rfl⟩
                replace H : (if t218 < (ji25) then (if (wrap64 (-t218)) < (ji25) then ((grottolaw01_live.f k).bind fun t221 => (some t221)) else (some false)) else (some false)) = some r := by first | (rw [hji25] at H; exact H) | (simp only [hji25] at H ⊢; exact H)
                (try rw [hji25] at A3)
                (try rw [hji25] at A4)
                (try rw [hji25] at A14)
                (try rw [hji25] at A15)
                (try rw [hji25] at A16)
                (try rw [hji25] at A17)
                (try rw [hji25] at A18)
                have hji25_ : (if t217 < (wrap64 (-t217)) then (wrap64 (-t217)) else t217) = ji25 := hji25
                by_cases c26 : t218 < (ji25)
                · rw [if_pos c26] at H
                  have c26b0 : decide (t218 < (ji25)) = true := decide_eq_true c26
                  clear c26
                  by_cases c28 : (wrap64 (-t218)) < (ji25)
                  · rw [if_pos c28] at H
                    have c28b0 : decide ((wrap64 (-t218)) < (ji25)) = true := decide_eq_true c28
                    clear c28
                    replace H := Option.bind_eq_some_iff.mp H
                    obtain ⟨t221, A290, H⟩ := H
                    replace H : (some t221) = some r := H
                    have A29 := Aside0.mk A290
                    clear A290
                    obtain rfl := Option.some.inj H
                    go_enter Tryd.func5, Tryd.ntmps5
                    go_wp2_with (first | ((with_reducible refine gate_callee (f := 21) rfl ?_); refine zgo (some 15) Tryd.func21 #[.int .u32 a0, .int .u32 a1] ?_; (with_reducible refine (word_Div.calls a0 a1 t209 t210 _ A3.out).mono ?_); rintro e w' ⟨rfl, ⟨nd, rfl⟩⟩; refine ⟨_, rfl, ?_⟩) | ((with_reducible refine gate_callee (f := 22) rfl ?_); refine zgo (some 21) Tryd.func22 #[.int .u32 a0, .int .u32 a1] ?_; (with_reducible refine (word_Mod.calls a0 a1 t211 t212 _ A4.out).mono ?_); rintro e w' ⟨rfl, ⟨nd, rfl⟩⟩; refine ⟨_, rfl, ?_⟩) | ((with_reducible refine gate_callee (f := 25) rfl ?_); refine zgo (some 46) Tryd.func25 #[.int .u32 a0] ?_; (with_reducible refine (grottoref01_Int.calls a0 t216 _ A14.out).mono ?_); rintro e w' ⟨rfl, ⟨nd, rfl⟩⟩; refine ⟨_, rfl, ?_⟩) | ((with_reducible refine gate_callee (f := 25) rfl ?_); refine zgo (some 48) Tryd.func25 #[.int .u32 a1] ?_; (with_reducible refine (grottoref01_Int.calls a1 t217 _ A15.out).mono ?_); rintro e w' ⟨rfl, ⟨nd, rfl⟩⟩; refine ⟨_, rfl, ?_⟩) | ((with_reducible refine gate_callee (f := 25) rfl ?_); refine zgo (some 50) Tryd.func25 #[.int .u32 t211] ?_; (with_reducible refine (grottoref01_Int.calls t211 t218 _ A16.out).mono ?_); rintro e w' ⟨rfl, ⟨nd, rfl⟩⟩; refine ⟨_, rfl, ?_⟩) | ((with_reducible refine gate_callee (f := 17) rfl ?_); refine zgo (some 52) Tryd.func17 #[.int .i64 t210] ?_; (with_reducible refine (grottolaw01_num.calls t210 t219 _ A17.out).mono ?_); rintro e w' ⟨rfl, ⟨nd, rfl⟩⟩; refine ⟨_, rfl, ?_⟩) | ((with_reducible refine gate_callee (f := 17) rfl ?_); refine zgo (some 54) Tryd.func17 #[.int .i64 t212] ?_; (with_reducible refine (grottolaw01_num.calls t212 t220 _ A18.out).mono ?_); rintro e w' ⟨rfl, ⟨nd, rfl⟩⟩; refine ⟨_, rfl, ?_⟩) | (go_at_call 12; (with_reducible refine (grottolaw01_live.calls k  t221 _ (tbl HT HB) A29.out).mono ?_); rintro e w30 ⟨rfl, hb⟩; replace HB := zbs HB hb; (try clear hb); (try clear hb2); (try clear hk); (try clear hi)))
                    go_ret
                    exact ⟨by first | rfl | (simp [errW_none, errW_some] <;> rfl) | (simp only [← hji25]; first | rfl | (simp [errW_none, errW_some] <;> rfl)) | (simp [*, errW_none, errW_some] <;> rfl), zb HB⟩
                  · rw [if_neg c28] at H
                    have c28b0 : decide ((wrap64 (-t218)) < (ji25)) = false := decide_eq_false c28
                    clear c28
                    obtain rfl := Option.some.inj H
                    go_enter Tryd.func5, Tryd.ntmps5
                    go_wp2_with (first | ((with_reducible refine gate_callee (f := 21) rfl ?_); refine zgo (some 15) Tryd.func21 #[.int .u32 a0, .int .u32 a1] ?_; (with_reducible refine (word_Div.calls a0 a1 t209 t210 _ A3.out).mono ?_); rintro e w' ⟨rfl, ⟨nd, rfl⟩⟩; refine ⟨_, rfl, ?_⟩) | ((with_reducible refine gate_callee (f := 22) rfl ?_); refine zgo (some 21) Tryd.func22 #[.int .u32 a0, .int .u32 a1] ?_; (with_reducible refine (word_Mod.calls a0 a1 t211 t212 _ A4.out).mono ?_); rintro e w' ⟨rfl, ⟨nd, rfl⟩⟩; refine ⟨_, rfl, ?_⟩) | ((with_reducible refine gate_callee (f := 25) rfl ?_); refine zgo (some 46) Tryd.func25 #[.int .u32 a0] ?_; (with_reducible refine (grottoref01_Int.calls a0 t216 _ A14.out).mono ?_); rintro e w' ⟨rfl, ⟨nd, rfl⟩⟩; refine ⟨_, rfl, ?_⟩) | ((with_reducible refine gate_callee (f := 25) rfl ?_); refine zgo (some 48) Tryd.func25 #[.int .u32 a1] ?_; (with_reducible refine (grottoref01_Int.calls a1 t217 _ A15.out).mono ?_); rintro e w' ⟨rfl, ⟨nd, rfl⟩⟩; refine ⟨_, rfl, ?_⟩) | ((with_reducible refine gate_callee (f := 25) rfl ?_); refine zgo (some 50) Tryd.func25 #[.int .u32 t211] ?_; (with_reducible refine (grottoref01_Int.calls t211 t218 _ A16.out).mono ?_); rintro e w' ⟨rfl, ⟨nd, rfl⟩⟩; refine ⟨_, rfl, ?_⟩) | ((with_reducible refine gate_callee (f := 17) rfl ?_); refine zgo (some 52) Tryd.func17 #[.int .i64 t210] ?_; (with_reducible refine (grottolaw01_num.calls t210 t219 _ A17.out).mono ?_); rintro e w' ⟨rfl, ⟨nd, rfl⟩⟩; refine ⟨_, rfl, ?_⟩) | ((with_reducible refine gate_callee (f := 17) rfl ?_); refine zgo (some 54) Tryd.func17 #[.int .i64 t212] ?_; (with_reducible refine (grottolaw01_num.calls t212 t220 _ A18.out).mono ?_); rintro e w' ⟨rfl, ⟨nd, rfl⟩⟩; refine ⟨_, rfl, ?_⟩))
                    go_ret
                    exact ⟨by first | rfl | (simp [errW_none, errW_some] <;> rfl) | (simp only [← hji25]; first | rfl | (simp [errW_none, errW_some] <;> rfl)) | (simp [*, errW_none, errW_some] <;> rfl), zb HB⟩
                · rw [if_neg c26] at H
                  have c26b0 : decide (t218 < (ji25)) = false := decide_eq_false c26
                  clear c26
                  obtain rfl := Option.some.inj H
                  go_enter Tryd.func5, Tryd.ntmps5
                  go_wp2_with (first | ((with_reducible refine gate_callee (f := 21) rfl ?_); refine zgo (some 15) Tryd.func21 #[.int .u32 a0, .int .u32 a1] ?_; (with_reducible refine (word_Div.calls a0 a1 t209 t210 _ A3.out).mono ?_); rintro e w' ⟨rfl, ⟨nd, rfl⟩⟩; refine ⟨_, rfl, ?_⟩) | ((with_reducible refine gate_callee (f := 22) rfl ?_); refine zgo (some 21) Tryd.func22 #[.int .u32 a0, .int .u32 a1] ?_; (with_reducible refine (word_Mod.calls a0 a1 t211 t212 _ A4.out).mono ?_); rintro e w' ⟨rfl, ⟨nd, rfl⟩⟩; refine ⟨_, rfl, ?_⟩) | ((with_reducible refine gate_callee (f := 25) rfl ?_); refine zgo (some 46) Tryd.func25 #[.int .u32 a0] ?_; (with_reducible refine (grottoref01_Int.calls a0 t216 _ A14.out).mono ?_); rintro e w' ⟨rfl, ⟨nd, rfl⟩⟩; refine ⟨_, rfl, ?_⟩) | ((with_reducible refine gate_callee (f := 25) rfl ?_); refine zgo (some 48) Tryd.func25 #[.int .u32 a1] ?_; (with_reducible refine (grottoref01_Int.calls a1 t217 _ A15.out).mono ?_); rintro e w' ⟨rfl, ⟨nd, rfl⟩⟩; refine ⟨_, rfl, ?_⟩) | ((with_reducible refine gate_callee (f := 25) rfl ?_); refine zgo (some 50) Tryd.func25 #[.int .u32 t211] ?_; (with_reducible refine (grottoref01_Int.calls t211 t218 _ A16.out).mono ?_); rintro e w' ⟨rfl, ⟨nd, rfl⟩⟩; refine ⟨_, rfl, ?_⟩) | ((with_reducible refine gate_callee (f := 17) rfl ?_); refine zgo (some 52) Tryd.func17 #[.int .i64 t210] ?_; (with_reducible refine (grottolaw01_num.calls t210 t219 _ A17.out).mono ?_); rintro e w' ⟨rfl, ⟨nd, rfl⟩⟩; refine ⟨_, rfl, ?_⟩) | ((with_reducible refine gate_callee (f := 17) rfl ?_); refine zgo (some 54) Tryd.func17 #[.int .i64 t212] ?_; (with_reducible refine (grottolaw01_num.calls t212 t220 _ A18.out).mono ?_); rintro e w' ⟨rfl, ⟨nd, rfl⟩⟩; refine ⟨_, rfl, ?_⟩))
                  go_ret
                  exact ⟨by first | rfl | (simp [errW_none, errW_some] <;> rfl) | (simp only [← hji25]; first | rfl | (simp [errW_none, errW_some] <;> rfl)) | (simp [*, errW_none, errW_some] <;> rfl), zb HB⟩
            · rw [if_neg c23] at H
              have c23b0 : decide (t216 ≤ 0) = false := decide_eq_false c23
              clear c23
              obtain ⟨ji31, hji31⟩ : ∃ j_ : Int, (mx t217 (wrap64 (-t217))) = j_ := ⟨_, rfl⟩
              replace H : (if t218 < (ji31) then (if (wrap64 (-t218)) < (ji31) then ((grottolaw01_live.f k).bind fun t222 => (some t222)) else (some false)) else (some false)) = some r := by first | (rw [hji31] at H; exact H) | (simp only [hji31] at H ⊢; exact H)
              (try rw [hji31] at A3)
              (try rw [hji31] at A4)
              (try rw [hji31] at A14)
              (try rw [hji31] at A15)
              (try rw [hji31] at A16)
              (try rw [hji31] at A17)
              (try rw [hji31] at A18)
              have hji31_ : (if t217 < (wrap64 (-t217)) then (wrap64 (-t217)) else t217) = ji31 := hji31
              by_cases c32 : t218 < (ji31)
              · rw [if_pos c32] at H
                have c32b0 : decide (t218 < (ji31)) = true := decide_eq_true c32
                clear c32
                by_cases c34 : (wrap64 (-t218)) < (ji31)
                · rw [if_pos c34] at H
                  have c34b0 : decide ((wrap64 (-t218)) < (ji31)) = true := decide_eq_true c34
                  clear c34
                  replace H := Option.bind_eq_some_iff.mp H
                  obtain ⟨t222, A350, H⟩ := H
                  replace H : (some t222) = some r := H
                  have A35 := Aside0.mk A350
                  clear A350
                  obtain rfl := Option.some.inj H
                  go_enter Tryd.func5, Tryd.ntmps5
                  go_wp2_with (first | ((with_reducible refine gate_callee (f := 21) rfl ?_); refine zgo (some 15) Tryd.func21 #[.int .u32 a0, .int .u32 a1] ?_; (with_reducible refine (word_Div.calls a0 a1 t209 t210 _ A3.out).mono ?_); rintro e w' ⟨rfl, ⟨nd, rfl⟩⟩; refine ⟨_, rfl, ?_⟩) | ((with_reducible refine gate_callee (f := 22) rfl ?_); refine zgo (some 21) Tryd.func22 #[.int .u32 a0, .int .u32 a1] ?_; (with_reducible refine (word_Mod.calls a0 a1 t211 t212 _ A4.out).mono ?_); rintro e w' ⟨rfl, ⟨nd, rfl⟩⟩; refine ⟨_, rfl, ?_⟩) | ((with_reducible refine gate_callee (f := 25) rfl ?_); refine zgo (some 46) Tryd.func25 #[.int .u32 a0] ?_; (with_reducible refine (grottoref01_Int.calls a0 t216 _ A14.out).mono ?_); rintro e w' ⟨rfl, ⟨nd, rfl⟩⟩; refine ⟨_, rfl, ?_⟩) | ((with_reducible refine gate_callee (f := 25) rfl ?_); refine zgo (some 48) Tryd.func25 #[.int .u32 a1] ?_; (with_reducible refine (grottoref01_Int.calls a1 t217 _ A15.out).mono ?_); rintro e w' ⟨rfl, ⟨nd, rfl⟩⟩; refine ⟨_, rfl, ?_⟩) | ((with_reducible refine gate_callee (f := 25) rfl ?_); refine zgo (some 50) Tryd.func25 #[.int .u32 t211] ?_; (with_reducible refine (grottoref01_Int.calls t211 t218 _ A16.out).mono ?_); rintro e w' ⟨rfl, ⟨nd, rfl⟩⟩; refine ⟨_, rfl, ?_⟩) | ((with_reducible refine gate_callee (f := 17) rfl ?_); refine zgo (some 52) Tryd.func17 #[.int .i64 t210] ?_; (with_reducible refine (grottolaw01_num.calls t210 t219 _ A17.out).mono ?_); rintro e w' ⟨rfl, ⟨nd, rfl⟩⟩; refine ⟨_, rfl, ?_⟩) | ((with_reducible refine gate_callee (f := 17) rfl ?_); refine zgo (some 54) Tryd.func17 #[.int .i64 t212] ?_; (with_reducible refine (grottolaw01_num.calls t212 t220 _ A18.out).mono ?_); rintro e w' ⟨rfl, ⟨nd, rfl⟩⟩; refine ⟨_, rfl, ?_⟩) | (go_at_call 12; (with_reducible refine (grottolaw01_live.calls k  t222 _ (tbl HT HB) A35.out).mono ?_); rintro e w36 ⟨rfl, hb⟩; replace HB := zbs HB hb; (try clear hb); (try clear hb2); (try clear hk); (try clear hi)))
                  go_ret
                  exact ⟨by first | rfl | (simp [errW_none, errW_some] <;> rfl) | (simp only [← hji31]; first | rfl | (simp [errW_none, errW_some] <;> rfl)) | (simp [*, errW_none, errW_some] <;> rfl), zb HB⟩
                · rw [if_neg c34] at H
                  have c34b0 : decide ((wrap64 (-t218)) < (ji31)) = false := decide_eq_false c34
                  clear c34
                  obtain rfl := Option.some.inj H
                  go_enter Tryd.func5, Tryd.ntmps5
                  go_wp2_with (first | ((with_reducible refine gate_callee (f := 21) rfl ?_); refine zgo (some 15) Tryd.func21 #[.int .u32 a0, .int .u32 a1] ?_; (with_reducible refine (word_Div.calls a0 a1 t209 t210 _ A3.out).mono ?_); rintro e w' ⟨rfl, ⟨nd, rfl⟩⟩; refine ⟨_, rfl, ?_⟩) | ((with_reducible refine gate_callee (f := 22) rfl ?_); refine zgo (some 21) Tryd.func22 #[.int .u32 a0, .int .u32 a1] ?_; (with_reducible refine (word_Mod.calls a0 a1 t211 t212 _ A4.out).mono ?_); rintro e w' ⟨rfl, ⟨nd, rfl⟩⟩; refine ⟨_, rfl, ?_⟩) | ((with_reducible refine gate_callee (f := 25) rfl ?_); refine zgo (some 46) Tryd.func25 #[.int .u32 a0] ?_; (with_reducible refine (grottoref01_Int.calls a0 t216 _ A14.out).mono ?_); rintro e w' ⟨rfl, ⟨nd, rfl⟩⟩; refine ⟨_, rfl, ?_⟩) | ((with_reducible refine gate_callee (f := 25) rfl ?_); refine zgo (some 48) Tryd.func25 #[.int .u32 a1] ?_; (with_reducible refine (grottoref01_Int.calls a1 t217 _ A15.out).mono ?_); rintro e w' ⟨rfl, ⟨nd, rfl⟩⟩; refine ⟨_, rfl, ?_⟩) | ((with_reducible refine gate_callee (f := 25) rfl ?_); refine zgo (some 50) Tryd.func25 #[.int .u32 t211] ?_; (with_reducible refine (grottoref01_Int.calls t211 t218 _ A16.out).mono ?_); rintro e w' ⟨rfl, ⟨nd, rfl⟩⟩; refine ⟨_, rfl, ?_⟩) | ((with_reducible refine gate_callee (f := 17) rfl ?_); refine zgo (some 52) Tryd.func17 #[.int .i64 t210] ?_; (with_reducible refine (grottolaw01_num.calls t210 t219 _ A17.out).mono ?_); rintro e w' ⟨rfl, ⟨nd, rfl⟩⟩; refine ⟨_, rfl, ?_⟩) | ((with_reducible refine gate_callee (f := 17) rfl ?_); refine zgo (some 54) Tryd.func17 #[.int .i64 t212] ?_; (with_reducible refine (grottolaw01_num.calls t212 t220 _ A18.out).mono ?_); rintro e w' ⟨rfl, ⟨nd, rfl⟩⟩; refine ⟨_, rfl, ?_⟩))
                  go_ret
                  exact ⟨by first | rfl | (simp [errW_none, errW_some] <;> rfl) | (simp only [← hji31]; first | rfl | (simp [errW_none, errW_some] <;> rfl)) | (simp [*, errW_none, errW_some] <;> rfl), zb HB⟩
              · rw [if_neg c32] at H
                have c32b0 : decide (t218 < (ji31)) = false := decide_eq_false c32
                clear c32
                obtain rfl := Option.some.inj H
                go_enter Tryd.func5, Tryd.ntmps5
                go_wp2_with (first | ((with_reducible refine gate_callee (f := 21) rfl ?_); refine zgo (some 15) Tryd.func21 #[.int .u32 a0, .int .u32 a1] ?_; (with_reducible refine (word_Div.calls a0 a1 t209 t210 _ A3.out).mono ?_); rintro e w' ⟨rfl, ⟨nd, rfl⟩⟩; refine ⟨_, rfl, ?_⟩) | ((with_reducible refine gate_callee (f := 22) rfl ?_); refine zgo (some 21) Tryd.func22 #[.int .u32 a0, .int .u32 a1] ?_; (with_reducible refine (word_Mod.calls a0 a1 t211 t212 _ A4.out).mono ?_); rintro e w' ⟨rfl, ⟨nd, rfl⟩⟩; refine ⟨_, rfl, ?_⟩) | ((with_reducible refine gate_callee (f := 25) rfl ?_); refine zgo (some 46) Tryd.func25 #[.int .u32 a0] ?_; (with_reducible refine (grottoref01_Int.calls a0 t216 _ A14.out).mono ?_); rintro e w' ⟨rfl, ⟨nd, rfl⟩⟩; refine ⟨_, rfl, ?_⟩) | ((with_reducible refine gate_callee (f := 25) rfl ?_); refine zgo (some 48) Tryd.func25 #[.int .u32 a1] ?_; (with_reducible refine (grottoref01_Int.calls a1 t217 _ A15.out).mono ?_); rintro e w' ⟨rfl, ⟨nd, rfl⟩⟩; refine ⟨_, rfl, ?_⟩) | ((with_reducible refine gate_callee (f := 25) rfl ?_); refine zgo (some 50) Tryd.func25 #[.int .u32 t211] ?_; (with_reducible refine (grottoref01_Int.calls t211 t218 _ A16.out).mono ?_); rintro e w' ⟨rfl, ⟨nd, rfl⟩⟩; refine ⟨_, rfl, ?_⟩) | ((with_reducible refine gate_callee (f := 17) rfl ?_); refine zgo (some 52) Tryd.func17 #[.int .i64 t210] ?_; (with_reducible refine (grottolaw01_num.calls t210 t219 _ A17.out).mono ?_); rintro e w' ⟨rfl, ⟨nd, rfl⟩⟩; refine ⟨_, rfl, ?_⟩) | ((with_reducible refine gate_callee (f := 17) rfl ?_); refine zgo (some 54) Tryd.func17 #[.int .i64 t212] ?_; (with_reducible refine (grottolaw01_num.calls t212 t220 _ A18.out).mono ?_); rintro e w' ⟨rfl, ⟨nd, rfl⟩⟩; refine ⟨_, rfl, ?_⟩))
                go_ret
                exact ⟨by first | rfl | (simp [errW_none, errW_some] <;> rfl) | (simp only [← hji31]; first | rfl | (simp [errW_none, errW_some] <;> rfl)) | (simp [*, errW_none, errW_some] <;> rfl), zb HB⟩
        · rw [if_neg c21] at H
          have c21b0 : decide (0 ≤ t216) = false := decide_eq_false c21
          clear c21
          by_cases c37 : t216 ≤ 0
          · rw [if_pos c37] at H
            have c37b0 : decide (t216 ≤ 0) = true := decide_eq_true c37
            clear c37
            by_cases c38 : t218 > 0
            · rw [if_pos c38] at H
              have c38b0 : decide (0 < t218) = true := decide_eq_true c38
              clear c38
              obtain rfl := Option.some.inj H
              go_enter Tryd.func5, Tryd.ntmps5
              go_wp2_with (first | ((with_reducible refine gate_callee (f := 21) rfl ?_); refine zgo (some 15) Tryd.func21 #[.int .u32 a0, .int .u32 a1] ?_; (with_reducible refine (word_Div.calls a0 a1 t209 t210 _ A3.out).mono ?_); rintro e w' ⟨rfl, ⟨nd, rfl⟩⟩; refine ⟨_, rfl, ?_⟩) | ((with_reducible refine gate_callee (f := 22) rfl ?_); refine zgo (some 21) Tryd.func22 #[.int .u32 a0, .int .u32 a1] ?_; (with_reducible refine (word_Mod.calls a0 a1 t211 t212 _ A4.out).mono ?_); rintro e w' ⟨rfl, ⟨nd, rfl⟩⟩; refine ⟨_, rfl, ?_⟩) | ((with_reducible refine gate_callee (f := 25) rfl ?_); refine zgo (some 46) Tryd.func25 #[.int .u32 a0] ?_; (with_reducible refine (grottoref01_Int.calls a0 t216 _ A14.out).mono ?_); rintro e w' ⟨rfl, ⟨nd, rfl⟩⟩; refine ⟨_, rfl, ?_⟩) | ((with_reducible refine gate_callee (f := 25) rfl ?_); refine zgo (some 48) Tryd.func25 #[.int .u32 a1] ?_; (with_reducible refine (grottoref01_Int.calls a1 t217 _ A15.out).mono ?_); rintro e w' ⟨rfl, ⟨nd, rfl⟩⟩; refine ⟨_, rfl, ?_⟩) | ((with_reducible refine gate_callee (f := 25) rfl ?_); refine zgo (some 50) Tryd.func25 #[.int .u32 t211] ?_; (with_reducible refine (grottoref01_Int.calls t211 t218 _ A16.out).mono ?_); rintro e w' ⟨rfl, ⟨nd, rfl⟩⟩; refine ⟨_, rfl, ?_⟩) | ((with_reducible refine gate_callee (f := 17) rfl ?_); refine zgo (some 52) Tryd.func17 #[.int .i64 t210] ?_; (with_reducible refine (grottolaw01_num.calls t210 t219 _ A17.out).mono ?_); rintro e w' ⟨rfl, ⟨nd, rfl⟩⟩; refine ⟨_, rfl, ?_⟩) | ((with_reducible refine gate_callee (f := 17) rfl ?_); refine zgo (some 54) Tryd.func17 #[.int .i64 t212] ?_; (with_reducible refine (grottolaw01_num.calls t212 t220 _ A18.out).mono ?_); rintro e w' ⟨rfl, ⟨nd, rfl⟩⟩; refine ⟨_, rfl, ?_⟩))
              go_ret
              exact ⟨by first | rfl | (simp [errW_none, errW_some] <;> rfl) | (simp [*, errW_none, errW_some] <;> rfl), zb HB⟩
            · rw [if_neg c38] at H
              have c38b0 : decide (0 < t218) = false := decide_eq_false c38
              clear c38
              obtain ⟨ji39, hji39⟩ : ∃ j_ : Int, (mx t217 (wrap64 (-t217))) = j_ := ⟨_, rfl⟩
              replace H : (if t218 < (ji39) then (if (wrap64 (-t218)) < (ji39) then ((grottolaw01_live.f k).bind fun t223 => (some t223)) else (some false)) else (some false)) = some r := by first | (rw [hji39] at H; exact H) | (simp only [hji39] at H ⊢; exact H)
              (try rw [hji39] at A3)
              (try rw [hji39] at A4)
              (try rw [hji39] at A14)
              (try rw [hji39] at A15)
              (try rw [hji39] at A16)
              (try rw [hji39] at A17)
              (try rw [hji39] at A18)
              have hji39_ : (if t217 < (wrap64 (-t217)) then (wrap64 (-t217)) else t217) = ji39 := hji39
              by_cases c40 : t218 < (ji39)
              · rw [if_pos c40] at H
                have c40b0 : decide (t218 < (ji39)) = true := decide_eq_true c40
                clear c40
                by_cases c42 : (wrap64 (-t218)) < (ji39)
                · rw [if_pos c42] at H
                  have c42b0 : decide ((wrap64 (-t218)) < (ji39)) = true := decide_eq_true c42
                  clear c42
                  replace H := Option.bind_eq_some_iff.mp H
                  obtain ⟨t223, A430, H⟩ := H
                  replace H : (some t223) = some r := H
                  have A43 := Aside0.mk A430
                  clear A430
                  obtain rfl := Option.some.inj H
                  go_enter Tryd.func5, Tryd.ntmps5
                  go_wp2_with (first | ((with_reducible refine gate_callee (f := 21) rfl ?_); refine zgo (some 15) Tryd.func21 #[.int .u32 a0, .int .u32 a1] ?_; (with_reducible refine (word_Div.calls a0 a1 t209 t210 _ A3.out).mono ?_); rintro e w' ⟨rfl, ⟨nd, rfl⟩⟩; refine ⟨_, rfl, ?_⟩) | ((with_reducible refine gate_callee (f := 22) rfl ?_); refine zgo (some 21) Tryd.func22 #[.int .u32 a0, .int .u32 a1] ?_; (with_reducible refine (word_Mod.calls a0 a1 t211 t212 _ A4.out).mono ?_); rintro e w' ⟨rfl, ⟨nd, rfl⟩⟩; refine ⟨_, rfl, ?_⟩) | ((with_reducible refine gate_callee (f := 25) rfl ?_); refine zgo (some 46) Tryd.func25 #[.int .u32 a0] ?_; (with_reducible refine (grottoref01_Int.calls a0 t216 _ A14.out).mono ?_); rintro e w' ⟨rfl, ⟨nd, rfl⟩⟩; refine ⟨_, rfl, ?_⟩) | ((with_reducible refine gate_callee (f := 25) rfl ?_); refine zgo (some 48) Tryd.func25 #[.int .u32 a1] ?_; (with_reducible refine (grottoref01_Int.calls a1 t217 _ A15.out).mono ?_); rintro e w' ⟨rfl, ⟨nd, rfl⟩⟩; refine ⟨_, rfl, ?_⟩) | ((with_reducible refine gate_callee (f := 25) rfl ?_); refine zgo (some 50) Tryd.func25 #[.int .u32 t211] ?_; (with_reducible refine (grottoref01_Int.calls t211 t218 _ A16.out).mono ?_); rintro e w' ⟨rfl, ⟨nd, rfl⟩⟩; refine ⟨_, rfl, ?_⟩) | ((with_reducible refine gate_callee (f := 17) rfl ?_); refine zgo (some 52) Tryd.func17 #[.int .i64 t210] ?_; (with_reducible refine (grottolaw01_num.calls t210 t219 _ A17.out).mono ?_); rintro e w' ⟨rfl, ⟨nd, rfl⟩⟩; refine ⟨_, rfl, ?_⟩) | ((with_reducible refine gate_callee (f := 17) rfl ?_); refine zgo (some 54) Tryd.func17 #[.int .i64 t212] ?_; (with_reducible refine (grottolaw01_num.calls t212 t220 _ A18.out).mono ?_); rintro e w' ⟨rfl, ⟨nd, rfl⟩⟩; refine ⟨_, rfl, ?_⟩) | (go_at_call 12; (with_reducible refine (grottolaw01_live.calls k  t223 _ (tbl HT HB) A43.out).mono ?_); rintro e w44 ⟨rfl, hb⟩; replace HB := zbs HB hb; (try clear hb); (try clear hb2); (try clear hk); (try clear hi)))
                  go_ret
                  exact ⟨by first | rfl | (simp [errW_none, errW_some] <;> rfl) | (simp only [← hji39]; first | rfl | (simp [errW_none, errW_some] <;> rfl)) | (simp [*, errW_none, errW_some] <;> rfl), zb HB⟩
                · rw [if_neg c42] at H
                  have c42b0 : decide ((wrap64 (-t218)) < (ji39)) = false := decide_eq_false c42
                  clear c42
                  obtain rfl := Option.some.inj H
                  go_enter Tryd.func5, Tryd.ntmps5
                  go_wp2_with (first | ((with_reducible refine gate_callee (f := 21) rfl ?_); refine zgo (some 15) Tryd.func21 #[.int .u32 a0, .int .u32 a1] ?_; (with_reducible refine (word_Div.calls a0 a1 t209 t210 _ A3.out).mono ?_); rintro e w' ⟨rfl, ⟨nd, rfl⟩⟩; refine ⟨_, rfl, ?_⟩) | ((with_reducible refine gate_callee (f := 22) rfl ?_); refine zgo (some 21) Tryd.func22 #[.int .u32 a0, .int .u32 a1] ?_; (with_reducible refine (word_Mod.calls a0 a1 t211 t212 _ A4.out).mono ?_); rintro e w' ⟨rfl, ⟨nd, rfl⟩⟩; refine ⟨_, rfl, ?_⟩) | ((with_reducible refine gate_callee (f := 25) rfl ?_); refine zgo (some 46) Tryd.func25 #[.int .u32 a0] ?_; (with_reducible refine (grottoref01_Int.calls a0 t216 _ A14.out).mono ?_); rintro e w' ⟨rfl, ⟨nd, rfl⟩⟩; refine ⟨_, rfl, ?_⟩) | ((with_reducible refine gate_callee (f := 25) rfl ?_); refine zgo (some 48) Tryd.func25 #[.int .u32 a1] ?_; (with_reducible refine (grottoref01_Int.calls a1 t217 _ A15.out).mono ?_); rintro e w' ⟨rfl, ⟨nd, rfl⟩⟩; refine ⟨_, rfl, ?_⟩) | ((with_reducible refine gate_callee (f := 25) rfl ?_); refine zgo (some 50) Tryd.func25 #[.int .u32 t211] ?_; (with_reducible refine (grottoref01_Int.calls t211 t218 _ A16.out).mono ?_); rintro e w' ⟨rfl, ⟨nd, rfl⟩⟩; refine ⟨_, rfl, ?_⟩) | ((with_reducible refine gate_callee (f := 17) rfl ?_); refine zgo (some 52) Tryd.func17 #[.int .i64 t210] ?_; (with_reducible refine (grottolaw01_num.calls t210 t219 _ A17.out).mono ?_); rintro e w' ⟨rfl, ⟨nd, rfl⟩⟩; refine ⟨_, rfl, ?_⟩) | ((with_reducible refine gate_callee (f := 17) rfl ?_); refine zgo (some 54) Tryd.func17 #[.int .i64 t212] ?_; (with_reducible refine (grottolaw01_num.calls t212 t220 _ A18.out).mono ?_); rintro e w' ⟨rfl, ⟨nd, rfl⟩⟩; refine ⟨_, rfl, ?_⟩))
                  go_ret
                  exact ⟨by first | rfl | (simp [errW_none, errW_some] <;> rfl) | (simp only [← hji39]; first | rfl | (simp [errW_none, errW_some] <;> rfl)) | (simp [*, errW_none, errW_some] <;> rfl), zb HB⟩
              · rw [if_neg c40] at H
                have c40b0 : decide (t218 < (ji39)) = false := decide_eq_false c40
                clear c40
                obtain rfl := Option.some.inj H
                go_enter Tryd.func5, Tryd.ntmps5
                go_wp2_with (first | ((with_reducible refine gate_callee (f := 21) rfl ?_); refine zgo (some 15) Tryd.func21 #[.int .u32 a0, .int .u32 a1] ?_; (with_reducible refine (word_Div.calls a0 a1 t209 t210 _ A3.out).mono ?_); rintro e w' ⟨rfl, ⟨nd, rfl⟩⟩; refine ⟨_, rfl, ?_⟩) | ((with_reducible refine gate_callee (f := 22) rfl ?_); refine zgo (some 21) Tryd.func22 #[.int .u32 a0, .int .u32 a1] ?_; (with_reducible refine (word_Mod.calls a0 a1 t211 t212 _ A4.out).mono ?_); rintro e w' ⟨rfl, ⟨nd, rfl⟩⟩; refine ⟨_, rfl, ?_⟩) | ((with_reducible refine gate_callee (f := 25) rfl ?_); refine zgo (some 46) Tryd.func25 #[.int .u32 a0] ?_; (with_reducible refine (grottoref01_Int.calls a0 t216 _ A14.out).mono ?_); rintro e w' ⟨rfl, ⟨nd, rfl⟩⟩; refine ⟨_, rfl, ?_⟩) | ((with_reducible refine gate_callee (f := 25) rfl ?_); refine zgo (some 48) Tryd.func25 #[.int .u32 a1] ?_; (with_reducible refine (grottoref01_Int.calls a1 t217 _ A15.out).mono ?_); rintro e w' ⟨rfl, ⟨nd, rfl⟩⟩; refine ⟨_, rfl, ?_⟩) | ((with_reducible refine gate_callee (f := 25) rfl ?_); refine zgo (some 50) Tryd.func25 #[.int .u32 t211] ?_; (with_reducible refine (grottoref01_Int.calls t211 t218 _ A16.out).mono ?_); rintro e w' ⟨rfl, ⟨nd, rfl⟩⟩; refine ⟨_, rfl, ?_⟩) | ((with_reducible refine gate_callee (f := 17) rfl ?_); refine zgo (some 52) Tryd.func17 #[.int .i64 t210] ?_; (with_reducible refine (grottolaw01_num.calls t210 t219 _ A17.out).mono ?_); rintro e w' ⟨rfl, ⟨nd, rfl⟩⟩; refine ⟨_, rfl, ?_⟩) | ((with_reducible refine gate_callee (f := 17) rfl ?_); refine zgo (some 54) Tryd.func17 #[.int .i64 t212] ?_; (with_reducible refine (grottolaw01_num.calls t212 t220 _ A18.out).mono ?_); rintro e w' ⟨rfl, ⟨nd, rfl⟩⟩; refine ⟨_, rfl, ?_⟩))
                go_ret
                exact ⟨by first | rfl | (simp [errW_none, errW_some] <;> rfl) | (simp only [← hji39]; first | rfl | (simp [errW_none, errW_some] <;> rfl)) | (simp [*, errW_none, errW_some] <;> rfl), zb HB⟩
          · rw [if_neg c37] at H
            have c37b0 : decide (t216 ≤ 0) = false := decide_eq_false c37
            clear c37
            obtain ⟨ji45, hji45⟩ : ∃ j_ : Int, (mx t217 (wrap64 (-t217))) = j_ := ⟨_, rfl⟩
            replace H : (if t218 < (ji45) then (if (wrap64 (-t218)) < (ji45) then ((grottolaw01_live.f k).bind fun t224 => (some t224)) else (some false)) else (some false)) = some r := by first | (rw [hji45] at H; exact H) | (simp only [hji45] at H ⊢; exact H)
            (try rw [hji45] at A3)
            (try rw [hji45] at A4)
            (try rw [hji45] at A14)
            (try rw [hji45] at A15)
            (try rw [hji45] at A16)
            (try rw [hji45] at A17)
            (try rw [hji45] at A18)
            have hji45_ : (if t217 < (wrap64 (-t217)) then (wrap64 (-t217)) else t217) = ji45 := hji45
            by_cases c46 : t218 < (ji45)
            · rw [if_pos c46] at H
              have c46b0 : decide (t218 < (ji45)) = true := decide_eq_true c46
              clear c46
              by_cases c48 : (wrap64 (-t218)) < (ji45)
              · rw [if_pos c48] at H
                have c48b0 : decide ((wrap64 (-t218)) < (ji45)) = true := decide_eq_true c48
                clear c48
                replace H := Option.bind_eq_some_iff.mp H
                obtain ⟨t224, A490, H⟩ := H
                replace H : (some t224) = some r := H
                have A49 := Aside0.mk A490
                clear A490
                obtain rfl := Option.some.inj H
                go_enter Tryd.func5, Tryd.ntmps5
                go_wp2_with (first | ((with_reducible refine gate_callee (f := 21) rfl ?_); refine zgo (some 15) Tryd.func21 #[.int .u32 a0, .int .u32 a1] ?_; (with_reducible refine (word_Div.calls a0 a1 t209 t210 _ A3.out).mono ?_); rintro e w' ⟨rfl, ⟨nd, rfl⟩⟩; refine ⟨_, rfl, ?_⟩) | ((with_reducible refine gate_callee (f := 22) rfl ?_); refine zgo (some 21) Tryd.func22 #[.int .u32 a0, .int .u32 a1] ?_; (with_reducible refine (word_Mod.calls a0 a1 t211 t212 _ A4.out).mono ?_); rintro e w' ⟨rfl, ⟨nd, rfl⟩⟩; refine ⟨_, rfl, ?_⟩) | ((with_reducible refine gate_callee (f := 25) rfl ?_); refine zgo (some 46) Tryd.func25 #[.int .u32 a0] ?_; (with_reducible refine (grottoref01_Int.calls a0 t216 _ A14.out).mono ?_); rintro e w' ⟨rfl, ⟨nd, rfl⟩⟩; refine ⟨_, rfl, ?_⟩) | ((with_reducible refine gate_callee (f := 25) rfl ?_); refine zgo (some 48) Tryd.func25 #[.int .u32 a1] ?_; (with_reducible refine (grottoref01_Int.calls a1 t217 _ A15.out).mono ?_); rintro e w' ⟨rfl, ⟨nd, rfl⟩⟩; refine ⟨_, rfl, ?_⟩) | ((with_reducible refine gate_callee (f := 25) rfl ?_); refine zgo (some 50) Tryd.func25 #[.int .u32 t211] ?_; (with_reducible refine (grottoref01_Int.calls t211 t218 _ A16.out).mono ?_); rintro e w' ⟨rfl, ⟨nd, rfl⟩⟩; refine ⟨_, rfl, ?_⟩) | ((with_reducible refine gate_callee (f := 17) rfl ?_); refine zgo (some 52) Tryd.func17 #[.int .i64 t210] ?_; (with_reducible refine (grottolaw01_num.calls t210 t219 _ A17.out).mono ?_); rintro e w' ⟨rfl, ⟨nd, rfl⟩⟩; refine ⟨_, rfl, ?_⟩) | ((with_reducible refine gate_callee (f := 17) rfl ?_); refine zgo (some 54) Tryd.func17 #[.int .i64 t212] ?_; (with_reducible refine (grottolaw01_num.calls t212 t220 _ A18.out).mono ?_); rintro e w' ⟨rfl, ⟨nd, rfl⟩⟩; refine ⟨_, rfl, ?_⟩) | (go_at_call 12; (with_reducible refine (grottolaw01_live.calls k  t224 _ (tbl HT HB) A49.out).mono ?_); rintro e w50 ⟨rfl, hb⟩; replace HB := zbs HB hb; (try clear hb); (try clear hb2); (try clear hk); (try clear hi)))
                go_ret
                exact ⟨by first | rfl | (simp [errW_none, errW_some] <;> rfl) | (simp only [← hji45]; first | rfl | (simp [errW_none, errW_some] <;> rfl)) | (simp [*, errW_none, errW_some] <;> rfl), zb HB⟩
              · rw [if_neg c48] at H
                have c48b0 : decide ((wrap64 (-t218)) < (ji45)) = false := decide_eq_false c48
                clear c48
                obtain rfl := Option.some.inj H
                go_enter Tryd.func5, Tryd.ntmps5
                go_wp2_with (first | ((with_reducible refine gate_callee (f := 21) rfl ?_); refine zgo (some 15) Tryd.func21 #[.int .u32 a0, .int .u32 a1] ?_; (with_reducible refine (word_Div.calls a0 a1 t209 t210 _ A3.out).mono ?_); rintro e w' ⟨rfl, ⟨nd, rfl⟩⟩; refine ⟨_, rfl, ?_⟩) | ((with_reducible refine gate_callee (f := 22) rfl ?_); refine zgo (some 21) Tryd.func22 #[.int .u32 a0, .int .u32 a1] ?_; (with_reducible refine (word_Mod.calls a0 a1 t211 t212 _ A4.out).mono ?_); rintro e w' ⟨rfl, ⟨nd, rfl⟩⟩; refine ⟨_, rfl, ?_⟩) | ((with_reducible refine gate_callee (f := 25) rfl ?_); refine zgo (some 46) Tryd.func25 #[.int .u32 a0] ?_; (with_reducible refine (grottoref01_Int.calls a0 t216 _ A14.out).mono ?_); rintro e w' ⟨rfl, ⟨nd, rfl⟩⟩; refine ⟨_, rfl, ?_⟩) | ((with_reducible refine gate_callee (f := 25) rfl ?_); refine zgo (some 48) Tryd.func25 #[.int .u32 a1] ?_; (with_reducible refine (grottoref01_Int.calls a1 t217 _ A15.out).mono ?_); rintro e w' ⟨rfl, ⟨nd, rfl⟩⟩; refine ⟨_, rfl, ?_⟩) | ((with_reducible refine gate_callee (f := 25) rfl ?_); refine zgo (some 50) Tryd.func25 #[.int .u32 t211] ?_; (with_reducible refine (grottoref01_Int.calls t211 t218 _ A16.out).mono ?_); rintro e w' ⟨rfl, ⟨nd, rfl⟩⟩; refine ⟨_, rfl, ?_⟩) | ((with_reducible refine gate_callee (f := 17) rfl ?_); refine zgo (some 52) Tryd.func17 #[.int .i64 t210] ?_; (with_reducible refine (grottolaw01_num.calls t210 t219 _ A17.out).mono ?_); rintro e w' ⟨rfl, ⟨nd, rfl⟩⟩; refine ⟨_, rfl, ?_⟩) | ((with_reducible refine gate_callee (f := 17) rfl ?_); refine zgo (some 54) Tryd.func17 #[.int .i64 t212] ?_; (with_reducible refine (grottolaw01_num.calls t212 t220 _ A18.out).mono ?_); rintro e w' ⟨rfl, ⟨nd, rfl⟩⟩; refine ⟨_, rfl, ?_⟩))
                go_ret
                exact ⟨by first | rfl | (simp [errW_none, errW_some] <;> rfl) | (simp only [← hji45]; first | rfl | (simp [errW_none, errW_some] <;> rfl)) | (simp [*, errW_none, errW_some] <;> rfl), zb HB⟩
            · rw [if_neg c46] at H
              have c46b0 : decide (t218 < (ji45)) = false := decide_eq_false c46
              clear c46
              obtain rfl := Option.some.inj H
              go_enter Tryd.func5, Tryd.ntmps5
              go_wp2_with (first | ((with_reducible refine gate_callee (f := 21) rfl ?_); refine zgo (some 15) Tryd.func21 #[.int .u32 a0, .int .u32 a1] ?_; (with_reducible refine (word_Div.calls a0 a1 t209 t210 _ A3.out).mono ?_); rintro e w' ⟨rfl, ⟨nd, rfl⟩⟩; refine ⟨_, rfl, ?_⟩) | ((with_reducible refine gate_callee (f := 22) rfl ?_); refine zgo (some 21) Tryd.func22 #[.int .u32 a0, .int .u32 a1] ?_; (with_reducible refine (word_Mod.calls a0 a1 t211 t212 _ A4.out).mono ?_); rintro e w' ⟨rfl, ⟨nd, rfl⟩⟩; refine ⟨_, rfl, ?_⟩) | ((with_reducible refine gate_callee (f := 25) rfl ?_); refine zgo (some 46) Tryd.func25 #[.int .u32 a0] ?_; (with_reducible refine (grottoref01_Int.calls a0 t216 _ A14.out).mono ?_); rintro e w' ⟨rfl, ⟨nd, rfl⟩⟩; refine ⟨_, rfl, ?_⟩) | ((with_reducible refine gate_callee (f := 25) rfl ?_); refine zgo (some 48) Tryd.func25 #[.int .u32 a1] ?_; (with_reducible refine (grottoref01_Int.calls a1 t217 _ A15.out).mono ?_); rintro e w' ⟨rfl, ⟨nd, rfl⟩⟩; refine ⟨_, rfl, ?_⟩) | ((with_reducible refine gate_callee (f := 25) rfl ?_); refine zgo (some 50) Tryd.func25 #[.int .u32 t211] ?_; (with_reducible refine (grottoref01_Int.calls t211 t218 _ A16.out).mono ?_); rintro e w' ⟨rfl, ⟨nd, rfl⟩⟩; refine ⟨_, rfl, ?_⟩) | ((with_reducible refine gate_callee (f := 17) rfl ?_); refine zgo (some 52) Tryd.func17 #[.int .i64 t210] ?_; (with_reducible refine (grottolaw01_num.calls t210 t219 _ A17.out).mono ?_); rintro e w' ⟨rfl, ⟨nd, rfl⟩⟩; refine ⟨_, rfl, ?_⟩) | ((with_reducible refine gate_callee (f := 17) rfl ?_); refine zgo (some 54) Tryd.func17 #[.int .i64 t212] ?_; (with_reducible refine (grottolaw01_num.calls t212 t220 _ A18.out).mono ?_); rintro e w' ⟨rfl, ⟨nd, rfl⟩⟩; refine ⟨_, rfl, ?_⟩))
              go_ret
              exact ⟨by first | rfl | (simp [errW_none, errW_some] <;> rfl) | (simp only [← hji45]; first | rfl | (simp [errW_none, errW_some] <;> rfl)) | (simp [*, errW_none, errW_some] <;> rfl), zb HB⟩
      · rw [if_neg c20] at H
        have c20b0 : (((((t209 * a1) % 4294967296) + t211) % 4294967296) == a0) = false := beq_eq_false_iff_ne.mpr c20
        have c20b1 : (((((t209 * a1) % 4294967296) + t211) % 4294967296) != a0) = true := bne_iff_ne.mpr c20
        have c20z : (((t209 * a1) % 4294967296) + t211) % 4294967296 = (t209 * a1 + t211) % 4294967296 := by omega
        have c20y : ((t209 * a1 + t211) % 4294967296 == a0) = false := by rw [← c20z]; exact c20b0
        have c20x : ((t209 * a1 + t211) % 4294967296 != a0) = true := by rw [← c20z]; exact c20b1
        obtain rfl := Option.some.inj H
        go_enter Tryd.func5, Tryd.ntmps5
        go_wp2_with (first | ((with_reducible refine gate_callee (f := 21) rfl ?_); refine zgo (some 15) Tryd.func21 #[.int .u32 a0, .int .u32 a1] ?_; (with_reducible refine (word_Div.calls a0 a1 t209 t210 _ A3.out).mono ?_); rintro e w' ⟨rfl, ⟨nd, rfl⟩⟩; refine ⟨_, rfl, ?_⟩) | ((with_reducible refine gate_callee (f := 22) rfl ?_); refine zgo (some 21) Tryd.func22 #[.int .u32 a0, .int .u32 a1] ?_; (with_reducible refine (word_Mod.calls a0 a1 t211 t212 _ A4.out).mono ?_); rintro e w' ⟨rfl, ⟨nd, rfl⟩⟩; refine ⟨_, rfl, ?_⟩) | ((with_reducible refine gate_callee (f := 25) rfl ?_); refine zgo (some 46) Tryd.func25 #[.int .u32 a0] ?_; (with_reducible refine (grottoref01_Int.calls a0 t216 _ A14.out).mono ?_); rintro e w' ⟨rfl, ⟨nd, rfl⟩⟩; refine ⟨_, rfl, ?_⟩) | ((with_reducible refine gate_callee (f := 25) rfl ?_); refine zgo (some 48) Tryd.func25 #[.int .u32 a1] ?_; (with_reducible refine (grottoref01_Int.calls a1 t217 _ A15.out).mono ?_); rintro e w' ⟨rfl, ⟨nd, rfl⟩⟩; refine ⟨_, rfl, ?_⟩) | ((with_reducible refine gate_callee (f := 25) rfl ?_); refine zgo (some 50) Tryd.func25 #[.int .u32 t211] ?_; (with_reducible refine (grottoref01_Int.calls t211 t218 _ A16.out).mono ?_); rintro e w' ⟨rfl, ⟨nd, rfl⟩⟩; refine ⟨_, rfl, ?_⟩) | ((with_reducible refine gate_callee (f := 17) rfl ?_); refine zgo (some 52) Tryd.func17 #[.int .i64 t210] ?_; (with_reducible refine (grottolaw01_num.calls t210 t219 _ A17.out).mono ?_); rintro e w' ⟨rfl, ⟨nd, rfl⟩⟩; refine ⟨_, rfl, ?_⟩) | ((with_reducible refine gate_callee (f := 17) rfl ?_); refine zgo (some 54) Tryd.func17 #[.int .i64 t212] ?_; (with_reducible refine (grottolaw01_num.calls t212 t220 _ A18.out).mono ?_); rintro e w' ⟨rfl, ⟨nd, rfl⟩⟩; refine ⟨_, rfl, ?_⟩))
        go_ret
        exact ⟨by first | rfl | (simp [errW_none, errW_some] <;> rfl) | (simp [*, errW_none, errW_some] <;> rfl), zb HB⟩
    · rw [if_neg c19] at H
      have c19b0 : ((wrap64 (t219 + t220)) == 0) = false := beq_eq_false_iff_ne.mpr c19
      have c19b1 : ((wrap64 (t219 + t220)) != 0) = true := bne_iff_ne.mpr c19
      obtain rfl := Option.some.inj H
      go_enter Tryd.func5, Tryd.ntmps5
      go_wp2_with (first | ((with_reducible refine gate_callee (f := 21) rfl ?_); refine zgo (some 15) Tryd.func21 #[.int .u32 a0, .int .u32 a1] ?_; (with_reducible refine (word_Div.calls a0 a1 t209 t210 _ A3.out).mono ?_); rintro e w' ⟨rfl, ⟨nd, rfl⟩⟩; refine ⟨_, rfl, ?_⟩) | ((with_reducible refine gate_callee (f := 22) rfl ?_); refine zgo (some 21) Tryd.func22 #[.int .u32 a0, .int .u32 a1] ?_; (with_reducible refine (word_Mod.calls a0 a1 t211 t212 _ A4.out).mono ?_); rintro e w' ⟨rfl, ⟨nd, rfl⟩⟩; refine ⟨_, rfl, ?_⟩) | ((with_reducible refine gate_callee (f := 25) rfl ?_); refine zgo (some 46) Tryd.func25 #[.int .u32 a0] ?_; (with_reducible refine (grottoref01_Int.calls a0 t216 _ A14.out).mono ?_); rintro e w' ⟨rfl, ⟨nd, rfl⟩⟩; refine ⟨_, rfl, ?_⟩) | ((with_reducible refine gate_callee (f := 25) rfl ?_); refine zgo (some 48) Tryd.func25 #[.int .u32 a1] ?_; (with_reducible refine (grottoref01_Int.calls a1 t217 _ A15.out).mono ?_); rintro e w' ⟨rfl, ⟨nd, rfl⟩⟩; refine ⟨_, rfl, ?_⟩) | ((with_reducible refine gate_callee (f := 25) rfl ?_); refine zgo (some 50) Tryd.func25 #[.int .u32 t211] ?_; (with_reducible refine (grottoref01_Int.calls t211 t218 _ A16.out).mono ?_); rintro e w' ⟨rfl, ⟨nd, rfl⟩⟩; refine ⟨_, rfl, ?_⟩) | ((with_reducible refine gate_callee (f := 17) rfl ?_); refine zgo (some 52) Tryd.func17 #[.int .i64 t210] ?_; (with_reducible refine (grottolaw01_num.calls t210 t219 _ A17.out).mono ?_); rintro e w' ⟨rfl, ⟨nd, rfl⟩⟩; refine ⟨_, rfl, ?_⟩) | ((with_reducible refine gate_callee (f := 17) rfl ?_); refine zgo (some 54) Tryd.func17 #[.int .i64 t212] ?_; (with_reducible refine (grottolaw01_num.calls t212 t220 _ A18.out).mono ?_); rintro e w' ⟨rfl, ⟨nd, rfl⟩⟩; refine ⟨_, rfl, ?_⟩))
      go_ret
      exact ⟨by first | rfl | (simp [errW_none, errW_some] <;> rfl) | (simp [*, errW_none, errW_some] <;> rfl), zb HB⟩


end Go.Proofs.YtefdfmnlcfopaaaDoor.PQ
