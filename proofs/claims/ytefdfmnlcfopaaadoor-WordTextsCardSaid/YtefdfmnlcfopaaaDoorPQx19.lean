-- by a program of this claim
import Derived.Test.YtefdfmnlcfopaaaDoorPQx0
import Derived.Test.YtefdfmnlcfopaaaDoorPQx1
import Derived.Test.YtefdfmnlcfopaaaDoorPQx8
import Derived.Test.YtefdfmnlcfopaaaDoorPQx18
namespace Go.Proofs.YtefdfmnlcfopaaaDoor.PQ
open Go.RowKit Go.Proofs.YtefdfmnlcfopaaaDoorW.PrintWords Go.Proofs.YtefdfmnlcfopaaaDoorW.PrintLast Go.Proofs.YtefdfmnlcfopaaaDoorW.PrintMore Go.Proofs.YtefdfmnlcfopaaaDoor.Z
attribute [local go_sem] max2_int min2_int max_two min_two max_three min_three max_four min_four   -- for this text's walks alone
set_option linter.unusedVariables false
set_option linter.unusedSimpArgs false

/-! ### grottolaw01_WordTexts: function 10 -/
def grottolaw01_WordTexts.f (k : Nat) (a0 : Int) (a1 : ByteArray) : Option (Bool) := if (a1.size : Int) > 4096 then ((grottolaw01_live.f k).bind fun t290 => (some t290)) else ((word_Number.f a1).bind fun bt291 => ((grottoref01_Number.f k a1).bind fun bt293 => ((word_Decimal.f a0).bind fun t295 => ((grottoref01_Decimal.f k a0).bind fun t296 => (if t295.toList = t296.toList then (if bt291.1 = bt293.1 then (if (bt291.2 == bt293.2) = true then ((grottolaw01_live.f k).bind fun t297 => (some t297)) else (some false)) else (some false)) else (some false))))))
theorem grottolaw01_WordTexts.mono : ∀ a0 a1 k, LeO (grottolaw01_WordTexts.f k a0 a1) (grottolaw01_WordTexts.f (k + 1) a0 a1) := by
  intro a0 a1 k
  unfold grottolaw01_WordTexts.f
  repeat' first
      | (with_reducible exact grottolaw01_live.mono _)
      | (with_reducible exact grottoref01_Decimal.mono _ _)
      | (with_reducible exact grottoref01_Number.mono _ _)
      | (with_reducible exact LeO.refl _)
      | (with_reducible exact LeO.none _)
      | (with_reducible refine LeO.ite ?_ ?_)
      | (with_reducible refine LeO.bind ?_ (fun _ => ?_))
      | exact grottolaw01_live.mono _
      | exact grottoref01_Decimal.mono _ _
      | exact grottoref01_Number.mono _ _
      | exact LeO.none _
      | refine LeO.ite ?_ ?_
      | refine LeO.bind ?_ (fun _ => ?_)
set_option maxHeartbeats 8000000 in
set_option maxRecDepth 100000 in
theorem grottolaw01_WordTexts.calls (k : Nat) (a0 : Int) (a1 : ByteArray) (r : Bool) (w : World) (HT : TabN w) (h : grottolaw01_WordTexts.f k a0 a1 = some r) :
    Calls Tryd.prog 10 #[.int .u32 a0, .string a1] w fun e w' => e = .returned (.bool r) ∧ Below w.heap.size w w' := by
  have HB := Aside0.mk (Below.refl w.heap.size w)
  have H : (if (a1.size : Int) > 4096 then ((grottolaw01_live.f k).bind fun t290 => (some t290)) else ((word_Number.f a1).bind fun bt291 => ((grottoref01_Number.f k a1).bind fun bt293 => ((word_Decimal.f a0).bind fun t295 => ((grottoref01_Decimal.f k a0).bind fun t296 => (if t295.toList = t296.toList then (if bt291.1 = bt293.1 then (if (bt291.2 == bt293.2) = true then ((grottolaw01_live.f k).bind fun t297 => (some t297)) else (some false)) else (some false)) else (some false))))))) = some r := h
  clear h
  by_cases c3 : (a1.size : Int) > 4096
  · rw [if_pos c3] at H
    have c3b0 : decide (4096 < (a1.size : Int)) = true := decide_eq_true c3
    have c3b1 : decide (4096 < a1.size) = true := decide_eq_true (by omega)
    clear c3
    replace H := Option.bind_eq_some_iff.mp H
    obtain ⟨t290, A40, H⟩ := H
    replace H : (some t290) = some r := H
    have A4 := Aside0.mk A40
    clear A40
    obtain rfl := Option.some.inj H
    go_enter Tryd.func10, Tryd.ntmps10
    go_wp2_with (first | ((with_reducible refine gate_callee (f := 12) rfl ?_); refine zgo (some 12) Tryd.func12 #[] ?_; (with_reducible refine (grottolaw01_live.calls k  t290 _ (tbl HT.tab HB) A4.out).mono ?_); rintro e w5 ⟨rfl, hb⟩; refine ⟨_, rfl, ?_⟩; replace HB := zbs HB hb; (try clear hb); (try clear hb2); (try clear hk); (try clear hi)))
    go_ret
    exact ⟨by first | rfl | (simp [errW_none, errW_some] <;> rfl) | (simp [*, errW_none, errW_some] <;> rfl), zb HB⟩
  · rw [if_neg c3] at H
    have c3b0 : decide (4096 < (a1.size : Int)) = false := decide_eq_false c3
    have c3b1 : decide (4096 < a1.size) = false := decide_eq_false (by omega)
    clear c3
    replace H := Option.bind_eq_some_iff.mp H
    obtain ⟨⟨t291, t292⟩, A60, H⟩ := H
    replace H : ((grottoref01_Number.f k a1).bind fun bt293 => ((word_Decimal.f a0).bind fun t295 => ((grottoref01_Decimal.f k a0).bind fun t296 => (if t295.toList = t296.toList then (if t291 = bt293.1 then (if (t292 == bt293.2) = true then ((grottolaw01_live.f k).bind fun t297 => (some t297)) else (some false)) else (some false)) else (some false))))) = some r := H
    have A6 := Aside0.mk A60
    clear A60
    replace H := Option.bind_eq_some_iff.mp H
    obtain ⟨⟨t293, t294⟩, A70, H⟩ := H
    replace H : ((word_Decimal.f a0).bind fun t295 => ((grottoref01_Decimal.f k a0).bind fun t296 => (if t295.toList = t296.toList then (if t291 = t293 then (if (t292 == t294) = true then ((grottolaw01_live.f k).bind fun t297 => (some t297)) else (some false)) else (some false)) else (some false)))) = some r := H
    have A7 := Aside0.mk A70
    clear A70
    replace H := Option.bind_eq_some_iff.mp H
    obtain ⟨t295, A80, H⟩ := H
    replace H : ((grottoref01_Decimal.f k a0).bind fun t296 => (if t295.toList = t296.toList then (if t291 = t293 then (if (t292 == t294) = true then ((grottolaw01_live.f k).bind fun t297 => (some t297)) else (some false)) else (some false)) else (some false))) = some r := H
    have A8 := Aside0.mk A80
    clear A80
    replace H := Option.bind_eq_some_iff.mp H
    obtain ⟨t296, A90, H⟩ := H
    replace H : (if t295.toList = t296.toList then (if t291 = t293 then (if (t292 == t294) = true then ((grottolaw01_live.f k).bind fun t297 => (some t297)) else (some false)) else (some false)) else (some false)) = some r := H
    have A9 := Aside0.mk A90
    clear A90
    by_cases c10 : t295.toList = t296.toList
    · rw [if_pos c10] at H
      have c10b0 : (t295.toList == t296.toList) = true := beq_iff_eq.mpr c10
      have c10b1 : (t295.toList != t296.toList) = false := bne_eq_false_iff_eq.mpr c10
      clear c10
      by_cases c11 : t291 = t293
      · rw [if_pos c11] at H
        have c11b0 : (t291 == t293) = true := beq_iff_eq.mpr c11
        have c11b1 : (t291 != t293) = false := bne_eq_false_iff_eq.mpr c11
        clear c11
        by_cases c12 : (t292 == t294) = true
        · rw [if_pos c12] at H
          have c12b0 : (t292 == t294) = true := c12
          (try (have c12b1 : decide (t292 = t294) = true := by simpa using c12))
          (try (have c12b2 : (t292 == t294) = true := by simpa using c12))
          clear c12
          replace H := Option.bind_eq_some_iff.mp H
          obtain ⟨t297, A130, H⟩ := H
          replace H : (some t297) = some r := H
          have A13 := Aside0.mk A130
          clear A130
          obtain rfl := Option.some.inj H
          go_enter Tryd.func10, Tryd.ntmps10
          go_wp2_with (first | ((with_reducible refine gate_callee (f := 38) rfl ?_); refine zgo (some 15) Tryd.func38 #[.string a1] ?_; (with_reducible refine (word_Number.calls a1 t291 t292 _ (tbn HT HB) A6.out).mono ?_); rintro e w14 ⟨rfl, hb⟩; refine ⟨_, rfl, ?_⟩; replace HB := zbs HB hb; (try clear hb); (try clear hb2); (try clear hk); (try clear hi)) | ((with_reducible refine gate_callee (f := 39) rfl ?_); refine zgo (some 20) Tryd.func39 #[.string a1] ?_; (with_reducible refine (grottoref01_Number.calls k a1 t293 t294 _ A7.out).mono ?_); rintro e w15 ⟨rfl, hb⟩; refine ⟨_, rfl, ?_⟩; replace HB := zbs HB hb; (try clear hb); (try clear hb2); (try clear hk); (try clear hi)) | ((with_reducible refine gate_callee (f := 40) rfl ?_); refine zgo (some 24) Tryd.func40 #[.int .u32 a0] ?_; (with_reducible refine (word_Decimal.calls a0 t295 _ (tbl HT.tab HB) A8.out).mono ?_); rintro e w16 ⟨rfl, hb⟩; refine ⟨_, rfl, ?_⟩; replace HB := zbs HB hb; (try clear hb); (try clear hb2); (try clear hk); (try clear hi)) | ((with_reducible refine gate_callee (f := 41) rfl ?_); refine zgo (some 26) Tryd.func41 #[.int .u32 a0] ?_; (with_reducible refine (grottoref01_Decimal.calls k a0 t296 _ A9.out).mono ?_); rintro e w17 ⟨rfl, hb⟩; refine ⟨_, rfl, ?_⟩; replace HB := zbs HB hb; (try clear hb); (try clear hb2); (try clear hk); (try clear hi)) | (go_at_call 12; (with_reducible refine (grottolaw01_live.calls k  t297 _ (tbl HT.tab HB) A13.out).mono ?_); rintro e w18 ⟨rfl, hb⟩; replace HB := zbs HB hb; (try clear hb); (try clear hb2); (try clear hk); (try clear hi)))
          go_ret
          exact ⟨by first | rfl | (simp [errW_none, errW_some] <;> rfl) | (simp [*, errW_none, errW_some] <;> rfl), zb HB⟩
        · rw [if_neg c12] at H
          have c12b0 : (t292 == t294) = false := by simpa using c12
          (try (have c12b1 : decide (t292 = t294) = false := by simpa using c12))
          (try (have c12b2 : (t292 == t294) = false := by simpa using c12))
          (try (have c12b3 : ¬ (t292 = t294) := by simpa using c12))
          clear c12
          obtain rfl := Option.some.inj H
          go_enter Tryd.func10, Tryd.ntmps10
          go_wp2_with (first | ((with_reducible refine gate_callee (f := 38) rfl ?_); refine zgo (some 15) Tryd.func38 #[.string a1] ?_; (with_reducible refine (word_Number.calls a1 t291 t292 _ (tbn HT HB) A6.out).mono ?_); rintro e w19 ⟨rfl, hb⟩; refine ⟨_, rfl, ?_⟩; replace HB := zbs HB hb; (try clear hb); (try clear hb2); (try clear hk); (try clear hi)) | ((with_reducible refine gate_callee (f := 39) rfl ?_); refine zgo (some 20) Tryd.func39 #[.string a1] ?_; (with_reducible refine (grottoref01_Number.calls k a1 t293 t294 _ A7.out).mono ?_); rintro e w20 ⟨rfl, hb⟩; refine ⟨_, rfl, ?_⟩; replace HB := zbs HB hb; (try clear hb); (try clear hb2); (try clear hk); (try clear hi)) | ((with_reducible refine gate_callee (f := 40) rfl ?_); refine zgo (some 24) Tryd.func40 #[.int .u32 a0] ?_; (with_reducible refine (word_Decimal.calls a0 t295 _ (tbl HT.tab HB) A8.out).mono ?_); rintro e w21 ⟨rfl, hb⟩; refine ⟨_, rfl, ?_⟩; replace HB := zbs HB hb; (try clear hb); (try clear hb2); (try clear hk); (try clear hi)) | ((with_reducible refine gate_callee (f := 41) rfl ?_); refine zgo (some 26) Tryd.func41 #[.int .u32 a0] ?_; (with_reducible refine (grottoref01_Decimal.calls k a0 t296 _ A9.out).mono ?_); rintro e w22 ⟨rfl, hb⟩; refine ⟨_, rfl, ?_⟩; replace HB := zbs HB hb; (try clear hb); (try clear hb2); (try clear hk); (try clear hi)))
          go_ret
          exact ⟨by first | rfl | (simp [errW_none, errW_some] <;> rfl) | (simp [*, errW_none, errW_some] <;> rfl), zb HB⟩
      · rw [if_neg c11] at H
        have c11b0 : (t291 == t293) = false := beq_eq_false_iff_ne.mpr c11
        have c11b1 : (t291 != t293) = true := bne_iff_ne.mpr c11
        obtain rfl := Option.some.inj H
        go_enter Tryd.func10, Tryd.ntmps10
        go_wp2_with (first | ((with_reducible refine gate_callee (f := 38) rfl ?_); refine zgo (some 15) Tryd.func38 #[.string a1] ?_; (with_reducible refine (word_Number.calls a1 t291 t292 _ (tbn HT HB) A6.out).mono ?_); rintro e w23 ⟨rfl, hb⟩; refine ⟨_, rfl, ?_⟩; replace HB := zbs HB hb; (try clear hb); (try clear hb2); (try clear hk); (try clear hi)) | ((with_reducible refine gate_callee (f := 39) rfl ?_); refine zgo (some 20) Tryd.func39 #[.string a1] ?_; (with_reducible refine (grottoref01_Number.calls k a1 t293 t294 _ A7.out).mono ?_); rintro e w24 ⟨rfl, hb⟩; refine ⟨_, rfl, ?_⟩; replace HB := zbs HB hb; (try clear hb); (try clear hb2); (try clear hk); (try clear hi)) | ((with_reducible refine gate_callee (f := 40) rfl ?_); refine zgo (some 24) Tryd.func40 #[.int .u32 a0] ?_; (with_reducible refine (word_Decimal.calls a0 t295 _ (tbl HT.tab HB) A8.out).mono ?_); rintro e w25 ⟨rfl, hb⟩; refine ⟨_, rfl, ?_⟩; replace HB := zbs HB hb; (try clear hb); (try clear hb2); (try clear hk); (try clear hi)) | ((with_reducible refine gate_callee (f := 41) rfl ?_); refine zgo (some 26) Tryd.func41 #[.int .u32 a0] ?_; (with_reducible refine (grottoref01_Decimal.calls k a0 t296 _ A9.out).mono ?_); rintro e w26 ⟨rfl, hb⟩; refine ⟨_, rfl, ?_⟩; replace HB := zbs HB hb; (try clear hb); (try clear hb2); (try clear hk); (try clear hi)))
        go_ret
        exact ⟨by first | rfl | (simp [errW_none, errW_some] <;> rfl) | (simp [*, errW_none, errW_some] <;> rfl), zb HB⟩
    · rw [if_neg c10] at H
      have c10b0 : (t295.toList == t296.toList) = false := beq_eq_false_iff_ne.mpr c10
      have c10b1 : (t295.toList != t296.toList) = true := bne_iff_ne.mpr c10
      obtain rfl := Option.some.inj H
      go_enter Tryd.func10, Tryd.ntmps10
      go_wp2_with (first | ((with_reducible refine gate_callee (f := 38) rfl ?_); refine zgo (some 15) Tryd.func38 #[.string a1] ?_; (with_reducible refine (word_Number.calls a1 t291 t292 _ (tbn HT HB) A6.out).mono ?_); rintro e w27 ⟨rfl, hb⟩; refine ⟨_, rfl, ?_⟩; replace HB := zbs HB hb; (try clear hb); (try clear hb2); (try clear hk); (try clear hi)) | ((with_reducible refine gate_callee (f := 39) rfl ?_); refine zgo (some 20) Tryd.func39 #[.string a1] ?_; (with_reducible refine (grottoref01_Number.calls k a1 t293 t294 _ A7.out).mono ?_); rintro e w28 ⟨rfl, hb⟩; refine ⟨_, rfl, ?_⟩; replace HB := zbs HB hb; (try clear hb); (try clear hb2); (try clear hk); (try clear hi)) | ((with_reducible refine gate_callee (f := 40) rfl ?_); refine zgo (some 24) Tryd.func40 #[.int .u32 a0] ?_; (with_reducible refine (word_Decimal.calls a0 t295 _ (tbl HT.tab HB) A8.out).mono ?_); rintro e w29 ⟨rfl, hb⟩; refine ⟨_, rfl, ?_⟩; replace HB := zbs HB hb; (try clear hb); (try clear hb2); (try clear hk); (try clear hi)) | ((with_reducible refine gate_callee (f := 41) rfl ?_); refine zgo (some 26) Tryd.func41 #[.int .u32 a0] ?_; (with_reducible refine (grottoref01_Decimal.calls k a0 t296 _ A9.out).mono ?_); rintro e w30 ⟨rfl, hb⟩; refine ⟨_, rfl, ?_⟩; replace HB := zbs HB hb; (try clear hb); (try clear hb2); (try clear hk); (try clear hi)))
      go_ret
      exact ⟨by first | rfl | (simp [errW_none, errW_some] <;> rfl) | (simp [*, errW_none, errW_some] <;> rfl), zb HB⟩


end Go.Proofs.YtefdfmnlcfopaaaDoor.PQ
