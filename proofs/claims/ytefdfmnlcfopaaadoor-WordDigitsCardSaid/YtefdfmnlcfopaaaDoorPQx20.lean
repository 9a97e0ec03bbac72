-- by a program of this claim
import Derived.Test.YtefdfmnlcfopaaaDoorPQx0
import Derived.Test.YtefdfmnlcfopaaaDoorPQx1
import Derived.Test.YtefdfmnlcfopaaaDoorPQx18
namespace Go.Proofs.YtefdfmnlcfopaaaDoor.PQ
open Go.RowKit Go.Proofs.YtefdfmnlcfopaaaDoorW.PrintWords Go.Proofs.YtefdfmnlcfopaaaDoorW.PrintLast Go.Proofs.YtefdfmnlcfopaaaDoorW.PrintMore Go.Proofs.YtefdfmnlcfopaaaDoor.Z
attribute [local go_sem] max2_int min2_int max_two min_two max_three min_three max_four min_four   -- for this text's walks alone
set_option linter.unusedVariables false
set_option linter.unusedSimpArgs false

/-! ### grottolaw01_WordDigits: function 11 -/
def grottolaw01_WordDigits.j0 : Nat → ByteArray → Bool → Option (Bool)
  | 0, _, _ => none
  | k + 1, x1, x25 => if x25 = true then (some false) else ((word_Number.f x1).bind fun bt302 => (if bt302.2 = true then ((word_Decimal.f bt302.1).bind fun t304 => (if t304.toList = x1.toList then ((grottolaw01_live.f k).bind fun t305 => (some t305)) else (some false))) else (if bt302.1 = 0 then ((grottolaw01_live.f k).bind fun t306 => (some t306)) else (some false))))
def grottolaw01_WordDigits.f (k : Nat) (a0 : Int) (a1 : ByteArray) : Option (Bool) := if (a1.size : Int) > 4096 then ((grottolaw01_live.f k).bind fun t298 => (some t298)) else ((word_Decimal.f a0).bind fun t299 => ((word_Number.f t299).bind fun bt300 => (if bt300.1 = a0 then (grottolaw01_WordDigits.j0 k a1 (!bt300.2)) else (grottolaw01_WordDigits.j0 k a1 true))))
theorem grottolaw01_WordDigits.mono_l : ∀ k, (∀ y0 y1, LeO (grottolaw01_WordDigits.j0 k y0 y1) (grottolaw01_WordDigits.j0 (k + 1) y0 y1))
  | 0 => fun _ _ r h => by simp [grottolaw01_WordDigits.j0] at h
  | k + 1 => by
    have ih0 := grottolaw01_WordDigits.mono_l k
    · intro y0 y1
      unfold grottolaw01_WordDigits.j0
      repeat' first
      | (with_reducible exact ih0 _ _)
      | (with_reducible exact grottolaw01_live.mono _)
      | (with_reducible exact LeO.refl _)
      | (with_reducible exact LeO.none _)
      | (with_reducible refine LeO.ite ?_ ?_)
      | (with_reducible refine LeO.bind ?_ (fun _ => ?_))
      | exact ih0 _ _
      | exact grottolaw01_live.mono _
      | exact LeO.none _
      | refine LeO.ite ?_ ?_
      | refine LeO.bind ?_ (fun _ => ?_)
theorem grottolaw01_WordDigits.mono : ∀ a0 a1 k, LeO (grottolaw01_WordDigits.f k a0 a1) (grottolaw01_WordDigits.f (k + 1) a0 a1) := by
  intro a0 a1 k
  have ih0 := grottolaw01_WordDigits.mono_l k
  unfold grottolaw01_WordDigits.f
  repeat' first
      | (with_reducible exact ih0 _ _)
      | (with_reducible exact grottolaw01_live.mono _)
      | (with_reducible exact LeO.refl _)
      | (with_reducible exact LeO.none _)
      | (with_reducible refine LeO.ite ?_ ?_)
      | (with_reducible refine LeO.bind ?_ (fun _ => ?_))
      | exact ih0 _ _
      | exact grottolaw01_live.mono _
      | exact LeO.none _
      | refine LeO.ite ?_ ?_
      | refine LeO.bind ?_ (fun _ => ?_)
set_option maxHeartbeats 8000000 in
set_option maxRecDepth 100000 in
theorem grottolaw01_WordDigits.calls (k : Nat) (a0 : Int) (a1 : ByteArray) (r : Bool) (w : World) (HT : TabN w) (h : grottolaw01_WordDigits.f k a0 a1 = some r) :
    Calls Tryd.prog 11 #[.int .u32 a0, .string a1] w fun e w' => e = .returned (.bool r) ∧ Below w.heap.size w w' := by
  have HB := Aside0.mk (Below.refl w.heap.size w)
  have H : (if (a1.size : Int) > 4096 then ((grottolaw01_live.f k).bind fun t298 => (some t298)) else ((word_Decimal.f a0).bind fun t299 => ((word_Number.f t299).bind fun bt300 => (if bt300.1 = a0 then (grottolaw01_WordDigits.j0 k a1 (!bt300.2)) else (grottolaw01_WordDigits.j0 k a1 true))))) = some r := h
  clear h
  by_cases c3 : (a1.size : Int) > 4096
  · rw [if_pos c3] at H
    have c3b0 : decide (4096 < (a1.size : Int)) = true := decide_eq_true c3
    have c3b1 : decide (4096 < a1.size) = true := decide_eq_true (by omega)
    clear c3
    replace H := Option.bind_eq_some_iff.mp H
    obtain ⟨t298, A40, H⟩ := H
    replace H : (some t298) = some r := H
    have A4 := Aside0.mk A40
    clear A40
    obtain rfl := Option.some.inj H
    go_enter Tryd.func11, Tryd.ntmps11
    go_wp2_with (first | ((with_reducible refine gate_callee (f := 12) rfl ?_); refine zgo (some 12) Tryd.func12 #[] ?_; (with_reducible refine (grottolaw01_live.calls k  t298 _ (tbl HT.tab HB) A4.out).mono ?_); rintro e w5 ⟨rfl, hb⟩; refine ⟨_, rfl, ?_⟩; replace HB := zbs HB hb; (try clear hb); (try clear hb2); (try clear hk); (try clear hi)))
    go_ret
    exact ⟨by first | rfl | (simp [errW_none, errW_some] <;> rfl) | (simp [*, errW_none, errW_some] <;> rfl), zb HB⟩
  · rw [if_neg c3] at H
    have c3b0 : decide (4096 < (a1.size : Int)) = false := decide_eq_false c3
    have c3b1 : decide (4096 < a1.size) = false := decide_eq_false (by omega)
    clear c3
    replace H := Option.bind_eq_some_iff.mp H
    obtain ⟨t299, A60, H⟩ := H
    replace H : ((word_Number.f t299).bind fun bt300 => (if bt300.1 = a0 then (grottolaw01_WordDigits.j0 k a1 (!bt300.2)) else (grottolaw01_WordDigits.j0 k a1 true))) = some r := H
    have A6 := Aside0.mk A60
    clear A60
    replace H := Option.bind_eq_some_iff.mp H
    obtain ⟨⟨t300, t301⟩, A70, H⟩ := H
    replace H : (if t300 = a0 then (grottolaw01_WordDigits.j0 k a1 (!t301)) else (grottolaw01_WordDigits.j0 k a1 true)) = some r := H
    have A7 := Aside0.mk A70
    clear A70
    have HC8 := Aside0.mk H
    clear H
    go_enter Tryd.func11, Tryd.ntmps11
    go_upto_region 4 with (first | ((with_reducible refine gate_callee (f := 40) rfl ?_); refine zgo (some 15) Tryd.func40 #[.int .u32 a0] ?_; (with_reducible refine (word_Decimal.calls a0 t299 _ (tbl HT.tab HB) A6.out).mono ?_); rintro e w9 ⟨rfl, hb⟩; refine ⟨_, rfl, ?_⟩; replace HB := zbs HB hb; (try clear hb); (try clear hb2); (try clear hk); (try clear hi)) | ((with_reducible refine gate_callee (f := 38) rfl ?_); refine zgo (some 16) Tryd.func38 #[.string t299] ?_; (with_reducible refine (word_Number.calls t299 t300 t301 _ (tbn HT HB) A7.out).mono ?_); rintro e w10 ⟨rfl, hb⟩; refine ⟨_, rfl, ?_⟩; replace HB := zbs HB hb; (try clear hb); (try clear hb2); (try clear hk); (try clear hi)))
    (try simp only [Act.put, List.setIfInBounds_toArray, List.set_cons_zero, List.set_cons_succ])
    go_cut [25] (fun v25 wc => ∃ (kq : Nat) (x25_7 : Bool), v25 = .bool x25_7 ∧ Aside0 (grottolaw01_WordDigits.j0 kq a1 x25_7 = some r) ∧ Aside0 (kq ≤ k) ∧ Aside0 (Below w.heap.size w wc))
    case first =>
      have H := HC8.out
      clear HC8
      by_cases c11 : t300 = a0
      · rw [if_pos c11] at H
        have c11b0 : (t300 == a0) = true := beq_iff_eq.mpr c11
        have c11b1 : (t300 != a0) = false := bne_eq_false_iff_eq.mpr c11
        clear c11
        (first | rw [c11b0] | (simp only [i64_w, i32_w]; rw [c11b0]) | skip)
        have H' := Aside0.mk H
        clear H
        go_wp2
        go_meet
        case rel => exact ⟨_, (!t301), (by first | rfl | (simp; done) | (simp [*]; done)), H', ⟨by first | omega | exact Nat.le_refl _⟩, ⟨zb HB⟩⟩
      · rw [if_neg c11] at H
        have c11b0 : (t300 == a0) = false := beq_eq_false_iff_ne.mpr c11
        have c11b1 : (t300 != a0) = true := bne_iff_ne.mpr c11
        (first | rw [c11b0] | (simp only [i64_w, i32_w]; rw [c11b0]) | skip)
        have H' := Aside0.mk H
        clear H
        go_wp2
        go_meet
        case rel => exact ⟨_, (true), (by first | rfl | (simp; done) | (simp [*]; done)), H', ⟨by first | omega | exact Nat.le_refl _⟩, ⟨zb HB⟩⟩
    case rest =>
      clear HC8
      try clear c1
      try clear p2
      try clear c3
      try clear c3b0
      try clear c3b1
      try clear c4
      try clear c11
      try clear c11b0
      try clear c11b1
      obtain ⟨kq, x25_7, rfl, HA, HJ7, HB⟩ := hcut
      cases kq with
      | zero => exact absurd HA.out (by simp [grottolaw01_WordDigits.j0])
      | succ kj7 =>
        have H := HA.out
        clear HA
        simp only [grottolaw01_WordDigits.j0] at H
        by_cases c12 : x25_7 = true
        · subst c12
          have H1 : (some false) = some r := by rw [if_pos rfl] at H; exact H
          clear H
          have H := H1
          clear H1
          obtain rfl := Option.some.inj H
          go_wp2
          go_ret
          exact ⟨by first | rfl | (simp [errW_none, errW_some] <;> rfl) | (simp [*, errW_none, errW_some] <;> rfl), zb HB⟩
        · replace c12 := Bool.eq_false_iff.mpr c12
          subst c12
          have H1 : ((word_Number.f a1).bind fun bt302 => (if bt302.2 = true then ((word_Decimal.f bt302.1).bind fun t304 => (if t304.toList = a1.toList then ((grottolaw01_live.f kj7).bind fun t305 => (some t305)) else (some false))) else (if bt302.1 = 0 then ((grottolaw01_live.f kj7).bind fun t306 => (some t306)) else (some false)))) = some r := by rw [if_neg (show ¬ (false = true) by decide)] at H; exact H
          clear H
          have H := H1
          clear H1
          replace H := Option.bind_eq_some_iff.mp H
          obtain ⟨⟨t302, t303⟩, A130, H⟩ := H
          replace H : (if t303 = true then ((word_Decimal.f t302).bind fun t304 => (if t304.toList = a1.toList then ((grottolaw01_live.f kj7).bind fun t305 => (some t305)) else (some false))) else (if t302 = 0 then ((grottolaw01_live.f kj7).bind fun t306 => (some t306)) else (some false))) = some r := H
          have A13 := Aside0.mk A130
          clear A130
          by_cases c14 : t303 = true
          · subst c14
            have H1 : ((word_Decimal.f t302).bind fun t304 => (if t304.toList = a1.toList then ((grottolaw01_live.f kj7).bind fun t305 => (some t305)) else (some false))) = some r := by rw [if_pos rfl] at H; exact H
            clear H
            have H := H1
            clear H1
            replace H := Option.bind_eq_some_iff.mp H
            obtain ⟨t304, A150, H⟩ := H
            replace H : (if t304.toList = a1.toList then ((grottolaw01_live.f kj7).bind fun t305 => (some t305)) else (some false)) = some r := H
            have A15 := Aside0.mk A150
            clear A150
            by_cases c16 : t304.toList = a1.toList
            · rw [if_pos c16] at H
              have c16b0 : (t304.toList == a1.toList) = true := beq_iff_eq.mpr c16
              have c16b1 : (t304.toList != a1.toList) = false := bne_eq_false_iff_eq.mpr c16
              clear c16
              replace H := Option.bind_eq_some_iff.mp H
              obtain ⟨t305, A170, H⟩ := H
              replace H : (some t305) = some r := H
              have A17 := Aside0.mk A170
              clear A170
              obtain rfl := Option.some.inj H
              go_wp2_with (first | ((with_reducible refine gate_callee (f := 38) rfl ?_); refine zgo (some 28) Tryd.func38 #[.string a1] ?_; (with_reducible refine (word_Number.calls a1 t302 true _ (tbn HT HB) A13.out).mono ?_); rintro e w18 ⟨rfl, hb⟩; refine ⟨_, rfl, ?_⟩; replace HB := zbs HB hb; (try clear hb); (try clear hb2); (try clear hk); (try clear hi)) | (go_at_call 40; (with_reducible refine (word_Decimal.calls t302 t304 _ (tbl HT.tab HB) A15.out).mono ?_); rintro e w19 ⟨rfl, hb⟩; replace HB := zbs HB hb; (try clear hb); (try clear hb2); (try clear hk); (try clear hi)) | (go_at_call 12; (with_reducible refine (grottolaw01_live.calls kj7  t305 _ (tbl HT.tab HB) A17.out).mono ?_); rintro e w20 ⟨rfl, hb⟩; replace HB := zbs HB hb; (try clear hb); (try clear hb2); (try clear hk); (try clear hi)))
              go_ret
              exact ⟨by first | rfl | (simp [errW_none, errW_some] <;> rfl) | (simp [*, errW_none, errW_some] <;> rfl), zb HB⟩
            · rw [if_neg c16] at H
              have c16b0 : (t304.toList == a1.toList) = false := beq_eq_false_iff_ne.mpr c16
              have c16b1 : (t304.toList != a1.toList) = true := bne_iff_ne.mpr c16
              obtain rfl := Option.some.inj H
              go_wp2_with (first | ((with_reducible refine gate_callee (f := 38) rfl ?_); refine zgo (some 28) Tryd.func38 #[.string a1] ?_; (with_reducible refine (word_Number.calls a1 t302 true _ (tbn HT HB) A13.out).mono ?_); rintro e w21 ⟨rfl, hb⟩; refine ⟨_, rfl, ?_⟩; replace HB := zbs HB hb; (try clear hb); (try clear hb2); (try clear hk); (try clear hi)) | (go_at_call 40; (with_reducible refine (word_Decimal.calls t302 t304 _ (tbl HT.tab HB) A15.out).mono ?_); rintro e w22 ⟨rfl, hb⟩; replace HB := zbs HB hb; (try clear hb); (try clear hb2); (try clear hk); (try clear hi)))
              go_ret
              exact ⟨by first | rfl | (simp [errW_none, errW_some] <;> rfl) | (simp [*, errW_none, errW_some] <;> rfl), zb HB⟩
          · replace c14 := Bool.eq_false_iff.mpr c14
            subst c14
            have H1 : (if t302 = 0 then ((grottolaw01_live.f kj7).bind fun t306 => (some t306)) else (some false)) = some r := by rw [if_neg (show ¬ (false = true) by decide)] at H; exact H
            clear H
            have H := H1
            clear H1
            by_cases c23 : t302 = 0
            · rw [if_pos c23] at H
              have c23b0 : (t302 == 0) = true := beq_iff_eq.mpr c23
              have c23b1 : (t302 != 0) = false := bne_eq_false_iff_eq.mpr c23
              clear c23
              replace H := Option.bind_eq_some_iff.mp H
              obtain ⟨t306, A240, H⟩ := H
              replace H : (some t306) = some r := H
              have A24 := Aside0.mk A240
              clear A240
              obtain rfl := Option.some.inj H
              go_wp2_with (first | ((with_reducible refine gate_callee (f := 38) rfl ?_); refine zgo (some 28) Tryd.func38 #[.string a1] ?_; (with_reducible refine (word_Number.calls a1 t302 false _ (tbn HT HB) A13.out).mono ?_); rintro e w25 ⟨rfl, hb⟩; refine ⟨_, rfl, ?_⟩; replace HB := zbs HB hb; (try clear hb); (try clear hb2); (try clear hk); (try clear hi)) | (go_at_call 12; (with_reducible refine (grottolaw01_live.calls kj7  t306 _ (tbl HT.tab HB) A24.out).mono ?_); rintro e w26 ⟨rfl, hb⟩; replace HB := zbs HB hb; (try clear hb); (try clear hb2); (try clear hk); (try clear hi)))
              go_ret
              exact ⟨by first | rfl | (simp [errW_none, errW_some] <;> rfl) | (simp [*, errW_none, errW_some] <;> rfl), zb HB⟩
            · rw [if_neg c23] at H
              have c23b0 : (t302 == 0) = false := beq_eq_false_iff_ne.mpr c23
              have c23b1 : (t302 != 0) = true := bne_iff_ne.mpr c23
              obtain rfl := Option.some.inj H
              go_wp2_with (first | ((with_reducible refine gate_callee (f := 38) rfl ?_); refine zgo (some 28) Tryd.func38 #[.string a1] ?_; (with_reducible refine (word_Number.calls a1 t302 false _ (tbn HT HB) A13.out).mono ?_); rintro e w27 ⟨rfl, hb⟩; refine ⟨_, rfl, ?_⟩; replace HB := zbs HB hb; (try clear hb); (try clear hb2); (try clear hk); (try clear hi)))
              go_ret
              exact ⟨by first | rfl | (simp [errW_none, errW_some] <;> rfl) | (simp [*, errW_none, errW_some] <;> rfl), zb HB⟩


end Go.Proofs.YtefdfmnlcfopaaaDoor.PQ
