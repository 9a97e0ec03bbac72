-- by a program of this claim
import Derived.Test.YtefdfmnlcfopaaaDoorPQx0
import Derived.Test.YtefdfmnlcfopaaaDoorPQx1
import Derived.Test.YtefdfmnlcfopaaaDoorPQx8
namespace Go.Proofs.YtefdfmnlcfopaaaDoor.PQ
open Go.RowKit Go.Proofs.YtefdfmnlcfopaaaDoorW.PrintWords Go.Proofs.YtefdfmnlcfopaaaDoorW.PrintLast Go.Proofs.YtefdfmnlcfopaaaDoorW.PrintMore Go.Proofs.YtefdfmnlcfopaaaDoor.Z
attribute [local go_sem] max2_int min2_int max_two min_two max_three min_three max_four min_four   -- for this text's walks alone
set_option linter.unusedVariables false
set_option linter.unusedSimpArgs false

/-! ### grottolaw01_WordDivides: function 4 -/
def grottolaw01_WordDivides.f (k : Nat) (a0 : Int) (a1 : Int) : Option (Bool) := (word_Div.f a0 a1).bind fun bt198 => ((word_Mod.f a0 a1).bind fun bt200 => ((grottoref01_Div.f a0 a1).bind fun bt202 => ((grottoref01_Mod.f a0 a1).bind fun bt204 => (if bt198.1 = bt202.1 then (if bt200.1 = bt204.1 then ((grottolaw01_num.f bt198.2).bind fun t206 => (if t206 = bt202.2 then ((grottolaw01_num.f bt200.2).bind fun t207 => (if t207 = bt204.2 then ((grottolaw01_live.f k).bind fun t208 => (some t208)) else (some false))) else (some false))) else (some false)) else (some false)))))
theorem grottolaw01_WordDivides.mono : ∀ a0 a1 k, LeO (grottolaw01_WordDivides.f k a0 a1) (grottolaw01_WordDivides.f (k + 1) a0 a1) := by
  intro a0 a1 k
  unfold grottolaw01_WordDivides.f
  repeat' first
      | (with_reducible exact grottolaw01_live.mono _)
      | (with_reducible exact LeO.refl _)
      | (with_reducible exact LeO.none _)
      | (with_reducible refine LeO.ite ?_ ?_)
      | (with_reducible refine LeO.bind ?_ (fun _ => ?_))
      | exact grottolaw01_live.mono _
      | exact LeO.none _
      | refine LeO.ite ?_ ?_
      | refine LeO.bind ?_ (fun _ => ?_)
set_option maxHeartbeats 8000000 in
set_option maxRecDepth 100000 in
theorem grottolaw01_WordDivides.calls (k : Nat) (a0 : Int) (a1 : Int) (r : Bool) (w : World) (HT : Tab w) (h : grottolaw01_WordDivides.f k a0 a1 = some r) :
    Calls Tryd.prog 4 #[.int .u32 a0, .int .u32 a1] w fun e w' => e = .returned (.bool r) ∧ Below w.heap.size w w' := by
  have HB := Aside0.mk (Below.refl w.heap.size w)
  have H : ((word_Div.f a0 a1).bind fun bt198 => ((word_Mod.f a0 a1).bind fun bt200 => ((grottoref01_Div.f a0 a1).bind fun bt202 => ((grottoref01_Mod.f a0 a1).bind fun bt204 => (if bt198.1 = bt202.1 then (if bt200.1 = bt204.1 then ((grottolaw01_num.f bt198.2).bind fun t206 => (if t206 = bt202.2 then ((grottolaw01_num.f bt200.2).bind fun t207 => (if t207 = bt204.2 then ((grottolaw01_live.f k).bind fun t208 => (some t208)) else (some false))) else (some false))) else (some false)) else (some false)))))) = some r := h
  clear h
  replace H := Option.bind_eq_some_iff.mp H
  obtain ⟨⟨t198, t199⟩, A30, H⟩ := H
  replace H : ((word_Mod.f a0 a1).bind fun bt200 => ((grottoref01_Div.f a0 a1).bind fun bt202 => ((grottoref01_Mod.f a0 a1).bind fun bt204 => (if t198 = bt202.1 then (if bt200.1 = bt204.1 then ((grottolaw01_num.f t199).bind fun t206 => (if t206 = bt202.2 then ((grottolaw01_num.f bt200.2).bind fun t207 => (if t207 = bt204.2 then ((grottolaw01_live.f k).bind fun t208 => (some t208)) else (some false))) else (some false))) else (some false)) else (some false))))) = some r := H
  have A3 := Aside0.mk A30
  clear A30
  replace H := Option.bind_eq_some_iff.mp H
  obtain ⟨⟨t200, t201⟩, A40, H⟩ := H
  replace H : ((grottoref01_Div.f a0 a1).bind fun bt202 => ((grottoref01_Mod.f a0 a1).bind fun bt204 => (if t198 = bt202.1 then (if t200 = bt204.1 then ((grottolaw01_num.f t199).bind fun t206 => (if t206 = bt202.2 then ((grottolaw01_num.f t201).bind fun t207 => (if t207 = bt204.2 then ((grottolaw01_live.f k).bind fun t208 => (some t208)) else (some false))) else (some false))) else (some false)) else (some false)))) = some r := H
  have A4 := Aside0.mk A40
  clear A40
  replace H := Option.bind_eq_some_iff.mp H
  obtain ⟨⟨t202, t203⟩, A50, H⟩ := H
  replace H : ((grottoref01_Mod.f a0 a1).bind fun bt204 => (if t198 = t202 then (if t200 = bt204.1 then ((grottolaw01_num.f t199).bind fun t206 => (if t206 = t203 then ((grottolaw01_num.f t201).bind fun t207 => (if t207 = bt204.2 then ((grottolaw01_live.f k).bind fun t208 => (some t208)) else (some false))) else (some false))) else (some false)) else (some false))) = some r := H
  have A5 := Aside0.mk A50
  clear A50
  replace H := Option.bind_eq_some_iff.mp H
  obtain ⟨⟨t204, t205⟩, A60, H⟩ := H
  replace H : (if t198 = t202 then (if t200 = t204 then ((grottolaw01_num.f t199).bind fun t206 => (if t206 = t203 then ((grottolaw01_num.f t201).bind fun t207 => (if t207 = t205 then ((grottolaw01_live.f k).bind fun t208 => (some t208)) else (some false))) else (some false))) else (some false)) else (some false)) = some r := H
  have A6 := Aside0.mk A60
  clear A60
  by_cases c7 : t198 = t202
  · rw [if_pos c7] at H
    have c7b0 : (t198 == t202) = true := beq_iff_eq.mpr c7
    have c7b1 : (t198 != t202) = false := bne_eq_false_iff_eq.mpr c7
    clear c7
    by_cases c8 : t200 = t204
    · rw [if_pos c8] at H
      have c8b0 : (t200 == t204) = true := beq_iff_eq.mpr c8
      have c8b1 : (t200 != t204) = false := bne_eq_false_iff_eq.mpr c8
      clear c8
      replace H := Option.bind_eq_some_iff.mp H
      obtain ⟨t206, A90, H⟩ := H
      replace H : (if t206 = t203 then ((grottolaw01_num.f t201).bind fun t207 => (if t207 = t205 then ((grottolaw01_live.f k).bind fun t208 => (some t208)) else (some false))) else (some false)) = some r := H
      have A9 := Aside0.mk A90
      clear A90
      by_cases c10 : t206 = t203
      · rw [if_pos c10] at H
        have c10b0 : (t206 == t203) = true := beq_iff_eq.mpr c10
        have c10b1 : (t206 != t203) = false := bne_eq_false_iff_eq.mpr c10
        clear c10
        replace H := Option.bind_eq_some_iff.mp H
        obtain ⟨t207, A110, H⟩ := H
        replace H : (if t207 = t205 then ((grottolaw01_live.f k).bind fun t208 => (some t208)) else (some false)) = some r := H
        have A11 := Aside0.mk A110
        clear A110
        by_cases c12 : t207 = t205
        · rw [if_pos c12] at H
          have c12b0 : (t207 == t205) = true := beq_iff_eq.mpr c12
          have c12b1 : (t207 != t205) = false := bne_eq_false_iff_eq.mpr c12
          clear c12
          replace H := Option.bind_eq_some_iff.mp H
          obtain ⟨t208, A130, H⟩ := H
          replace H : (some t208) = some r := H
          have A13 := Aside0.mk A130
          clear A130
          obtain rfl := Option.some.inj H
          go_enter Tryd.func4, Tryd.ntmps4
          go_wp2_with (first | ((with_reducible refine gate_callee (f := 21) rfl ?_); refine zgo (some 16) Tryd.func21 #[.int .u32 a0, .int .u32 a1] ?_; (with_reducible refine (word_Div.calls a0 a1 t198 t199 _ A3.out).mono ?_); rintro e w' ⟨rfl, ⟨nd, rfl⟩⟩; refine ⟨_, rfl, ?_⟩) | ((with_reducible refine gate_callee (f := 22) rfl ?_); refine zgo (some 22) Tryd.func22 #[.int .u32 a0, .int .u32 a1] ?_; (with_reducible refine (word_Mod.calls a0 a1 t200 t201 _ A4.out).mono ?_); rintro e w' ⟨rfl, ⟨nd, rfl⟩⟩; refine ⟨_, rfl, ?_⟩) | ((with_reducible refine gate_callee (f := 23) rfl ?_); refine zgo (some 28) Tryd.func23 #[.int .u32 a0, .int .u32 a1] ?_; (with_reducible refine (grottoref01_Div.calls a0 a1 t202 t203 _ A5.out).mono ?_); rintro e w' ⟨rfl, ⟨nd, rfl⟩⟩; refine ⟨_, rfl, ?_⟩) | ((with_reducible refine gate_callee (f := 24) rfl ?_); refine zgo (some 34) Tryd.func24 #[.int .u32 a0, .int .u32 a1] ?_; (with_reducible refine (grottoref01_Mod.calls a0 a1 t204 t205 _ A6.out).mono ?_); rintro e w' ⟨rfl, ⟨nd, rfl⟩⟩; refine ⟨_, rfl, ?_⟩) | (go_at_call 17; (with_reducible refine (grottolaw01_num.calls t199 t206 _ A9.out).mono ?_); rintro e w' ⟨rfl, ⟨nd, rfl⟩⟩) | (go_at_call 17; (with_reducible refine (grottolaw01_num.calls t201 t207 _ A11.out).mono ?_); rintro e w' ⟨rfl, ⟨nd, rfl⟩⟩) | (go_at_call 12; (with_reducible refine (grottolaw01_live.calls k  t208 _ (tbl HT HB) A13.out).mono ?_); rintro e w14 ⟨rfl, hb⟩; replace HB := zbs HB hb; (try clear hb); (try clear hb2); (try clear hk); (try clear hi)))
          go_ret
          exact ⟨by first | rfl | (simp [errW_none, errW_some] <;> rfl) | (simp [*, errW_none, errW_some] <;> rfl), zb HB⟩
        · rw [if_neg c12] at H
          have c12b0 : (t207 == t205) = false := beq_eq_false_iff_ne.mpr c12
          have c12b1 : (t207 != t205) = true := bne_iff_ne.mpr c12
          obtain rfl := Option.some.inj H
          go_enter Tryd.func4, Tryd.ntmps4
          go_wp2_with (first | ((with_reducible refine gate_callee (f := 21) rfl ?_); refine zgo (some 16) Tryd.func21 #[.int .u32 a0, .int .u32 a1] ?_; (with_reducible refine (word_Div.calls a0 a1 t198 t199 _ A3.out).mono ?_); rintro e w' ⟨rfl, ⟨nd, rfl⟩⟩; refine ⟨_, rfl, ?_⟩) | ((with_reducible refine gate_callee (f := 22) rfl ?_); refine zgo (some 22) Tryd.func22 #[.int .u32 a0, .int .u32 a1] ?_; (with_reducible refine (word_Mod.calls a0 a1 t200 t201 _ A4.out).mono ?_); rintro e w' ⟨rfl, ⟨nd, rfl⟩⟩; refine ⟨_, rfl, ?_⟩) | ((with_reducible refine gate_callee (f := 23) rfl ?_); refine zgo (some 28) Tryd.func23 #[.int .u32 a0, .int .u32 a1] ?_; (with_reducible refine (grottoref01_Div.calls a0 a1 t202 t203 _ A5.out).mono ?_); rintro e w' ⟨rfl, ⟨nd, rfl⟩⟩; refine ⟨_, rfl, ?_⟩) | ((with_reducible refine gate_callee (f := 24) rfl ?_); refine zgo (some 34) Tryd.func24 #[.int .u32 a0, .int .u32 a1] ?_; (with_reducible refine (grottoref01_Mod.calls a0 a1 t204 t205 _ A6.out).mono ?_); rintro e w' ⟨rfl, ⟨nd, rfl⟩⟩; refine ⟨_, rfl, ?_⟩) | (go_at_call 17; (with_reducible refine (grottolaw01_num.calls t199 t206 _ A9.out).mono ?_); rintro e w' ⟨rfl, ⟨nd, rfl⟩⟩) | (go_at_call 17; (with_reducible refine (grottolaw01_num.calls t201 t207 _ A11.out).mono ?_); rintro e w' ⟨rfl, ⟨nd, rfl⟩⟩))
          go_ret
          exact ⟨by first | rfl | (simp [errW_none, errW_some] <;> rfl) | (simp [*, errW_none, errW_some] <;> rfl), zb HB⟩
      · rw [if_neg c10] at H
        have c10b0 : (t206 == t203) = false := beq_eq_false_iff_ne.mpr c10
        have c10b1 : (t206 != t203) = true := bne_iff_ne.mpr c10
        obtain rfl := Option.some.inj H
        go_enter Tryd.func4, Tryd.ntmps4
        go_wp2_with (first | ((with_reducible refine gate_callee (f := 21) rfl ?_); refine zgo (some 16) Tryd.func21 #[.int .u32 a0, .int .u32 a1] ?_; (with_reducible refine (word_Div.calls a0 a1 t198 t199 _ A3.out).mono ?_); rintro e w' ⟨rfl, ⟨nd, rfl⟩⟩; refine ⟨_, rfl, ?_⟩) | ((with_reducible refine gate_callee (f := 22) rfl ?_); refine zgo (some 22) Tryd.func22 #[.int .u32 a0, .int .u32 a1] ?_; (with_reducible refine (word_Mod.calls a0 a1 t200 t201 _ A4.out).mono ?_); rintro e w' ⟨rfl, ⟨nd, rfl⟩⟩; refine ⟨_, rfl, ?_⟩) | ((with_reducible refine gate_callee (f := 23) rfl ?_); refine zgo (some 28) Tryd.func23 #[.int .u32 a0, .int .u32 a1] ?_; (with_reducible refine (grottoref01_Div.calls a0 a1 t202 t203 _ A5.out).mono ?_); rintro e w' ⟨rfl, ⟨nd, rfl⟩⟩; refine ⟨_, rfl, ?_⟩) | ((with_reducible refine gate_callee (f := 24) rfl ?_); refine zgo (some 34) Tryd.func24 #[.int .u32 a0, .int .u32 a1] ?_; (with_reducible refine (grottoref01_Mod.calls a0 a1 t204 t205 _ A6.out).mono ?_); rintro e w' ⟨rfl, ⟨nd, rfl⟩⟩; refine ⟨_, rfl, ?_⟩) | (go_at_call 17; (with_reducible refine (grottolaw01_num.calls t199 t206 _ A9.out).mono ?_); rintro e w' ⟨rfl, ⟨nd, rfl⟩⟩))
        go_ret
        exact ⟨by first | rfl | (simp [errW_none, errW_some] <;> rfl) | (simp [*, errW_none, errW_some] <;> rfl), zb HB⟩
    · rw [if_neg c8] at H
      have c8b0 : (t200 == t204) = false := beq_eq_false_iff_ne.mpr c8
      have c8b1 : (t200 != t204) = true := bne_iff_ne.mpr c8
      obtain rfl := Option.some.inj H
      go_enter Tryd.func4, Tryd.ntmps4
      go_wp2_with (first | ((with_reducible refine gate_callee (f := 21) rfl ?_); refine zgo (some 16) Tryd.func21 #[.int .u32 a0, .int .u32 a1] ?_; (with_reducible refine (word_Div.calls a0 a1 t198 t199 _ A3.out).mono ?_); rintro e w' ⟨rfl, ⟨nd, rfl⟩⟩; refine ⟨_, rfl, ?_⟩) | ((with_reducible refine gate_callee (f := 22) rfl ?_); refine zgo (some 22) Tryd.func22 #[.int .u32 a0, .int .u32 a1] ?_; (with_reducible refine (word_Mod.calls a0 a1 t200 t201 _ A4.out).mono ?_); rintro e w' ⟨rfl, ⟨nd, rfl⟩⟩; refine ⟨_, rfl, ?_⟩) | ((with_reducible refine gate_callee (f := 23) rfl ?_); refine zgo (some 28) Tryd.func23 #[.int .u32 a0, .int .u32 a1] ?_; (with_reducible refine (grottoref01_Div.calls a0 a1 t202 t203 _ A5.out).mono ?_); rintro e w' ⟨rfl, ⟨nd, rfl⟩⟩; refine ⟨_, rfl, ?_⟩) | ((with_reducible refine gate_callee (f := 24) rfl ?_); refine zgo (some 34) Tryd.func24 #[.int .u32 a0, .int .u32 a1] ?_; (with_reducible refine (grottoref01_Mod.calls a0 a1 t204 t205 _ A6.out).mono ?_); rintro e w' ⟨rfl, ⟨nd, rfl⟩⟩; refine ⟨_, rfl, ?_⟩))
      go_ret
      exact ⟨by first | rfl | (simp [errW_none, errW_some] <;> rfl) | (simp [*, errW_none, errW_some] <;> rfl), zb HB⟩
  · rw [if_neg c7] at H
    have c7b0 : (t198 == t202) = false := beq_eq_false_iff_ne.mpr c7
    have c7b1 : (t198 != t202) = true := bne_iff_ne.mpr c7
    obtain rfl := Option.some.inj H
    go_enter Tryd.func4, Tryd.ntmps4
    go_wp2_with (first | ((with_reducible refine gate_callee (f := 21) rfl ?_); refine zgo (some 16) Tryd.func21 #[.int .u32 a0, .int .u32 a1] ?_; (with_reducible refine (word_Div.calls a0 a1 t198 t199 _ A3.out).mono ?_); rintro e w' ⟨rfl, ⟨nd, rfl⟩⟩; refine ⟨_, rfl, ?_⟩) | ((with_reducible refine gate_callee (f := 22) rfl ?_); refine zgo (some 22) Tryd.func22 #[.int .u32 a0, .int .u32 a1] ?_; (with_reducible refine (word_Mod.calls a0 a1 t200 t201 _ A4.out).mono ?_); rintro e w' ⟨rfl, ⟨nd, rfl⟩⟩; refine ⟨_, rfl, ?_⟩) | ((with_reducible refine gate_callee (f := 23) rfl ?_); refine zgo (some 28) Tryd.func23 #[.int .u32 a0, .int .u32 a1] ?_; (with_reducible refine (grottoref01_Div.calls a0 a1 t202 t203 _ A5.out).mono ?_); rintro e w' ⟨rfl, ⟨nd, rfl⟩⟩; refine ⟨_, rfl, ?_⟩) | ((with_reducible refine gate_callee (f := 24) rfl ?_); refine zgo (some 34) Tryd.func24 #[.int .u32 a0, .int .u32 a1] ?_; (with_reducible refine (grottoref01_Mod.calls a0 a1 t204 t205 _ A6.out).mono ?_); rintro e w' ⟨rfl, ⟨nd, rfl⟩⟩; refine ⟨_, rfl, ?_⟩))
    go_ret
    exact ⟨by first | rfl | (simp [errW_none, errW_some] <;> rfl) | (simp [*, errW_none, errW_some] <;> rfl), zb HB⟩


end Go.Proofs.YtefdfmnlcfopaaaDoor.PQ
