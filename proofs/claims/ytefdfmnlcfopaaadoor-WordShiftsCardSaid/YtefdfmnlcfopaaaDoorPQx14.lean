-- by a program of this claim
import Derived.Test.YtefdfmnlcfopaaaDoorPQx0
import Derived.Test.YtefdfmnlcfopaaaDoorPQx1
import Derived.Test.YtefdfmnlcfopaaaDoorPQx8
namespace Go.Proofs.YtefdfmnlcfopaaaDoor.PQ
open Go.RowKit Go.Proofs.YtefdfmnlcfopaaaDoorW.PrintWords Go.Proofs.YtefdfmnlcfopaaaDoorW.PrintLast Go.Proofs.YtefdfmnlcfopaaaDoorW.PrintMore Go.Proofs.YtefdfmnlcfopaaaDoor.Z
attribute [local go_sem] max2_int min2_int max_two min_two max_three min_three max_four min_four   -- for this text's walks alone
set_option linter.unusedVariables false
set_option linter.unusedSimpArgs false

/-! ### grottolaw01_WordShifts: function 8 -/
def grottolaw01_WordShifts.f (k : Nat) (a0 : Int) (a1 : Int) (a2 : Int) : Option (Bool) := (word_Shl.f a0 a1).bind fun t253 => ((grottoref01_Shl.f k a0 a1).bind fun t254 => (if t253 = t254 then ((word_Shr.f a0 a1).bind fun t255 => ((grottoref01_Shr.f k a0 a1).bind fun t256 => (if t255 = t256 then ((word_Sar.f a0 a1).bind fun t257 => ((grottoref01_Sar.f k a0 a1).bind fun t258 => (if t257 = t258 then ((word_Extend.f a0 a2).bind fun t259 => ((grottoref01_Extend.f k a0 a2).bind fun t260 => (if t259 = t260 then ((grottolaw01_live.f k).bind fun t261 => (some t261)) else (some false)))) else (some false)))) else (some false)))) else (some false)))
theorem grottolaw01_WordShifts.mono : ∀ a0 a1 a2 k, LeO (grottolaw01_WordShifts.f k a0 a1 a2) (grottolaw01_WordShifts.f (k + 1) a0 a1 a2) := by
  intro a0 a1 a2 k
  unfold grottolaw01_WordShifts.f
  repeat' first
      | (with_reducible exact grottolaw01_live.mono _)
      | (with_reducible exact grottoref01_Extend.mono _ _ _)
      | (with_reducible exact grottoref01_Sar.mono _ _ _)
      | (with_reducible exact grottoref01_Shl.mono _ _ _)
      | (with_reducible exact grottoref01_Shr.mono _ _ _)
      | (with_reducible exact LeO.refl _)
      | (with_reducible exact LeO.none _)
      | (with_reducible refine LeO.ite ?_ ?_)
      | (with_reducible refine LeO.bind ?_ (fun _ => ?_))
      | exact grottolaw01_live.mono _
      | exact grottoref01_Extend.mono _ _ _
      | exact grottoref01_Sar.mono _ _ _
      | exact grottoref01_Shl.mono _ _ _
      | exact grottoref01_Shr.mono _ _ _
      | exact LeO.none _
      | refine LeO.ite ?_ ?_
      | refine LeO.bind ?_ (fun _ => ?_)
set_option maxHeartbeats 8000000 in
set_option maxRecDepth 100000 in
theorem grottolaw01_WordShifts.calls (k : Nat) (a0 : Int) (a1 : Int) (a2 : Int) (r : Bool) (w : World) (HT : Tab w) (h : grottolaw01_WordShifts.f k a0 a1 a2 = some r) :
    Calls Tryd.prog 8 #[.int .u32 a0, .int .u32 a1, .int .i64 a2] w fun e w' => e = .returned (.bool r) ∧ Below w.heap.size w w' := by
  have HB := Aside0.mk (Below.refl w.heap.size w)
  have H : ((word_Shl.f a0 a1).bind fun t253 => ((grottoref01_Shl.f k a0 a1).bind fun t254 => (if t253 = t254 then ((word_Shr.f a0 a1).bind fun t255 => ((grottoref01_Shr.f k a0 a1).bind fun t256 => (if t255 = t256 then ((word_Sar.f a0 a1).bind fun t257 => ((grottoref01_Sar.f k a0 a1).bind fun t258 => (if t257 = t258 then ((word_Extend.f a0 a2).bind fun t259 => ((grottoref01_Extend.f k a0 a2).bind fun t260 => (if t259 = t260 then ((grottolaw01_live.f k).bind fun t261 => (some t261)) else (some false)))) else (some false)))) else (some false)))) else (some false)))) = some r := h
  clear h
  replace H := Option.bind_eq_some_iff.mp H
  obtain ⟨t253, A40, H⟩ := H
  replace H : ((grottoref01_Shl.f k a0 a1).bind fun t254 => (if t253 = t254 then ((word_Shr.f a0 a1).bind fun t255 => ((grottoref01_Shr.f k a0 a1).bind fun t256 => (if t255 = t256 then ((word_Sar.f a0 a1).bind fun t257 => ((grottoref01_Sar.f k a0 a1).bind fun t258 => (if t257 = t258 then ((word_Extend.f a0 a2).bind fun t259 => ((grottoref01_Extend.f k a0 a2).bind fun t260 => (if t259 = t260 then ((grottolaw01_live.f k).bind fun t261 => (some t261)) else (some false)))) else (some false)))) else (some false)))) else (some false))) = some r := H
  have A4 := Aside0.mk A40
  clear A40
  replace H := Option.bind_eq_some_iff.mp H
  obtain ⟨t254, A50, H⟩ := H
  replace H : (if t253 = t254 then ((word_Shr.f a0 a1).bind fun t255 => ((grottoref01_Shr.f k a0 a1).bind fun t256 => (if t255 = t256 then ((word_Sar.f a0 a1).bind fun t257 => ((grottoref01_Sar.f k a0 a1).bind fun t258 => (if t257 = t258 then ((word_Extend.f a0 a2).bind fun t259 => ((grottoref01_Extend.f k a0 a2).bind fun t260 => (if t259 = t260 then ((grottolaw01_live.f k).bind fun t261 => (some t261)) else (some false)))) else (some false)))) else (some false)))) else (some false)) = some r := H
  have A5 := Aside0.mk A50
  clear A50
  by_cases c6 : t253 = t254
  · rw [if_pos c6] at H
    have c6b0 : (t253 == t254) = true := beq_iff_eq.mpr c6
    have c6b1 : (t253 != t254) = false := bne_eq_false_iff_eq.mpr c6
    clear c6
    replace H := Option.bind_eq_some_iff.mp H
    obtain ⟨t255, A70, H⟩ := H
    replace H : ((grottoref01_Shr.f k a0 a1).bind fun t256 => (if t255 = t256 then ((word_Sar.f a0 a1).bind fun t257 => ((grottoref01_Sar.f k a0 a1).bind fun t258 => (if t257 = t258 then ((word_Extend.f a0 a2).bind fun t259 => ((grottoref01_Extend.f k a0 a2).bind fun t260 => (if t259 = t260 then ((grottolaw01_live.f k).bind fun t261 => (some t261)) else (some false)))) else (some false)))) else (some false))) = some r := H
    have A7 := Aside0.mk A70
    clear A70
    replace H := Option.bind_eq_some_iff.mp H
    obtain ⟨t256, A80, H⟩ := H
    replace H : (if t255 = t256 then ((word_Sar.f a0 a1).bind fun t257 => ((grottoref01_Sar.f k a0 a1).bind fun t258 => (if t257 = t258 then ((word_Extend.f a0 a2).bind fun t259 => ((grottoref01_Extend.f k a0 a2).bind fun t260 => (if t259 = t260 then ((grottolaw01_live.f k).bind fun t261 => (some t261)) else (some false)))) else (some false)))) else (some false)) = some r := H
    have A8 := Aside0.mk A80
    clear A80
    by_cases c9 : t255 = t256
    · rw [if_pos c9] at H
      have c9b0 : (t255 == t256) = true := beq_iff_eq.mpr c9
      have c9b1 : (t255 != t256) = false := bne_eq_false_iff_eq.mpr c9
      clear c9
      replace H := Option.bind_eq_some_iff.mp H
      obtain ⟨t257, A100, H⟩ := H
      replace H : ((grottoref01_Sar.f k a0 a1).bind fun t258 => (if t257 = t258 then ((word_Extend.f a0 a2).bind fun t259 => ((grottoref01_Extend.f k a0 a2).bind fun t260 => (if t259 = t260 then ((grottolaw01_live.f k).bind fun t261 => (some t261)) else (some false)))) else (some false))) = some r := H
      have A10 := Aside0.mk A100
      clear A100
      replace H := Option.bind_eq_some_iff.mp H
      obtain ⟨t258, A110, H⟩ := H
      replace H : (if t257 = t258 then ((word_Extend.f a0 a2).bind fun t259 => ((grottoref01_Extend.f k a0 a2).bind fun t260 => (if t259 = t260 then ((grottolaw01_live.f k).bind fun t261 => (some t261)) else (some false)))) else (some false)) = some r := H
      have A11 := Aside0.mk A110
      clear A110
      by_cases c12 : t257 = t258
      · rw [if_pos c12] at H
        have c12b0 : (t257 == t258) = true := beq_iff_eq.mpr c12
        have c12b1 : (t257 != t258) = false := bne_eq_false_iff_eq.mpr c12
        clear c12
        replace H := Option.bind_eq_some_iff.mp H
        obtain ⟨t259, A130, H⟩ := H
        replace H : ((grottoref01_Extend.f k a0 a2).bind fun t260 => (if t259 = t260 then ((grottolaw01_live.f k).bind fun t261 => (some t261)) else (some false))) = some r := H
        have A13 := Aside0.mk A130
        clear A130
        replace H := Option.bind_eq_some_iff.mp H
        obtain ⟨t260, A140, H⟩ := H
        replace H : (if t259 = t260 then ((grottolaw01_live.f k).bind fun t261 => (some t261)) else (some false)) = some r := H
        have A14 := Aside0.mk A140
        clear A140
        by_cases c15 : t259 = t260
        · rw [if_pos c15] at H
          have c15b0 : (t259 == t260) = true := beq_iff_eq.mpr c15
          have c15b1 : (t259 != t260) = false := bne_eq_false_iff_eq.mpr c15
          clear c15
          replace H := Option.bind_eq_some_iff.mp H
          obtain ⟨t261, A160, H⟩ := H
          replace H : (some t261) = some r := H
          have A16 := Aside0.mk A160
          clear A160
          obtain rfl := Option.some.inj H
          go_enter Tryd.func8, Tryd.ntmps8
          go_wp2_with (first | ((with_reducible refine gate_callee (f := 28) rfl ?_); refine zgo (some 9) Tryd.func28 #[.int .u32 a0, .int .u32 a1] ?_; (with_reducible refine (word_Shl.calls a0 a1 t253 _ A4.out).mono ?_); rintro e w' ⟨rfl, ⟨nd, rfl⟩⟩; refine ⟨_, rfl, ?_⟩) | ((with_reducible refine gate_callee (f := 29) rfl ?_); refine zgo (some 12) Tryd.func29 #[.int .u32 a0, .int .u32 a1] ?_; (with_reducible refine (grottoref01_Shl.calls k a0 a1 t254 _ A5.out).mono ?_); rintro e w' ⟨rfl, ⟨nd, rfl⟩⟩; refine ⟨_, rfl, ?_⟩) | (go_at_call 30; (with_reducible refine (word_Shr.calls a0 a1 t255 _ A7.out).mono ?_); rintro e w' ⟨rfl, ⟨nd, rfl⟩⟩) | (go_at_call 31; (with_reducible refine (grottoref01_Shr.calls k a0 a1 t256 _ A8.out).mono ?_); rintro e w' ⟨rfl, ⟨nd, rfl⟩⟩) | (go_at_call 32; (with_reducible refine (word_Sar.calls a0 a1 t257 _ A10.out).mono ?_); rintro e w17 ⟨rfl, hb⟩; replace HB := zbs HB hb; (try clear hb); (try clear hb2); (try clear hk); (try clear hi)) | (go_at_call 33; (with_reducible refine (grottoref01_Sar.calls k a0 a1 t258 _ A11.out).mono ?_); rintro e w' ⟨rfl, ⟨nd, rfl⟩⟩) | (go_at_call 34; (with_reducible refine (word_Extend.calls a0 a2 t259 _ A13.out).mono ?_); rintro e w' ⟨rfl, ⟨nd, rfl⟩⟩) | (go_at_call 35; (with_reducible refine (grottoref01_Extend.calls k a0 a2 t260 _ A14.out).mono ?_); rintro e w' ⟨rfl, ⟨nd, rfl⟩⟩) | (go_at_call 12; (with_reducible refine (grottolaw01_live.calls k  t261 _ (tbl HT HB) A16.out).mono ?_); rintro e w18 ⟨rfl, hb⟩; replace HB := zbs HB hb; (try clear hb); (try clear hb2); (try clear hk); (try clear hi)))
          go_ret
          exact ⟨by first | rfl | (simp [errW_none, errW_some] <;> rfl) | (simp [*, errW_none, errW_some] <;> rfl), zb HB⟩
        · rw [if_neg c15] at H
          have c15b0 : (t259 == t260) = false := beq_eq_false_iff_ne.mpr c15
          have c15b1 : (t259 != t260) = true := bne_iff_ne.mpr c15
          obtain rfl := Option.some.inj H
          go_enter Tryd.func8, Tryd.ntmps8
          go_wp2_with (first | ((with_reducible refine gate_callee (f := 28) rfl ?_); refine zgo (some 9) Tryd.func28 #[.int .u32 a0, .int .u32 a1] ?_; (with_reducible refine (word_Shl.calls a0 a1 t253 _ A4.out).mono ?_); rintro e w' ⟨rfl, ⟨nd, rfl⟩⟩; refine ⟨_, rfl, ?_⟩) | ((with_reducible refine gate_callee (f := 29) rfl ?_); refine zgo (some 12) Tryd.func29 #[.int .u32 a0, .int .u32 a1] ?_; (with_reducible refine (grottoref01_Shl.calls k a0 a1 t254 _ A5.out).mono ?_); rintro e w' ⟨rfl, ⟨nd, rfl⟩⟩; refine ⟨_, rfl, ?_⟩) | (go_at_call 30; (with_reducible refine (word_Shr.calls a0 a1 t255 _ A7.out).mono ?_); rintro e w' ⟨rfl, ⟨nd, rfl⟩⟩) | (go_at_call 31; (with_reducible refine (grottoref01_Shr.calls k a0 a1 t256 _ A8.out).mono ?_); rintro e w' ⟨rfl, ⟨nd, rfl⟩⟩) | (go_at_call 32; (with_reducible refine (word_Sar.calls a0 a1 t257 _ A10.out).mono ?_); rintro e w19 ⟨rfl, hb⟩; replace HB := zbs HB hb; (try clear hb); (try clear hb2); (try clear hk); (try clear hi)) | (go_at_call 33; (with_reducible refine (grottoref01_Sar.calls k a0 a1 t258 _ A11.out).mono ?_); rintro e w' ⟨rfl, ⟨nd, rfl⟩⟩) | (go_at_call 34; (with_reducible refine (word_Extend.calls a0 a2 t259 _ A13.out).mono ?_); rintro e w' ⟨rfl, ⟨nd, rfl⟩⟩) | (go_at_call 35; (with_reducible refine (grottoref01_Extend.calls k a0 a2 t260 _ A14.out).mono ?_); rintro e w' ⟨rfl, ⟨nd, rfl⟩⟩))
          go_ret
          exact ⟨by first | rfl | (simp [errW_none, errW_some] <;> rfl) | (simp [*, errW_none, errW_some] <;> rfl), zb HB⟩
      · rw [if_neg c12] at H
        have c12b0 : (t257 == t258) = false := beq_eq_false_iff_ne.mpr c12
        have c12b1 : (t257 != t258) = true := bne_iff_ne.mpr c12
        obtain rfl := Option.some.inj H
        go_enter Tryd.func8, Tryd.ntmps8
        go_wp2_with (first | ((with_reducible refine gate_callee (f := 28) rfl ?_); refine zgo (some 9) Tryd.func28 #[.int .u32 a0, .int .u32 a1] ?_; (with_reducible refine (word_Shl.calls a0 a1 t253 _ A4.out).mono ?_); rintro e w' ⟨rfl, ⟨nd, rfl⟩⟩; refine ⟨_, rfl, ?_⟩) | ((with_reducible refine gate_callee (f := 29) rfl ?_); refine zgo (some 12) Tryd.func29 #[.int .u32 a0, .int .u32 a1] ?_; (with_reducible refine (grottoref01_Shl.calls k a0 a1 t254 _ A5.out).mono ?_); rintro e w' ⟨rfl, ⟨nd, rfl⟩⟩; refine ⟨_, rfl, ?_⟩) | (go_at_call 30; (with_reducible refine (word_Shr.calls a0 a1 t255 _ A7.out).mono ?_); rintro e w' ⟨rfl, ⟨nd, rfl⟩⟩) | (go_at_call 31; (with_reducible refine (grottoref01_Shr.calls k a0 a1 t256 _ A8.out).mono ?_); rintro e w' ⟨rfl, ⟨nd, rfl⟩⟩) | (go_at_call 32; (with_reducible refine (word_Sar.calls a0 a1 t257 _ A10.out).mono ?_); rintro e w20 ⟨rfl, hb⟩; replace HB := zbs HB hb; (try clear hb); (try clear hb2); (try clear hk); (try clear hi)) | (go_at_call 33; (with_reducible refine (grottoref01_Sar.calls k a0 a1 t258 _ A11.out).mono ?_); rintro e w' ⟨rfl, ⟨nd, rfl⟩⟩))
        go_ret
        exact ⟨by first | rfl | (simp [errW_none, errW_some] <;> rfl) | (simp [*, errW_none, errW_some] <;> rfl), zb HB⟩
    · rw [if_neg c9] at H
      have c9b0 : (t255 == t256) = false := beq_eq_false_iff_ne.mpr c9
      have c9b1 : (t255 != t256) = true := bne_iff_ne.mpr c9
      obtain rfl := Option.some.inj H
      go_enter Tryd.func8, Tryd.ntmps8
      go_wp2_with (first | ((with_reducible refine gate_callee (f := 28) rfl ?_); refine zgo (some 9) Tryd.func28 #[.int .u32 a0, .int .u32 a1] ?_; (with_reducible refine (word_Shl.calls a0 a1 t253 _ A4.out).mono ?_); rintro e w' ⟨rfl, ⟨nd, rfl⟩⟩; refine ⟨_, rfl, ?_⟩) | ((with_reducible refine gate_callee (f := 29) rfl ?_); refine zgo (some 12) Tryd.func29 #[.int .u32 a0, .int .u32 a1] ?_; (with_reducible refine (grottoref01_Shl.calls k a0 a1 t254 _ A5.out).mono ?_); rintro e w' ⟨rfl, ⟨nd, rfl⟩⟩; refine ⟨_, rfl, ?_⟩) | (go_at_call 30; (with_reducible refine (word_Shr.calls a0 a1 t255 _ A7.out).mono ?_); rintro e w' ⟨rfl, ⟨nd, rfl⟩⟩) | (go_at_call 31; (with_reducible refine (grottoref01_Shr.calls k a0 a1 t256 _ A8.out).mono ?_); rintro e w' ⟨rfl, ⟨nd, rfl⟩⟩))
      go_ret
      exact ⟨by first | rfl | (simp [errW_none, errW_some] <;> rfl) | (simp [*, errW_none, errW_some] <;> rfl), zb HB⟩
  · rw [if_neg c6] at H
    have c6b0 : (t253 == t254) = false := beq_eq_false_iff_ne.mpr c6
    have c6b1 : (t253 != t254) = true := bne_iff_ne.mpr c6
    obtain rfl := Option.some.inj H
    go_enter Tryd.func8, Tryd.ntmps8
    go_wp2_with (first | ((with_reducible refine gate_callee (f := 28) rfl ?_); refine zgo (some 9) Tryd.func28 #[.int .u32 a0, .int .u32 a1] ?_; (with_reducible refine (word_Shl.calls a0 a1 t253 _ A4.out).mono ?_); rintro e w' ⟨rfl, ⟨nd, rfl⟩⟩; refine ⟨_, rfl, ?_⟩) | ((with_reducible refine gate_callee (f := 29) rfl ?_); refine zgo (some 12) Tryd.func29 #[.int .u32 a0, .int .u32 a1] ?_; (with_reducible refine (grottoref01_Shl.calls k a0 a1 t254 _ A5.out).mono ?_); rintro e w' ⟨rfl, ⟨nd, rfl⟩⟩; refine ⟨_, rfl, ?_⟩))
    go_ret
    exact ⟨by first | rfl | (simp [errW_none, errW_some] <;> rfl) | (simp [*, errW_none, errW_some] <;> rfl), zb HB⟩


end Go.Proofs.YtefdfmnlcfopaaaDoor.PQ
