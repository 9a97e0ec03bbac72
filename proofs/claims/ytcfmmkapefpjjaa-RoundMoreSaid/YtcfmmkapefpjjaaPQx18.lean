-- by a program of this claim
import Derived.Test.YtcfmmkapefpjjaaPQx0
import Derived.Test.YtcfmmkapefpjjaaPQx3
import Derived.Test.YtcfmmkapefpjjaaPQx11
namespace Go.Proofs.Ytcfmmkapefpjjaa.PQ
open Go.RowKit Go.Proofs.YtcfmmkapefpjjaaW.PrintWords Go.Proofs.YtcfmmkapefpjjaaW.PrintLast Go.Proofs.YtcfmmkapefpjjaaW.PrintMore Go.Proofs.Ytcfmmkapefpjjaa.Z
attribute [local go_sem] max2_int min2_int max_two min_two max_three min_three max_four min_four   -- for this text's walks alone
set_option linter.unusedVariables false
set_option linter.unusedSimpArgs false

/-! ### grottolaw02_RoundMore: function 7 -/
def grottolaw02_RoundMore.f (k : Nat) (a0_0 : Int) (a0_1 : Int) (a1 : Int) (a2 : Int) : Option (Bool) := (round_Pack.f k a0_0 a0_1 false 0 a1 a2 false).bind fun bt382 => ((round_Pack.f k a0_0 a0_1 false 0 a1 a2 true).bind fun bt384 => ((grottolaw02_num.f bt382.2).bind fun t386 => (if t386 = 0 then ((grottolaw02_num.f bt384.2).bind fun t389 => (if t389 = 0 then ((round_Pack.f k a0_0 a0_1 false (a1 / 9223372036854775808) (Go.bits .or .u64 (IntKind.u64.wrap (a1 * 2)) 1) (wrap64 (a2 - 1)) false).bind fun bt390 => (if bt384.1 = bt382.1 then ((grottolaw02_num.f bt390.2).bind fun t392 => (if t392 = 0 then (if bt390.1 = bt384.1 then ((grottolaw02_live.f k).bind fun t393 => (some t393)) else (some false)) else ((grottolaw02_live.f k).bind fun t394 => (some t394)))) else (if bt384.1 = (IntKind.u64.wrap (bt382.1 + 1)) then ((grottolaw02_num.f bt390.2).bind fun t395 => (if t395 = 0 then (if bt390.1 = bt384.1 then ((grottolaw02_live.f k).bind fun t396 => (some t396)) else (some false)) else ((grottolaw02_live.f k).bind fun t397 => (some t397)))) else (some false)))) else (if bt384.1 = 0 then (if 0 ≤ (wrap64 (a0_0 + 2)) then (if (shr .u64 a1 (wrap64 (a0_0 + 2))) = 0 then ((grottolaw02_live.f k).bind fun t398 => (some t398)) else (some false)) else (none)) else (some false)))) else ((grottolaw02_num.f bt384.2).bind fun t387 => (if t387 = 1 then ((grottolaw02_live.f k).bind fun t388 => (some t388)) else (some false))))))
theorem grottolaw02_RoundMore.mono : ∀ a0 a1 a2 a3 k, LeO (grottolaw02_RoundMore.f k a0 a1 a2 a3) (grottolaw02_RoundMore.f (k + 1) a0 a1 a2 a3) := by
  intro a0 a1 a2 a3 k
  unfold grottolaw02_RoundMore.f
  repeat' first
      | (with_reducible exact grottolaw02_live.mono _)
      | (with_reducible exact round_Pack.mono _ _ _ _ _ _ _ _)
      | (with_reducible exact LeO.refl _)
      | (with_reducible exact LeO.none _)
      | (with_reducible refine LeO.ite ?_ ?_)
      | (with_reducible refine LeO.bind ?_ (fun _ => ?_))
      | exact grottolaw02_live.mono _
      | exact round_Pack.mono _ _ _ _ _ _ _ _
      | exact LeO.none _
      | refine LeO.ite ?_ ?_
      | refine LeO.bind ?_ (fun _ => ?_)
set_option maxHeartbeats 8000000 in
set_option maxRecDepth 100000 in
theorem grottolaw02_RoundMore.calls (k : Nat) (a0_0 : Int) (a0_1 : Int) (a1 : Int) (a2 : Int) (r : Bool) (w : World) (h : grottolaw02_RoundMore.f k a0_0 a0_1 a1 a2 = some r) :
    Calls Try.prog 7 #[.agg #[.int .i64 a0_0, .int .i64 a0_1], .int .u64 a1, .int .i64 a2] w fun e w' => e = .returned (.bool r) ∧ Below w.heap.size w w' := by
  have hu23 := Try.underlying23
  have HB := Aside0.mk (Below.refl w.heap.size w)
  have H : ((round_Pack.f k a0_0 a0_1 false 0 a1 a2 false).bind fun bt382 => ((round_Pack.f k a0_0 a0_1 false 0 a1 a2 true).bind fun bt384 => ((grottolaw02_num.f bt382.2).bind fun t386 => (if t386 = 0 then ((grottolaw02_num.f bt384.2).bind fun t389 => (if t389 = 0 then ((round_Pack.f k a0_0 a0_1 false (a1 / 9223372036854775808) (Go.bits .or .u64 (IntKind.u64.wrap (a1 * 2)) 1) (wrap64 (a2 - 1)) false).bind fun bt390 => (if bt384.1 = bt382.1 then ((grottolaw02_num.f bt390.2).bind fun t392 => (if t392 = 0 then (if bt390.1 = bt384.1 then ((grottolaw02_live.f k).bind fun t393 => (some t393)) else (some false)) else ((grottolaw02_live.f k).bind fun t394 => (some t394)))) else (if bt384.1 = (IntKind.u64.wrap (bt382.1 + 1)) then ((grottolaw02_num.f bt390.2).bind fun t395 => (if t395 = 0 then (if bt390.1 = bt384.1 then ((grottolaw02_live.f k).bind fun t396 => (some t396)) else (some false)) else ((grottolaw02_live.f k).bind fun t397 => (some t397)))) else (some false)))) else (if bt384.1 = 0 then (if 0 ≤ (wrap64 (a0_0 + 2)) then (if (shr .u64 a1 (wrap64 (a0_0 + 2))) = 0 then ((grottolaw02_live.f k).bind fun t398 => (some t398)) else (some false)) else (none)) else (some false)))) else ((grottolaw02_num.f bt384.2).bind fun t387 => (if t387 = 1 then ((grottolaw02_live.f k).bind fun t388 => (some t388)) else (some false))))))) = some r := h
  clear h
  replace H := Option.bind_eq_some_iff.mp H
  obtain ⟨⟨t382, t383⟩, A40, H⟩ := H
  replace H : ((round_Pack.f k a0_0 a0_1 false 0 a1 a2 true).bind fun bt384 => ((grottolaw02_num.f t383).bind fun t386 => (if t386 = 0 then ((grottolaw02_num.f bt384.2).bind fun t389 => (if t389 = 0 then ((round_Pack.f k a0_0 a0_1 false (a1 / 9223372036854775808) (Go.bits .or .u64 (IntKind.u64.wrap (a1 * 2)) 1) (wrap64 (a2 - 1)) false).bind fun bt390 => (if bt384.1 = t382 then ((grottolaw02_num.f bt390.2).bind fun t392 => (if t392 = 0 then (if bt390.1 = bt384.1 then ((grottolaw02_live.f k).bind fun t393 => (some t393)) else (some false)) else ((grottolaw02_live.f k).bind fun t394 => (some t394)))) else (if bt384.1 = (IntKind.u64.wrap (t382 + 1)) then ((grottolaw02_num.f bt390.2).bind fun t395 => (if t395 = 0 then (if bt390.1 = bt384.1 then ((grottolaw02_live.f k).bind fun t396 => (some t396)) else (some false)) else ((grottolaw02_live.f k).bind fun t397 => (some t397)))) else (some false)))) else (if bt384.1 = 0 then (if 0 ≤ (wrap64 (a0_0 + 2)) then (if (shr .u64 a1 (wrap64 (a0_0 + 2))) = 0 then ((grottolaw02_live.f k).bind fun t398 => (some t398)) else (some false)) else (none)) else (some false)))) else ((grottolaw02_num.f bt384.2).bind fun t387 => (if t387 = 1 then ((grottolaw02_live.f k).bind fun t388 => (some t388)) else (some false)))))) = some r := H
  have A4 := Aside0.mk A40
  clear A40
  replace H := Option.bind_eq_some_iff.mp H
  obtain ⟨⟨t384, t385⟩, A50, H⟩ := H
  replace H : ((grottolaw02_num.f t383).bind fun t386 => (if t386 = 0 then ((grottolaw02_num.f t385).bind fun t389 => (if t389 = 0 then ((round_Pack.f k a0_0 a0_1 false (a1 / 9223372036854775808) (Go.bits .or .u64 (IntKind.u64.wrap (a1 * 2)) 1) (wrap64 (a2 - 1)) false).bind fun bt390 => (if t384 = t382 then ((grottolaw02_num.f bt390.2).bind fun t392 => (if t392 = 0 then (if bt390.1 = t384 then ((grottolaw02_live.f k).bind fun t393 => (some t393)) else (some false)) else ((grottolaw02_live.f k).bind fun t394 => (some t394)))) else (if t384 = (IntKind.u64.wrap (t382 + 1)) then ((grottolaw02_num.f bt390.2).bind fun t395 => (if t395 = 0 then (if bt390.1 = t384 then ((grottolaw02_live.f k).bind fun t396 => (some t396)) else (some false)) else ((grottolaw02_live.f k).bind fun t397 => (some t397)))) else (some false)))) else (if t384 = 0 then (if 0 ≤ (wrap64 (a0_0 + 2)) then (if (shr .u64 a1 (wrap64 (a0_0 + 2))) = 0 then ((grottolaw02_live.f k).bind fun t398 => (some t398)) else (some false)) else (none)) else (some false)))) else ((grottolaw02_num.f t385).bind fun t387 => (if t387 = 1 then ((grottolaw02_live.f k).bind fun t388 => (some t388)) else (some false))))) = some r := H
  have A5 := Aside0.mk A50
  clear A50
  replace H := Option.bind_eq_some_iff.mp H
  obtain ⟨t386, A60, H⟩ := H
  replace H : (if t386 = 0 then ((grottolaw02_num.f t385).bind fun t389 => (if t389 = 0 then ((round_Pack.f k a0_0 a0_1 false (a1 / 9223372036854775808) (Go.bits .or .u64 (IntKind.u64.wrap (a1 * 2)) 1) (wrap64 (a2 - 1)) false).bind fun bt390 => (if t384 = t382 then ((grottolaw02_num.f bt390.2).bind fun t392 => (if t392 = 0 then (if bt390.1 = t384 then ((grottolaw02_live.f k).bind fun t393 => (some t393)) else (some false)) else ((grottolaw02_live.f k).bind fun t394 => (some t394)))) else (if t384 = (IntKind.u64.wrap (t382 + 1)) then ((grottolaw02_num.f bt390.2).bind fun t395 => (if t395 = 0 then (if bt390.1 = t384 then ((grottolaw02_live.f k).bind fun t396 => (some t396)) else (some false)) else ((grottolaw02_live.f k).bind fun t397 => (some t397)))) else (some false)))) else (if t384 = 0 then (if 0 ≤ (wrap64 (a0_0 + 2)) then (if (shr .u64 a1 (wrap64 (a0_0 + 2))) = 0 then ((grottolaw02_live.f k).bind fun t398 => (some t398)) else (some false)) else (none)) else (some false)))) else ((grottolaw02_num.f t385).bind fun t387 => (if t387 = 1 then ((grottolaw02_live.f k).bind fun t388 => (some t388)) else (some false)))) = some r := H
  have A6 := Aside0.mk A60
  clear A60
  by_cases c7 : t386 = 0
  · rw [if_pos c7] at H
    have c7b0 : (t386 == 0) = true := beq_iff_eq.mpr c7
    have c7b1 : (t386 != 0) = false := bne_eq_false_iff_eq.mpr c7
    clear c7
    replace H := Option.bind_eq_some_iff.mp H
    obtain ⟨t389, A80, H⟩ := H
    replace H : (if t389 = 0 then ((round_Pack.f k a0_0 a0_1 false (a1 / 9223372036854775808) (Go.bits .or .u64 (IntKind.u64.wrap (a1 * 2)) 1) (wrap64 (a2 - 1)) false).bind fun bt390 => (if t384 = t382 then ((grottolaw02_num.f bt390.2).bind fun t392 => (if t392 = 0 then (if bt390.1 = t384 then ((grottolaw02_live.f k).bind fun t393 => (some t393)) else (some false)) else ((grottolaw02_live.f k).bind fun t394 => (some t394)))) else (if t384 = (IntKind.u64.wrap (t382 + 1)) then ((grottolaw02_num.f bt390.2).bind fun t395 => (if t395 = 0 then (if bt390.1 = t384 then ((grottolaw02_live.f k).bind fun t396 => (some t396)) else (some false)) else ((grottolaw02_live.f k).bind fun t397 => (some t397)))) else (some false)))) else (if t384 = 0 then (if 0 ≤ (wrap64 (a0_0 + 2)) then (if (shr .u64 a1 (wrap64 (a0_0 + 2))) = 0 then ((grottolaw02_live.f k).bind fun t398 => (some t398)) else (some false)) else (none)) else (some false))) = some r := H
    have A8 := Aside0.mk A80
    clear A80
    by_cases c9 : t389 = 0
    · rw [if_pos c9] at H
      have c9b0 : (t389 == 0) = true := beq_iff_eq.mpr c9
      have c9b1 : (t389 != 0) = false := bne_eq_false_iff_eq.mpr c9
      clear c9
      replace H := Option.bind_eq_some_iff.mp H
      obtain ⟨⟨t390, t391⟩, A100, H⟩ := H
      replace H : (if t384 = t382 then ((grottolaw02_num.f t391).bind fun t392 => (if t392 = 0 then (if t390 = t384 then ((grottolaw02_live.f k).bind fun t393 => (some t393)) else (some false)) else ((grottolaw02_live.f k).bind fun t394 => (some t394)))) else (if t384 = (IntKind.u64.wrap (t382 + 1)) then ((grottolaw02_num.f t391).bind fun t395 => (if t395 = 0 then (if t390 = t384 then ((grottolaw02_live.f k).bind fun t396 => (some t396)) else (some false)) else ((grottolaw02_live.f k).bind fun t397 => (some t397)))) else (some false))) = some r := H
      have A10 := Aside0.mk A100
      clear A100
      by_cases c11 : t384 = t382
      · rw [if_pos c11] at H
        have c11b0 : (t384 == t382) = true := beq_iff_eq.mpr c11
        have c11b1 : (t384 != t382) = false := bne_eq_false_iff_eq.mpr c11
        clear c11
        replace H := Option.bind_eq_some_iff.mp H
        obtain ⟨t392, A120, H⟩ := H
        replace H : (if t392 = 0 then (if t390 = t384 then ((grottolaw02_live.f k).bind fun t393 => (some t393)) else (some false)) else ((grottolaw02_live.f k).bind fun t394 => (some t394))) = some r := H
        have A12 := Aside0.mk A120
        clear A120
        by_cases c13 : t392 = 0
        · rw [if_pos c13] at H
          have c13b0 : (t392 == 0) = true := beq_iff_eq.mpr c13
          have c13b1 : (t392 != 0) = false := bne_eq_false_iff_eq.mpr c13
          clear c13
          by_cases c14 : t390 = t384
          · rw [if_pos c14] at H
            have c14b0 : (t390 == t384) = true := beq_iff_eq.mpr c14
            have c14b1 : (t390 != t384) = false := bne_eq_false_iff_eq.mpr c14
            clear c14
            replace H := Option.bind_eq_some_iff.mp H
            obtain ⟨t393, A150, H⟩ := H
            replace H : (some t393) = some r := H
            have A15 := Aside0.mk A150
            clear A150
            obtain rfl := Option.some.inj H
            go_enter Try.func7, Try.ntmps7
            go_wp2_with (first | ((with_reducible refine gate_dst (N := 3) rfl ?_); refine zbox (N := 3) (cs := #[.int .i64 a0_0, .int .i64 a0_1]) (t := 23) ?_; intro gb381 hg w16 hbox hb; have BK381 := Aside0.mk hbox; have GW381 := zge hg HB; have GE381 := zge hg HB; replace HB := zbs HB hb; clear hb hbox hg; obtain ⟨hcz17_0, hcz17_1, hfz17_0, hfz17_1⟩ := zc2 BK381) | ((with_reducible refine gate_callee (f := 10) rfl ?_); refine zgo (some 17) Try.func10 #[.agg #[.int .i64 a0_0, .int .i64 a0_1], .bool false, .int .u64 0, .int .u64 a1, .int .i64 a2, .bool false] ?_; (with_reducible refine (round_Pack.calls k a0_0 a0_1 false 0 a1 a2 false t382 t383 _ A4.out).mono ?_); rintro e w18 ⟨rfl, hb⟩; refine ⟨_, rfl, ?_⟩; replace BK381 := zkb BK381 hb; replace HB := zbs HB hb; (try clear hb); (try clear hb2); (try clear hk); (try clear hi); obtain ⟨hcz19_0, hcz19_1, hfz19_0, hfz19_1⟩ := zc2 BK381) | ((with_reducible refine gate_callee (f := 10) rfl ?_); refine zgo (some 24) Try.func10 #[.agg #[.int .i64 a0_0, .int .i64 a0_1], .bool false, .int .u64 0, .int .u64 a1, .int .i64 a2, .bool true] ?_; (with_reducible refine (round_Pack.calls k a0_0 a0_1 false 0 a1 a2 true t384 t385 _ A5.out).mono ?_); rintro e w20 ⟨rfl, hb⟩; refine ⟨_, rfl, ?_⟩; replace BK381 := zkb BK381 hb; replace HB := zbs HB hb; (try clear hb); (try clear hb2); (try clear hk); (try clear hi)) | ((with_reducible refine gate_callee (f := 12) rfl ?_); refine zgo (some 28) Try.func12 #[.int .i64 t383] ?_; (with_reducible refine (grottolaw02_num.calls t383 t386 _ A6.out).mono ?_); rintro e w' ⟨rfl, ⟨nd, rfl⟩⟩; refine ⟨_, rfl, ?_⟩) | ((with_reducible refine gate_callee (f := 12) rfl ?_); refine zgo (some 37) Try.func12 #[.int .i64 t385] ?_; (with_reducible refine (grottolaw02_num.calls t385 t389 _ A8.out).mono ?_); rintro e w' ⟨rfl, ⟨nd, rfl⟩⟩; refine ⟨_, rfl, ?_⟩; obtain ⟨hcz21_0, hcz21_1, hfz21_0, hfz21_1⟩ := zc2 BK381) | ((with_reducible refine gate_callee (f := 10) rfl ?_); refine zgo (some 61) Try.func10 #[.agg #[.int .i64 a0_0, .int .i64 a0_1], .bool false, .int .u64 (a1 / 9223372036854775808), .int .u64 (Go.bits .or .u64 (IntKind.u64.wrap (a1 * 2)) 1), .int .i64 (wrap64 (a2 - 1)), .bool false] ?_; (with_reducible refine (round_Pack.calls k a0_0 a0_1 false (a1 / 9223372036854775808) (Go.bits .or .u64 (IntKind.u64.wrap (a1 * 2)) 1) (wrap64 (a2 - 1)) false t390 t391 _ A10.out).mono ?_); rintro e w22 ⟨rfl, hb⟩; refine ⟨_, rfl, ?_⟩; replace BK381 := zkb BK381 hb; replace HB := zbs HB hb; (try clear hb); (try clear hb2); (try clear hk); (try clear hi)) | (go_at_call 12; (with_reducible refine (grottolaw02_num.calls t391 t392 _ A12.out).mono ?_); rintro e w' ⟨rfl, ⟨nd, rfl⟩⟩) | (go_at_call 13; (with_reducible refine (grottolaw02_live.calls k  t393 _ A15.out).mono ?_); rintro e w23 ⟨rfl, hb⟩; replace BK381 := zkb BK381 hb; replace HB := zbs HB hb; (try clear hb); (try clear hb2); (try clear hk); (try clear hi)))
            go_ret
            exact ⟨by first | rfl | (simp [errW_none, errW_some] <;> rfl) | (simp [*, errW_none, errW_some] <;> rfl), zb HB⟩
          · rw [if_neg c14] at H
            have c14b0 : (t390 == t384) = false := beq_eq_false_iff_ne.mpr c14
            have c14b1 : (t390 != t384) = true := bne_iff_ne.mpr c14
            obtain rfl := Option.some.inj H
            go_enter Try.func7, Try.ntmps7
            go_wp2_with (first | ((with_reducible refine gate_dst (N := 3) rfl ?_); refine zbox (N := 3) (cs := #[.int .i64 a0_0, .int .i64 a0_1]) (t := 23) ?_; intro gb381 hg w24 hbox hb; have BK381 := Aside0.mk hbox; have GW381 := zge hg HB; have GE381 := zge hg HB; replace HB := zbs HB hb; clear hb hbox hg; obtain ⟨hcz25_0, hcz25_1, hfz25_0, hfz25_1⟩ := zc2 BK381) | ((with_reducible refine gate_callee (f := 10) rfl ?_); refine zgo (some 17) Try.func10 #[.agg #[.int .i64 a0_0, .int .i64 a0_1], .bool false, .int .u64 0, .int .u64 a1, .int .i64 a2, .bool false] ?_; (with_reducible refine (round_Pack.calls k a0_0 a0_1 false 0 a1 a2 false t382 t383 _ A4.out).mono ?_); rintro e w26 ⟨rfl, hb⟩; refine ⟨_, rfl, ?_⟩; replace BK381 := zkb BK381 hb; replace HB := zbs HB hb; (try clear hb); (try clear hb2); (try clear hk); (try clear hi); obtain ⟨hcz27_0, hcz27_1, hfz27_0, hfz27_1⟩ := zc2 BK381) | ((with_reducible refine gate_callee (f := 10) rfl ?_); refine zgo (some 24) Try.func10 #[.agg #[.int .i64 a0_0, .int .i64 a0_1], .bool false, .int .u64 0, .int .u64 a1, .int .i64 a2, .bool true] ?_; (with_reducible refine (round_Pack.calls k a0_0 a0_1 false 0 a1 a2 true t384 t385 _ A5.out).mono ?_); rintro e w28 ⟨rfl, hb⟩; refine ⟨_, rfl, ?_⟩; replace BK381 := zkb BK381 hb; replace HB := zbs HB hb; (try clear hb); (try clear hb2); (try clear hk); (try clear hi)) | ((with_reducible refine gate_callee (f := 12) rfl ?_); refine zgo (some 28) Try.func12 #[.int .i64 t383] ?_; (with_reducible refine (grottolaw02_num.calls t383 t386 _ A6.out).mono ?_); rintro e w' ⟨rfl, ⟨nd, rfl⟩⟩; refine ⟨_, rfl, ?_⟩) | ((with_reducible refine gate_callee (f := 12) rfl ?_); refine zgo (some 37) Try.func12 #[.int .i64 t385] ?_; (with_reducible refine (grottolaw02_num.calls t385 t389 _ A8.out).mono ?_); rintro e w' ⟨rfl, ⟨nd, rfl⟩⟩; refine ⟨_, rfl, ?_⟩; obtain ⟨hcz29_0, hcz29_1, hfz29_0, hfz29_1⟩ := zc2 BK381) | ((with_reducible refine gate_callee (f := 10) rfl ?_); refine zgo (some 61) Try.func10 #[.agg #[.int .i64 a0_0, .int .i64 a0_1], .bool false, .int .u64 (a1 / 9223372036854775808), .int .u64 (Go.bits .or .u64 (IntKind.u64.wrap (a1 * 2)) 1), .int .i64 (wrap64 (a2 - 1)), .bool false] ?_; (with_reducible refine (round_Pack.calls k a0_0 a0_1 false (a1 / 9223372036854775808) (Go.bits .or .u64 (IntKind.u64.wrap (a1 * 2)) 1) (wrap64 (a2 - 1)) false t390 t391 _ A10.out).mono ?_); rintro e w30 ⟨rfl, hb⟩; refine ⟨_, rfl, ?_⟩; replace BK381 := zkb BK381 hb; replace HB := zbs HB hb; (try clear hb); (try clear hb2); (try clear hk); (try clear hi)) | (go_at_call 12; (with_reducible refine (grottolaw02_num.calls t391 t392 _ A12.out).mono ?_); rintro e w' ⟨rfl, ⟨nd, rfl⟩⟩))
            go_ret
            exact ⟨by first | rfl | (simp [errW_none, errW_some] <;> rfl) | (simp [*, errW_none, errW_some] <;> rfl), zb HB⟩
        · rw [if_neg c13] at H
          have c13b0 : (t392 == 0) = false := beq_eq_false_iff_ne.mpr c13
          have c13b1 : (t392 != 0) = true := bne_iff_ne.mpr c13
          replace H := Option.bind_eq_some_iff.mp H
          obtain ⟨t394, A310, H⟩ := H
          replace H : (some t394) = some r := H
          have A31 := Aside0.mk A310
          clear A310
          obtain rfl := Option.some.inj H
          go_enter Try.func7, Try.ntmps7
          go_wp2_with (first | ((with_reducible refine gate_dst (N := 3) rfl ?_); refine zbox (N := 3) (cs := #[.int .i64 a0_0, .int .i64 a0_1]) (t := 23) ?_; intro gb381 hg w32 hbox hb; have BK381 := Aside0.mk hbox; have GW381 := zge hg HB; have GE381 := zge hg HB; replace HB := zbs HB hb; clear hb hbox hg; obtain ⟨hcz33_0, hcz33_1, hfz33_0, hfz33_1⟩ := zc2 BK381) | ((with_reducible refine gate_callee (f := 10) rfl ?_); refine zgo (some 17) Try.func10 #[.agg #[.int .i64 a0_0, .int .i64 a0_1], .bool false, .int .u64 0, .int .u64 a1, .int .i64 a2, .bool false] ?_; (with_reducible refine (round_Pack.calls k a0_0 a0_1 false 0 a1 a2 false t382 t383 _ A4.out).mono ?_); rintro e w34 ⟨rfl, hb⟩; refine ⟨_, rfl, ?_⟩; replace BK381 := zkb BK381 hb; replace HB := zbs HB hb; (try clear hb); (try clear hb2); (try clear hk); (try clear hi); obtain ⟨hcz35_0, hcz35_1, hfz35_0, hfz35_1⟩ := zc2 BK381) | ((with_reducible refine gate_callee (f := 10) rfl ?_); refine zgo (some 24) Try.func10 #[.agg #[.int .i64 a0_0, .int .i64 a0_1], .bool false, .int .u64 0, .int .u64 a1, .int .i64 a2, .bool true] ?_; (with_reducible refine (round_Pack.calls k a0_0 a0_1 false 0 a1 a2 true t384 t385 _ A5.out).mono ?_); rintro e w36 ⟨rfl, hb⟩; refine ⟨_, rfl, ?_⟩; replace BK381 := zkb BK381 hb; replace HB := zbs HB hb; (try clear hb); (try clear hb2); (try clear hk); (try clear hi)) | ((with_reducible refine gate_callee (f := 12) rfl ?_); refine zgo (some 28) Try.func12 #[.int .i64 t383] ?_; (with_reducible refine (grottolaw02_num.calls t383 t386 _ A6.out).mono ?_); rintro e w' ⟨rfl, ⟨nd, rfl⟩⟩; refine ⟨_, rfl, ?_⟩) | ((with_reducible refine gate_callee (f := 12) rfl ?_); refine zgo (some 37) Try.func12 #[.int .i64 t385] ?_; (with_reducible refine (grottolaw02_num.calls t385 t389 _ A8.out).mono ?_); rintro e w' ⟨rfl, ⟨nd, rfl⟩⟩; refine ⟨_, rfl, ?_⟩; obtain ⟨hcz37_0, hcz37_1, hfz37_0, hfz37_1⟩ := zc2 BK381) | ((with_reducible refine gate_callee (f := 10) rfl ?_); refine zgo (some 61) Try.func10 #[.agg #[.int .i64 a0_0, .int .i64 a0_1], .bool false, .int .u64 (a1 / 9223372036854775808), .int .u64 (Go.bits .or .u64 (IntKind.u64.wrap (a1 * 2)) 1), .int .i64 (wrap64 (a2 - 1)), .bool false] ?_; (with_reducible refine (round_Pack.calls k a0_0 a0_1 false (a1 / 9223372036854775808) (Go.bits .or .u64 (IntKind.u64.wrap (a1 * 2)) 1) (wrap64 (a2 - 1)) false t390 t391 _ A10.out).mono ?_); rintro e w38 ⟨rfl, hb⟩; refine ⟨_, rfl, ?_⟩; replace BK381 := zkb BK381 hb; replace HB := zbs HB hb; (try clear hb); (try clear hb2); (try clear hk); (try clear hi)) | (go_at_call 12; (with_reducible refine (grottolaw02_num.calls t391 t392 _ A12.out).mono ?_); rintro e w' ⟨rfl, ⟨nd, rfl⟩⟩) | (go_at_call 13; (with_reducible refine (grottolaw02_live.calls k  t394 _ A31.out).mono ?_); rintro e w39 ⟨rfl, hb⟩; replace BK381 := zkb BK381 hb; replace HB := zbs HB hb; (try clear hb); (try clear hb2); (try clear hk); (try clear hi)))
          go_ret
          exact ⟨by first | rfl | (simp [errW_none, errW_some] <;> rfl) | (simp [*, errW_none, errW_some] <;> rfl), zb HB⟩
      · rw [if_neg c11] at H
        have c11b0 : (t384 == t382) = false := beq_eq_false_iff_ne.mpr c11
        have c11b1 : (t384 != t382) = true := bne_iff_ne.mpr c11
        by_cases c40 : t384 = (IntKind.u64.wrap (t382 + 1))
        · rw [if_pos c40] at H
          have c40b0 : (t384 == (IntKind.u64.wrap (t382 + 1))) = true := beq_iff_eq.mpr c40
          have c40b1 : (t384 != (IntKind.u64.wrap (t382 + 1))) = false := bne_eq_false_iff_eq.mpr c40
          clear c40
          replace H := Option.bind_eq_some_iff.mp H
          obtain ⟨t395, A410, H⟩ := H
          replace H : (if t395 = 0 then (if t390 = t384 then ((grottolaw02_live.f k).bind fun t396 => (some t396)) else (some false)) else ((grottolaw02_live.f k).bind fun t397 => (some t397))) = some r := H
          have A41 := Aside0.mk A410
          clear A410
          by_cases c42 : t395 = 0
          · rw [if_pos c42] at H
            have c42b0 : (t395 == 0) = true := beq_iff_eq.mpr c42
            have c42b1 : (t395 != 0) = false := bne_eq_false_iff_eq.mpr c42
            clear c42
            by_cases c43 : t390 = t384
            · rw [if_pos c43] at H
              have c43b0 : (t390 == t384) = true := beq_iff_eq.mpr c43
              have c43b1 : (t390 != t384) = false := bne_eq_false_iff_eq.mpr c43
              clear c43
              replace H := Option.bind_eq_some_iff.mp H
              obtain ⟨t396, A440, H⟩ := H
              replace H : (some t396) = some r := H
              have A44 := Aside0.mk A440
              clear A440
              obtain rfl := Option.some.inj H
              go_enter Try.func7, Try.ntmps7
              go_wp2_with (first | ((with_reducible refine gate_dst (N := 3) rfl ?_); refine zbox (N := 3) (cs := #[.int .i64 a0_0, .int .i64 a0_1]) (t := 23) ?_; intro gb381 hg w45 hbox hb; have BK381 := Aside0.mk hbox; have GW381 := zge hg HB; have GE381 := zge hg HB; replace HB := zbs HB hb; clear hb hbox hg; obtain ⟨hcz46_0, hcz46_1, hfz46_0, hfz46_1⟩ := zc2 BK381) | ((with_reducible refine gate_callee (f := 10) rfl ?_); refine zgo (some 17) Try.func10 #[.agg #[.int .i64 a0_0, .int .i64 a0_1], .bool false, .int .u64 0, .int .u64 a1, .int .i64 a2, .bool false] ?_; (with_reducible refine (round_Pack.calls k a0_0 a0_1 false 0 a1 a2 false t382 t383 _ A4.out).mono ?_); rintro e w47 ⟨rfl, hb⟩; refine ⟨_, rfl, ?_⟩; replace BK381 := zkb BK381 hb; replace HB := zbs HB hb; (try clear hb); (try clear hb2); (try clear hk); (try clear hi); obtain ⟨hcz48_0, hcz48_1, hfz48_0, hfz48_1⟩ := zc2 BK381) | ((with_reducible refine gate_callee (f := 10) rfl ?_); refine zgo (some 24) Try.func10 #[.agg #[.int .i64 a0_0, .int .i64 a0_1], .bool false, .int .u64 0, .int .u64 a1, .int .i64 a2, .bool true] ?_; (with_reducible refine (round_Pack.calls k a0_0 a0_1 false 0 a1 a2 true t384 t385 _ A5.out).mono ?_); rintro e w49 ⟨rfl, hb⟩; refine ⟨_, rfl, ?_⟩; replace BK381 := zkb BK381 hb; replace HB := zbs HB hb; (try clear hb); (try clear hb2); (try clear hk); (try clear hi)) | ((with_reducible refine gate_callee (f := 12) rfl ?_); refine zgo (some 28) Try.func12 #[.int .i64 t383] ?_; (with_reducible refine (grottolaw02_num.calls t383 t386 _ A6.out).mono ?_); rintro e w' ⟨rfl, ⟨nd, rfl⟩⟩; refine ⟨_, rfl, ?_⟩) | ((with_reducible refine gate_callee (f := 12) rfl ?_); refine zgo (some 37) Try.func12 #[.int .i64 t385] ?_; (with_reducible refine (grottolaw02_num.calls t385 t389 _ A8.out).mono ?_); rintro e w' ⟨rfl, ⟨nd, rfl⟩⟩; refine ⟨_, rfl, ?_⟩; obtain ⟨hcz50_0, hcz50_1, hfz50_0, hfz50_1⟩ := zc2 BK381) | ((with_reducible refine gate_callee (f := 10) rfl ?_); refine zgo (some 61) Try.func10 #[.agg #[.int .i64 a0_0, .int .i64 a0_1], .bool false, .int .u64 (a1 / 9223372036854775808), .int .u64 (Go.bits .or .u64 (IntKind.u64.wrap (a1 * 2)) 1), .int .i64 (wrap64 (a2 - 1)), .bool false] ?_; (with_reducible refine (round_Pack.calls k a0_0 a0_1 false (a1 / 9223372036854775808) (Go.bits .or .u64 (IntKind.u64.wrap (a1 * 2)) 1) (wrap64 (a2 - 1)) false t390 t391 _ A10.out).mono ?_); rintro e w51 ⟨rfl, hb⟩; refine ⟨_, rfl, ?_⟩; replace BK381 := zkb BK381 hb; replace HB := zbs HB hb; (try clear hb); (try clear hb2); (try clear hk); (try clear hi)) | (go_at_call 12; (with_reducible refine (grottolaw02_num.calls t391 t395 _ A41.out).mono ?_); rintro e w' ⟨rfl, ⟨nd, rfl⟩⟩) | (go_at_call 13; (with_reducible refine (grottolaw02_live.calls k  t396 _ A44.out).mono ?_); rintro e w52 ⟨rfl, hb⟩; replace BK381 := zkb BK381 hb; replace HB := zbs HB hb; (try clear hb); (try clear hb2); (try clear hk); (try clear hi)))
              go_ret
              exact ⟨by first | rfl | (simp [errW_none, errW_some] <;> rfl) | (simp [*, errW_none, errW_some] <;> rfl), zb HB⟩
            · rw [if_neg c43] at H
              have c43b0 : (t390 == t384) = false := beq_eq_false_iff_ne.mpr c43
              have c43b1 : (t390 != t384) = true := bne_iff_ne.mpr c43
              obtain rfl := Option.some.inj H
              go_enter Try.func7, Try.ntmps7
              go_wp2_with (first | ((with_reducible refine gate_dst (N := 3) rfl ?_); refine zbox (N := 3) (cs := #[.int .i64 a0_0, .int .i64 a0_1]) (t := 23) ?_; intro gb381 hg w53 hbox hb; have BK381 := Aside0.mk hbox; have GW381 := zge hg HB; have GE381 := zge hg HB; replace HB := zbs HB hb; clear hb hbox hg; obtain ⟨hcz54_0, hcz54_1, hfz54_0, hfz54_1⟩ := zc2 BK381) | ((with_reducible refine gate_callee (f := 10) rfl ?_); refine zgo (some 17) Try.func10 #[.agg #[.int .i64 a0_0, .int .i64 a0_1], .bool false, .int .u64 0, .int .u64 a1, .int .i64 a2, .bool false] ?_; (with_reducible refine (round_Pack.calls k a0_0 a0_1 false 0 a1 a2 false t382 t383 _ A4.out).mono ?_); rintro e w55 ⟨rfl, hb⟩; refine ⟨_, rfl, ?_⟩; replace BK381 := zkb BK381 hb; replace HB := zbs HB hb; (try clear hb); (try clear hb2); (try clear hk); (try clear hi); obtain ⟨hcz56_0, hcz56_1, hfz56_0, hfz56_1⟩ := zc2 BK381) | ((with_reducible refine gate_callee (f := 10) rfl ?_); refine zgo (some 24) Try.func10 #[.agg #[.int .i64 a0_0, .int .i64 a0_1], .bool false, .int .u64 0, .int .u64 a1, .int .i64 a2, .bool true] ?_; (with_reducible refine (round_Pack.calls k a0_0 a0_1 false 0 a1 a2 true t384 t385 _ A5.out).mono ?_); rintro e w57 ⟨rfl, hb⟩; refine ⟨_, rfl, ?_⟩; replace BK381 := zkb BK381 hb; replace HB := zbs HB hb; (try clear hb); (try clear hb2); (try clear hk); (try clear hi)) | ((with_reducible refine gate_callee (f := 12) rfl ?_); refine zgo (some 28) Try.func12 #[.int .i64 t383] ?_; (with_reducible refine (grottolaw02_num.calls t383 t386 _ A6.out).mono ?_); rintro e w' ⟨rfl, ⟨nd, rfl⟩⟩; refine ⟨_, rfl, ?_⟩) | ((with_reducible refine gate_callee (f := 12) rfl ?_); refine zgo (some 37) Try.func12 #[.int .i64 t385] ?_; (with_reducible refine (grottolaw02_num.calls t385 t389 _ A8.out).mono ?_); rintro e w' ⟨rfl, ⟨nd, rfl⟩⟩; refine ⟨_, rfl, ?_⟩; obtain ⟨hcz58_0, hcz58_1, hfz58_0, hfz58_1⟩ := zc2 BK381) | ((with_reducible refine gate_callee (f := 10) rfl ?_); refine zgo (some 61) Try.func10 #[.agg #[.int .i64 a0_0, .int .i64 a0_1], .bool false, .int .u64 (a1 / 9223372036854775808), .int .u64 (Go.bits .or .u64 (IntKind.u64.wrap (a1 * 2)) 1), .int .i64 (wrap64 (a2 - 1)), .bool false] ?_; (with_reducible refine (round_Pack.calls k a0_0 a0_1 false (a1 / 9223372036854775808) (Go.bits .or .u64 (IntKind.u64.wrap (a1 * 2)) 1) (wrap64 (a2 - 1)) false t390 t391 _ A10.out).mono ?_); rintro e w59 ⟨rfl, hb⟩; refine ⟨_, rfl, ?_⟩; replace BK381 := zkb BK381 hb; replace HB := zbs HB hb; (try clear hb); (try clear hb2); (try clear hk); (try clear hi)) | (go_at_call 12; (with_reducible refine (grottolaw02_num.calls t391 t395 _ A41.out).mono ?_); rintro e w' ⟨rfl, ⟨nd, rfl⟩⟩))
              go_ret
              exact ⟨by first | rfl | (simp [errW_none, errW_some] <;> rfl) | (simp [*, errW_none, errW_some] <;> rfl), zb HB⟩
          · rw [if_neg c42] at H
            have c42b0 : (t395 == 0) = false := beq_eq_false_iff_ne.mpr c42
            have c42b1 : (t395 != 0) = true := bne_iff_ne.mpr c42
            replace H := Option.bind_eq_some_iff.mp H
            obtain ⟨t397, A600, H⟩ := H
            replace H : (some t397) = some r := H
            have A60 := Aside0.mk A600
            clear A600
            obtain rfl := Option.some.inj H
            go_enter Try.func7, Try.ntmps7
            go_wp2_with (first | ((with_reducible refine gate_dst (N := 3) rfl ?_); refine zbox (N := 3) (cs := #[.int .i64 a0_0, .int .i64 a0_1]) (t := 23) ?_; intro gb381 hg w61 hbox hb; have BK381 := Aside0.mk hbox; have GW381 := zge hg HB; have GE381 := zge hg HB; replace HB := zbs HB hb; clear hb hbox hg; obtain ⟨hcz62_0, hcz62_1, hfz62_0, hfz62_1⟩ := zc2 BK381) | ((with_reducible refine gate_callee (f := 10) rfl ?_); refine zgo (some 17) Try.func10 #[.agg #[.int .i64 a0_0, .int .i64 a0_1], .bool false, .int .u64 0, .int .u64 a1, .int .i64 a2, .bool false] ?_; (with_reducible refine (round_Pack.calls k a0_0 a0_1 false 0 a1 a2 false t382 t383 _ A4.out).mono ?_); rintro e w63 ⟨rfl, hb⟩; refine ⟨_, rfl, ?_⟩; replace BK381 := zkb BK381 hb; replace HB := zbs HB hb; (try clear hb); (try clear hb2); (try clear hk); (try clear hi); obtain ⟨hcz64_0, hcz64_1, hfz64_0, hfz64_1⟩ := zc2 BK381) | ((with_reducible refine gate_callee (f := 10) rfl ?_); refine zgo (some 24) Try.func10 #[.agg #[.int .i64 a0_0, .int .i64 a0_1], .bool false, .int .u64 0, .int .u64 a1, .int .i64 a2, .bool true] ?_; (with_reducible refine (round_Pack.calls k a0_0 a0_1 false 0 a1 a2 true t384 t385 _ A5.out).mono ?_); rintro e w65 ⟨rfl, hb⟩; refine ⟨_, rfl, ?_⟩; replace BK381 := zkb BK381 hb; replace HB := zbs HB hb; (try clear hb); (try clear hb2); (try clear hk); (try clear hi)) | ((with_reducible refine gate_callee (f := 12) rfl ?_); refine zgo (some 28) Try.func12 #[.int .i64 t383] ?_; (with_reducible refine (grottolaw02_num.calls t383 t386 _ A6.out).mono ?_); rintro e w' ⟨rfl, ⟨nd, rfl⟩⟩; refine ⟨_, rfl, ?_⟩) | ((with_reducible refine gate_callee (f := 12) rfl ?_); refine zgo (some 37) Try.func12 #[.int .i64 t385] ?_; (with_reducible refine (grottolaw02_num.calls t385 t389 _ A8.out).mono ?_); rintro e w' ⟨rfl, ⟨nd, rfl⟩⟩; refine ⟨_, rfl, ?_⟩; obtain ⟨hcz66_0, hcz66_1, hfz66_0, hfz66_1⟩ := zc2 BK381) | ((with_reducible refine gate_callee (f := 10) rfl ?_); refine zgo (some 61) Try.func10 #[.agg #[.int .i64 a0_0, .int .i64 a0_1], .bool false, .int .u64 (a1 / 9223372036854775808), .int .u64 (Go.bits .or .u64 (IntKind.u64.wrap (a1 * 2)) 1), .int .i64 (wrap64 (a2 - 1)), .bool false] ?_; (with_reducible refine (round_Pack.calls k a0_0 a0_1 false (a1 / 9223372036854775808) (Go.bits .or .u64 (IntKind.u64.wrap (a1 * 2)) 1) (wrap64 (a2 - 1)) false t390 t391 _ A10.out).mono ?_); rintro e w67 ⟨rfl, hb⟩; refine ⟨_, rfl, ?_⟩; replace BK381 := zkb BK381 hb; replace HB := zbs HB hb; (try clear hb); (try clear hb2); (try clear hk); (try clear hi)) | (go_at_call 12; (with_reducible refine (grottolaw02_num.calls t391 t395 _ A41.out).mono ?_); rintro e w' ⟨rfl, ⟨nd, rfl⟩⟩) | (go_at_call 13; (with_reducible refine (grottolaw02_live.calls k  t397 _ A60.out).mono ?_); rintro e w68 ⟨rfl, hb⟩; replace BK381 := zkb BK381 hb; replace HB := zbs HB hb; (try clear hb); (try clear hb2); (try clear hk); (try clear hi)))
            go_ret
            exact ⟨by first | rfl | (simp [errW_none, errW_some] <;> rfl) | (simp [*, errW_none, errW_some] <;> rfl), zb HB⟩
        · rw [if_neg c40] at H
          have c40b0 : (t384 == (IntKind.u64.wrap (t382 + 1))) = false := beq_eq_false_iff_ne.mpr c40
          have c40b1 : (t384 != (IntKind.u64.wrap (t382 + 1))) = true := bne_iff_ne.mpr c40
          obtain rfl := Option.some.inj H
          go_enter Try.func7, Try.ntmps7
          go_wp2_with (first | ((with_reducible refine gate_dst (N := 3) rfl ?_); refine zbox (N := 3) (cs := #[.int .i64 a0_0, .int .i64 a0_1]) (t := 23) ?_; intro gb381 hg w69 hbox hb; have BK381 := Aside0.mk hbox; have GW381 := zge hg HB; have GE381 := zge hg HB; replace HB := zbs HB hb; clear hb hbox hg; obtain ⟨hcz70_0, hcz70_1, hfz70_0, hfz70_1⟩ := zc2 BK381) | ((with_reducible refine gate_callee (f := 10) rfl ?_); refine zgo (some 17) Try.func10 #[.agg #[.int .i64 a0_0, .int .i64 a0_1], .bool false, .int .u64 0, .int .u64 a1, .int .i64 a2, .bool false] ?_; (with_reducible refine (round_Pack.calls k a0_0 a0_1 false 0 a1 a2 false t382 t383 _ A4.out).mono ?_); rintro e w71 ⟨rfl, hb⟩; refine ⟨_, rfl, ?_⟩; replace BK381 := zkb BK381 hb; replace HB := zbs HB hb; (try clear hb); (try clear hb2); (try clear hk); (try clear hi); obtain ⟨hcz72_0, hcz72_1, hfz72_0, hfz72_1⟩ := zc2 BK381) | ((with_reducible refine gate_callee (f := 10) rfl ?_); refine zgo (some 24) Try.func10 #[.agg #[.int .i64 a0_0, .int .i64 a0_1], .bool false, .int .u64 0, .int .u64 a1, .int .i64 a2, .bool true] ?_; (with_reducible refine (round_Pack.calls k a0_0 a0_1 false 0 a1 a2 true t384 t385 _ A5.out).mono ?_); rintro e w73 ⟨rfl, hb⟩; refine ⟨_, rfl, ?_⟩; replace BK381 := zkb BK381 hb; replace HB := zbs HB hb; (try clear hb); (try clear hb2); (try clear hk); (try clear hi)) | ((with_reducible refine gate_callee (f := 12) rfl ?_); refine zgo (some 28) Try.func12 #[.int .i64 t383] ?_; (with_reducible refine (grottolaw02_num.calls t383 t386 _ A6.out).mono ?_); rintro e w' ⟨rfl, ⟨nd, rfl⟩⟩; refine ⟨_, rfl, ?_⟩) | ((with_reducible refine gate_callee (f := 12) rfl ?_); refine zgo (some 37) Try.func12 #[.int .i64 t385] ?_; (with_reducible refine (grottolaw02_num.calls t385 t389 _ A8.out).mono ?_); rintro e w' ⟨rfl, ⟨nd, rfl⟩⟩; refine ⟨_, rfl, ?_⟩; obtain ⟨hcz74_0, hcz74_1, hfz74_0, hfz74_1⟩ := zc2 BK381) | ((with_reducible refine gate_callee (f := 10) rfl ?_); refine zgo (some 61) Try.func10 #[.agg #[.int .i64 a0_0, .int .i64 a0_1], .bool false, .int .u64 (a1 / 9223372036854775808), .int .u64 (Go.bits .or .u64 (IntKind.u64.wrap (a1 * 2)) 1), .int .i64 (wrap64 (a2 - 1)), .bool false] ?_; (with_reducible refine (round_Pack.calls k a0_0 a0_1 false (a1 / 9223372036854775808) (Go.bits .or .u64 (IntKind.u64.wrap (a1 * 2)) 1) (wrap64 (a2 - 1)) false t390 t391 _ A10.out).mono ?_); rintro e w75 ⟨rfl, hb⟩; refine ⟨_, rfl, ?_⟩; replace BK381 := zkb BK381 hb; replace HB := zbs HB hb; (try clear hb); (try clear hb2); (try clear hk); (try clear hi)))
          go_ret
          exact ⟨by first | rfl | (simp [errW_none, errW_some] <;> rfl) | (simp [*, errW_none, errW_some] <;> rfl), zb HB⟩
    · rw [if_neg c9] at H
      have c9b0 : (t389 == 0) = false := beq_eq_false_iff_ne.mpr c9
      have c9b1 : (t389 != 0) = true := bne_iff_ne.mpr c9
      by_cases c76 : t384 = 0
      · rw [if_pos c76] at H
        have c76b0 : (t384 == 0) = true := beq_iff_eq.mpr c76
        have c76b1 : (t384 != 0) = false := bne_eq_false_iff_eq.mpr c76
        clear c76
        obtain ⟨ji77, hji77⟩ : ∃ j_ : Int, (wrap64 (a0_0 + 2)) = j_ := ⟨_, rfl⟩
        replace H : (if 0 ≤ (ji77) then (if (shr .u64 a1 (ji77)) = 0 then ((grottolaw02_live.f k).bind fun t398 => (some t398)) else (some false)) else (none)) = some r := by first | (rw [hji77] at H; exact H) | (simp only [hji77] at H ⊢; exact H)
        (try rw [hji77] at A4)
        (try rw [hji77] at A5)
        (try rw [hji77] at A6)
        (try rw [hji77] at A8)
        have hji77w : (IntKind.i64.wrap (a0_0 + 2)) = ji77 := (i64_w _).trans hji77
        by_cases c78 : 0 ≤ (ji77)
        · rw [if_pos c78] at H
          have c78b0 := eq_true c78
          have c78b1 : decide (0 ≤ (ji77)) = true := decide_eq_true c78
          clear c78
          obtain ⟨ji79, hji79⟩ : ∃ j_ : Int, (shr .u64 a1 (ji77)) = j_ := ⟨_, rfl⟩
          replace H : (if (ji79) = 0 then ((grottolaw02_live.f k).bind fun t398 => (some t398)) else (some false)) = some r := by first | (rw [hji79] at H; exact H) | (simp only [hji79] at H ⊢; exact H)
          (try rw [hji79] at A4)
          (try rw [hji79] at A5)
          (try rw [hji79] at A6)
          (try rw [hji79] at A8)
          have hji79_ : (a1 / 2 ^ min (ji77).toNat 64) = ji79 := hji79
          have hji79z : (ji77) ≤ 64 → (a1 / 2 ^ (ji77).toNat) = ji79 := shr_small hji79
          by_cases c80 : (ji79) = 0
          · rw [if_pos c80] at H
            have c80b0 : ((ji79) == 0) = true := beq_iff_eq.mpr c80
            have c80b1 : ((ji79) != 0) = false := bne_eq_false_iff_eq.mpr c80
            clear c80
            replace H := Option.bind_eq_some_iff.mp H
            obtain ⟨t398, A810, H⟩ := H
            replace H : (some t398) = some r := H
            have A81 := Aside0.mk A810
            clear A810
            obtain rfl := Option.some.inj H
            go_enter Try.func7, Try.ntmps7
            go_wp2_with (first | ((with_reducible refine gate_dst (N := 3) rfl ?_); refine zbox (N := 3) (cs := #[.int .i64 a0_0, .int .i64 a0_1]) (t := 23) ?_; intro gb381 hg w82 hbox hb; have BK381 := Aside0.mk hbox; have GW381 := zge hg HB; have GE381 := zge hg HB; replace HB := zbs HB hb; clear hb hbox hg; obtain ⟨hcz83_0, hcz83_1, hfz83_0, hfz83_1⟩ := zc2 BK381) | ((with_reducible refine gate_callee (f := 10) rfl ?_); refine zgo (some 17) Try.func10 #[.agg #[.int .i64 a0_0, .int .i64 a0_1], .bool false, .int .u64 0, .int .u64 a1, .int .i64 a2, .bool false] ?_; (with_reducible refine (round_Pack.calls k a0_0 a0_1 false 0 a1 a2 false t382 t383 _ A4.out).mono ?_); rintro e w84 ⟨rfl, hb⟩; refine ⟨_, rfl, ?_⟩; replace BK381 := zkb BK381 hb; replace HB := zbs HB hb; (try clear hb); (try clear hb2); (try clear hk); (try clear hi); obtain ⟨hcz85_0, hcz85_1, hfz85_0, hfz85_1⟩ := zc2 BK381) | ((with_reducible refine gate_callee (f := 10) rfl ?_); refine zgo (some 24) Try.func10 #[.agg #[.int .i64 a0_0, .int .i64 a0_1], .bool false, .int .u64 0, .int .u64 a1, .int .i64 a2, .bool true] ?_; (with_reducible refine (round_Pack.calls k a0_0 a0_1 false 0 a1 a2 true t384 t385 _ A5.out).mono ?_); rintro e w86 ⟨rfl, hb⟩; refine ⟨_, rfl, ?_⟩; replace BK381 := zkb BK381 hb; replace HB := zbs HB hb; (try clear hb); (try clear hb2); (try clear hk); (try clear hi)) | ((with_reducible refine gate_callee (f := 12) rfl ?_); refine zgo (some 28) Try.func12 #[.int .i64 t383] ?_; (with_reducible refine (grottolaw02_num.calls t383 t386 _ A6.out).mono ?_); rintro e w' ⟨rfl, ⟨nd, rfl⟩⟩; refine ⟨_, rfl, ?_⟩) | ((with_reducible refine gate_callee (f := 12) rfl ?_); refine zgo (some 37) Try.func12 #[.int .i64 t385] ?_; (with_reducible refine (grottolaw02_num.calls t385 t389 _ A8.out).mono ?_); rintro e w' ⟨rfl, ⟨nd, rfl⟩⟩; refine ⟨_, rfl, ?_⟩; obtain ⟨hcz87_0, hcz87_1, hfz87_0, hfz87_1⟩ := zc2 BK381) | (go_at_call 13; (with_reducible refine (grottolaw02_live.calls k  t398 _ A81.out).mono ?_); rintro e w88 ⟨rfl, hb⟩; replace BK381 := zkb BK381 hb; replace HB := zbs HB hb; (try clear hb); (try clear hb2); (try clear hk); (try clear hi)))
            go_ret
            exact ⟨by first | rfl | (simp [errW_none, errW_some] <;> rfl) | (simp only [← hji77, ← hji79]; first | rfl | (simp [errW_none, errW_some] <;> rfl)) | (simp [*, errW_none, errW_some] <;> rfl), zb HB⟩
          · rw [if_neg c80] at H
            have c80b0 : ((ji79) == 0) = false := beq_eq_false_iff_ne.mpr c80
            have c80b1 : ((ji79) != 0) = true := bne_iff_ne.mpr c80
            obtain rfl := Option.some.inj H
            go_enter Try.func7, Try.ntmps7
            go_wp2_with (first | ((with_reducible refine gate_dst (N := 3) rfl ?_); refine zbox (N := 3) (cs := #[.int .i64 a0_0, .int .i64 a0_1]) (t := 23) ?_; intro gb381 hg w89 hbox hb; have BK381 := Aside0.mk hbox; have GW381 := zge hg HB; have GE381 := zge hg HB; replace HB := zbs HB hb; clear hb hbox hg; obtain ⟨hcz90_0, hcz90_1, hfz90_0, hfz90_1⟩ := zc2 BK381) | ((with_reducible refine gate_callee (f := 10) rfl ?_); refine zgo (some 17) Try.func10 #[.agg #[.int .i64 a0_0, .int .i64 a0_1], .bool false, .int .u64 0, .int .u64 a1, .int .i64 a2, .bool false] ?_; (with_reducible refine (round_Pack.calls k a0_0 a0_1 false 0 a1 a2 false t382 t383 _ A4.out).mono ?_); rintro e w91 ⟨rfl, hb⟩; refine ⟨_, rfl, ?_⟩; replace BK381 := zkb BK381 hb; replace HB := zbs HB hb; (try clear hb); (try clear hb2); (try clear hk); (try clear hi); obtain ⟨hcz92_0, hcz92_1, hfz92_0, hfz92_1⟩ := zc2 BK381) | ((with_reducible refine gate_callee (f := 10) rfl ?_); refine zgo (some 24) Try.func10 #[.agg #[.int .i64 a0_0, .int .i64 a0_1], .bool false, .int .u64 0, .int .u64 a1, .int .i64 a2, .bool true] ?_; (with_reducible refine (round_Pack.calls k a0_0 a0_1 false 0 a1 a2 true t384 t385 _ A5.out).mono ?_); rintro e w93 ⟨rfl, hb⟩; refine ⟨_, rfl, ?_⟩; replace BK381 := zkb BK381 hb; replace HB := zbs HB hb; (try clear hb); (try clear hb2); (try clear hk); (try clear hi)) | ((with_reducible refine gate_callee (f := 12) rfl ?_); refine zgo (some 28) Try.func12 #[.int .i64 t383] ?_; (with_reducible refine (grottolaw02_num.calls t383 t386 _ A6.out).mono ?_); rintro e w' ⟨rfl, ⟨nd, rfl⟩⟩; refine ⟨_, rfl, ?_⟩) | ((with_reducible refine gate_callee (f := 12) rfl ?_); refine zgo (some 37) Try.func12 #[.int .i64 t385] ?_; (with_reducible refine (grottolaw02_num.calls t385 t389 _ A8.out).mono ?_); rintro e w' ⟨rfl, ⟨nd, rfl⟩⟩; refine ⟨_, rfl, ?_⟩; obtain ⟨hcz94_0, hcz94_1, hfz94_0, hfz94_1⟩ := zc2 BK381))
            go_ret
            exact ⟨by first | rfl | (simp [errW_none, errW_some] <;> rfl) | (simp only [← hji77, ← hji79]; first | rfl | (simp [errW_none, errW_some] <;> rfl)) | (simp [*, errW_none, errW_some] <;> rfl), zb HB⟩
        · rw [if_neg c78] at H
          exact absurd H (by simp)
      · rw [if_neg c76] at H
        have c76b0 : (t384 == 0) = false := beq_eq_false_iff_ne.mpr c76
        have c76b1 : (t384 != 0) = true := bne_iff_ne.mpr c76
        obtain rfl := Option.some.inj H
        go_enter Try.func7, Try.ntmps7
        go_wp2_with (first | ((with_reducible refine gate_dst (N := 3) rfl ?_); refine zbox (N := 3) (cs := #[.int .i64 a0_0, .int .i64 a0_1]) (t := 23) ?_; intro gb381 hg w95 hbox hb; have BK381 := Aside0.mk hbox; have GW381 := zge hg HB; have GE381 := zge hg HB; replace HB := zbs HB hb; clear hb hbox hg; obtain ⟨hcz96_0, hcz96_1, hfz96_0, hfz96_1⟩ := zc2 BK381) | ((with_reducible refine gate_callee (f := 10) rfl ?_); refine zgo (some 17) Try.func10 #[.agg #[.int .i64 a0_0, .int .i64 a0_1], .bool false, .int .u64 0, .int .u64 a1, .int .i64 a2, .bool false] ?_; (with_reducible refine (round_Pack.calls k a0_0 a0_1 false 0 a1 a2 false t382 t383 _ A4.out).mono ?_); rintro e w97 ⟨rfl, hb⟩; refine ⟨_, rfl, ?_⟩; replace BK381 := zkb BK381 hb; replace HB := zbs HB hb; (try clear hb); (try clear hb2); (try clear hk); (try clear hi); obtain ⟨hcz98_0, hcz98_1, hfz98_0, hfz98_1⟩ := zc2 BK381) | ((with_reducible refine gate_callee (f := 10) rfl ?_); refine zgo (some 24) Try.func10 #[.agg #[.int .i64 a0_0, .int .i64 a0_1], .bool false, .int .u64 0, .int .u64 a1, .int .i64 a2, .bool true] ?_; (with_reducible refine (round_Pack.calls k a0_0 a0_1 false 0 a1 a2 true t384 t385 _ A5.out).mono ?_); rintro e w99 ⟨rfl, hb⟩; refine ⟨_, rfl, ?_⟩; replace BK381 := zkb BK381 hb; replace HB := zbs HB hb; (try clear hb); (try clear hb2); (try clear hk); (try clear hi)) | ((with_reducible refine gate_callee (f := 12) rfl ?_); refine zgo (some 28) Try.func12 #[.int .i64 t383] ?_; (with_reducible refine (grottolaw02_num.calls t383 t386 _ A6.out).mono ?_); rintro e w' ⟨rfl, ⟨nd, rfl⟩⟩; refine ⟨_, rfl, ?_⟩) | ((with_reducible refine gate_callee (f := 12) rfl ?_); refine zgo (some 37) Try.func12 #[.int .i64 t385] ?_; (with_reducible refine (grottolaw02_num.calls t385 t389 _ A8.out).mono ?_); rintro e w' ⟨rfl, ⟨nd, rfl⟩⟩; refine ⟨_, rfl, ?_⟩))
        go_ret
        exact ⟨by first | rfl | (simp [errW_none, errW_some] <;> rfl) | (simp [*, errW_none, errW_some] <;> rfl), zb HB⟩
  · rw [if_neg c7] at H
    have c7b0 : (t386 == 0) = false := beq_eq_false_iff_ne.mpr c7
    have c7b1 : (t386 != 0) = true := bne_iff_ne.mpr c7
    replace H := Option.bind_eq_some_iff.mp H
    obtain ⟨t387, A1000, H⟩ := H
    replace H : (if t387 = 1 then ((grottolaw02_live.f k).bind fun t388 => (some t388)) else (some false)) = some r := H
    have A100 := Aside0.mk A1000
    clear A1000
    by_cases c101 : t387 = 1
    · rw [if_pos c101] at H
      have c101b0 : (t387 == 1) = true := beq_iff_eq.mpr c101
      have c101b1 : (t387 != 1) = false := bne_eq_false_iff_eq.mpr c101
      clear c101
      replace H := Option.bind_eq_some_iff.mp H
      obtain ⟨t388, A1020, H⟩ := H
      replace H : (some t388) = some r := H
      have A102 := Aside0.mk A1020
      clear A1020
      obtain rfl := Option.some.inj H
      go_enter Try.func7, Try.ntmps7
      go_wp2_with (first | ((with_reducible refine gate_dst (N := 3) rfl ?_); refine zbox (N := 3) (cs := #[.int .i64 a0_0, .int .i64 a0_1]) (t := 23) ?_; intro gb381 hg w103 hbox hb; have BK381 := Aside0.mk hbox; have GW381 := zge hg HB; have GE381 := zge hg HB; replace HB := zbs HB hb; clear hb hbox hg; obtain ⟨hcz104_0, hcz104_1, hfz104_0, hfz104_1⟩ := zc2 BK381) | ((with_reducible refine gate_callee (f := 10) rfl ?_); refine zgo (some 17) Try.func10 #[.agg #[.int .i64 a0_0, .int .i64 a0_1], .bool false, .int .u64 0, .int .u64 a1, .int .i64 a2, .bool false] ?_; (with_reducible refine (round_Pack.calls k a0_0 a0_1 false 0 a1 a2 false t382 t383 _ A4.out).mono ?_); rintro e w105 ⟨rfl, hb⟩; refine ⟨_, rfl, ?_⟩; replace BK381 := zkb BK381 hb; replace HB := zbs HB hb; (try clear hb); (try clear hb2); (try clear hk); (try clear hi); obtain ⟨hcz106_0, hcz106_1, hfz106_0, hfz106_1⟩ := zc2 BK381) | ((with_reducible refine gate_callee (f := 10) rfl ?_); refine zgo (some 24) Try.func10 #[.agg #[.int .i64 a0_0, .int .i64 a0_1], .bool false, .int .u64 0, .int .u64 a1, .int .i64 a2, .bool true] ?_; (with_reducible refine (round_Pack.calls k a0_0 a0_1 false 0 a1 a2 true t384 t385 _ A5.out).mono ?_); rintro e w107 ⟨rfl, hb⟩; refine ⟨_, rfl, ?_⟩; replace BK381 := zkb BK381 hb; replace HB := zbs HB hb; (try clear hb); (try clear hb2); (try clear hk); (try clear hi)) | ((with_reducible refine gate_callee (f := 12) rfl ?_); refine zgo (some 28) Try.func12 #[.int .i64 t383] ?_; (with_reducible refine (grottolaw02_num.calls t383 t386 _ A6.out).mono ?_); rintro e w' ⟨rfl, ⟨nd, rfl⟩⟩; refine ⟨_, rfl, ?_⟩) | ((with_reducible refine gate_callee (f := 12) rfl ?_); refine zgo (some 31) Try.func12 #[.int .i64 t385] ?_; (with_reducible refine (grottolaw02_num.calls t385 t387 _ A100.out).mono ?_); rintro e w' ⟨rfl, ⟨nd, rfl⟩⟩; refine ⟨_, rfl, ?_⟩) | (go_at_call 13; (with_reducible refine (grottolaw02_live.calls k  t388 _ A102.out).mono ?_); rintro e w108 ⟨rfl, hb⟩; replace BK381 := zkb BK381 hb; replace HB := zbs HB hb; (try clear hb); (try clear hb2); (try clear hk); (try clear hi)))
      go_ret
      exact ⟨by first | rfl | (simp [errW_none, errW_some] <;> rfl) | (simp [*, errW_none, errW_some] <;> rfl), zb HB⟩
    · rw [if_neg c101] at H
      have c101b0 : (t387 == 1) = false := beq_eq_false_iff_ne.mpr c101
      have c101b1 : (t387 != 1) = true := bne_iff_ne.mpr c101
      obtain rfl := Option.some.inj H
      go_enter Try.func7, Try.ntmps7
      go_wp2_with (first | ((with_reducible refine gate_dst (N := 3) rfl ?_); refine zbox (N := 3) (cs := #[.int .i64 a0_0, .int .i64 a0_1]) (t := 23) ?_; intro gb381 hg w109 hbox hb; have BK381 := Aside0.mk hbox; have GW381 := zge hg HB; have GE381 := zge hg HB; replace HB := zbs HB hb; clear hb hbox hg; obtain ⟨hcz110_0, hcz110_1, hfz110_0, hfz110_1⟩ := zc2 BK381) | ((with_reducible refine gate_callee (f := 10) rfl ?_); refine zgo (some 17) Try.func10 #[.agg #[.int .i64 a0_0, .int .i64 a0_1], .bool false, .int .u64 0, .int .u64 a1, .int .i64 a2, .bool false] ?_; (with_reducible refine (round_Pack.calls k a0_0 a0_1 false 0 a1 a2 false t382 t383 _ A4.out).mono ?_); rintro e w111 ⟨rfl, hb⟩; refine ⟨_, rfl, ?_⟩; replace BK381 := zkb BK381 hb; replace HB := zbs HB hb; (try clear hb); (try clear hb2); (try clear hk); (try clear hi); obtain ⟨hcz112_0, hcz112_1, hfz112_0, hfz112_1⟩ := zc2 BK381) | ((with_reducible refine gate_callee (f := 10) rfl ?_); refine zgo (some 24) Try.func10 #[.agg #[.int .i64 a0_0, .int .i64 a0_1], .bool false, .int .u64 0, .int .u64 a1, .int .i64 a2, .bool true] ?_; (with_reducible refine (round_Pack.calls k a0_0 a0_1 false 0 a1 a2 true t384 t385 _ A5.out).mono ?_); rintro e w113 ⟨rfl, hb⟩; refine ⟨_, rfl, ?_⟩; replace BK381 := zkb BK381 hb; replace HB := zbs HB hb; (try clear hb); (try clear hb2); (try clear hk); (try clear hi)) | ((with_reducible refine gate_callee (f := 12) rfl ?_); refine zgo (some 28) Try.func12 #[.int .i64 t383] ?_; (with_reducible refine (grottolaw02_num.calls t383 t386 _ A6.out).mono ?_); rintro e w' ⟨rfl, ⟨nd, rfl⟩⟩; refine ⟨_, rfl, ?_⟩) | ((with_reducible refine gate_callee (f := 12) rfl ?_); refine zgo (some 31) Try.func12 #[.int .i64 t385] ?_; (with_reducible refine (grottolaw02_num.calls t385 t387 _ A100.out).mono ?_); rintro e w' ⟨rfl, ⟨nd, rfl⟩⟩; refine ⟨_, rfl, ?_⟩))
      go_ret
      exact ⟨by first | rfl | (simp [errW_none, errW_some] <;> rfl) | (simp [*, errW_none, errW_some] <;> rfl), zb HB⟩

end Go.Proofs.Ytcfmmkapefpjjaa.PQ
