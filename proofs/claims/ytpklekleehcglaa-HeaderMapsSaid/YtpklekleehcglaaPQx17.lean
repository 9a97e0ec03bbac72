-- by a program of this claim
import Derived.Test.YtpklekleehcglaaPQx0
import Derived.Test.YtpklekleehcglaaPQx1
import Derived.Test.YtpklekleehcglaaPQx4
import Derived.Test.YtpklekleehcglaaPQx5
import Derived.Test.YtpklekleehcglaaPQx7
namespace Go.Proofs.Ytpklekleehcglaa.PQ
open Go.RowKit Go.Proofs.YtpklekleehcglaaW.PrintWords Go.Proofs.YtpklekleehcglaaW.PrintLast Go.Proofs.YtpklekleehcglaaW.PrintMore Go.Proofs.Ytpklekleehcglaa.Z
attribute [local go_sem] max2_int min2_int max_two min_two max_three min_three max_four min_four   -- for this text's walks alone
set_option linter.unusedVariables false
set_option linter.unusedSimpArgs false

attribute [local go_sem high] eqA27
/-! ### grottolaw07_HeaderMaps: function 9 -/
def grottolaw07_HeaderMaps.f (k : Nat) (l0 : List Int) : Option (Bool) := if (l0.length : Int) > 65536 then ((grottolaw07_live.f k).bind fun t423 => (some t423)) else ((header_Parse.f k l0).bind fun bt424 => ((grottolaw07_num.f bt424.2.2.2.2.2.2.2.2.1).bind fun t435 => (if t435 = 0 then (if (Int.tmod (Go.bits .or .u32 (Go.bits .or .u32 (Go.bits .or .u32 bt424.2.1 bt424.2.2.1) bt424.2.2.2.1) bt424.2.2.2.2.1) 256) = 0 then (if 256 ≤ bt424.2.1 then (if bt424.2.1 ≤ bt424.2.2.1 then (if (wrap64 (bt424.2.2.1)) = (l0.length : Int) then (if bt424.2.2.1 ≤ bt424.2.2.2.1 then (if bt424.2.2.2.1 ≤ 1048576 then (if bt424.2.2.2.2.1 > 0 then (if bt424.2.2.2.2.1 ≤ 65536 then (if bt424.2.2.2.2.2.1 ≥ 36 then (if bt424.2.2.2.2.2.1 < bt424.2.2.2.1 then (if bt424.2.2.2.2.2.2.1 < bt424.2.2.2.1 then ((grottolaw07_live.f k).bind fun t436 => (some t436)) else (some false)) else (some false)) else (some false)) else (some false)) else (some false)) else (some false)) else (some false)) else (some false)) else (some false)) else (some false)) else (some false)) else (if (bt424.1 == 0 && (bt424.2.1 == 0 && (bt424.2.2.1 == 0 && (bt424.2.2.2.1 == 0 && (bt424.2.2.2.2.1 == 0 && (bt424.2.2.2.2.2.1 == 0 && (bt424.2.2.2.2.2.2.1 == 0 && (bt424.2.2.2.2.2.2.2.1 == 0)))))))) = true then ((grottolaw07_live.f k).bind fun t437 => (some t437)) else (some false)))))
theorem grottolaw07_HeaderMaps.mono : ∀ a0 k, LeO (grottolaw07_HeaderMaps.f k a0) (grottolaw07_HeaderMaps.f (k + 1) a0) := by
  intro a0 k
  unfold grottolaw07_HeaderMaps.f
  repeat' first
      | (with_reducible exact grottolaw07_live.mono _)
      | (with_reducible exact header_Parse.mono _ _)
      | (with_reducible exact LeO.refl _)
      | (with_reducible exact LeO.none _)
      | (with_reducible refine LeO.ite ?_ ?_)
      | (with_reducible refine LeO.bind ?_ (fun _ => ?_))
      | exact grottolaw07_live.mono _
      | exact header_Parse.mono _ _
      | exact LeO.none _
      | refine LeO.ite ?_ ?_
      | refine LeO.bind ?_ (fun _ => ?_)
set_option maxHeartbeats 8000000 in
set_option maxRecDepth 100000 in
theorem grottolaw07_HeaderMaps.calls (k : Nat) (A0 : Option Addr) (c0 : Nat) (l0 : List Int) (r : Bool) (w : World) (hr0 : Kd.C (Kd.int .u8) w A0 l0.length l0) (hc0 : l0.length ≤ c0) (h : grottolaw07_HeaderMaps.f k l0 = some r) (hr : r = true := by rfl) :
    Calls Try.prog 9 #[.slice A0 l0.length c0] w fun e w' => e = .returned (.bool r) ∧ Below w.heap.size w w' := by
  have HRT := Aside0.mk hr
  clear hr
  have hu27 := Try.underlying27
  have HR0 := Aside0.mk hr0
  have HC0 := Aside0.mk hc0
  clear hr0 hc0
  have HB := Aside0.mk (Below.refl w.heap.size w)
  have H : (if (l0.length : Int) > 65536 then ((grottolaw07_live.f k).bind fun t423 => (some t423)) else ((header_Parse.f k l0).bind fun bt424 => ((grottolaw07_num.f bt424.2.2.2.2.2.2.2.2.1).bind fun t435 => (if t435 = 0 then (if (Int.tmod (Go.bits .or .u32 (Go.bits .or .u32 (Go.bits .or .u32 bt424.2.1 bt424.2.2.1) bt424.2.2.2.1) bt424.2.2.2.2.1) 256) = 0 then (if 256 ≤ bt424.2.1 then (if bt424.2.1 ≤ bt424.2.2.1 then (if (wrap64 (bt424.2.2.1)) = (l0.length : Int) then (if bt424.2.2.1 ≤ bt424.2.2.2.1 then (if bt424.2.2.2.1 ≤ 1048576 then (if bt424.2.2.2.2.1 > 0 then (if bt424.2.2.2.2.1 ≤ 65536 then (if bt424.2.2.2.2.2.1 ≥ 36 then (if bt424.2.2.2.2.2.1 < bt424.2.2.2.1 then (if bt424.2.2.2.2.2.2.1 < bt424.2.2.2.1 then ((grottolaw07_live.f k).bind fun t436 => (some t436)) else (some false)) else (some false)) else (some false)) else (some false)) else (some false)) else (some false)) else (some false)) else (some false)) else (some false)) else (some false)) else (some false)) else (if (bt424.1 == 0 && (bt424.2.1 == 0 && (bt424.2.2.1 == 0 && (bt424.2.2.2.1 == 0 && (bt424.2.2.2.2.1 == 0 && (bt424.2.2.2.2.2.1 == 0 && (bt424.2.2.2.2.2.2.1 == 0 && (bt424.2.2.2.2.2.2.2.1 == 0)))))))) = true then ((grottolaw07_live.f k).bind fun t437 => (some t437)) else (some false)))))) = some r := h
  clear h
  by_cases c2 : (l0.length : Int) > 65536
  · rw [if_pos c2] at H
    have c2b0 : decide (65536 < (l0.length : Int)) = true := decide_eq_true c2
    have c2b1 : decide (65536 < l0.length) = true := decide_eq_true (by omega)
    clear c2
    replace H := Option.bind_eq_some_iff.mp H
    obtain ⟨t423, A30, H⟩ := H
    replace H : (some t423) = some r := H
    have A3 := Aside0.mk A30
    clear A30
    obtain rfl := Option.some.inj H
    go_enter Try.func9, Try.ntmps9
    go_wp2_with (first | ((with_reducible refine gate_callee (f := 10) rfl ?_); refine zgo (some 10) Try.func10 #[] ?_; (with_reducible refine (grottolaw07_live.calls k  t423 _ A3.out).mono ?_); rintro e w4 ⟨rfl, hb⟩; refine ⟨_, rfl, ?_⟩; replace HB := zbs HB hb; (try clear hb); (try clear hb2); (try clear hk); (try clear hi)))
    go_ret
    exact ⟨by first | rfl | (simp [errW_none, errW_some] <;> rfl) | (simp [*, errW_none, errW_some] <;> rfl), zb HB⟩
  · rw [if_neg c2] at H
    have c2b0 : decide (65536 < (l0.length : Int)) = false := decide_eq_false c2
    have c2b1 : decide (65536 < l0.length) = false := decide_eq_false (by omega)
    clear c2
    replace H := Option.bind_eq_some_iff.mp H
    obtain ⟨⟨t424, t425, t426, t427, t428, t429, t430, t431, t432, t433⟩, A50, H⟩ := H
    replace H : ((grottolaw07_num.f t432).bind fun t435 => (if t435 = 0 then (if (Int.tmod (Go.bits .or .u32 (Go.bits .or .u32 (Go.bits .or .u32 t425 t426) t427) t428) 256) = 0 then (if 256 ≤ t425 then (if t425 ≤ t426 then (if (wrap64 (t426)) = (l0.length : Int) then (if t426 ≤ t427 then (if t427 ≤ 1048576 then (if t428 > 0 then (if t428 ≤ 65536 then (if t429 ≥ 36 then (if t429 < t427 then (if t430 < t427 then ((grottolaw07_live.f k).bind fun t436 => (some t436)) else (some false)) else (some false)) else (some false)) else (some false)) else (some false)) else (some false)) else (some false)) else (some false)) else (some false)) else (some false)) else (some false)) else (if (t424 == 0 && (t425 == 0 && (t426 == 0 && (t427 == 0 && (t428 == 0 && (t429 == 0 && (t430 == 0 && (t431 == 0)))))))) = true then ((grottolaw07_live.f k).bind fun t437 => (some t437)) else (some false)))) = some r := H
    have A5 := Aside0.mk A50
    clear A50
    replace H := Option.bind_eq_some_iff.mp H
    obtain ⟨t435, A60, H⟩ := H
    replace H : (if t435 = 0 then (if (Int.tmod (Go.bits .or .u32 (Go.bits .or .u32 (Go.bits .or .u32 t425 t426) t427) t428) 256) = 0 then (if 256 ≤ t425 then (if t425 ≤ t426 then (if (wrap64 (t426)) = (l0.length : Int) then (if t426 ≤ t427 then (if t427 ≤ 1048576 then (if t428 > 0 then (if t428 ≤ 65536 then (if t429 ≥ 36 then (if t429 < t427 then (if t430 < t427 then ((grottolaw07_live.f k).bind fun t436 => (some t436)) else (some false)) else (some false)) else (some false)) else (some false)) else (some false)) else (some false)) else (some false)) else (some false)) else (some false)) else (some false)) else (some false)) else (if (t424 == 0 && (t425 == 0 && (t426 == 0 && (t427 == 0 && (t428 == 0 && (t429 == 0 && (t430 == 0 && (t431 == 0)))))))) = true then ((grottolaw07_live.f k).bind fun t437 => (some t437)) else (some false))) = some r := H
    have A6 := Aside0.mk A60
    clear A60
    by_cases c7 : t435 = 0
    · rw [if_pos c7] at H
      have c7b0 : (t435 == 0) = true := beq_iff_eq.mpr c7
      have c7b1 : (t435 != 0) = false := bne_eq_false_iff_eq.mpr c7
      clear c7
      by_cases c8 : (Int.tmod (Go.bits .or .u32 (Go.bits .or .u32 (Go.bits .or .u32 t425 t426) t427) t428) 256) = 0
      · rw [if_pos c8] at H
        have c8b0 : ((Int.tmod (Go.bits .or .u32 (Go.bits .or .u32 (Go.bits .or .u32 t425 t426) t427) t428) 256) == 0) = true := beq_iff_eq.mpr c8
        have c8b1 : ((Int.tmod (Go.bits .or .u32 (Go.bits .or .u32 (Go.bits .or .u32 t425 t426) t427) t428) 256) != 0) = false := bne_eq_false_iff_eq.mpr c8
        clear c8
        by_cases c9 : 256 ≤ t425
        · rw [if_pos c9] at H
          have c9b0 : decide (256 ≤ t425) = true := decide_eq_true c9
          clear c9
          by_cases c10 : t425 ≤ t426
          · rw [if_pos c10] at H
            have c10b0 : decide (t425 ≤ t426) = true := decide_eq_true c10
            clear c10
            by_cases c11 : (wrap64 (t426)) = (l0.length : Int)
            · rw [if_pos c11] at H
              have c11b0 : ((wrap64 (t426)) == (l0.length : Int)) = true := beq_iff_eq.mpr c11
              have c11b1 : ((wrap64 (t426)) != (l0.length : Int)) = false := bne_eq_false_iff_eq.mpr c11
              clear c11
              by_cases c12 : t426 ≤ t427
              · rw [if_pos c12] at H
                have c12b0 : decide (t426 ≤ t427) = true := decide_eq_true c12
                clear c12
                by_cases c13 : t427 ≤ 1048576
                · rw [if_pos c13] at H
                  have c13b0 : decide (t427 ≤ 1048576) = true := decide_eq_true c13
                  clear c13
                  by_cases c14 : t428 > 0
                  · rw [if_pos c14] at H
                    have c14b0 : decide (0 < t428) = true := decide_eq_true c14
                    clear c14
                    by_cases c15 : t428 ≤ 65536
                    · rw [if_pos c15] at H
                      have c15b0 : decide (t428 ≤ 65536) = true := decide_eq_true c15
                      clear c15
                      by_cases c16 : t429 ≥ 36
                      · rw [if_pos c16] at H
                        have c16b0 : decide (36 ≤ t429) = true := decide_eq_true c16
                        clear c16
                        by_cases c17 : t429 < t427
                        · rw [if_pos c17] at H
                          have c17b0 : decide (t429 < t427) = true := decide_eq_true c17
                          clear c17
                          by_cases c18 : t430 < t427
                          · rw [if_pos c18] at H
                            have c18b0 : decide (t430 < t427) = true := decide_eq_true c18
                            clear c18
                            replace H := Option.bind_eq_some_iff.mp H
                            obtain ⟨t436, A190, H⟩ := H
                            replace H : (some t436) = some r := H
                            have A19 := Aside0.mk A190
                            clear A190
                            obtain rfl := Option.some.inj H
                            go_enter Try.func9, Try.ntmps9
                            go_wp2_with (first | ((with_reducible refine gate_callee (f := 12) rfl ?_); refine zgo (some 13) Try.func12 #[.slice A0 l0.length c0] ?_; (with_reducible refine (header_Parse.calls k _ _ l0 t424 t425 t426 t427 t428 t429 t430 t431 t432 t433 _ ?side1 ?side2 A5.out).mono ?_); (case side1 => repeat (first | exact HR0.out | (with_reducible refine Kd.C_alloc ?_ _) | (with_reducible refine Kd.C_drewN ?_ _) | (with_reducible refine Kd.C_drew ?_))); (case side2 => exact HC0.out); rintro e w20 ⟨rfl, hb⟩; refine ⟨_, rfl, ?_⟩; replace HB := zbs HB hb; (try clear hb); (try clear hb2); (try clear hk); (try clear hi)) | ((with_reducible refine gate_dst (N := 3) rfl ?_); (try (refine gate_guard (by rfl) ?_; dsimp only)); refine zbox (N := 3) (cs := #[.int .u32 0, .int .u32 0, .int .u32 0, .int .u32 0, .int .u32 0, .int .u32 0, .int .u32 0, .int .u32 0]) (t := 27) ?_; intro gb434 hg w21 hbox hb; have BK434 := Aside0.mk hbox; have GW434 := zge hg HB; have GE434 := zge hg HB; replace HB := zbs HB hb; clear hb hbox hg; have hcz22_0 : w21.cell? ⟨gb434, 0, none⟩ = some (.int .u32 0) := (blk_cell BK434.out 0).trans rfl; have hcz22_1 : w21.cell? ⟨gb434, 1, none⟩ = some (.int .u32 0) := (blk_cell BK434.out 1).trans rfl; have hcz22_2 : w21.cell? ⟨gb434, 2, none⟩ = some (.int .u32 0) := (blk_cell BK434.out 2).trans rfl; have hcz22_3 : w21.cell? ⟨gb434, 3, none⟩ = some (.int .u32 0) := (blk_cell BK434.out 3).trans rfl; have hcz22_4 : w21.cell? ⟨gb434, 4, none⟩ = some (.int .u32 0) := (blk_cell BK434.out 4).trans rfl; have hcz22_5 : w21.cell? ⟨gb434, 5, none⟩ = some (.int .u32 0) := (blk_cell BK434.out 5).trans rfl; have hcz22_6 : w21.cell? ⟨gb434, 6, none⟩ = some (.int .u32 0) := (blk_cell BK434.out 6).trans rfl; have hcz22_7 : w21.cell? ⟨gb434, 7, none⟩ = some (.int .u32 0) := (blk_cell BK434.out 7).trans rfl; have hfz22_0 := blk_frozen BK434.out 0; have hfz22_1 := blk_frozen BK434.out 1; have hfz22_2 := blk_frozen BK434.out 2; have hfz22_3 := blk_frozen BK434.out 3; have hfz22_4 := blk_frozen BK434.out 4; have hfz22_5 := blk_frozen BK434.out 5; have hfz22_6 := blk_frozen BK434.out 6; have hfz22_7 := blk_frozen BK434.out 7) | ((with_reducible refine gate_callee (f := 14) rfl ?_); refine zgo (some 18) Try.func14 #[.int .i64 t432] ?_; (with_reducible refine (grottolaw07_num.calls t432 t435 _ A6.out).mono ?_); rintro e w' ⟨rfl, ⟨nd, rfl⟩⟩; refine ⟨_, rfl, ?_⟩) | (go_at_call 10; (with_reducible refine (grottolaw07_live.calls k  t436 _ A19.out).mono ?_); rintro e w23 ⟨rfl, hb⟩; replace BK434 := zkbo (o := .cells #[.int .u32 t424, .int .u32 t425, .int .u32 t426, .int .u32 t427, .int .u32 t428, .int .u32 t429, .int .u32 t430, .int .u32 t431] 27 (0, 0)) BK434 hb; replace HB := zbs HB hb; (try clear hb); (try clear hb2); (try clear hk); (try clear hi)))
                            go_ret
                            exact ⟨by first | rfl | (simp [errW_none, errW_some] <;> rfl) | (simp [*, errW_none, errW_some] <;> rfl), zb HB⟩
                          · rw [if_neg c18] at H
                            exact absurd (Option.some.inj H) (by rw [HRT.out]; decide)
                        · rw [if_neg c17] at H
                          exact absurd (Option.some.inj H) (by rw [HRT.out]; decide)
                      · rw [if_neg c16] at H
                        exact absurd (Option.some.inj H) (by rw [HRT.out]; decide)
                    · rw [if_neg c15] at H
                      exact absurd (Option.some.inj H) (by rw [HRT.out]; decide)
                  · rw [if_neg c14] at H
                    exact absurd (Option.some.inj H) (by rw [HRT.out]; decide)
                · rw [if_neg c13] at H
                  exact absurd (Option.some.inj H) (by rw [HRT.out]; decide)
              · rw [if_neg c12] at H
                exact absurd (Option.some.inj H) (by rw [HRT.out]; decide)
            · rw [if_neg c11] at H
              exact absurd (Option.some.inj H) (by rw [HRT.out]; decide)
          · rw [if_neg c10] at H
            exact absurd (Option.some.inj H) (by rw [HRT.out]; decide)
        · rw [if_neg c9] at H
          exact absurd (Option.some.inj H) (by rw [HRT.out]; decide)
      · rw [if_neg c8] at H
        exact absurd (Option.some.inj H) (by rw [HRT.out]; decide)
    · rw [if_neg c7] at H
      have c7b0 : (t435 == 0) = false := beq_eq_false_iff_ne.mpr c7
      have c7b1 : (t435 != 0) = true := bne_iff_ne.mpr c7
      by_cases c57 : (t424 == 0 && (t425 == 0 && (t426 == 0 && (t427 == 0 && (t428 == 0 && (t429 == 0 && (t430 == 0 && (t431 == 0)))))))) = true
      · rw [if_pos c57] at H
        have c57b0 : (t424 == 0 && (t425 == 0 && (t426 == 0 && (t427 == 0 && (t428 == 0 && (t429 == 0 && (t430 == 0 && (t431 == 0)))))))) = true := c57
        (try (have c57b1 : decide (t424 = 0 && (t425 == 0 && (t426 == 0 && (t427 == 0 && (t428 == 0 && (t429 == 0 && (t430 == 0 && (t431 == 0)))))))) = true := by simpa using c57))
        (try (have c57b2 : (t424 == 0 && (t425 == 0 && (t426 == 0 && (t427 == 0 && (t428 == 0 && (t429 == 0 && (t430 == 0 && (t431 == 0)))))))) = true := by simpa using c57))
        clear c57
        replace H := Option.bind_eq_some_iff.mp H
        obtain ⟨t437, A580, H⟩ := H
        replace H : (some t437) = some r := H
        have A58 := Aside0.mk A580
        clear A580
        obtain rfl := Option.some.inj H
        go_enter Try.func9, Try.ntmps9
        go_wp2_with (first | ((with_reducible refine gate_callee (f := 12) rfl ?_); refine zgo (some 13) Try.func12 #[.slice A0 l0.length c0] ?_; (with_reducible refine (header_Parse.calls k _ _ l0 t424 t425 t426 t427 t428 t429 t430 t431 t432 t433 _ ?side1 ?side2 A5.out).mono ?_); (case side1 => repeat (first | exact HR0.out | (with_reducible refine Kd.C_alloc ?_ _) | (with_reducible refine Kd.C_drewN ?_ _) | (with_reducible refine Kd.C_drew ?_))); (case side2 => exact HC0.out); rintro e w59 ⟨rfl, hb⟩; refine ⟨_, rfl, ?_⟩; replace HB := zbs HB hb; (try clear hb); (try clear hb2); (try clear hk); (try clear hi)) | ((with_reducible refine gate_dst (N := 3) rfl ?_); (try (refine gate_guard (by rfl) ?_; dsimp only)); refine zbox (N := 3) (cs := #[.int .u32 0, .int .u32 0, .int .u32 0, .int .u32 0, .int .u32 0, .int .u32 0, .int .u32 0, .int .u32 0]) (t := 27) ?_; intro gb434 hg w60 hbox hb; have BK434 := Aside0.mk hbox; have GW434 := zge hg HB; have GE434 := zge hg HB; replace HB := zbs HB hb; clear hb hbox hg; have hcz61_0 : w60.cell? ⟨gb434, 0, none⟩ = some (.int .u32 0) := (blk_cell BK434.out 0).trans rfl; have hcz61_1 : w60.cell? ⟨gb434, 1, none⟩ = some (.int .u32 0) := (blk_cell BK434.out 1).trans rfl; have hcz61_2 : w60.cell? ⟨gb434, 2, none⟩ = some (.int .u32 0) := (blk_cell BK434.out 2).trans rfl; have hcz61_3 : w60.cell? ⟨gb434, 3, none⟩ = some (.int .u32 0) := (blk_cell BK434.out 3).trans rfl; have hcz61_4 : w60.cell? ⟨gb434, 4, none⟩ = some (.int .u32 0) := (blk_cell BK434.out 4).trans rfl; have hcz61_5 : w60.cell? ⟨gb434, 5, none⟩ = some (.int .u32 0) := (blk_cell BK434.out 5).trans rfl; have hcz61_6 : w60.cell? ⟨gb434, 6, none⟩ = some (.int .u32 0) := (blk_cell BK434.out 6).trans rfl; have hcz61_7 : w60.cell? ⟨gb434, 7, none⟩ = some (.int .u32 0) := (blk_cell BK434.out 7).trans rfl; have hfz61_0 := blk_frozen BK434.out 0; have hfz61_1 := blk_frozen BK434.out 1; have hfz61_2 := blk_frozen BK434.out 2; have hfz61_3 := blk_frozen BK434.out 3; have hfz61_4 := blk_frozen BK434.out 4; have hfz61_5 := blk_frozen BK434.out 5; have hfz61_6 := blk_frozen BK434.out 6; have hfz61_7 := blk_frozen BK434.out 7) | ((with_reducible refine gate_callee (f := 14) rfl ?_); refine zgo (some 18) Try.func14 #[.int .i64 t432] ?_; (with_reducible refine (grottolaw07_num.calls t432 t435 _ A6.out).mono ?_); rintro e w' ⟨rfl, ⟨nd, rfl⟩⟩; refine ⟨_, rfl, ?_⟩) | (go_at_call 10; (with_reducible refine (grottolaw07_live.calls k  t437 _ A58.out).mono ?_); rintro e w62 ⟨rfl, hb⟩; replace BK434 := zkbo (o := .cells #[.int .u32 t424, .int .u32 t425, .int .u32 t426, .int .u32 t427, .int .u32 t428, .int .u32 t429, .int .u32 t430, .int .u32 t431] 27 (0, 0)) BK434 hb; replace HB := zbs HB hb; (try clear hb); (try clear hb2); (try clear hk); (try clear hi)))
        go_ret
        exact ⟨by first | rfl | (simp [errW_none, errW_some] <;> rfl) | (simp [*, errW_none, errW_some] <;> rfl), zb HB⟩
      · rw [if_neg c57] at H
        exact absurd (Option.some.inj H) (by rw [HRT.out]; decide)

/-- THE ONE PURE STATEMENT of grottolaw07_HeaderMaps: yours. -/
def grottolaw07_HeaderMaps.Pure : Prop := ∀ (l0 : List Int), l0.length ≤ maxLen → l0.length * 1 ≤ 140737488351232 → (∀ x ∈ l0, (Lit.int .u8 x).wf = true) → ∃ k, grottolaw07_HeaderMaps.f k l0 = some true
theorem grottolaw07_HeaderMaps.walk (P : grottolaw07_HeaderMaps.Pure) (a0 : Option Addr) (len0 cap0 : Nat) (z0 : List Int) (w : World) (w0 : (a0 = none ∧ len0 = 0 ∧ cap0 = 0 ∧ z0 = []) ∨ ∃ x, a0 = some x ∧ len0 ≤ cap0 ∧ cap0 ≤ maxLen ∧ z0.length = cap0 ∧ (∀ i, i < z0.length → w.cell? (x.add i) = some (.int .u8 (z0.getD i 0))) ∧ ∀ n ∈ z0, (Lit.int .u8 n).wf = true) (y0 : len0 * 1 ≤ 140737488351232) :
    Calls Try.prog 9 #[.slice a0 len0 cap0] w fun e w' => e = .returned (.bool true) ∧ Below w.heap.size w w' := by
  obtain ⟨l0, rfl, hr0, hm0, hw0, hc0⟩ := ReadsInt.ofRowC w0
  obtain ⟨k, h⟩ := P l0 hm0 y0 hw0
  refine (grottolaw07_HeaderMaps.calls k _ _ l0 true w (Kd.C_of_reads (d := (0 : Int)) (h1 := fun _ => rfl) hr0) hc0 h).mono ?_
  rintro e w' ⟨rfl, hd⟩
  exact ⟨rfl, hd⟩

end Go.Proofs.Ytpklekleehcglaa.PQ
