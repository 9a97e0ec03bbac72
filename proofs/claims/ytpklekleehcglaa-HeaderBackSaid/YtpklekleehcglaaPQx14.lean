-- by a program of this claim
import Derived.Test.YtpklekleehcglaaPQx0
import Derived.Test.YtpklekleehcglaaPQx1
import Derived.Test.YtpklekleehcglaaPQx2
import Derived.Test.YtpklekleehcglaaPQx4
import Derived.Test.YtpklekleehcglaaPQx5
import Derived.Test.YtpklekleehcglaaPQx6
import Derived.Test.YtpklekleehcglaaPQx7
namespace Go.Proofs.Ytpklekleehcglaa.PQ
open Go.RowKit Go.Proofs.YtpklekleehcglaaW.PrintWords Go.Proofs.YtpklekleehcglaaW.PrintLast Go.Proofs.YtpklekleehcglaaW.PrintMore Go.Proofs.Ytpklekleehcglaa.Z
attribute [local go_sem] max2_int min2_int max_two min_two max_three min_three max_four min_four   -- for this text's walks alone
set_option linter.unusedVariables false
set_option linter.unusedSimpArgs false

attribute [local go_sem high] eqA27
/-! ### grottolaw07_HeaderBack: function 6 -/
def grottolaw07_HeaderBack.f (k : Nat) (a0_0 : Int) (a0_1 : Int) (a0_2 : Int) (a0_3 : Int) (a0_4 : Int) (a0_5 : Int) (a0_6 : Int) (a0_7 : Int) (l1 : List Int) : Option (Bool) := if (l1.length : Int) > 65536 then ((grottolaw07_live.f k).bind fun t347 => (some t347)) else ((header_Make.f k a0_0 a0_1 a0_2 a0_3 a0_4 a0_5 a0_6 a0_7 l1).bind fun bt348 => ((grottolaw07_num.f bt348.2).bind fun t352 => (if t352 = 0 then ((header_Parse.f k bt348.1).bind fun bt354 => ((header_Sum.f k bt348.1).bind fun t365 => (if (bt354.1 == a0_0 && (bt354.2.1 == a0_1 && (bt354.2.2.1 == a0_2 && (bt354.2.2.2.1 == a0_3 && (bt354.2.2.2.2.1 == a0_4 && (bt354.2.2.2.2.2.1 == a0_5 && (bt354.2.2.2.2.2.2.1 == a0_6 && (bt354.2.2.2.2.2.2.2.1 == t365)))))))) = true then ((grottolaw07_num.f bt354.2.2.2.2.2.2.2.2.1).bind fun t366 => (if t366 = 0 then (if bt354.2.2.2.2.2.2.2.2.2 = 36 then (if (bt348.1.length : Int) = (wrap64 (36 + (l1.length : Int))) then (if 36 ≤ (bt348.1.length : Int) then (if (strOfNums (bt348.1.drop 36)).toList = (strOfNums l1).toList then ((grottolaw07_live.f k).bind fun t371 => (some t371)) else (some false)) else (none)) else (some false)) else (some false)) else (some false))) else (some false)))) else (if (bt348.1.length : Int) = 0 then ((grottolaw07_live.f k).bind fun t353 => (some t353)) else (some false)))))
theorem grottolaw07_HeaderBack.mono : ∀ a0 a1 a2 a3 a4 a5 a6 a7 a8 k, LeO (grottolaw07_HeaderBack.f k a0 a1 a2 a3 a4 a5 a6 a7 a8) (grottolaw07_HeaderBack.f (k + 1) a0 a1 a2 a3 a4 a5 a6 a7 a8) := by
  intro a0 a1 a2 a3 a4 a5 a6 a7 a8 k
  unfold grottolaw07_HeaderBack.f
  repeat' first
      | (with_reducible exact grottolaw07_live.mono _)
      | (with_reducible exact header_Make.mono _ _ _ _ _ _ _ _ _ _)
      | (with_reducible exact header_Parse.mono _ _)
      | (with_reducible exact header_Sum.mono _ _)
      | (with_reducible exact LeO.refl _)
      | (with_reducible exact LeO.none _)
      | (with_reducible refine LeO.ite ?_ ?_)
      | (with_reducible refine LeO.bind ?_ (fun _ => ?_))
      | exact grottolaw07_live.mono _
      | exact header_Make.mono _ _ _ _ _ _ _ _ _ _
      | exact header_Parse.mono _ _
      | exact header_Sum.mono _ _
      | exact LeO.none _
      | refine LeO.ite ?_ ?_
      | refine LeO.bind ?_ (fun _ => ?_)
def grottolaw07_HeaderBack.T8 : Bool × List (List Nat × List Nat) := (true, [([], []), ([], []), ([0, 1], [0, 1]), ([2], [2]), ([3], [3]), ([4, 3, 3], [3, 4]), ([5, 3], [3, 5]), ([3, 6], [3, 6]), ([7, 5], [7]), ([8], [8]), ([9, 8], [8, 9]), ([8, 10], [8, 10]), ([11, 8], [11]), ([12], [12]), ([13, 12], [12, 13]), ([12], [12]), ([15, 12], [12, 15]), ([16, 12], [12, 16]), ([14, 17, 12], [12, 14, 17]), ([12, 18], [12, 18]), ([19, 12], [19]), ([20], [20]), ([21, 20], [20, 21]), ([22, 20], [20, 22]), ([20], [20]), ([24, 20], [20, 24]), ([23, 25, 20], [20, 23, 25]), ([20, 26], [20, 26]), ([27, 20], [27]), ([28, 28], [28]), ([28, 29], [28, 29]), ([30, 29, 0, 1, 2, 3, 4, 5, 6, 7, 8, 9, 10, 11, 12, 13, 14, 15, 16, 17, 18, 19, 20, 21, 22, 23, 24, 25, 26, 27, 28, 29, 30], [30])])
def grottolaw07_HeaderBack.B8 : List Nat := [0, 0, 3, 7, 15, 31, 63, 127, 255, 511, 1023, 2047, 4095, 8191, 16383, 8191, 40959, 106495, 262143, 524287, 1048575, 2097151, 4194303, 8388607, 2097151, 18874367, 67108863, 134217727, 268435455, 536870911, 1073741823, 2147483647]
theorem grottolaw07_HeaderBack.tab8 : rtab .any (opsOf Try.f6 8) = grottolaw07_HeaderBack.T8 := by kernel_rfl
theorem grottolaw07_HeaderBack.bits8 : waitsOk grottolaw07_HeaderBack.T8.2 grottolaw07_HeaderBack.B8 = true := by kernel_rfl
set_option maxHeartbeats 8000000 in
set_option maxRecDepth 100000 in
theorem grottolaw07_HeaderBack.calls (k : Nat) (a0_0 : Int) (a0_1 : Int) (a0_2 : Int) (a0_3 : Int) (a0_4 : Int) (a0_5 : Int) (a0_6 : Int) (a0_7 : Int) (A1 : Option Addr) (c1 : Nat) (l1 : List Int) (r : Bool) (w : World) (hr1 : Kd.C (Kd.int .u8) w A1 l1.length l1) (hc1 : l1.length ≤ c1) (h : grottolaw07_HeaderBack.f k a0_0 a0_1 a0_2 a0_3 a0_4 a0_5 a0_6 a0_7 l1 = some r) (hr : r = true := by rfl) :
    Calls Try.prog 6 #[.agg #[.int .u32 a0_0, .int .u32 a0_1, .int .u32 a0_2, .int .u32 a0_3, .int .u32 a0_4, .int .u32 a0_5, .int .u32 a0_6, .int .u32 a0_7], .slice A1 l1.length c1] w fun e w' => e = .returned (.bool r) ∧ Below w.heap.size w w' := by
  have HRT := Aside0.mk hr
  clear hr
  have hu27 := Try.underlying27
  have HR1 := Aside0.mk hr1
  have HC1 := Aside0.mk hc1
  clear hr1 hc1
  have HB := Aside0.mk (Below.refl w.heap.size w)
  have H : (if (l1.length : Int) > 65536 then ((grottolaw07_live.f k).bind fun t347 => (some t347)) else ((header_Make.f k a0_0 a0_1 a0_2 a0_3 a0_4 a0_5 a0_6 a0_7 l1).bind fun bt348 => ((grottolaw07_num.f bt348.2).bind fun t352 => (if t352 = 0 then ((header_Parse.f k bt348.1).bind fun bt354 => ((header_Sum.f k bt348.1).bind fun t365 => (if (bt354.1 == a0_0 && (bt354.2.1 == a0_1 && (bt354.2.2.1 == a0_2 && (bt354.2.2.2.1 == a0_3 && (bt354.2.2.2.2.1 == a0_4 && (bt354.2.2.2.2.2.1 == a0_5 && (bt354.2.2.2.2.2.2.1 == a0_6 && (bt354.2.2.2.2.2.2.2.1 == t365)))))))) = true then ((grottolaw07_num.f bt354.2.2.2.2.2.2.2.2.1).bind fun t366 => (if t366 = 0 then (if bt354.2.2.2.2.2.2.2.2.2 = 36 then (if (bt348.1.length : Int) = (wrap64 (36 + (l1.length : Int))) then (if 36 ≤ (bt348.1.length : Int) then (if (strOfNums (bt348.1.drop 36)).toList = (strOfNums l1).toList then ((grottolaw07_live.f k).bind fun t371 => (some t371)) else (some false)) else (none)) else (some false)) else (some false)) else (some false))) else (some false)))) else (if (bt348.1.length : Int) = 0 then ((grottolaw07_live.f k).bind fun t353 => (some t353)) else (some false)))))) = some r := h
  clear h
  by_cases c3 : (l1.length : Int) > 65536
  · rw [if_pos c3] at H
    have c3b0 : decide (65536 < (l1.length : Int)) = true := decide_eq_true c3
    have c3b1 : decide (65536 < l1.length) = true := decide_eq_true (by omega)
    clear c3
    replace H := Option.bind_eq_some_iff.mp H
    obtain ⟨t347, A40, H⟩ := H
    replace H : (some t347) = some r := H
    have A4 := Aside0.mk A40
    clear A40
    obtain rfl := Option.some.inj H
    go_enter Try.func6, Try.ntmps6
    go_wp2_with (first | ((with_reducible refine gate_dst (N := 2) rfl ?_); (try (refine gate_guard (by rfl) ?_; dsimp only)); refine zbox (N := 2) (cs := #[.int .u32 a0_0, .int .u32 a0_1, .int .u32 a0_2, .int .u32 a0_3, .int .u32 a0_4, .int .u32 a0_5, .int .u32 a0_6, .int .u32 a0_7]) (t := 27) ?_; intro gb346 hg w5 hbox hb; have BK346 := Aside0.mk hbox; have GW346 := zge hg HB; have GE346 := zge hg HB; replace HB := zbs HB hb; clear hb hbox hg) | ((with_reducible refine gate_callee (f := 10) rfl ?_); refine zgo (some 13) Try.func10 #[] ?_; (with_reducible refine (grottolaw07_live.calls k  t347 _ A4.out).mono ?_); rintro e w6 ⟨rfl, hb⟩; refine ⟨_, rfl, ?_⟩; replace BK346 := zkb BK346 hb; replace HB := zbs HB hb; (try clear hb); (try clear hb2); (try clear hk); (try clear hi)))
    go_ret
    exact ⟨by first | rfl | (simp [errW_none, errW_some] <;> rfl) | (simp [*, errW_none, errW_some] <;> rfl), zb HB⟩
  · rw [if_neg c3] at H
    have c3b0 : decide (65536 < (l1.length : Int)) = false := decide_eq_false c3
    have c3b1 : decide (65536 < l1.length) = false := decide_eq_false (by omega)
    clear c3
    replace H := Option.bind_eq_some_iff.mp H
    obtain ⟨⟨t348, t351⟩, A70, H⟩ := H
    replace H : ((grottolaw07_num.f t351).bind fun t352 => (if t352 = 0 then ((header_Parse.f k t348).bind fun bt354 => ((header_Sum.f k t348).bind fun t365 => (if (bt354.1 == a0_0 && (bt354.2.1 == a0_1 && (bt354.2.2.1 == a0_2 && (bt354.2.2.2.1 == a0_3 && (bt354.2.2.2.2.1 == a0_4 && (bt354.2.2.2.2.2.1 == a0_5 && (bt354.2.2.2.2.2.2.1 == a0_6 && (bt354.2.2.2.2.2.2.2.1 == t365)))))))) = true then ((grottolaw07_num.f bt354.2.2.2.2.2.2.2.2.1).bind fun t366 => (if t366 = 0 then (if bt354.2.2.2.2.2.2.2.2.2 = 36 then (if (t348.length : Int) = (wrap64 (36 + (l1.length : Int))) then (if 36 ≤ (t348.length : Int) then (if (strOfNums (t348.drop 36)).toList = (strOfNums l1).toList then ((grottolaw07_live.f k).bind fun t371 => (some t371)) else (some false)) else (none)) else (some false)) else (some false)) else (some false))) else (some false)))) else (if (t348.length : Int) = 0 then ((grottolaw07_live.f k).bind fun t353 => (some t353)) else (some false)))) = some r := H
    have A7 := Aside0.mk A70
    clear A70
    replace H := Option.bind_eq_some_iff.mp H
    obtain ⟨t352, A80, H⟩ := H
    replace H : (if t352 = 0 then ((header_Parse.f k t348).bind fun bt354 => ((header_Sum.f k t348).bind fun t365 => (if (bt354.1 == a0_0 && (bt354.2.1 == a0_1 && (bt354.2.2.1 == a0_2 && (bt354.2.2.2.1 == a0_3 && (bt354.2.2.2.2.1 == a0_4 && (bt354.2.2.2.2.2.1 == a0_5 && (bt354.2.2.2.2.2.2.1 == a0_6 && (bt354.2.2.2.2.2.2.2.1 == t365)))))))) = true then ((grottolaw07_num.f bt354.2.2.2.2.2.2.2.2.1).bind fun t366 => (if t366 = 0 then (if bt354.2.2.2.2.2.2.2.2.2 = 36 then (if (t348.length : Int) = (wrap64 (36 + (l1.length : Int))) then (if 36 ≤ (t348.length : Int) then (if (strOfNums (t348.drop 36)).toList = (strOfNums l1).toList then ((grottolaw07_live.f k).bind fun t371 => (some t371)) else (some false)) else (none)) else (some false)) else (some false)) else (some false))) else (some false)))) else (if (t348.length : Int) = 0 then ((grottolaw07_live.f k).bind fun t353 => (some t353)) else (some false))) = some r := H
    have A8 := Aside0.mk A80
    clear A80
    by_cases c9 : t352 = 0
    · rw [if_pos c9] at H
      have c9b0 : (t352 == 0) = true := beq_iff_eq.mpr c9
      have c9b1 : (t352 != 0) = false := bne_eq_false_iff_eq.mpr c9
      clear c9
      replace H := Option.bind_eq_some_iff.mp H
      obtain ⟨⟨t354, t355, t356, t357, t358, t359, t360, t361, t362, t363⟩, A100, H⟩ := H
      replace H : ((header_Sum.f k t348).bind fun t365 => (if (t354 == a0_0 && (t355 == a0_1 && (t356 == a0_2 && (t357 == a0_3 && (t358 == a0_4 && (t359 == a0_5 && (t360 == a0_6 && (t361 == t365)))))))) = true then ((grottolaw07_num.f t362).bind fun t366 => (if t366 = 0 then (if t363 = 36 then (if (t348.length : Int) = (wrap64 (36 + (l1.length : Int))) then (if 36 ≤ (t348.length : Int) then (if (strOfNums (t348.drop 36)).toList = (strOfNums l1).toList then ((grottolaw07_live.f k).bind fun t371 => (some t371)) else (some false)) else (none)) else (some false)) else (some false)) else (some false))) else (some false))) = some r := H
      have A10 := Aside0.mk A100
      clear A100
      replace H := Option.bind_eq_some_iff.mp H
      obtain ⟨t365, A110, H⟩ := H
      replace H : (if (t354 == a0_0 && (t355 == a0_1 && (t356 == a0_2 && (t357 == a0_3 && (t358 == a0_4 && (t359 == a0_5 && (t360 == a0_6 && (t361 == t365)))))))) = true then ((grottolaw07_num.f t362).bind fun t366 => (if t366 = 0 then (if t363 = 36 then (if (t348.length : Int) = (wrap64 (36 + (l1.length : Int))) then (if 36 ≤ (t348.length : Int) then (if (strOfNums (t348.drop 36)).toList = (strOfNums l1).toList then ((grottolaw07_live.f k).bind fun t371 => (some t371)) else (some false)) else (none)) else (some false)) else (some false)) else (some false))) else (some false)) = some r := H
      have A11 := Aside0.mk A110
      clear A110
      by_cases c12 : (t354 == a0_0 && (t355 == a0_1 && (t356 == a0_2 && (t357 == a0_3 && (t358 == a0_4 && (t359 == a0_5 && (t360 == a0_6 && (t361 == t365)))))))) = true
      · rw [if_pos c12] at H
        have c12b0 : (t354 == a0_0 && (t355 == a0_1 && (t356 == a0_2 && (t357 == a0_3 && (t358 == a0_4 && (t359 == a0_5 && (t360 == a0_6 && (t361 == t365)))))))) = true := c12
        (try (have c12b1 : decide (t354 = a0_0 && (t355 == a0_1 && (t356 == a0_2 && (t357 == a0_3 && (t358 == a0_4 && (t359 == a0_5 && (t360 == a0_6 && (t361 == t365)))))))) = true := by simpa using c12))
        (try (have c12b2 : (t354 == a0_0 && (t355 == a0_1 && (t356 == a0_2 && (t357 == a0_3 && (t358 == a0_4 && (t359 == a0_5 && (t360 == a0_6 && (t361 == t365)))))))) = true := by simpa using c12))
        clear c12
        replace H := Option.bind_eq_some_iff.mp H
        obtain ⟨t366, A130, H⟩ := H
        replace H : (if t366 = 0 then (if t363 = 36 then (if (t348.length : Int) = (wrap64 (36 + (l1.length : Int))) then (if 36 ≤ (t348.length : Int) then (if (strOfNums (t348.drop 36)).toList = (strOfNums l1).toList then ((grottolaw07_live.f k).bind fun t371 => (some t371)) else (some false)) else (none)) else (some false)) else (some false)) else (some false)) = some r := H
        have A13 := Aside0.mk A130
        clear A130
        by_cases c14 : t366 = 0
        · rw [if_pos c14] at H
          have c14b0 : (t366 == 0) = true := beq_iff_eq.mpr c14
          have c14b1 : (t366 != 0) = false := bne_eq_false_iff_eq.mpr c14
          clear c14
          by_cases c15 : t363 = 36
          · rw [if_pos c15] at H
            have c15b0 : (t363 == 36) = true := beq_iff_eq.mpr c15
            have c15b1 : (t363 != 36) = false := bne_eq_false_iff_eq.mpr c15
            clear c15
            by_cases c16 : (t348.length : Int) = (wrap64 (36 + (l1.length : Int)))
            · rw [if_pos c16] at H
              have c16b0 : ((t348.length : Int) == (wrap64 (36 + (l1.length : Int)))) = true := beq_iff_eq.mpr c16
              have c16b1 : ((t348.length : Int) != (wrap64 (36 + (l1.length : Int)))) = false := bne_eq_false_iff_eq.mpr c16
              clear c16
              by_cases c17 : 36 ≤ (t348.length : Int)
              · rw [if_pos c17] at H
                have c17b0 := eq_true c17
                have c17b1 : decide (36 ≤ (t348.length : Int)) = true := decide_eq_true c17
                clear c17
                obtain ⟨y367, hy367⟩ : ∃ y_ : List Int, y_ = (t348.drop 36) := ⟨_, rfl⟩
                replace H : (if (strOfNums y367).toList = (strOfNums l1).toList then ((grottolaw07_live.f k).bind fun t371 => (some t371)) else (some false)) = some r := by first | (rw [hy367]; with_reducible exact H) | (have H2_ := (Option.bind_some _ _).symm.trans H; rw [hy367]; with_reducible exact H2_) | (have H2_ := (Option.bind_some _ _).symm.trans H; with_reducible exact H2_) | with_reducible exact H | (rw [hy367]; exact H) | exact H
                have Ny367 := Aside0.mk hy367
                clear hy367
                by_cases c18 : (strOfNums y367).toList = (strOfNums l1).toList
                · rw [if_pos c18] at H
                  have c18b0 : ((strOfNums y367).toList == (strOfNums l1).toList) = true := beq_iff_eq.mpr c18
                  have c18b1 : ((strOfNums y367).toList != (strOfNums l1).toList) = false := bne_eq_false_iff_eq.mpr c18
                  clear c18
                  replace H := Option.bind_eq_some_iff.mp H
                  obtain ⟨t371, A190, H⟩ := H
                  replace H : (some t371) = some r := H
                  have A19 := Aside0.mk A190
                  clear A190
                  obtain rfl := Option.some.inj H
                  go_enter Try.func6, Try.ntmps6
                  try go_wp2_with (first | ((with_reducible refine gate_dst (N := 2) rfl ?_); (try (refine gate_guard (by rfl) ?_; dsimp only)); refine zbox (N := 2) (cs := #[.int .u32 a0_0, .int .u32 a0_1, .int .u32 a0_2, .int .u32 a0_3, .int .u32 a0_4, .int .u32 a0_5, .int .u32 a0_6, .int .u32 a0_7]) (t := 27) ?_; intro gb346 hg w20 hbox hb; have BK346 := Aside0.mk hbox; have GW346 := zge hg HB; have GE346 := zge hg HB; replace HB := zbs HB hb; clear hb hbox hg; have hcz21_0 : w20.cell? ⟨gb346, 0, none⟩ = some (.int .u32 a0_0) := (blk_cell BK346.out 0).trans rfl; have hcz21_1 : w20.cell? ⟨gb346, 1, none⟩ = some (.int .u32 a0_1) := (blk_cell BK346.out 1).trans rfl; have hcz21_2 : w20.cell? ⟨gb346, 2, none⟩ = some (.int .u32 a0_2) := (blk_cell BK346.out 2).trans rfl; have hcz21_3 : w20.cell? ⟨gb346, 3, none⟩ = some (.int .u32 a0_3) := (blk_cell BK346.out 3).trans rfl; have hcz21_4 : w20.cell? ⟨gb346, 4, none⟩ = some (.int .u32 a0_4) := (blk_cell BK346.out 4).trans rfl; have hcz21_5 : w20.cell? ⟨gb346, 5, none⟩ = some (.int .u32 a0_5) := (blk_cell BK346.out 5).trans rfl; have hcz21_6 : w20.cell? ⟨gb346, 6, none⟩ = some (.int .u32 a0_6) := (blk_cell BK346.out 6).trans rfl; have hcz21_7 : w20.cell? ⟨gb346, 7, none⟩ = some (.int .u32 a0_7) := (blk_cell BK346.out 7).trans rfl; have hfz21_0 := blk_frozen BK346.out 0; have hfz21_1 := blk_frozen BK346.out 1; have hfz21_2 := blk_frozen BK346.out 2; have hfz21_3 := blk_frozen BK346.out 3; have hfz21_4 := blk_frozen BK346.out 4; have hfz21_5 := blk_frozen BK346.out 5; have hfz21_6 := blk_frozen BK346.out 6; have hfz21_7 := blk_frozen BK346.out 7) | ((with_reducible refine gate_callee (f := 18) rfl ?_); refine zgo (some 17) Try.func18 #[.agg #[.int .u32 a0_0, .int .u32 a0_1, .int .u32 a0_2, .int .u32 a0_3, .int .u32 a0_4, .int .u32 a0_5, .int .u32 a0_6, .int .u32 a0_7], .slice A1 l1.length c1] ?_; (with_reducible refine (header_Make.calls k a0_0 a0_1 a0_2 a0_3 a0_4 a0_5 a0_6 a0_7 _ _ l1 t348 t351 _ ?side1 ?side2 A7.out).mono ?_); (case side1 => repeat (first | exact (Kd.C_below HR1.out HB.out) | (with_reducible refine Kd.C_alloc ?_ _) | (with_reducible refine Kd.C_drewN ?_ _) | (with_reducible refine Kd.C_drew ?_))); (case side2 => exact HC1.out); rintro e w22 ⟨v349, rfl, ho0, hb⟩; refine ⟨_, rfl, ?_⟩; have HO350 := Aside0.mk (Kd.R_lower ho0 (below_size (zb HB))); replace BK346 := zkb BK346 hb; replace HB := zbs HB hb; (try clear hb); (try clear hb2); (try clear hk); (try clear hi); (try clear ho0)) | ((with_reducible refine gate_callee (f := 14) rfl ?_); refine zgo (some 21) Try.func14 #[.int .i64 t351] ?_; (with_reducible refine (grottolaw07_num.calls t351 t352 _ A8.out).mono ?_); rintro e w' ⟨rfl, ⟨nd, rfl⟩⟩; refine ⟨_, rfl, ?_⟩; (try (rw [drewN_self w22]; generalize hq_ : World.drewN w22 _ = w22; have n0_ : Aside0 (Kd.R (Kd.int .u8) 5 w22 w.heap.size (fun _ => True) v349 t348) := ⟨by rw [← hq_]; exact (by (with_reducible repeat (first | apply Kd.R_alloc | apply Kd.R_drewN | apply Kd.R_drew)); exact HO350.out)⟩; have n1_ : Aside0 (w22.heap[gb346]? = some (.cells #[.int .u32 a0_0, .int .u32 a0_1, .int .u32 a0_2, .int .u32 a0_3, .int .u32 a0_4, .int .u32 a0_5, .int .u32 a0_6, .int .u32 a0_7] 27 (0, 0))) := ⟨by rw [← hq_]; exact (zk BK346)⟩; have n2_ : Aside0 (Below w.heap.size w w22) := ⟨by rw [← hq_]; exact (zb HB)⟩; clear HO350 BK346 HB hq_; have HO350 := n0_; have BK346 := n1_; have HB := n2_; clear n0_ n1_ n2_)); obtain ⟨Ao23, co23, eo23⟩ := Kd.R_slice HO350.out; subst eo23) | ((with_reducible refine gate_callee (f := 12) rfl ?_); refine zgo (some 31) Try.func12 #[.slice Ao23 t348.length co23] ?_; (with_reducible refine (header_Parse.calls k _ _ t348 t354 t355 t356 t357 t358 t359 t360 t361 t362 t363 _ ?side1 ?side2 A10.out).mono ?_); (case side1 => repeat (first | exact (Kd.R_reads' HO350.out).2.2 | (with_reducible refine Kd.C_alloc ?_ _) | (with_reducible refine Kd.C_drewN ?_ _) | (with_reducible refine Kd.C_drew ?_))); (case side2 => exact (Kd.R_reads' HO350.out).2.1); rintro e w24 ⟨rfl, hb⟩; refine ⟨_, rfl, ?_⟩; replace HO350 := Aside0.mk (Kd.R_below (by (with_reducible repeat (first | apply Kd.R_alloc | apply Kd.R_drewN | apply Kd.R_drew)); exact HO350.out) hb); replace BK346 := zkb BK346 hb; replace HB := zbs HB hb; (try clear hb); (try clear hb2); (try clear hk); (try clear hi)) | ((with_reducible refine gate_dst (N := 7) rfl ?_); (try (refine gate_guard (by rfl) ?_; dsimp only)); refine zbox (N := 7) (cs := #[.int .u32 0, .int .u32 0, .int .u32 0, .int .u32 0, .int .u32 0, .int .u32 0, .int .u32 0, .int .u32 0]) (t := 27) ?_; intro gb364 hg w25 hbox hb; have BK364 := Aside0.mk hbox; have GW364 := zge hg HB; have GE364 := zge hg HB; have NB346_364 := znl hg BK346; have NB364_346 := zng hg BK346; replace HO350 := Aside0.mk (Kd.R_below (by (with_reducible repeat (first | apply Kd.R_alloc | apply Kd.R_drewN | apply Kd.R_drew)); exact HO350.out) hb); replace BK346 := zkb BK346 hb; replace HB := zbs HB hb; clear hb hbox hg; have hnb26 := NB364_346.out; have hnc26 := NB346_364.out; have hcz27_0 : w25.cell? ⟨gb364, 0, none⟩ = some (.int .u32 0) := (blk_cell BK364.out 0).trans rfl; have hcz27_1 : w25.cell? ⟨gb364, 1, none⟩ = some (.int .u32 0) := (blk_cell BK364.out 1).trans rfl; have hcz27_2 : w25.cell? ⟨gb364, 2, none⟩ = some (.int .u32 0) := (blk_cell BK364.out 2).trans rfl; have hcz27_3 : w25.cell? ⟨gb364, 3, none⟩ = some (.int .u32 0) := (blk_cell BK364.out 3).trans rfl; have hcz27_4 : w25.cell? ⟨gb364, 4, none⟩ = some (.int .u32 0) := (blk_cell BK364.out 4).trans rfl; have hcz27_5 : w25.cell? ⟨gb364, 5, none⟩ = some (.int .u32 0) := (blk_cell BK364.out 5).trans rfl; have hcz27_6 : w25.cell? ⟨gb364, 6, none⟩ = some (.int .u32 0) := (blk_cell BK364.out 6).trans rfl; have hcz27_7 : w25.cell? ⟨gb364, 7, none⟩ = some (.int .u32 0) := (blk_cell BK364.out 7).trans rfl; have hfz27_0 := blk_frozen BK364.out 0; have hfz27_1 := blk_frozen BK364.out 1; have hfz27_2 := blk_frozen BK364.out 2; have hfz27_3 := blk_frozen BK364.out 3; have hfz27_4 := blk_frozen BK364.out 4; have hfz27_5 := blk_frozen BK364.out 5; have hfz27_6 := blk_frozen BK364.out 6; have hfz27_7 := blk_frozen BK364.out 7) | ((with_reducible refine gate_callee (f := 16) rfl ?_); refine zgo (some 36) Try.func16 #[.slice Ao23 t348.length co23] ?_; (with_reducible refine (header_Sum.calls k _ _ t348 t365 _ ?side1 ?side2 A11.out).mono ?_); (case side1 => repeat (first | exact (Kd.R_reads' HO350.out).2.2 | (with_reducible refine Kd.C_alloc ?_ _) | (with_reducible refine Kd.C_drewN ?_ _) | (with_reducible refine Kd.C_drew ?_))); (case side2 => exact (Kd.R_reads' HO350.out).2.1); rintro e w' ⟨rfl, ⟨nd, rfl⟩⟩; refine ⟨_, rfl, ?_⟩) | ((with_reducible refine gate_ (.store 27 (.tmp 7) (.tmp 32)) rfl ?_); refine store_blk (cs := #[.int .u32 0, .int .u32 0, .int .u32 0, .int .u32 0, .int .u32 0, .int .u32 0, .int .u32 0, .int .u32 0]) (cs' := #[.int .u32 t354, .int .u32 t355, .int .u32 t356, .int .u32 t357, .int .u32 t358, .int .u32 t359, .int .u32 t360, .int .u32 t361]) rfl rfl 27 (.tmp 7) (.tmp 32) rfl rfl rfl ?hh ?hsz size27 ?h1 ?_; (case hh => first | exact BK364.out | exact zkp BK364); (case hsz => rfl); (case h1 => intro q_ hq_; simp only [List.mem_cons, List.not_mem_nil, or_false] at hq_; rcases hq_ with rfl | rfl | rfl | rfl | rfl | rfl | rfl | rfl <;> rfl); intro w26 hh hgr; replace HO350 := Aside0.mk (r_store (by (with_reducible repeat (first | apply Kd.R_alloc | apply Kd.R_drewN | apply Kd.R_drew)); exact HO350.out) (by first | exact BK364.out | exact zkp BK364) (by decide) hgr); replace BK346 := Aside0.mk (blk_grown (o := .cells #[.int .u32 a0_0, .int .u32 a0_1, .int .u32 a0_2, .int .u32 a0_3, .int .u32 a0_4, .int .u32 a0_5, .int .u32 a0_6, .int .u32 a0_7] 27 (0, 0)) (by first | exact BK346.out | exact zkp BK346) hgr (fun e_ => NB346_364.out (by injection e_))); replace HB := Aside0.mk ((zb HB).grown hgr (below_size (zb HB)) (fun k_ hk_ => by injection hk_ with hk_; subst hk_; exact GE364.out)); clear BK364; have BK364 := Aside0.mk hh; clear hh hgr) | ((with_reducible refine gate_ (.store 25 (.tmp 37) (.tmp 36)) rfl ?_); refine store_cell (cs := #[.int .u32 a0_0, .int .u32 a0_1, .int .u32 a0_2, .int .u32 a0_3, .int .u32 a0_4, .int .u32 a0_5, .int .u32 a0_6, .int .u32 a0_7]) rfl rfl 25 27 (.tmp 37) (.tmp 36) rfl (j := 7) rfl rfl ?hh ?hsz (infoS info25) ?_; (case hh => first | exact BK346.out | exact zkp BK346); (case hsz => exact (by decide : (7 : Nat) < 8)); intro w29 hh hgr; replace HO350 := Aside0.mk (r_store (by (with_reducible repeat (first | apply Kd.R_alloc | apply Kd.R_drewN | apply Kd.R_drew)); exact HO350.out) (by first | exact BK346.out | exact zkp BK346) (by decide) hgr); replace BK364 := Aside0.mk (blk_grown (o := .cells #[.int .u32 t354, .int .u32 t355, .int .u32 t356, .int .u32 t357, .int .u32 t358, .int .u32 t359, .int .u32 t360, .int .u32 t361] 27 (0, 0)) (by first | exact BK364.out | exact zkp BK364) hgr (fun e_ => NB364_346.out (by injection e_))); replace HB := Aside0.mk ((zb HB).grown hgr (below_size (zb HB)) (fun k_ hk_ => by injection hk_ with hk_; subst hk_; exact GE346.out)); clear BK346; have BK346 : Aside0 (w29.heap[gb346]? = some (.cells #[.int .u32 a0_0, .int .u32 a0_1, .int .u32 a0_2, .int .u32 a0_3, .int .u32 a0_4, .int .u32 a0_5, .int .u32 a0_6, .int .u32 t365] 27 (0, 0))) := ⟨hh⟩; clear hh hgr))
                  (try (rw [drewN_self w29]; generalize hq_ : World.drewN w29 _ = w29; have n0_ : Aside0 (Kd.R (Kd.int .u8) 5 w29 w.heap.size (fun _ => True) (.slice Ao23 t348.length co23) t348) := ⟨by rw [← hq_]; exact (by (with_reducible repeat (first | apply Kd.R_alloc | apply Kd.R_drewN | apply Kd.R_drew)); exact HO350.out)⟩; have n1_ : Aside0 (w29.heap[gb346]? = some (.cells #[.int .u32 a0_0, .int .u32 a0_1, .int .u32 a0_2, .int .u32 a0_3, .int .u32 a0_4, .int .u32 a0_5, .int .u32 a0_6, .int .u32 t365] 27 (0, 0))) := ⟨by rw [← hq_]; exact (zk BK346)⟩; have n2_ : Aside0 (w29.heap[gb364]? = some (.cells #[.int .u32 t354, .int .u32 t355, .int .u32 t356, .int .u32 t357, .int .u32 t358, .int .u32 t359, .int .u32 t360, .int .u32 t361] 27 (0, 0))) := ⟨by rw [← hq_]; exact (zk BK364)⟩; have n3_ : Aside0 (Below w.heap.size w w29) := ⟨by rw [← hq_]; exact (zb HB)⟩; clear HO350 BK346 BK364 HB hq_; have HO350 := n0_; have BK346 := n1_; have BK364 := n2_; have HB := n3_; clear n0_ n1_ n2_ n3_))
                  replace HO350 := Aside0.mk (Kd.R_drew HO350.out)
                  replace BK346 := Aside0.mk (blk_drew BK346.out)
                  replace BK364 := Aside0.mk (blk_drew BK364.out)
                  replace HB := Aside0.mk (below_drew1 HB.out)
                  have q31 : (36 : Int) ≤ ((t348.length : Int) : Int) := of_decide_eq_true (by first | (with_reducible assumption) | assumption)
                  obtain ⟨i031, hi031, _, hsz31, _⟩ := info_parts info5
                  have hroom31 : t348.length ≤ co23 := (Kd.R_reads' HO350.out).2.1
                  have hC31 : Kd.C (Kd.int .u8) _ Ao23 t348.length t348 := (Kd.R_reads' HO350.out).2.2
                  have hcut31 := cut_from (P := Try.prog) 22 5 .i64 Try.underlying22 hi031 1 hsz31 Ao23 t348.length co23 36 (by omega) q31
                  have hr31 := Kd.C_drop (m := (36 : Int).toNat) (c := co23) hC31 (by omega) hroom31
                  obtain ⟨A31, hA31⟩ : ∃ A1, A1 = (if co23 = (36 : Int).toNat then Ao23 else (Ao23 : Option Addr).map (·.add ((36 : Int).toNat * 1))) := ⟨_, rfl⟩
                  obtain ⟨c31, hc31⟩ : ∃ c1, c1 = co23 - (36 : Int).toNat := ⟨_, rfl⟩
                  have hy31 : y367.length = t348.length - (36 : Int).toNat := (by rw [Ny367.out, List.length_drop] <;> omega)
                  rw [show (t348).drop (36 : Int).toNat = y367 from Ny367.out.symm] at hr31
                  replace hr31 : Kd.C (Kd.int .u8) _ A31 y367.length y367 := (by rw [hA31]; exact hr31)
                  rw [← hy31, ← hA31, ← hc31] at hcut31
                  have HR370 := Aside0.mk hr31
                  have HC370 := Aside0.mk (show y367.length ≤ c31 from by rw [hy31, hc31]; exact Nat.sub_le_sub_right hroom31 _)
                  clear hr31 hC31 hroom31 hi031 hsz31 hc31
                  have KY31 := Aside0.mk hy31
                  have KA31 := Aside0.mk hA31
                  clear hy31 hA31
                  have KL31 := Aside0.mk (show 36 ≤ t348.length from by omega)
                  replace q31 := eq_true q31
                  have HRL := Aside0.mk (Kd.C_below HR1.out HB.out)
                  refine start_ (n := 32) (S := fun w' => w'.cell? ⟨gb364, 0, none⟩ = some (.int .u32 t354) ∧ w'.cell? ⟨gb364, 1, none⟩ = some (.int .u32 t355) ∧ w'.cell? ⟨gb364, 2, none⟩ = some (.int .u32 t356) ∧ w'.cell? ⟨gb364, 3, none⟩ = some (.int .u32 t357) ∧ w'.cell? ⟨gb364, 4, none⟩ = some (.int .u32 t358) ∧ w'.cell? ⟨gb364, 5, none⟩ = some (.int .u32 t359) ∧ w'.cell? ⟨gb364, 6, none⟩ = some (.int .u32 t360) ∧ w'.cell? ⟨gb364, 7, none⟩ = some (.int .u32 t361) ∧ w'.cell? ⟨gb346, 0, none⟩ = some (.int .u32 a0_0) ∧ w'.cell? ⟨gb346, 1, none⟩ = some (.int .u32 a0_1) ∧ w'.cell? ⟨gb346, 2, none⟩ = some (.int .u32 a0_2) ∧ w'.cell? ⟨gb346, 3, none⟩ = some (.int .u32 a0_3) ∧ w'.cell? ⟨gb346, 4, none⟩ = some (.int .u32 a0_4) ∧ w'.cell? ⟨gb346, 5, none⟩ = some (.int .u32 a0_5) ∧ w'.cell? ⟨gb346, 6, none⟩ = some (.int .u32 a0_6) ∧ w'.cell? ⟨gb346, 7, none⟩ = some (.int .u32 t365) ∧ Kd.C (Kd.int .u8) w' A31 y367.length y367 ∧ Kd.C (Kd.int .u8) w' A1 l1.length l1) (ds := []) #[false, false, false, false, false, false, false, false, false, false, false, false, false, false, false, false, false, false, false, false, false, false, false, false, false, false, false, false, false, false, false, false] (by kernel_rfl) rfl rfl ⟨(blk_cell BK364.out 0).trans rfl, (blk_cell BK364.out 1).trans rfl, (blk_cell BK364.out 2).trans rfl, (blk_cell BK364.out 3).trans rfl, (blk_cell BK364.out 4).trans rfl, (blk_cell BK364.out 5).trans rfl, (blk_cell BK364.out 6).trans rfl, (blk_cell BK364.out 7).trans rfl, (blk_cell BK346.out 0).trans rfl, (blk_cell BK346.out 1).trans rfl, (blk_cell BK346.out 2).trans rfl, (blk_cell BK346.out 3).trans rfl, (blk_cell BK346.out 4).trans rfl, (blk_cell BK346.out 5).trans rfl, (blk_cell BK346.out 6).trans rfl, (blk_cell BK346.out 7).trans rfl, HR370.out, HRL.out⟩ (fun hHeld => ?_); refine with_tabW grottolaw07_HeaderBack.tab8 grottolaw07_HeaderBack.bits8 (fun HT_ HW_ => ?_)
                  generalize w29.drew = w30 at HO350 BK346 BK364 HB HR370 HRL hHeld ⊢
                  refine ztake_ (i := 0) (N := some 38) #[true, false, false, false, false, false, false, false, false, false, false, false, false, false, false, false, false, false, false, false, false, false, false, false, false, false, false, false, false, false, false, false] rfl (take_ofW HT_.out HW_.out (by kernel_rfl)) hHeld (Or.inl ⟨by rfl, by rintro w' ⟨s0, s1, s2, s3, s4, s5, s6, s7, s8, s9, s10, s11, s12, s13, s14, s15, s16, s17⟩; go_simp; with_reducible rfl⟩) ?_
                  refine ztake_ (i := 1) (N := some 39) #[true, true, false, false, false, false, false, false, false, false, false, false, false, false, false, false, false, false, false, false, false, false, false, false, false, false, false, false, false, false, false, false] rfl (take_ofW HT_.out HW_.out (by kernel_rfl)) hHeld (Or.inl ⟨by rfl, by rintro w' ⟨s0, s1, s2, s3, s4, s5, s6, s7, s8, s9, s10, s11, s12, s13, s14, s15, s16, s17⟩; go_simp; with_reducible rfl⟩) ?_
                  refine zpure_ (i := 2) (N := some 40) #[true, true, true, false, false, false, false, false, false, false, false, false, false, false, false, false, false, false, false, false, false, false, false, false, false, false, false, false, false, false, false, false] (any_of HT_.out (by kernel_rfl)) ?_
                  refine zpure_ (i := 3) (N := some 41) #[true, true, true, true, false, false, false, false, false, false, false, false, false, false, false, false, false, false, false, false, false, false, false, false, false, false, false, false, false, false, false, false] (any_of HT_.out (by kernel_rfl)) ?_
                  refine zpure_ (i := 4) (N := some 42) #[true, true, true, true, true, false, false, false, false, false, false, false, false, false, false, false, false, false, false, false, false, false, false, false, false, false, false, false, false, false, false, false] (any_of HT_.out (by kernel_rfl)) ?_
                  refine one_ (i := 5) (N := some 43) #[true, true, true, true, true, true, false, false, false, false, false, false, false, false, false, false, false, false, false, false, false, false, false, false, false, false, false, false, false, false, false, false] rfl rfl (one_of HT_.out (by kernel_rfl)) (by decide) (fun K hK => ?_)
                  refine goes_ Try.func14 (by kernel_rfl) rfl #[.int .i64 t362] (by rfl) rfl rfl (by (try simp only [List.map_toArray, List.map_cons, List.map_nil]); first | done | rfl | (simp only [List.length_drop, List.length_take]; rfl)) ?_
                  with_reducible refine (grottolaw07_num.calls t362 t366 _ A13.out).mono ?_
                  rintro e w' ⟨rfl, ⟨nd, rfl⟩⟩
                  refine ⟨_, rfl, ?_⟩
                  refine hK.out _ _ ⟨(blk_cell BK364.out 0).trans rfl, (blk_cell BK364.out 1).trans rfl, (blk_cell BK364.out 2).trans rfl, (blk_cell BK364.out 3).trans rfl, (blk_cell BK364.out 4).trans rfl, (blk_cell BK364.out 5).trans rfl, (blk_cell BK364.out 6).trans rfl, (blk_cell BK364.out 7).trans rfl, (blk_cell BK346.out 0).trans rfl, (blk_cell BK346.out 1).trans rfl, (blk_cell BK346.out 2).trans rfl, (blk_cell BK346.out 3).trans rfl, (blk_cell BK346.out 4).trans rfl, (blk_cell BK346.out 5).trans rfl, (blk_cell BK346.out 6).trans rfl, (blk_cell BK346.out 7).trans rfl, by repeat (first | exact HR370.out | (with_reducible refine Kd.C_drewN ?_ _) | (with_reducible refine Kd.C_drew ?_)), by repeat (first | exact HRL.out | (with_reducible refine Kd.C_drewN ?_ _) | (with_reducible refine Kd.C_drew ?_))⟩ (fun hHeld => ?_)
                  clear hK K
                  refine norm_ (a' := ?_) ?_ ?_
                  rotate_left
                  · show Act.put _ (some 43) _ = _
                    simp only [Act.put, List.setIfInBounds_toArray, List.set_cons_zero, List.set_cons_succ, i64_w, i32_w]
                    rfl
                  refine zpure_ (i := 6) (N := some 44) #[true, true, true, true, true, true, true, false, false, false, false, false, false, false, false, false, false, false, false, false, false, false, false, false, false, false, false, false, false, false, false, false] (any_of HT_.out (by kernel_rfl)) ?_
                  refine zpure_ (i := 7) (N := some 45) #[true, true, true, true, true, true, true, true, false, false, false, false, false, false, false, false, false, false, false, false, false, false, false, false, false, false, false, false, false, false, false, false] (any_of HT_.out (by kernel_rfl)) ?_
                  refine zpure_ (i := 8) (N := some 46) #[true, true, true, true, true, true, true, true, true, false, false, false, false, false, false, false, false, false, false, false, false, false, false, false, false, false, false, false, false, false, false, false] (any_of HT_.out (by kernel_rfl)) ?_
                  refine zpure_ (i := 9) (N := some 47) #[true, true, true, true, true, true, true, true, true, true, false, false, false, false, false, false, false, false, false, false, false, false, false, false, false, false, false, false, false, false, false, false] (any_of HT_.out (by kernel_rfl)) ?_
                  refine zpure_ (i := 10) (N := some 48) #[true, true, true, true, true, true, true, true, true, true, true, false, false, false, false, false, false, false, false, false, false, false, false, false, false, false, false, false, false, false, false, false] (any_of HT_.out (by kernel_rfl)) ?_
                  refine zpure_ (i := 11) (N := some 49) #[true, true, true, true, true, true, true, true, true, true, true, true, false, false, false, false, false, false, false, false, false, false, false, false, false, false, false, false, false, false, false, false] (any_of HT_.out (by kernel_rfl)) ?_
                  refine zpure_ (i := 12) (N := some 50) #[true, true, true, true, true, true, true, true, true, true, true, true, true, false, false, false, false, false, false, false, false, false, false, false, false, false, false, false, false, false, false, false] (any_of HT_.out (by kernel_rfl)) ?_
                  refine zpure_ (i := 13) (N := some 51) #[true, true, true, true, true, true, true, true, true, true, true, true, true, true, false, false, false, false, false, false, false, false, false, false, false, false, false, false, false, false, false, false] (any_of HT_.out (by kernel_rfl)) ?_
                  refine zpure_ (i := 14) (N := some 52) #[true, true, true, true, true, true, true, true, true, true, true, true, true, true, true, false, false, false, false, false, false, false, false, false, false, false, false, false, false, false, false, false] (any_of HT_.out (by kernel_rfl)) ?_
                  refine zpure_ (i := 15) (N := some 53) #[true, true, true, true, true, true, true, true, true, true, true, true, true, true, true, true, false, false, false, false, false, false, false, false, false, false, false, false, false, false, false, false] (any_of HT_.out (by kernel_rfl)) ?_
                  refine zpure_ (i := 16) (N := some 54) #[true, true, true, true, true, true, true, true, true, true, true, true, true, true, true, true, true, false, false, false, false, false, false, false, false, false, false, false, false, false, false, false] (any_of HT_.out (by kernel_rfl)) ?_
                  refine zpure_ (i := 17) (N := some 55) #[true, true, true, true, true, true, true, true, true, true, true, true, true, true, true, true, true, true, false, false, false, false, false, false, false, false, false, false, false, false, false, false] (any_of HT_.out (by kernel_rfl)) ?_
                  refine zpure_ (i := 18) (N := some 56) #[true, true, true, true, true, true, true, true, true, true, true, true, true, true, true, true, true, true, true, false, false, false, false, false, false, false, false, false, false, false, false, false] (any_of HT_.out (by kernel_rfl)) ?_
                  refine zpure_ (i := 19) (N := some 57) #[true, true, true, true, true, true, true, true, true, true, true, true, true, true, true, true, true, true, true, true, false, false, false, false, false, false, false, false, false, false, false, false] (any_of HT_.out (by kernel_rfl)) ?_
                  refine zpure_ (i := 20) (N := some 58) #[true, true, true, true, true, true, true, true, true, true, true, true, true, true, true, true, true, true, true, true, true, false, false, false, false, false, false, false, false, false, false, false] (any_of HT_.out (by kernel_rfl)) ?_
                  refine zpure_ (i := 21) (N := some 59) #[true, true, true, true, true, true, true, true, true, true, true, true, true, true, true, true, true, true, true, true, true, true, false, false, false, false, false, false, false, false, false, false] (any_of HT_.out (by kernel_rfl)) ?_
                  refine zpure_ (i := 22) (N := some 60) #[true, true, true, true, true, true, true, true, true, true, true, true, true, true, true, true, true, true, true, true, true, true, true, false, false, false, false, false, false, false, false, false] (any_of HT_.out (by kernel_rfl)) ?_
                  refine ztake_ (i := 23) (N := some 61) (v := .string (strOfNums y367)) #[true, true, true, true, true, true, true, true, true, true, true, true, true, true, true, true, true, true, true, true, true, true, true, true, false, false, false, false, false, false, false, false] rfl (take_ofW HT_.out HW_.out (by kernel_rfl)) hHeld (Or.inl ⟨by rfl, by rintro w' ⟨s0, s1, s2, s3, s4, s5, s6, s7, s8, s9, s10, s11, s12, s13, s14, s15, s16, s17⟩; have hc_ := Kd.C_string (P := Try.prog) (A := A31) (c := c31) Try.underlying22 Try.underlying5 Try.underlying9 s16; first | (go_simp; done) | (go_simp; rw [hc_]; rfl)⟩) ?_
                  refine zpure_ (i := 24) (N := some 62) #[true, true, true, true, true, true, true, true, true, true, true, true, true, true, true, true, true, true, true, true, true, true, true, true, true, false, false, false, false, false, false, false] (any_of HT_.out (by kernel_rfl)) ?_
                  refine ztake_ (i := 25) (N := some 63) (v := .string (strOfNums l1)) #[true, true, true, true, true, true, true, true, true, true, true, true, true, true, true, true, true, true, true, true, true, true, true, true, true, true, false, false, false, false, false, false] rfl (take_ofW HT_.out HW_.out (by kernel_rfl)) hHeld (Or.inl ⟨by rfl, by rintro w' ⟨s0, s1, s2, s3, s4, s5, s6, s7, s8, s9, s10, s11, s12, s13, s14, s15, s16, s17⟩; have hc_ := Kd.C_string (P := Try.prog) (A := A1) (c := c1) Try.underlying22 Try.underlying5 Try.underlying9 s17; first | (go_simp; done) | (go_simp; rw [hc_]; rfl)⟩) ?_
                  refine zpure_ (i := 26) (N := some 64) #[true, true, true, true, true, true, true, true, true, true, true, true, true, true, true, true, true, true, true, true, true, true, true, true, true, true, true, false, false, false, false, false] (any_of HT_.out (by kernel_rfl)) ?_
                  refine zpure_ (i := 27) (N := some 65) #[true, true, true, true, true, true, true, true, true, true, true, true, true, true, true, true, true, true, true, true, true, true, true, true, true, true, true, true, false, false, false, false] (any_of HT_.out (by kernel_rfl)) ?_
                  refine zpure_ (i := 28) (N := some 66) #[true, true, true, true, true, true, true, true, true, true, true, true, true, true, true, true, true, true, true, true, true, true, true, true, true, true, true, true, true, false, false, false] (any_of HT_.out (by kernel_rfl)) ?_
                  refine one_ (i := 29) (N := some 67) #[true, true, true, true, true, true, true, true, true, true, true, true, true, true, true, true, true, true, true, true, true, true, true, true, true, true, true, true, true, true, false, false] rfl rfl (one_of HT_.out (by kernel_rfl)) (by decide) (fun K hK => ?_)
                  refine goes_ Try.func10 (by kernel_rfl) rfl #[] (by rfl) rfl rfl (by (try simp only [List.map_toArray, List.map_cons, List.map_nil]); first | done | rfl | (simp only [List.length_drop, List.length_take]; rfl)) ?_
                  with_reducible refine (grottolaw07_live.calls k  t371 _ A19.out).mono ?_
                  rintro e w35 ⟨rfl, hb⟩
                  refine ⟨_, rfl, ?_⟩
                  replace HR370 := Aside0.mk (Kd.C_below (by repeat (first | exact HR370.out | (with_reducible refine Kd.C_drewN ?_ _) | (with_reducible refine Kd.C_drew ?_))) hb)
                  replace HRL := Aside0.mk (Kd.C_below (by repeat (first | exact HRL.out | (with_reducible refine Kd.C_drewN ?_ _) | (with_reducible refine Kd.C_drew ?_))) hb)
                  replace HO350 := Aside0.mk (Kd.R_below (by (with_reducible repeat (first | apply Kd.R_alloc | apply Kd.R_drewN | apply Kd.R_drew)); exact HO350.out) hb)
                  replace BK346 := zkb BK346 hb
                  replace BK364 := zkb BK364 hb
                  replace HB := zbs HB hb
                  (try clear hb)
                  (try clear hb2)
                  (try clear hk)
                  (try clear hi)
                  refine hK.out _ _ ⟨(blk_cell BK364.out 0).trans rfl, (blk_cell BK364.out 1).trans rfl, (blk_cell BK364.out 2).trans rfl, (blk_cell BK364.out 3).trans rfl, (blk_cell BK364.out 4).trans rfl, (blk_cell BK364.out 5).trans rfl, (blk_cell BK364.out 6).trans rfl, (blk_cell BK364.out 7).trans rfl, (blk_cell BK346.out 0).trans rfl, (blk_cell BK346.out 1).trans rfl, (blk_cell BK346.out 2).trans rfl, (blk_cell BK346.out 3).trans rfl, (blk_cell BK346.out 4).trans rfl, (blk_cell BK346.out 5).trans rfl, (blk_cell BK346.out 6).trans rfl, (blk_cell BK346.out 7).trans rfl, by repeat (first | exact HR370.out | (with_reducible refine Kd.C_drewN ?_ _) | (with_reducible refine Kd.C_drew ?_)), by repeat (first | exact HRL.out | (with_reducible refine Kd.C_drewN ?_ _) | (with_reducible refine Kd.C_drew ?_))⟩ (fun hHeld => ?_)
                  clear hK K
                  refine norm_ (a' := ?_) ?_ ?_
                  rotate_left
                  · show Act.put _ (some 67) _ = _
                    simp only [Act.put, List.setIfInBounds_toArray, List.set_cons_zero, List.set_cons_succ, i64_w, i32_w]
                    rfl
                  refine zpure_ (i := 30) (N := some 68) #[true, true, true, true, true, true, true, true, true, true, true, true, true, true, true, true, true, true, true, true, true, true, true, true, true, true, true, true, true, true, true, false] (any_of HT_.out (by kernel_rfl)) ?_
                  refine zpure_ (i := 31) (N := some 4) #[true, true, true, true, true, true, true, true, true, true, true, true, true, true, true, true, true, true, true, true, true, true, true, true, true, true, true, true, true, true, true, true] (any_of HT_.out (by kernel_rfl)) ?_
                  refine done_ (done_of HT_.out (by kernel_rfl)) ?_
                  try go_wp2
                  go_ret
                  exact ⟨by first | rfl | (simp [errW_none, errW_some] <;> rfl) | (simp [*, errW_none, errW_some] <;> rfl), zb HB⟩
                · rw [if_neg c18] at H
                  exact absurd (Option.some.inj H) (by rw [HRT.out]; decide)
              · rw [if_neg c17] at H
                exact absurd H (by simp)
            · rw [if_neg c16] at H
              exact absurd (Option.some.inj H) (by rw [HRT.out]; decide)
          · rw [if_neg c15] at H
            exact absurd (Option.some.inj H) (by rw [HRT.out]; decide)
        · rw [if_neg c14] at H
          exact absurd (Option.some.inj H) (by rw [HRT.out]; decide)
      · rw [if_neg c12] at H
        exact absurd (Option.some.inj H) (by rw [HRT.out]; decide)
    · rw [if_neg c9] at H
      have c9b0 : (t352 == 0) = false := beq_eq_false_iff_ne.mpr c9
      have c9b1 : (t352 != 0) = true := bne_iff_ne.mpr c9
      by_cases c95 : (t348.length : Int) = 0
      · rw [if_pos c95] at H
        have c95b0 : ((t348.length : Int) == 0) = true := beq_iff_eq.mpr c95
        have c95b1 : ((t348.length : Int) != 0) = false := bne_eq_false_iff_eq.mpr c95
        clear c95
        replace H := Option.bind_eq_some_iff.mp H
        obtain ⟨t353, A960, H⟩ := H
        replace H : (some t353) = some r := H
        have A96 := Aside0.mk A960
        clear A960
        obtain rfl := Option.some.inj H
        go_enter Try.func6, Try.ntmps6
        go_wp2_with (first | ((with_reducible refine gate_dst (N := 2) rfl ?_); (try (refine gate_guard (by rfl) ?_; dsimp only)); refine zbox (N := 2) (cs := #[.int .u32 a0_0, .int .u32 a0_1, .int .u32 a0_2, .int .u32 a0_3, .int .u32 a0_4, .int .u32 a0_5, .int .u32 a0_6, .int .u32 a0_7]) (t := 27) ?_; intro gb346 hg w97 hbox hb; have BK346 := Aside0.mk hbox; have GW346 := zge hg HB; have GE346 := zge hg HB; replace HB := zbs HB hb; clear hb hbox hg; have hcz98_0 : w97.cell? ⟨gb346, 0, none⟩ = some (.int .u32 a0_0) := (blk_cell BK346.out 0).trans rfl; have hcz98_1 : w97.cell? ⟨gb346, 1, none⟩ = some (.int .u32 a0_1) := (blk_cell BK346.out 1).trans rfl; have hcz98_2 : w97.cell? ⟨gb346, 2, none⟩ = some (.int .u32 a0_2) := (blk_cell BK346.out 2).trans rfl; have hcz98_3 : w97.cell? ⟨gb346, 3, none⟩ = some (.int .u32 a0_3) := (blk_cell BK346.out 3).trans rfl; have hcz98_4 : w97.cell? ⟨gb346, 4, none⟩ = some (.int .u32 a0_4) := (blk_cell BK346.out 4).trans rfl; have hcz98_5 : w97.cell? ⟨gb346, 5, none⟩ = some (.int .u32 a0_5) := (blk_cell BK346.out 5).trans rfl; have hcz98_6 : w97.cell? ⟨gb346, 6, none⟩ = some (.int .u32 a0_6) := (blk_cell BK346.out 6).trans rfl; have hcz98_7 : w97.cell? ⟨gb346, 7, none⟩ = some (.int .u32 a0_7) := (blk_cell BK346.out 7).trans rfl; have hfz98_0 := blk_frozen BK346.out 0; have hfz98_1 := blk_frozen BK346.out 1; have hfz98_2 := blk_frozen BK346.out 2; have hfz98_3 := blk_frozen BK346.out 3; have hfz98_4 := blk_frozen BK346.out 4; have hfz98_5 := blk_frozen BK346.out 5; have hfz98_6 := blk_frozen BK346.out 6; have hfz98_7 := blk_frozen BK346.out 7) | ((with_reducible refine gate_callee (f := 18) rfl ?_); refine zgo (some 17) Try.func18 #[.agg #[.int .u32 a0_0, .int .u32 a0_1, .int .u32 a0_2, .int .u32 a0_3, .int .u32 a0_4, .int .u32 a0_5, .int .u32 a0_6, .int .u32 a0_7], .slice A1 l1.length c1] ?_; (with_reducible refine (header_Make.calls k a0_0 a0_1 a0_2 a0_3 a0_4 a0_5 a0_6 a0_7 _ _ l1 t348 t351 _ ?side1 ?side2 A7.out).mono ?_); (case side1 => repeat (first | exact (Kd.C_below HR1.out HB.out) | (with_reducible refine Kd.C_alloc ?_ _) | (with_reducible refine Kd.C_drewN ?_ _) | (with_reducible refine Kd.C_drew ?_))); (case side2 => exact HC1.out); rintro e w99 ⟨v349, rfl, ho0, hb⟩; refine ⟨_, rfl, ?_⟩; have HO350 := Aside0.mk (Kd.R_lower ho0 (below_size (zb HB))); replace BK346 := zkb BK346 hb; replace HB := zbs HB hb; (try clear hb); (try clear hb2); (try clear hk); (try clear hi); (try clear ho0)) | ((with_reducible refine gate_callee (f := 14) rfl ?_); refine zgo (some 21) Try.func14 #[.int .i64 t351] ?_; (with_reducible refine (grottolaw07_num.calls t351 t352 _ A8.out).mono ?_); rintro e w' ⟨rfl, ⟨nd, rfl⟩⟩; refine ⟨_, rfl, ?_⟩; obtain ⟨Ao100, co100, eo100⟩ := Kd.R_slice HO350.out; subst eo100) | (go_at_call 10; (with_reducible refine (grottolaw07_live.calls k  t353 _ A96.out).mono ?_); rintro e w101 ⟨rfl, hb⟩; replace HO350 := Aside0.mk (Kd.R_below (by (with_reducible repeat (first | apply Kd.R_alloc | apply Kd.R_drewN | apply Kd.R_drew)); exact HO350.out) hb); replace BK346 := zkb BK346 hb; replace HB := zbs HB hb; (try clear hb); (try clear hb2); (try clear hk); (try clear hi)))
        go_ret
        exact ⟨by first | rfl | (simp [errW_none, errW_some] <;> rfl) | (simp [*, errW_none, errW_some] <;> rfl), zb HB⟩
      · rw [if_neg c95] at H
        exact absurd (Option.some.inj H) (by rw [HRT.out]; decide)

end Go.Proofs.Ytpklekleehcglaa.PQ
