-- by a program of this claim
import Derived.Test.YtpklekleehcglaaPQx0
import Derived.Test.YtpklekleehcglaaPQx1
import Derived.Test.YtpklekleehcglaaPQx4
import Derived.Test.YtpklekleehcglaaPQx5
import Derived.Test.YtpklekleehcglaaPQx7
import Derived.Test.YtpklekleehcglaaPQx8
import Derived.Test.YtpklekleehcglaaPQx9
import Derived.Test.YtpklekleehcglaaPQx10
namespace Go.Proofs.Ytpklekleehcglaa.PQ
open Go.RowKit Go.Proofs.YtpklekleehcglaaW.PrintWords Go.Proofs.YtpklekleehcglaaW.PrintLast Go.Proofs.YtpklekleehcglaaW.PrintMore Go.Proofs.Ytpklekleehcglaa.Z
attribute [local go_sem] max2_int min2_int max_two min_two max_three min_three max_four min_four   -- for this text's walks alone
set_option linter.unusedVariables false
set_option linter.unusedSimpArgs false

attribute [local go_sem high] eqA27
/-! ### grottolaw07_HeaderParses: function 3 -/
def grottolaw07_HeaderParses.f (k : Nat) (l0 : List Int) : Option (Bool) := if (l0.length : Int) > 65536 then ((grottolaw07_live.f k).bind fun t259 => (some t259)) else ((grottoref01_Lent.f l0).bind fun t260 => ((header_Parse.f k t260).bind fun bt263 => ((grottoref07_Parse.f k l0).bind fun bt274 => (if (bt263.1 == bt274.1 && (bt263.2.1 == bt274.2.1 && (bt263.2.2.1 == bt274.2.2.1 && (bt263.2.2.2.1 == bt274.2.2.2.1 && (bt263.2.2.2.2.1 == bt274.2.2.2.2.1 && (bt263.2.2.2.2.2.1 == bt274.2.2.2.2.2.1 && (bt263.2.2.2.2.2.2.1 == bt274.2.2.2.2.2.2.1 && (bt263.2.2.2.2.2.2.2.1 == bt274.2.2.2.2.2.2.2.1)))))))) = true then ((grottolaw07_num.f bt263.2.2.2.2.2.2.2.2.1).bind fun t285 => (if t285 = bt274.2.2.2.2.2.2.2.2.1 then (if bt263.2.2.2.2.2.2.2.2.2 = bt274.2.2.2.2.2.2.2.2.2 then ((grottoref01_Kept.f t260 l0).bind fun t286 => (if t286 = true then ((grottolaw07_live.f k).bind fun t287 => (some t287)) else (some false))) else (some false)) else (some false))) else (some false)))))
theorem grottolaw07_HeaderParses.mono : ∀ a0 k, LeO (grottolaw07_HeaderParses.f k a0) (grottolaw07_HeaderParses.f (k + 1) a0) := by
  intro a0 k
  unfold grottolaw07_HeaderParses.f
  repeat' first
      | (with_reducible exact grottolaw07_live.mono _)
      | (with_reducible exact grottoref07_Parse.mono _ _)
      | (with_reducible exact header_Parse.mono _ _)
      | (with_reducible exact LeO.refl _)
      | (with_reducible exact LeO.none _)
      | (with_reducible refine LeO.ite ?_ ?_)
      | (with_reducible refine LeO.bind ?_ (fun _ => ?_))
      | exact grottolaw07_live.mono _
      | exact grottoref07_Parse.mono _ _
      | exact header_Parse.mono _ _
      | exact LeO.none _
      | refine LeO.ite ?_ ?_
      | refine LeO.bind ?_ (fun _ => ?_)
set_option maxHeartbeats 8000000 in
set_option maxRecDepth 100000 in
theorem grottolaw07_HeaderParses.calls (k : Nat) (A0 : Option Addr) (c0 : Nat) (l0 : List Int) (r : Bool) (w : World) (hr0 : Kd.C (Kd.int .u8) w A0 l0.length l0) (hc0 : l0.length ≤ c0) (h : grottolaw07_HeaderParses.f k l0 = some r) (hr : r = true := by rfl) :
    Calls Try.prog 3 #[.slice A0 l0.length c0] w fun e w' => e = .returned (.bool r) ∧ Below w.heap.size w w' := by
  have HRT := Aside0.mk hr
  clear hr
  have hu27 := Try.underlying27
  have HR0 := Aside0.mk hr0
  have HC0 := Aside0.mk hc0
  clear hr0 hc0
  have HB := Aside0.mk (Below.refl w.heap.size w)
  have H : (if (l0.length : Int) > 65536 then ((grottolaw07_live.f k).bind fun t259 => (some t259)) else ((grottoref01_Lent.f l0).bind fun t260 => ((header_Parse.f k t260).bind fun bt263 => ((grottoref07_Parse.f k l0).bind fun bt274 => (if (bt263.1 == bt274.1 && (bt263.2.1 == bt274.2.1 && (bt263.2.2.1 == bt274.2.2.1 && (bt263.2.2.2.1 == bt274.2.2.2.1 && (bt263.2.2.2.2.1 == bt274.2.2.2.2.1 && (bt263.2.2.2.2.2.1 == bt274.2.2.2.2.2.1 && (bt263.2.2.2.2.2.2.1 == bt274.2.2.2.2.2.2.1 && (bt263.2.2.2.2.2.2.2.1 == bt274.2.2.2.2.2.2.2.1)))))))) = true then ((grottolaw07_num.f bt263.2.2.2.2.2.2.2.2.1).bind fun t285 => (if t285 = bt274.2.2.2.2.2.2.2.2.1 then (if bt263.2.2.2.2.2.2.2.2.2 = bt274.2.2.2.2.2.2.2.2.2 then ((grottoref01_Kept.f t260 l0).bind fun t286 => (if t286 = true then ((grottolaw07_live.f k).bind fun t287 => (some t287)) else (some false))) else (some false)) else (some false))) else (some false)))))) = some r := h
  clear h
  by_cases c2 : (l0.length : Int) > 65536
  · rw [if_pos c2] at H
    have c2b0 : decide (65536 < (l0.length : Int)) = true := decide_eq_true c2
    have c2b1 : decide (65536 < l0.length) = true := decide_eq_true (by omega)
    clear c2
    replace H := Option.bind_eq_some_iff.mp H
    obtain ⟨t259, A30, H⟩ := H
    replace H : (some t259) = some r := H
    have A3 := Aside0.mk A30
    clear A30
    obtain rfl := Option.some.inj H
    go_enter Try.func3, Try.ntmps3
    go_wp2_with (first | ((with_reducible refine gate_callee (f := 10) rfl ?_); refine zgo (some 13) Try.func10 #[] ?_; (with_reducible refine (grottolaw07_live.calls k  t259 _ A3.out).mono ?_); rintro e w4 ⟨rfl, hb⟩; refine ⟨_, rfl, ?_⟩; replace HB := zbs HB hb; (try clear hb); (try clear hb2); (try clear hk); (try clear hi)))
    go_ret
    exact ⟨by first | rfl | (simp [errW_none, errW_some] <;> rfl) | (simp [*, errW_none, errW_some] <;> rfl), zb HB⟩
  · rw [if_neg c2] at H
    have c2b0 : decide (65536 < (l0.length : Int)) = false := decide_eq_false c2
    have c2b1 : decide (65536 < l0.length) = false := decide_eq_false (by omega)
    clear c2
    replace H := Option.bind_eq_some_iff.mp H
    obtain ⟨t260, A50, H⟩ := H
    replace H : ((header_Parse.f k t260).bind fun bt263 => ((grottoref07_Parse.f k l0).bind fun bt274 => (if (bt263.1 == bt274.1 && (bt263.2.1 == bt274.2.1 && (bt263.2.2.1 == bt274.2.2.1 && (bt263.2.2.2.1 == bt274.2.2.2.1 && (bt263.2.2.2.2.1 == bt274.2.2.2.2.1 && (bt263.2.2.2.2.2.1 == bt274.2.2.2.2.2.1 && (bt263.2.2.2.2.2.2.1 == bt274.2.2.2.2.2.2.1 && (bt263.2.2.2.2.2.2.2.1 == bt274.2.2.2.2.2.2.2.1)))))))) = true then ((grottolaw07_num.f bt263.2.2.2.2.2.2.2.2.1).bind fun t285 => (if t285 = bt274.2.2.2.2.2.2.2.2.1 then (if bt263.2.2.2.2.2.2.2.2.2 = bt274.2.2.2.2.2.2.2.2.2 then ((grottoref01_Kept.f t260 l0).bind fun t286 => (if t286 = true then ((grottolaw07_live.f k).bind fun t287 => (some t287)) else (some false))) else (some false)) else (some false))) else (some false)))) = some r := H
    have A5 := Aside0.mk A50
    clear A50
    replace H := Option.bind_eq_some_iff.mp H
    obtain ⟨⟨t263, t264, t265, t266, t267, t268, t269, t270, t271, t272⟩, A60, H⟩ := H
    replace H : ((grottoref07_Parse.f k l0).bind fun bt274 => (if (t263 == bt274.1 && (t264 == bt274.2.1 && (t265 == bt274.2.2.1 && (t266 == bt274.2.2.2.1 && (t267 == bt274.2.2.2.2.1 && (t268 == bt274.2.2.2.2.2.1 && (t269 == bt274.2.2.2.2.2.2.1 && (t270 == bt274.2.2.2.2.2.2.2.1)))))))) = true then ((grottolaw07_num.f t271).bind fun t285 => (if t285 = bt274.2.2.2.2.2.2.2.2.1 then (if t272 = bt274.2.2.2.2.2.2.2.2.2 then ((grottoref01_Kept.f t260 l0).bind fun t286 => (if t286 = true then ((grottolaw07_live.f k).bind fun t287 => (some t287)) else (some false))) else (some false)) else (some false))) else (some false))) = some r := H
    have A6 := Aside0.mk A60
    clear A60
    replace H := Option.bind_eq_some_iff.mp H
    obtain ⟨⟨t274, t275, t276, t277, t278, t279, t280, t281, t282, t283⟩, A70, H⟩ := H
    replace H : (if (t263 == t274 && (t264 == t275 && (t265 == t276 && (t266 == t277 && (t267 == t278 && (t268 == t279 && (t269 == t280 && (t270 == t281)))))))) = true then ((grottolaw07_num.f t271).bind fun t285 => (if t285 = t282 then (if t272 = t283 then ((grottoref01_Kept.f t260 l0).bind fun t286 => (if t286 = true then ((grottolaw07_live.f k).bind fun t287 => (some t287)) else (some false))) else (some false)) else (some false))) else (some false)) = some r := H
    have A7 := Aside0.mk A70
    clear A70
    by_cases c8 : (t263 == t274 && (t264 == t275 && (t265 == t276 && (t266 == t277 && (t267 == t278 && (t268 == t279 && (t269 == t280 && (t270 == t281)))))))) = true
    · rw [if_pos c8] at H
      have c8b0 : (t263 == t274 && (t264 == t275 && (t265 == t276 && (t266 == t277 && (t267 == t278 && (t268 == t279 && (t269 == t280 && (t270 == t281)))))))) = true := c8
      (try (have c8b1 : decide (t263 = t274 && (t264 == t275 && (t265 == t276 && (t266 == t277 && (t267 == t278 && (t268 == t279 && (t269 == t280 && (t270 == t281)))))))) = true := by simpa using c8))
      (try (have c8b2 : (t263 == t274 && (t264 == t275 && (t265 == t276 && (t266 == t277 && (t267 == t278 && (t268 == t279 && (t269 == t280 && (t270 == t281)))))))) = true := by simpa using c8))
      clear c8
      replace H := Option.bind_eq_some_iff.mp H
      obtain ⟨t285, A90, H⟩ := H
      replace H : (if t285 = t282 then (if t272 = t283 then ((grottoref01_Kept.f t260 l0).bind fun t286 => (if t286 = true then ((grottolaw07_live.f k).bind fun t287 => (some t287)) else (some false))) else (some false)) else (some false)) = some r := H
      have A9 := Aside0.mk A90
      clear A90
      by_cases c10 : t285 = t282
      · rw [if_pos c10] at H
        have c10b0 : (t285 == t282) = true := beq_iff_eq.mpr c10
        have c10b1 : (t285 != t282) = false := bne_eq_false_iff_eq.mpr c10
        clear c10
        by_cases c11 : t272 = t283
        · rw [if_pos c11] at H
          have c11b0 : (t272 == t283) = true := beq_iff_eq.mpr c11
          have c11b1 : (t272 != t283) = false := bne_eq_false_iff_eq.mpr c11
          clear c11
          replace H := Option.bind_eq_some_iff.mp H
          obtain ⟨t286, A120, H⟩ := H
          replace H : (if t286 = true then ((grottolaw07_live.f k).bind fun t287 => (some t287)) else (some false)) = some r := H
          have A12 := Aside0.mk A120
          clear A120
          by_cases c13 : t286 = true
          · subst c13
            have H1 : ((grottolaw07_live.f k).bind fun t287 => (some t287)) = some r := by rw [if_pos rfl] at H; exact H
            clear H
            have H := H1
            clear H1
            replace H := Option.bind_eq_some_iff.mp H
            obtain ⟨t287, A140, H⟩ := H
            replace H : (some t287) = some r := H
            have A14 := Aside0.mk A140
            clear A140
            obtain rfl := Option.some.inj H
            go_enter Try.func3, Try.ntmps3
            go_wp2_with (first | ((with_reducible refine gate_callee (f := 11) rfl ?_); refine zgo (some 15) Try.func11 #[.slice A0 l0.length c0] ?_; (with_reducible refine (grottoref01_Lent.calls _ _ l0 t260 _ ?side1 ?side2 A5.out).mono ?_); (case side1 => repeat (first | exact HR0.out | (with_reducible refine Kd.C_alloc ?_ _) | (with_reducible refine Kd.C_drewN ?_ _) | (with_reducible refine Kd.C_drew ?_))); (case side2 => exact HC0.out); rintro e w15 ⟨Ao16, co16, rfl, ho0, hb⟩; refine ⟨_, rfl, ?_⟩; have HO262 := Aside0.mk (Kd.R_lower ho0 (below_size (zb HB))); replace HB := zbs HB hb; (try clear hb); (try clear hb2); (try clear hk); (try clear hi); (try clear ho0)) | ((with_reducible refine gate_callee (f := 12) rfl ?_); refine zgo (some 18) Try.func12 #[.slice Ao16 t260.length co16] ?_; (with_reducible refine (header_Parse.calls k _ _ t260 t263 t264 t265 t266 t267 t268 t269 t270 t271 t272 _ ?side1 ?side2 A6.out).mono ?_); (case side1 => repeat (first | exact C_pre (Kd.R_reads' HO262.out).2.2 | (with_reducible refine Kd.C_alloc ?_ _) | (with_reducible refine Kd.C_drewN ?_ _) | (with_reducible refine Kd.C_drew ?_))); (case side2 => exact Nat.le_of_succ_le (Kd.R_reads' HO262.out).2.1); rintro e w17 ⟨rfl, hb⟩; refine ⟨_, rfl, ?_⟩; replace HO262 := Aside0.mk (Kd.R_below (by (with_reducible repeat (first | apply Kd.R_alloc | apply Kd.R_drewN | apply Kd.R_drew)); exact HO262.out) hb); replace HB := zbs HB hb; (try clear hb); (try clear hb2); (try clear hk); (try clear hi)) | ((with_reducible refine gate_dst (N := 4) rfl ?_); refine zbox (N := 4) (cs := #[.int .u32 0, .int .u32 0, .int .u32 0, .int .u32 0, .int .u32 0, .int .u32 0, .int .u32 0, .int .u32 0]) (t := 27) ?_; intro gb273 hg w18 hbox hb; have BK273 := Aside0.mk hbox; have GW273 := zge hg HB; have GE273 := zge hg HB; replace HO262 := Aside0.mk (Kd.R_below (by (with_reducible repeat (first | apply Kd.R_alloc | apply Kd.R_drewN | apply Kd.R_drew)); exact HO262.out) hb); replace HB := zbs HB hb; clear hb hbox hg; have hcz19_0 : w18.cell? ⟨gb273, 0, none⟩ = some (.int .u32 0) := (blk_cell BK273.out 0).trans rfl; have hcz19_1 : w18.cell? ⟨gb273, 1, none⟩ = some (.int .u32 0) := (blk_cell BK273.out 1).trans rfl; have hcz19_2 : w18.cell? ⟨gb273, 2, none⟩ = some (.int .u32 0) := (blk_cell BK273.out 2).trans rfl; have hcz19_3 : w18.cell? ⟨gb273, 3, none⟩ = some (.int .u32 0) := (blk_cell BK273.out 3).trans rfl; have hcz19_4 : w18.cell? ⟨gb273, 4, none⟩ = some (.int .u32 0) := (blk_cell BK273.out 4).trans rfl; have hcz19_5 : w18.cell? ⟨gb273, 5, none⟩ = some (.int .u32 0) := (blk_cell BK273.out 5).trans rfl; have hcz19_6 : w18.cell? ⟨gb273, 6, none⟩ = some (.int .u32 0) := (blk_cell BK273.out 6).trans rfl; have hcz19_7 : w18.cell? ⟨gb273, 7, none⟩ = some (.int .u32 0) := (blk_cell BK273.out 7).trans rfl; have hfz19_0 := blk_frozen BK273.out 0; have hfz19_1 := blk_frozen BK273.out 1; have hfz19_2 := blk_frozen BK273.out 2; have hfz19_3 := blk_frozen BK273.out 3; have hfz19_4 := blk_frozen BK273.out 4; have hfz19_5 := blk_frozen BK273.out 5; have hfz19_6 := blk_frozen BK273.out 6; have hfz19_7 := blk_frozen BK273.out 7) | ((with_reducible refine gate_callee (f := 13) rfl ?_); refine zgo (some 24) Try.func13 #[.slice A0 l0.length c0] ?_; (with_reducible refine (grottoref07_Parse.calls k _ _ l0 t274 t275 t276 t277 t278 t279 t280 t281 t282 t283 _ ?side1 ?side2 A7.out).mono ?_); (case side1 => exact Kd.C_below HR0.out (zb HB)); (case side2 => exact HC0.out); rintro e w20 ⟨rfl, hb⟩; refine ⟨_, rfl, ?_⟩; replace HO262 := Aside0.mk (Kd.R_below (by (with_reducible repeat (first | apply Kd.R_alloc | apply Kd.R_drewN | apply Kd.R_drew)); exact (Kd.R_mono (Kd.R_far (p := ⟨gb273, 7, none⟩) (Kd.R_far (p := ⟨gb273, 6, none⟩) (Kd.R_far (p := ⟨gb273, 5, none⟩) (Kd.R_far (p := ⟨gb273, 4, none⟩) (Kd.R_far (p := ⟨gb273, 3, none⟩) (Kd.R_far (p := ⟨gb273, 2, none⟩) (Kd.R_far (p := ⟨gb273, 1, none⟩) (Kd.R_far (p := ⟨gb273, 0, none⟩) (Kd.R_types HO262.out BK273.out (by decide)) (fun _ hk => hk.2) (.int .u32 t263)) (fun _ hk => hk.2) (.int .u32 t264)) (fun _ hk => hk.2) (.int .u32 t265)) (fun _ hk => hk.2) (.int .u32 t266)) (fun _ hk => hk.2) (.int .u32 t267)) (fun _ hk => hk.2) (.int .u32 t268)) (fun _ hk => hk.2) (.int .u32 t269)) (fun _ hk => hk.2) (.int .u32 t270)) (fun _ h_ => h_.1))) hb); replace HB := zbs HB hb; replace BK273 := zkbo (o := .cells #[.int .u32 t263, .int .u32 t264, .int .u32 t265, .int .u32 t266, .int .u32 t267, .int .u32 t268, .int .u32 t269, .int .u32 t270] 27 (0, 0)) BK273 hb; (try clear hb); (try clear hb2); (try clear hk); (try clear hi)) | ((with_reducible refine gate_dst (N := 7) rfl ?_); refine zbox (N := 7) (cs := #[.int .u32 0, .int .u32 0, .int .u32 0, .int .u32 0, .int .u32 0, .int .u32 0, .int .u32 0, .int .u32 0]) (t := 27) ?_; intro gb284 hg w21 hbox hb; have BK284 := Aside0.mk hbox; have GW284 := zge hg HB; have GE284 := zge hg HB; have NB273_284 := znl hg BK273; have NB284_273 := zng hg BK273; replace HO262 := Aside0.mk (Kd.R_below (by (with_reducible repeat (first | apply Kd.R_alloc | apply Kd.R_drewN | apply Kd.R_drew)); exact HO262.out) hb); replace BK273 := zkb BK273 hb; replace HB := zbs HB hb; clear hb hbox hg; have hnb22 := NB284_273.out; have hnc22 := NB273_284.out; have hcz23_0 : w21.cell? ⟨gb284, 0, none⟩ = some (.int .u32 0) := (blk_cell BK284.out 0).trans rfl; have hcz23_1 : w21.cell? ⟨gb284, 1, none⟩ = some (.int .u32 0) := (blk_cell BK284.out 1).trans rfl; have hcz23_2 : w21.cell? ⟨gb284, 2, none⟩ = some (.int .u32 0) := (blk_cell BK284.out 2).trans rfl; have hcz23_3 : w21.cell? ⟨gb284, 3, none⟩ = some (.int .u32 0) := (blk_cell BK284.out 3).trans rfl; have hcz23_4 : w21.cell? ⟨gb284, 4, none⟩ = some (.int .u32 0) := (blk_cell BK284.out 4).trans rfl; have hcz23_5 : w21.cell? ⟨gb284, 5, none⟩ = some (.int .u32 0) := (blk_cell BK284.out 5).trans rfl; have hcz23_6 : w21.cell? ⟨gb284, 6, none⟩ = some (.int .u32 0) := (blk_cell BK284.out 6).trans rfl; have hcz23_7 : w21.cell? ⟨gb284, 7, none⟩ = some (.int .u32 0) := (blk_cell BK284.out 7).trans rfl; have hfz23_0 := blk_frozen BK284.out 0; have hfz23_1 := blk_frozen BK284.out 1; have hfz23_2 := blk_frozen BK284.out 2; have hfz23_3 := blk_frozen BK284.out 3; have hfz23_4 := blk_frozen BK284.out 4; have hfz23_5 := blk_frozen BK284.out 5; have hfz23_6 := blk_frozen BK284.out 6; have hfz23_7 := blk_frozen BK284.out 7; have hcz24_0 : w21.cell? ⟨gb273, 0, none⟩ = some (.int .u32 t263) := (blk_cell BK273.out 0).trans rfl; have hcz24_1 : w21.cell? ⟨gb273, 1, none⟩ = some (.int .u32 t264) := (blk_cell BK273.out 1).trans rfl; have hcz24_2 : w21.cell? ⟨gb273, 2, none⟩ = some (.int .u32 t265) := (blk_cell BK273.out 2).trans rfl; have hcz24_3 : w21.cell? ⟨gb273, 3, none⟩ = some (.int .u32 t266) := (blk_cell BK273.out 3).trans rfl; have hcz24_4 : w21.cell? ⟨gb273, 4, none⟩ = some (.int .u32 t267) := (blk_cell BK273.out 4).trans rfl; have hcz24_5 : w21.cell? ⟨gb273, 5, none⟩ = some (.int .u32 t268) := (blk_cell BK273.out 5).trans rfl; have hcz24_6 : w21.cell? ⟨gb273, 6, none⟩ = some (.int .u32 t269) := (blk_cell BK273.out 6).trans rfl; have hcz24_7 : w21.cell? ⟨gb273, 7, none⟩ = some (.int .u32 t270) := (blk_cell BK273.out 7).trans rfl; have hfz24_0 := blk_frozen BK273.out 0; have hfz24_1 := blk_frozen BK273.out 1; have hfz24_2 := blk_frozen BK273.out 2; have hfz24_3 := blk_frozen BK273.out 3; have hfz24_4 := blk_frozen BK273.out 4; have hfz24_5 := blk_frozen BK273.out 5; have hfz24_6 := blk_frozen BK273.out 6; have hfz24_7 := blk_frozen BK273.out 7) | (go_at_call 14; (with_reducible refine (grottolaw07_num.calls t271 t285 _ A9.out).mono ?_); rintro e w' ⟨rfl, ⟨nd, rfl⟩⟩) | (go_at_call 15; (with_reducible refine (grottoref01_Kept.calls _ _ t260 _ _ l0 true _ ?side1 ?side2 ?side3 ?side4 A12.out).mono ?_); (case side1 => refine (Kd.R_reads' (e := 5) (base := w.heap.size) (ok := fun k_ => True) (n := t260.length + 1) (c := co16) ?_).2.2; exact (by (with_reducible repeat (first | apply Kd.R_alloc | apply Kd.R_drewN | apply Kd.R_drew)); exact (Kd.R_mono (Kd.R_far (p := ⟨gb284, 7, none⟩) (Kd.R_far (p := ⟨gb284, 6, none⟩) (Kd.R_far (p := ⟨gb284, 5, none⟩) (Kd.R_far (p := ⟨gb284, 4, none⟩) (Kd.R_far (p := ⟨gb284, 3, none⟩) (Kd.R_far (p := ⟨gb284, 2, none⟩) (Kd.R_far (p := ⟨gb284, 1, none⟩) (Kd.R_far (p := ⟨gb284, 0, none⟩) (Kd.R_types HO262.out BK284.out (by decide)) (fun _ hk => hk.2) (.int .u32 t274)) (fun _ hk => hk.2) (.int .u32 t275)) (fun _ hk => hk.2) (.int .u32 t276)) (fun _ hk => hk.2) (.int .u32 t277)) (fun _ hk => hk.2) (.int .u32 t278)) (fun _ hk => hk.2) (.int .u32 t279)) (fun _ hk => hk.2) (.int .u32 t280)) (fun _ hk => hk.2) (.int .u32 t281)) (fun _ h_ => h_.1)))); (case side2 => exact (Kd.R_reads' HO262.out).2.1); (case side3 => exact Kd.C_below HR0.out (zb HB)); (case side4 => exact HC0.out); rintro e w' ⟨rfl, ⟨nd, rfl⟩⟩) | (go_at_call 10; (with_reducible refine (grottolaw07_live.calls k  t287 _ A14.out).mono ?_); rintro e w25 ⟨rfl, hb⟩; replace HO262 := Aside0.mk (Kd.R_below (by (with_reducible repeat (first | apply Kd.R_alloc | apply Kd.R_drewN | apply Kd.R_drew)); exact (Kd.R_mono (Kd.R_far (p := ⟨gb284, 7, none⟩) (Kd.R_far (p := ⟨gb284, 6, none⟩) (Kd.R_far (p := ⟨gb284, 5, none⟩) (Kd.R_far (p := ⟨gb284, 4, none⟩) (Kd.R_far (p := ⟨gb284, 3, none⟩) (Kd.R_far (p := ⟨gb284, 2, none⟩) (Kd.R_far (p := ⟨gb284, 1, none⟩) (Kd.R_far (p := ⟨gb284, 0, none⟩) (Kd.R_types HO262.out BK284.out (by decide)) (fun _ hk => hk.2) (.int .u32 t274)) (fun _ hk => hk.2) (.int .u32 t275)) (fun _ hk => hk.2) (.int .u32 t276)) (fun _ hk => hk.2) (.int .u32 t277)) (fun _ hk => hk.2) (.int .u32 t278)) (fun _ hk => hk.2) (.int .u32 t279)) (fun _ hk => hk.2) (.int .u32 t280)) (fun _ hk => hk.2) (.int .u32 t281)) (fun _ h_ => h_.1))) hb); replace BK273 := zkb BK273 hb; replace HB := zbs HB hb; replace BK284 := zkbo (o := .cells #[.int .u32 t274, .int .u32 t275, .int .u32 t276, .int .u32 t277, .int .u32 t278, .int .u32 t279, .int .u32 t280, .int .u32 t281] 27 (0, 0)) BK284 hb; (try clear hb); (try clear hb2); (try clear hk); (try clear hi)))
            go_ret
            exact ⟨by first | rfl | (simp [errW_none, errW_some] <;> rfl) | (simp [*, errW_none, errW_some] <;> rfl), zb HB⟩
          · replace c13 := Bool.eq_false_iff.mpr c13
            subst c13
            exact absurd A12.out (by unfold grottoref01_Kept.f; split <;> (try split) <;> simp)
        · rw [if_neg c11] at H
          exact absurd (Option.some.inj H) (by rw [HRT.out]; decide)
      · rw [if_neg c10] at H
        exact absurd (Option.some.inj H) (by rw [HRT.out]; decide)
    · rw [if_neg c8] at H
      exact absurd (Option.some.inj H) (by rw [HRT.out]; decide)

/-- THE ONE PURE STATEMENT of grottolaw07_HeaderParses: yours. -/
def grottolaw07_HeaderParses.Pure : Prop := ∀ (l0 : List Int), l0.length ≤ maxLen → l0.length * 1 ≤ 140737488351232 → (∀ x ∈ l0, (Lit.int .u8 x).wf = true) → ∃ k, grottolaw07_HeaderParses.f k l0 = some true
theorem grottolaw07_HeaderParses.walk (P : grottolaw07_HeaderParses.Pure) (a0 : Option Addr) (len0 cap0 : Nat) (z0 : List Int) (w : World) (w0 : (a0 = none ∧ len0 = 0 ∧ cap0 = 0 ∧ z0 = []) ∨ ∃ x, a0 = some x ∧ len0 ≤ cap0 ∧ cap0 ≤ maxLen ∧ z0.length = cap0 ∧ (∀ i, i < z0.length → w.cell? (x.add i) = some (.int .u8 (z0.getD i 0))) ∧ ∀ n ∈ z0, (Lit.int .u8 n).wf = true) (y0 : len0 * 1 ≤ 140737488351232) :
    Calls Try.prog 3 #[.slice a0 len0 cap0] w fun e w' => e = .returned (.bool true) ∧ Below w.heap.size w w' := by
  obtain ⟨l0, rfl, hr0, hm0, hw0, hc0⟩ := ReadsInt.ofRowC w0
  obtain ⟨k, h⟩ := P l0 hm0 y0 hw0
  refine (grottolaw07_HeaderParses.calls k _ _ l0 true w (Kd.C_of_reads (d := (0 : Int)) (h1 := fun _ => rfl) hr0) hc0 h).mono ?_
  rintro e w' ⟨rfl, hd⟩
  exact ⟨rfl, hd⟩

end Go.Proofs.Ytpklekleehcglaa.PQ
