-- by a program of this claim
import Derived.Test.YtpklekleehcglaaPQx0
import Derived.Test.YtpklekleehcglaaPQx5
import Derived.Test.YtpklekleehcglaaPQx6
import Derived.Test.YtpklekleehcglaaPQx7
import Derived.Test.YtpklekleehcglaaPQx8
import Derived.Test.YtpklekleehcglaaPQx10
namespace Go.Proofs.Ytpklekleehcglaa.PQ
open Go.RowKit Go.Proofs.YtpklekleehcglaaW.PrintWords Go.Proofs.YtpklekleehcglaaW.PrintLast Go.Proofs.YtpklekleehcglaaW.PrintMore Go.Proofs.Ytpklekleehcglaa.Z
attribute [local go_sem] max2_int min2_int max_two min_two max_three min_three max_four min_four   -- for this text's walks alone
set_option linter.unusedVariables false
set_option linter.unusedSimpArgs false

/-! ### grottolaw07_HeaderMakes: function 5 -/
def grottolaw07_HeaderMakes.f (k : Nat) (a0_0 : Int) (a0_1 : Int) (a0_2 : Int) (a0_3 : Int) (a0_4 : Int) (a0_5 : Int) (a0_6 : Int) (a0_7 : Int) (l1 : List Int) : Option (Bool) := if (l1.length : Int) > 65536 then ((grottolaw07_live.f k).bind fun t330 => (some t330)) else ((grottoref01_Lent.f l1).bind fun t331 => ((header_Make.f k a0_0 a0_1 a0_2 a0_3 a0_4 a0_5 a0_6 a0_7 t331).bind fun bt334 => ((grottoref07_Make.f k a0_0 a0_1 a0_2 a0_3 a0_4 a0_5 a0_6 a0_7 l1).bind fun bt338 => ((grottoref01_Same.f bt334.1 bt338.1).bind fun t342 => (if t342 = true then ((grottolaw07_num.f bt334.2).bind fun t343 => (if t343 = bt338.2 then ((grottoref01_Kept.f t331 l1).bind fun t344 => (if t344 = true then ((grottolaw07_live.f k).bind fun t345 => (some t345)) else (some false))) else (some false))) else (some false))))))
theorem grottolaw07_HeaderMakes.mono : ∀ a0 a1 a2 a3 a4 a5 a6 a7 a8 k, LeO (grottolaw07_HeaderMakes.f k a0 a1 a2 a3 a4 a5 a6 a7 a8) (grottolaw07_HeaderMakes.f (k + 1) a0 a1 a2 a3 a4 a5 a6 a7 a8) := by
  intro a0 a1 a2 a3 a4 a5 a6 a7 a8 k
  unfold grottolaw07_HeaderMakes.f
  repeat' first
      | (with_reducible exact grottolaw07_live.mono _)
      | (with_reducible exact grottoref07_Make.mono _ _ _ _ _ _ _ _ _ _)
      | (with_reducible exact header_Make.mono _ _ _ _ _ _ _ _ _ _)
      | (with_reducible exact LeO.refl _)
      | (with_reducible exact LeO.none _)
      | (with_reducible refine LeO.ite ?_ ?_)
      | (with_reducible refine LeO.bind ?_ (fun _ => ?_))
      | exact grottolaw07_live.mono _
      | exact grottoref07_Make.mono _ _ _ _ _ _ _ _ _ _
      | exact header_Make.mono _ _ _ _ _ _ _ _ _ _
      | exact LeO.none _
      | refine LeO.ite ?_ ?_
      | refine LeO.bind ?_ (fun _ => ?_)
set_option maxHeartbeats 8000000 in
set_option maxRecDepth 100000 in
theorem grottolaw07_HeaderMakes.calls (k : Nat) (a0_0 : Int) (a0_1 : Int) (a0_2 : Int) (a0_3 : Int) (a0_4 : Int) (a0_5 : Int) (a0_6 : Int) (a0_7 : Int) (A1 : Option Addr) (c1 : Nat) (l1 : List Int) (r : Bool) (w : World) (hr1 : Kd.C (Kd.int .u8) w A1 l1.length l1) (hc1 : l1.length ≤ c1) (h : grottolaw07_HeaderMakes.f k a0_0 a0_1 a0_2 a0_3 a0_4 a0_5 a0_6 a0_7 l1 = some r) (hr : r = true := by rfl) :
    Calls Try.prog 5 #[.agg #[.int .u32 a0_0, .int .u32 a0_1, .int .u32 a0_2, .int .u32 a0_3, .int .u32 a0_4, .int .u32 a0_5, .int .u32 a0_6, .int .u32 a0_7], .slice A1 l1.length c1] w fun e w' => e = .returned (.bool r) ∧ Below w.heap.size w w' := by
  have HRT := Aside0.mk hr
  clear hr
  have hu27 := Try.underlying27
  have HR1 := Aside0.mk hr1
  have HC1 := Aside0.mk hc1
  clear hr1 hc1
  have HB := Aside0.mk (Below.refl w.heap.size w)
  have H : (if (l1.length : Int) > 65536 then ((grottolaw07_live.f k).bind fun t330 => (some t330)) else ((grottoref01_Lent.f l1).bind fun t331 => ((header_Make.f k a0_0 a0_1 a0_2 a0_3 a0_4 a0_5 a0_6 a0_7 t331).bind fun bt334 => ((grottoref07_Make.f k a0_0 a0_1 a0_2 a0_3 a0_4 a0_5 a0_6 a0_7 l1).bind fun bt338 => ((grottoref01_Same.f bt334.1 bt338.1).bind fun t342 => (if t342 = true then ((grottolaw07_num.f bt334.2).bind fun t343 => (if t343 = bt338.2 then ((grottoref01_Kept.f t331 l1).bind fun t344 => (if t344 = true then ((grottolaw07_live.f k).bind fun t345 => (some t345)) else (some false))) else (some false))) else (some false))))))) = some r := h
  clear h
  by_cases c3 : (l1.length : Int) > 65536
  · rw [if_pos c3] at H
    have c3b0 : decide (65536 < (l1.length : Int)) = true := decide_eq_true c3
    have c3b1 : decide (65536 < l1.length) = true := decide_eq_true (by omega)
    clear c3
    replace H := Option.bind_eq_some_iff.mp H
    obtain ⟨t330, A40, H⟩ := H
    replace H : (some t330) = some r := H
    have A4 := Aside0.mk A40
    clear A40
    obtain rfl := Option.some.inj H
    go_enter Try.func5, Try.ntmps5
    go_wp2_with (first | ((with_reducible refine gate_dst (N := 2) rfl ?_); refine zbox (N := 2) (cs := #[.int .u32 a0_0, .int .u32 a0_1, .int .u32 a0_2, .int .u32 a0_3, .int .u32 a0_4, .int .u32 a0_5, .int .u32 a0_6, .int .u32 a0_7]) (t := 27) ?_; intro gb329 hg w5 hbox hb; have BK329 := Aside0.mk hbox; have GW329 := zge hg HB; have GE329 := zge hg HB; replace HB := zbs HB hb; clear hb hbox hg) | ((with_reducible refine gate_callee (f := 10) rfl ?_); refine zgo (some 13) Try.func10 #[] ?_; (with_reducible refine (grottolaw07_live.calls k  t330 _ A4.out).mono ?_); rintro e w6 ⟨rfl, hb⟩; refine ⟨_, rfl, ?_⟩; replace BK329 := zkb BK329 hb; replace HB := zbs HB hb; (try clear hb); (try clear hb2); (try clear hk); (try clear hi)))
    go_ret
    exact ⟨by first | rfl | (simp [errW_none, errW_some] <;> rfl) | (simp [*, errW_none, errW_some] <;> rfl), zb HB⟩
  · rw [if_neg c3] at H
    have c3b0 : decide (65536 < (l1.length : Int)) = false := decide_eq_false c3
    have c3b1 : decide (65536 < l1.length) = false := decide_eq_false (by omega)
    clear c3
    replace H := Option.bind_eq_some_iff.mp H
    obtain ⟨t331, A70, H⟩ := H
    replace H : ((header_Make.f k a0_0 a0_1 a0_2 a0_3 a0_4 a0_5 a0_6 a0_7 t331).bind fun bt334 => ((grottoref07_Make.f k a0_0 a0_1 a0_2 a0_3 a0_4 a0_5 a0_6 a0_7 l1).bind fun bt338 => ((grottoref01_Same.f bt334.1 bt338.1).bind fun t342 => (if t342 = true then ((grottolaw07_num.f bt334.2).bind fun t343 => (if t343 = bt338.2 then ((grottoref01_Kept.f t331 l1).bind fun t344 => (if t344 = true then ((grottolaw07_live.f k).bind fun t345 => (some t345)) else (some false))) else (some false))) else (some false))))) = some r := H
    have A7 := Aside0.mk A70
    clear A70
    replace H := Option.bind_eq_some_iff.mp H
    obtain ⟨⟨t334, t337⟩, A80, H⟩ := H
    replace H : ((grottoref07_Make.f k a0_0 a0_1 a0_2 a0_3 a0_4 a0_5 a0_6 a0_7 l1).bind fun bt338 => ((grottoref01_Same.f t334 bt338.1).bind fun t342 => (if t342 = true then ((grottolaw07_num.f t337).bind fun t343 => (if t343 = bt338.2 then ((grottoref01_Kept.f t331 l1).bind fun t344 => (if t344 = true then ((grottolaw07_live.f k).bind fun t345 => (some t345)) else (some false))) else (some false))) else (some false)))) = some r := H
    have A8 := Aside0.mk A80
    clear A80
    replace H := Option.bind_eq_some_iff.mp H
    obtain ⟨⟨t338, t341⟩, A90, H⟩ := H
    replace H : ((grottoref01_Same.f t334 t338).bind fun t342 => (if t342 = true then ((grottolaw07_num.f t337).bind fun t343 => (if t343 = t341 then ((grottoref01_Kept.f t331 l1).bind fun t344 => (if t344 = true then ((grottolaw07_live.f k).bind fun t345 => (some t345)) else (some false))) else (some false))) else (some false))) = some r := H
    have A9 := Aside0.mk A90
    clear A90
    replace H := Option.bind_eq_some_iff.mp H
    obtain ⟨t342, A100, H⟩ := H
    replace H : (if t342 = true then ((grottolaw07_num.f t337).bind fun t343 => (if t343 = t341 then ((grottoref01_Kept.f t331 l1).bind fun t344 => (if t344 = true then ((grottolaw07_live.f k).bind fun t345 => (some t345)) else (some false))) else (some false))) else (some false)) = some r := H
    have A10 := Aside0.mk A100
    clear A100
    by_cases c11 : t342 = true
    · subst c11
      have H1 : ((grottolaw07_num.f t337).bind fun t343 => (if t343 = t341 then ((grottoref01_Kept.f t331 l1).bind fun t344 => (if t344 = true then ((grottolaw07_live.f k).bind fun t345 => (some t345)) else (some false))) else (some false))) = some r := by rw [if_pos rfl] at H; exact H
      clear H
      have H := H1
      clear H1
      replace H := Option.bind_eq_some_iff.mp H
      obtain ⟨t343, A120, H⟩ := H
      replace H : (if t343 = t341 then ((grottoref01_Kept.f t331 l1).bind fun t344 => (if t344 = true then ((grottolaw07_live.f k).bind fun t345 => (some t345)) else (some false))) else (some false)) = some r := H
      have A12 := Aside0.mk A120
      clear A120
      by_cases c13 : t343 = t341
      · rw [if_pos c13] at H
        have c13b0 : (t343 == t341) = true := beq_iff_eq.mpr c13
        have c13b1 : (t343 != t341) = false := bne_eq_false_iff_eq.mpr c13
        clear c13
        replace H := Option.bind_eq_some_iff.mp H
        obtain ⟨t344, A140, H⟩ := H
        replace H : (if t344 = true then ((grottolaw07_live.f k).bind fun t345 => (some t345)) else (some false)) = some r := H
        have A14 := Aside0.mk A140
        clear A140
        by_cases c15 : t344 = true
        · subst c15
          have H1 : ((grottolaw07_live.f k).bind fun t345 => (some t345)) = some r := by rw [if_pos rfl] at H; exact H
          clear H
          have H := H1
          clear H1
          replace H := Option.bind_eq_some_iff.mp H
          obtain ⟨t345, A160, H⟩ := H
          replace H : (some t345) = some r := H
          have A16 := Aside0.mk A160
          clear A160
          obtain rfl := Option.some.inj H
          go_enter Try.func5, Try.ntmps5
          go_wp2_with (first | ((with_reducible refine gate_dst (N := 2) rfl ?_); refine zbox (N := 2) (cs := #[.int .u32 a0_0, .int .u32 a0_1, .int .u32 a0_2, .int .u32 a0_3, .int .u32 a0_4, .int .u32 a0_5, .int .u32 a0_6, .int .u32 a0_7]) (t := 27) ?_; intro gb329 hg w17 hbox hb; have BK329 := Aside0.mk hbox; have GW329 := zge hg HB; have GE329 := zge hg HB; replace HB := zbs HB hb; clear hb hbox hg) | ((with_reducible refine gate_callee (f := 11) rfl ?_); refine zgo (some 15) Try.func11 #[.slice A1 l1.length c1] ?_; (with_reducible refine (grottoref01_Lent.calls _ _ l1 t331 _ ?side1 ?side2 A7.out).mono ?_); (case side1 => repeat (first | exact (Kd.C_below HR1.out HB.out) | (with_reducible refine Kd.C_alloc ?_ _) | (with_reducible refine Kd.C_drewN ?_ _) | (with_reducible refine Kd.C_drew ?_))); (case side2 => exact HC1.out); rintro e w18 ⟨Ao20, co20, rfl, ho0, hb⟩; refine ⟨_, rfl, ?_⟩; have HO333 := Aside0.mk (Kd.R_lower ho0 (below_size (zb HB))); replace BK329 := zkb BK329 hb; replace HB := zbs HB hb; (try clear hb); (try clear hb2); (try clear hk); (try clear hi); (try clear ho0); have hcz19_0 : w18.cell? ⟨gb329, 0, none⟩ = some (.int .u32 a0_0) := (blk_cell BK329.out 0).trans rfl; have hcz19_1 : w18.cell? ⟨gb329, 1, none⟩ = some (.int .u32 a0_1) := (blk_cell BK329.out 1).trans rfl; have hcz19_2 : w18.cell? ⟨gb329, 2, none⟩ = some (.int .u32 a0_2) := (blk_cell BK329.out 2).trans rfl; have hcz19_3 : w18.cell? ⟨gb329, 3, none⟩ = some (.int .u32 a0_3) := (blk_cell BK329.out 3).trans rfl; have hcz19_4 : w18.cell? ⟨gb329, 4, none⟩ = some (.int .u32 a0_4) := (blk_cell BK329.out 4).trans rfl; have hcz19_5 : w18.cell? ⟨gb329, 5, none⟩ = some (.int .u32 a0_5) := (blk_cell BK329.out 5).trans rfl; have hcz19_6 : w18.cell? ⟨gb329, 6, none⟩ = some (.int .u32 a0_6) := (blk_cell BK329.out 6).trans rfl; have hcz19_7 : w18.cell? ⟨gb329, 7, none⟩ = some (.int .u32 a0_7) := (blk_cell BK329.out 7).trans rfl; have hfz19_0 := blk_frozen BK329.out 0; have hfz19_1 := blk_frozen BK329.out 1; have hfz19_2 := blk_frozen BK329.out 2; have hfz19_3 := blk_frozen BK329.out 3; have hfz19_4 := blk_frozen BK329.out 4; have hfz19_5 := blk_frozen BK329.out 5; have hfz19_6 := blk_frozen BK329.out 6; have hfz19_7 := blk_frozen BK329.out 7) | ((with_reducible refine gate_callee (f := 18) rfl ?_); refine zgo (some 19) Try.func18 #[.agg #[.int .u32 a0_0, .int .u32 a0_1, .int .u32 a0_2, .int .u32 a0_3, .int .u32 a0_4, .int .u32 a0_5, .int .u32 a0_6, .int .u32 a0_7], .slice Ao20 t331.length co20] ?_; (with_reducible refine (header_Make.calls k a0_0 a0_1 a0_2 a0_3 a0_4 a0_5 a0_6 a0_7 _ _ t331 t334 t337 _ ?side1 ?side2 A8.out).mono ?_); (case side1 => repeat (first | exact C_pre (Kd.R_reads' HO333.out).2.2 | (with_reducible refine Kd.C_alloc ?_ _) | (with_reducible refine Kd.C_drewN ?_ _) | (with_reducible refine Kd.C_drew ?_))); (case side2 => exact Nat.le_of_succ_le (Kd.R_reads' HO333.out).2.1); rintro e w21 ⟨v335, rfl, ho0, hb⟩; refine ⟨_, rfl, ?_⟩; have HO336 := Aside0.mk (Kd.R_lower (Kd.R_new' ho0 (Kd.R_lt (by (with_reducible repeat (first | apply Kd.R_alloc | apply Kd.R_drewN | apply Kd.R_drew)); exact HO333.out))) (below_size (zb HB))); replace HO333 := Aside0.mk (Kd.R_elder' (by (with_reducible repeat (first | apply Kd.R_alloc | apply Kd.R_drewN | apply Kd.R_drew)); exact HO333.out) (Kd.R_base ho0) hb); replace BK329 := zkb BK329 hb; replace HB := zbs HB hb; (try clear hb); (try clear hb2); (try clear hk); (try clear hi); (try clear ho0); have hcz22_0 : w21.cell? ⟨gb329, 0, none⟩ = some (.int .u32 a0_0) := (blk_cell BK329.out 0).trans rfl; have hcz22_1 : w21.cell? ⟨gb329, 1, none⟩ = some (.int .u32 a0_1) := (blk_cell BK329.out 1).trans rfl; have hcz22_2 : w21.cell? ⟨gb329, 2, none⟩ = some (.int .u32 a0_2) := (blk_cell BK329.out 2).trans rfl; have hcz22_3 : w21.cell? ⟨gb329, 3, none⟩ = some (.int .u32 a0_3) := (blk_cell BK329.out 3).trans rfl; have hcz22_4 : w21.cell? ⟨gb329, 4, none⟩ = some (.int .u32 a0_4) := (blk_cell BK329.out 4).trans rfl; have hcz22_5 : w21.cell? ⟨gb329, 5, none⟩ = some (.int .u32 a0_5) := (blk_cell BK329.out 5).trans rfl; have hcz22_6 : w21.cell? ⟨gb329, 6, none⟩ = some (.int .u32 a0_6) := (blk_cell BK329.out 6).trans rfl; have hcz22_7 : w21.cell? ⟨gb329, 7, none⟩ = some (.int .u32 a0_7) := (blk_cell BK329.out 7).trans rfl; have hfz22_0 := blk_frozen BK329.out 0; have hfz22_1 := blk_frozen BK329.out 1; have hfz22_2 := blk_frozen BK329.out 2; have hfz22_3 := blk_frozen BK329.out 3; have hfz22_4 := blk_frozen BK329.out 4; have hfz22_5 := blk_frozen BK329.out 5; have hfz22_6 := blk_frozen BK329.out 6; have hfz22_7 := blk_frozen BK329.out 7) | ((with_reducible refine gate_callee (f := 19) rfl ?_); refine zgo (some 25) Try.func19 #[.agg #[.int .u32 a0_0, .int .u32 a0_1, .int .u32 a0_2, .int .u32 a0_3, .int .u32 a0_4, .int .u32 a0_5, .int .u32 a0_6, .int .u32 a0_7], .slice A1 l1.length c1] ?_; (with_reducible refine (grottoref07_Make.calls k a0_0 a0_1 a0_2 a0_3 a0_4 a0_5 a0_6 a0_7 _ _ l1 t338 t341 _ ?side1 ?side2 A9.out).mono ?_); (case side1 => repeat (first | exact (Kd.C_below HR1.out HB.out) | (with_reducible refine Kd.C_alloc ?_ _) | (with_reducible refine Kd.C_drewN ?_ _) | (with_reducible refine Kd.C_drew ?_))); (case side2 => exact HC1.out); rintro e w23 ⟨v339, rfl, ho0, hb⟩; refine ⟨_, rfl, ?_⟩; have HO340 := Aside0.mk (Kd.R_lower (Kd.R_new' (Kd.R_new' ho0 (Kd.R_lt (by (with_reducible repeat (first | apply Kd.R_alloc | apply Kd.R_drewN | apply Kd.R_drew)); exact HO333.out))) (Kd.R_lt (by (with_reducible repeat (first | apply Kd.R_alloc | apply Kd.R_drewN | apply Kd.R_drew)); exact HO336.out))) (below_size (zb HB))); replace HO333 := Aside0.mk (Kd.R_elder' (by (with_reducible repeat (first | apply Kd.R_alloc | apply Kd.R_drewN | apply Kd.R_drew)); exact HO333.out) (Kd.R_base ho0) hb); replace HO336 := Aside0.mk (Kd.R_elder' (by (with_reducible repeat (first | apply Kd.R_alloc | apply Kd.R_drewN | apply Kd.R_drew)); exact HO336.out) (Kd.R_base ho0) hb); replace BK329 := zkb BK329 hb; replace HB := zbs HB hb; (try clear hb); (try clear hb2); (try clear hk); (try clear hi); (try clear ho0); obtain ⟨Ao24, co24, eo24⟩ := Kd.R_slice HO336.out; subst eo24; obtain ⟨Ao25, co25, eo25⟩ := Kd.R_slice HO340.out; subst eo25) | ((with_reducible refine gate_callee (f := 20) rfl ?_); refine zgo (some 30) Try.func20 #[.slice Ao24 t334.length co24, .slice Ao25 t338.length co25] ?_; (with_reducible refine (grottoref01_Same.calls _ _ t334 _ _ t338 true _ ?side1 ?side2 ?side3 ?side4 A10.out).mono ?_); (case side1 => repeat (first | exact (Kd.R_reads' HO336.out).2.2 | (with_reducible refine Kd.C_alloc ?_ _) | (with_reducible refine Kd.C_drewN ?_ _) | (with_reducible refine Kd.C_drew ?_))); (case side2 => exact (Kd.R_reads' HO336.out).2.1); (case side3 => repeat (first | exact (Kd.R_reads' HO340.out).2.2 | (with_reducible refine Kd.C_alloc ?_ _) | (with_reducible refine Kd.C_drewN ?_ _) | (with_reducible refine Kd.C_drew ?_))); (case side4 => exact (Kd.R_reads' HO340.out).2.1); rintro e w' ⟨rfl, ⟨nd, rfl⟩⟩; refine ⟨_, rfl, ?_⟩) | (go_at_call 14; (with_reducible refine (grottolaw07_num.calls t337 t343 _ A12.out).mono ?_); rintro e w' ⟨rfl, ⟨nd, rfl⟩⟩) | (go_at_call 15; (with_reducible refine (grottoref01_Kept.calls _ _ t331 _ _ l1 true _ ?side1 ?side2 ?side3 ?side4 A14.out).mono ?_); (case side1 => repeat (first | exact (Kd.R_reads' HO333.out).2.2 | (with_reducible refine Kd.C_alloc ?_ _) | (with_reducible refine Kd.C_drewN ?_ _) | (with_reducible refine Kd.C_drew ?_))); (case side2 => exact (Kd.R_reads' HO333.out).2.1); (case side3 => repeat (first | exact (Kd.C_below HR1.out (zb HB)) | (with_reducible refine Kd.C_alloc ?_ _) | (with_reducible refine Kd.C_drewN ?_ _) | (with_reducible refine Kd.C_drew ?_))); (case side4 => exact HC1.out); rintro e w' ⟨rfl, ⟨nd, rfl⟩⟩) | (go_at_call 10; (with_reducible refine (grottolaw07_live.calls k  t345 _ A16.out).mono ?_); rintro e w26 ⟨rfl, hb⟩; replace HO333 := Aside0.mk (Kd.R_below (by (with_reducible repeat (first | apply Kd.R_alloc | apply Kd.R_drewN | apply Kd.R_drew)); exact HO333.out) hb); replace HO336 := Aside0.mk (Kd.R_below (by (with_reducible repeat (first | apply Kd.R_alloc | apply Kd.R_drewN | apply Kd.R_drew)); exact HO336.out) hb); replace HO340 := Aside0.mk (Kd.R_below (by (with_reducible repeat (first | apply Kd.R_alloc | apply Kd.R_drewN | apply Kd.R_drew)); exact HO340.out) hb); replace BK329 := zkb BK329 hb; replace HB := zbs HB hb; (try clear hb); (try clear hb2); (try clear hk); (try clear hi)))
          go_ret
          exact ⟨by first | rfl | (simp [errW_none, errW_some] <;> rfl) | (simp [*, errW_none, errW_some] <;> rfl), zb HB⟩
        · replace c15 := Bool.eq_false_iff.mpr c15
          subst c15
          exact absurd A14.out (by unfold grottoref01_Kept.f; split <;> (try split) <;> simp)
      · rw [if_neg c13] at H
        exact absurd (Option.some.inj H) (by rw [HRT.out]; decide)
    · replace c11 := Bool.eq_false_iff.mpr c11
      subst c11
      have H1 : (some false) = some r := by rw [if_neg (show ¬ (false = true) by decide)] at H; exact H
      clear H
      have H := H1
      clear H1
      obtain rfl := Option.some.inj H
      go_enter Try.func5, Try.ntmps5
      go_wp2_with (first | ((with_reducible refine gate_dst (N := 2) rfl ?_); refine zbox (N := 2) (cs := #[.int .u32 a0_0, .int .u32 a0_1, .int .u32 a0_2, .int .u32 a0_3, .int .u32 a0_4, .int .u32 a0_5, .int .u32 a0_6, .int .u32 a0_7]) (t := 27) ?_; intro gb329 hg w45 hbox hb; have BK329 := Aside0.mk hbox; have GW329 := zge hg HB; have GE329 := zge hg HB; replace HB := zbs HB hb; clear hb hbox hg) | ((with_reducible refine gate_callee (f := 11) rfl ?_); refine zgo (some 15) Try.func11 #[.slice A1 l1.length c1] ?_; (with_reducible refine (grottoref01_Lent.calls _ _ l1 t331 _ ?side1 ?side2 A7.out).mono ?_); (case side1 => repeat (first | exact (Kd.C_below HR1.out HB.out) | (with_reducible refine Kd.C_alloc ?_ _) | (with_reducible refine Kd.C_drewN ?_ _) | (with_reducible refine Kd.C_drew ?_))); (case side2 => exact HC1.out); rintro e w46 ⟨Ao48, co48, rfl, ho0, hb⟩; refine ⟨_, rfl, ?_⟩; have HO333 := Aside0.mk (Kd.R_lower ho0 (below_size (zb HB))); replace BK329 := zkb BK329 hb; replace HB := zbs HB hb; (try clear hb); (try clear hb2); (try clear hk); (try clear hi); (try clear ho0); have hcz47_0 : w46.cell? ⟨gb329, 0, none⟩ = some (.int .u32 a0_0) := (blk_cell BK329.out 0).trans rfl; have hcz47_1 : w46.cell? ⟨gb329, 1, none⟩ = some (.int .u32 a0_1) := (blk_cell BK329.out 1).trans rfl; have hcz47_2 : w46.cell? ⟨gb329, 2, none⟩ = some (.int .u32 a0_2) := (blk_cell BK329.out 2).trans rfl; have hcz47_3 : w46.cell? ⟨gb329, 3, none⟩ = some (.int .u32 a0_3) := (blk_cell BK329.out 3).trans rfl; have hcz47_4 : w46.cell? ⟨gb329, 4, none⟩ = some (.int .u32 a0_4) := (blk_cell BK329.out 4).trans rfl; have hcz47_5 : w46.cell? ⟨gb329, 5, none⟩ = some (.int .u32 a0_5) := (blk_cell BK329.out 5).trans rfl; have hcz47_6 : w46.cell? ⟨gb329, 6, none⟩ = some (.int .u32 a0_6) := (blk_cell BK329.out 6).trans rfl; have hcz47_7 : w46.cell? ⟨gb329, 7, none⟩ = some (.int .u32 a0_7) := (blk_cell BK329.out 7).trans rfl; have hfz47_0 := blk_frozen BK329.out 0; have hfz47_1 := blk_frozen BK329.out 1; have hfz47_2 := blk_frozen BK329.out 2; have hfz47_3 := blk_frozen BK329.out 3; have hfz47_4 := blk_frozen BK329.out 4; have hfz47_5 := blk_frozen BK329.out 5; have hfz47_6 := blk_frozen BK329.out 6; have hfz47_7 := blk_frozen BK329.out 7) | ((with_reducible refine gate_callee (f := 18) rfl ?_); refine zgo (some 19) Try.func18 #[.agg #[.int .u32 a0_0, .int .u32 a0_1, .int .u32 a0_2, .int .u32 a0_3, .int .u32 a0_4, .int .u32 a0_5, .int .u32 a0_6, .int .u32 a0_7], .slice Ao48 t331.length co48] ?_; (with_reducible refine (header_Make.calls k a0_0 a0_1 a0_2 a0_3 a0_4 a0_5 a0_6 a0_7 _ _ t331 t334 t337 _ ?side1 ?side2 A8.out).mono ?_); (case side1 => repeat (first | exact C_pre (Kd.R_reads' HO333.out).2.2 | (with_reducible refine Kd.C_alloc ?_ _) | (with_reducible refine Kd.C_drewN ?_ _) | (with_reducible refine Kd.C_drew ?_))); (case side2 => exact Nat.le_of_succ_le (Kd.R_reads' HO333.out).2.1); rintro e w49 ⟨v335, rfl, ho0, hb⟩; refine ⟨_, rfl, ?_⟩; have HO336 := Aside0.mk (Kd.R_lower (Kd.R_new' ho0 (Kd.R_lt (by (with_reducible repeat (first | apply Kd.R_alloc | apply Kd.R_drewN | apply Kd.R_drew)); exact HO333.out))) (below_size (zb HB))); replace HO333 := Aside0.mk (Kd.R_elder' (by (with_reducible repeat (first | apply Kd.R_alloc | apply Kd.R_drewN | apply Kd.R_drew)); exact HO333.out) (Kd.R_base ho0) hb); replace BK329 := zkb BK329 hb; replace HB := zbs HB hb; (try clear hb); (try clear hb2); (try clear hk); (try clear hi); (try clear ho0); have hcz50_0 : w49.cell? ⟨gb329, 0, none⟩ = some (.int .u32 a0_0) := (blk_cell BK329.out 0).trans rfl; have hcz50_1 : w49.cell? ⟨gb329, 1, none⟩ = some (.int .u32 a0_1) := (blk_cell BK329.out 1).trans rfl; have hcz50_2 : w49.cell? ⟨gb329, 2, none⟩ = some (.int .u32 a0_2) := (blk_cell BK329.out 2).trans rfl; have hcz50_3 : w49.cell? ⟨gb329, 3, none⟩ = some (.int .u32 a0_3) := (blk_cell BK329.out 3).trans rfl; have hcz50_4 : w49.cell? ⟨gb329, 4, none⟩ = some (.int .u32 a0_4) := (blk_cell BK329.out 4).trans rfl; have hcz50_5 : w49.cell? ⟨gb329, 5, none⟩ = some (.int .u32 a0_5) := (blk_cell BK329.out 5).trans rfl; have hcz50_6 : w49.cell? ⟨gb329, 6, none⟩ = some (.int .u32 a0_6) := (blk_cell BK329.out 6).trans rfl; have hcz50_7 : w49.cell? ⟨gb329, 7, none⟩ = some (.int .u32 a0_7) := (blk_cell BK329.out 7).trans rfl; have hfz50_0 := blk_frozen BK329.out 0; have hfz50_1 := blk_frozen BK329.out 1; have hfz50_2 := blk_frozen BK329.out 2; have hfz50_3 := blk_frozen BK329.out 3; have hfz50_4 := blk_frozen BK329.out 4; have hfz50_5 := blk_frozen BK329.out 5; have hfz50_6 := blk_frozen BK329.out 6; have hfz50_7 := blk_frozen BK329.out 7) | ((with_reducible refine gate_callee (f := 19) rfl ?_); refine zgo (some 25) Try.func19 #[.agg #[.int .u32 a0_0, .int .u32 a0_1, .int .u32 a0_2, .int .u32 a0_3, .int .u32 a0_4, .int .u32 a0_5, .int .u32 a0_6, .int .u32 a0_7], .slice A1 l1.length c1] ?_; (with_reducible refine (grottoref07_Make.calls k a0_0 a0_1 a0_2 a0_3 a0_4 a0_5 a0_6 a0_7 _ _ l1 t338 t341 _ ?side1 ?side2 A9.out).mono ?_); (case side1 => repeat (first | exact (Kd.C_below HR1.out HB.out) | (with_reducible refine Kd.C_alloc ?_ _) | (with_reducible refine Kd.C_drewN ?_ _) | (with_reducible refine Kd.C_drew ?_))); (case side2 => exact HC1.out); rintro e w51 ⟨v339, rfl, ho0, hb⟩; refine ⟨_, rfl, ?_⟩; have HO340 := Aside0.mk (Kd.R_lower (Kd.R_new' (Kd.R_new' ho0 (Kd.R_lt (by (with_reducible repeat (first | apply Kd.R_alloc | apply Kd.R_drewN | apply Kd.R_drew)); exact HO333.out))) (Kd.R_lt (by (with_reducible repeat (first | apply Kd.R_alloc | apply Kd.R_drewN | apply Kd.R_drew)); exact HO336.out))) (below_size (zb HB))); replace HO333 := Aside0.mk (Kd.R_elder' (by (with_reducible repeat (first | apply Kd.R_alloc | apply Kd.R_drewN | apply Kd.R_drew)); exact HO333.out) (Kd.R_base ho0) hb); replace HO336 := Aside0.mk (Kd.R_elder' (by (with_reducible repeat (first | apply Kd.R_alloc | apply Kd.R_drewN | apply Kd.R_drew)); exact HO336.out) (Kd.R_base ho0) hb); replace BK329 := zkb BK329 hb; replace HB := zbs HB hb; (try clear hb); (try clear hb2); (try clear hk); (try clear hi); (try clear ho0); obtain ⟨Ao52, co52, eo52⟩ := Kd.R_slice HO336.out; subst eo52; obtain ⟨Ao53, co53, eo53⟩ := Kd.R_slice HO340.out; subst eo53) | ((with_reducible refine gate_callee (f := 20) rfl ?_); refine zgo (some 30) Try.func20 #[.slice Ao52 t334.length co52, .slice Ao53 t338.length co53] ?_; (with_reducible refine (grottoref01_Same.calls _ _ t334 _ _ t338 false _ ?side1 ?side2 ?side3 ?side4 A10.out).mono ?_); (case side1 => repeat (first | exact (Kd.R_reads' HO336.out).2.2 | (with_reducible refine Kd.C_alloc ?_ _) | (with_reducible refine Kd.C_drewN ?_ _) | (with_reducible refine Kd.C_drew ?_))); (case side2 => exact (Kd.R_reads' HO336.out).2.1); (case side3 => repeat (first | exact (Kd.R_reads' HO340.out).2.2 | (with_reducible refine Kd.C_alloc ?_ _) | (with_reducible refine Kd.C_drewN ?_ _) | (with_reducible refine Kd.C_drew ?_))); (case side4 => exact (Kd.R_reads' HO340.out).2.1); rintro e w' ⟨rfl, ⟨nd, rfl⟩⟩; refine ⟨_, rfl, ?_⟩))
      go_ret
      exact ⟨by first | rfl | (simp [errW_none, errW_some] <;> rfl) | (simp [*, errW_none, errW_some] <;> rfl), zb HB⟩

end Go.Proofs.Ytpklekleehcglaa.PQ
