/- The laws FindRows, FindSorts, FindChains: the program's search and the document's come to one answer. -/
import Derived.Test.YtohmipmioaceeaaFD
import Derived.Test.YtohmipmioaceeaaPQx6
namespace Go.Proofs.Ytohmipmioaceeaa.PQ
set_option linter.all false
open Go.RowKit Go.Proofs.YtohmipmioaceeaaW.PrintWords Go.Proofs.YtohmipmioaceeaaW.PrintLast Go.Proofs.YtohmipmioaceeaaW.PrintMore Go.Proofs.Ytohmipmioaceeaa.Z Go.Proofs.Ytohmipmioaceeaa.Pure
set_option linter.unusedVariables false
set_option linter.unusedSimpArgs false
theorem byt_of {l : List Int} (h : ∀ x ∈ l, (Lit.int .u8 x).wf = true) : Byt l := fun x hx => wf_u8 (h x hx)
theorem same_f (l : List Int) (h : l.length < 140737488355328) : grottoref01_Same.f l l = some true := by
  unfold grottoref01_Same.f
  simp [h]
theorem num_is (x : Int) (w : World) : Calls Try.prog 18 #[.int .i64 x] w fun e w' => e = .returned (.int .i64 x) ∧ Drawn0 w w' := grottolaw13_num.calls x x w rfl
theorem num_be (x : Int) (w : World) : Calls Try.prog 18 #[.int .i64 x] w fun e w' => e = .returned (.int .i64 x) ∧ Below w.heap.size w w' := (num_is x w).mono fun _ _ h => ⟨h.1, h.2.below⟩
theorem Same_be (l : List Int) (A B : Option Addr) (c d : Nat) (w : World) (h1 : Kd.C (Kd.int .u8) w A l.length l) (h2 : l.length ≤ c) (h3 : Kd.C (Kd.int .u8) w B l.length l) (h4 : l.length ≤ d) (hl : l.length ≤ 1048576) :
    Calls Try.prog 24 #[.slice A l.length c, .slice B l.length d] w fun e w' => e = .returned (.bool true) ∧ Below w.heap.size w w' :=
  (grottoref01_Same.calls A c l B d l true w h1 h2 h3 h4 (same_f l (by omega))).mono fun _ _ h => ⟨h.1, by first | exact h.2.below | exact h.2⟩
theorem RW.cell0 {w : World} {base g gb c : Nat} {bs : List Int} (h : RW w base g gb c bs) : w.cell? ⟨g, 0, none⟩ = some (.slice (some ⟨gb, 0, none⟩) bs.length c) := by
  obtain ⟨cs, k1, k2, k3⟩ := h.blk
  exact (blk_cell k1 0).trans k2
set_option maxHeartbeats 8000000 in
set_option maxRecDepth 100000 in
theorem FindRows.law (A0 : Option Addr) (c0 : Nat) (l0 : List Int) (a1_0 : Int) (a1_1 : Int) (a1_2 : Int) (a1_3 : Int) (a1_4 : Int) (a1_5 : Int) (a1_6 : Int) (a1_7 : Int) (w : World) (hr0 : Kd.C (Kd.int .u8) w A0 l0.length l0) (hc0 : l0.length ≤ c0) (hm0 : l0.length ≤ maxLen) (y0 : l0.length * 1 ≤ 140737488351232) (w0 : ∀ x ∈ l0, (Lit.int .u8 x).wf = true) (w1_0 : (Lit.int .u32 a1_0).wf = true) (w1_1 : (Lit.int .u32 a1_1).wf = true) (w1_2 : (Lit.int .u32 a1_2).wf = true) (w1_3 : (Lit.int .u32 a1_3).wf = true) (w1_4 : (Lit.int .u32 a1_4).wf = true) (w1_5 : (Lit.int .u32 a1_5).wf = true) (w1_6 : (Lit.int .u32 a1_6).wf = true) (w1_7 : (Lit.int .u32 a1_7).wf = true) :
    Calls Try.prog 11 #[.slice A0 l0.length c0, .agg #[.int .u32 a1_0, .int .u32 a1_1, .int .u32 a1_2, .int .u32 a1_3, .int .u32 a1_4, .int .u32 a1_5, .int .u32 a1_6, .int .u32 a1_7]] w fun e w' => e = .returned (.bool true) ∧ Below w.heap.size w w' := by
  have HO := Aside0.mk (show (Sr.mk a1_0 a1_1 a1_2 a1_3 a1_4 a1_5 a1_6 a1_7).Ok from ⟨wf_u32 w1_0, wf_u32 w1_1, wf_u32 w1_2, wf_u32 w1_3, wf_u32 w1_4, wf_u32 w1_5, wf_u32 w1_6, wf_u32 w1_7⟩)
  have HR := Aside0.mk hr0
  have HY := Aside0.mk (byt_of w0)
  have HB := Aside0.mk (Below.refl w.heap.size w)
  clear hr0 hc0 hm0 y0 w0 w1_0 w1_1 w1_2 w1_3 w1_4 w1_5 w1_6 w1_7
  by_cases c1 : (l0.length : Int) > 8192
  · have c1b : decide ((l0.length : Int) > 8192) = true := decide_eq_true c1
    have c1c : decide (8192 < (l0.length : Int)) = true := decide_eq_true c1
    have c1d : decide (8192 < l0.length) = true := decide_eq_true (by omega)
    clear c1
    go_enter Try.func11, Try.ntmps11
    go_wp2_with (first | ((with_reducible refine gate_dst (N := 3) rfl ?_); refine zbox (N := 3) (cs := #[.int .u32 a1_0, .int .u32 a1_1, .int .u32 a1_2, .int .u32 a1_3, .int .u32 a1_4, .int .u32 a1_5, .int .u32 a1_6, .int .u32 a1_7]) (t := 32) ?_; intro gs hg w_ hbox hb; have BK := Aside0.mk hbox; replace HB := zbs HB hb; replace HR := Aside0.mk (Kd.C_below HR.out hb); obtain ⟨z0, z1, z2, z3, z4, z5, z6, z7⟩ := c8 BK.out; clear hb hbox hg) | (go_at_call 14; (with_reducible refine (live.is _).mono ?_); rintro e w_ ⟨rfl, hb⟩; replace HB := zbs HB hb; clear hb))
    go_ret
    exact ⟨rfl, zb HB⟩
  · have c1c : decide (8192 < (l0.length : Int)) = false := decide_eq_false c1
    have c1d : decide (8192 < l0.length) = false := decide_eq_false (by omega)
    have HL := Aside0.mk (show l0.length ≤ 1048576 by omega)
    clear c1
    go_enter Try.func11, Try.ntmps11
    go_upto_region 6 with (first | ((with_reducible refine gate_dst (N := 3) rfl ?_); refine zbox (N := 3) (cs := #[.int .u32 a1_0, .int .u32 a1_1, .int .u32 a1_2, .int .u32 a1_3, .int .u32 a1_4, .int .u32 a1_5, .int .u32 a1_6, .int .u32 a1_7]) (t := 32) ?_; intro gs hg w_ hbox hb; have BK := Aside0.mk hbox; replace HB := zbs HB hb; replace HR := Aside0.mk (Kd.C_below HR.out hb); obtain ⟨z0, z1, z2, z3, z4, z5, z6, z7⟩ := c8 BK.out; clear hb hbox hg) | (go_at_call 15; (with_reducible refine (laid.is A0 c0 l0 _ HR.out HY.out HL.out).mono ?_); rintro e w_ ⟨g, gb, c, h, hb', d, rfl, hm, hw, hne, hge, hhe, hb⟩; have HM := Aside0.mk hm; have HW := Aside0.mk hw; replace BK := zkb BK hb; replace HB := zbs HB hb; clear hb hm hw hne hge hhe z0 z1 z2 z3 z4 z5 z6 z7; obtain ⟨z0, z1, z2, z3, z4, z5, z6, z7⟩ := c8 BK.out))
    obtain ⟨r1, r2, h1, h2⟩ := lin_both _ (Sr.mk a1_0 a1_1 a1_2 a1_3 a1_4 a1_5 a1_6 a1_7) HO.out HM.out.len g h
    have H1 := Aside0.mk h1
    have H2 := Aside0.mk h2
    clear h1 h2
    go_wp2_with (first | (go_at_call 17; (with_reducible refine (H1.out _ HM.out.pm).mono ?_); rintro e w_ ⟨rfl, hb⟩; replace HM := Aside0.mk (HM.out.below hb); replace HW := Aside0.mk (HW.out.below hb); replace BK := zkb BK hb; replace HB := zbs HB hb; clear hb z0 z1 z2 z3 z4 z5 z6 z7; obtain ⟨z0, z1, z2, z3, z4, z5, z6, z7⟩ := c8 BK.out) | (go_at_call 30; (with_reducible refine (H2.out _ HW.out.rm).mono ?_); rintro e w_ ⟨rfl, hb⟩; replace HM := Aside0.mk (HM.out.below hb); replace HW := Aside0.mk (HW.out.below hb); replace BK := zkb BK hb; replace HB := zbs HB hb; clear hb z0 z1 z2 z3 z4 z5 z6 z7; obtain ⟨z0, z1, z2, z3, z4, z5, z6, z7⟩ := c8 BK.out))
    go_region_held3 (fun w' => w'.cell? ⟨h, 0, none⟩ = some (.slice (some ⟨hb', 0, none⟩) (laidB l0 (min l0.length 3840)).length d)) (first | exact HW.out.cell0 | exact (HW.out.below (below_drew1 (Below.refl _ _))).cell0 | go_keep) (first | (go_at_call 18; (with_reducible refine (num_be r2 _).mono ?_); rintro e w_ ⟨rfl, hb⟩; replace HM := Aside0.mk (HM.out.below (by first | exact hb | exact below_step (below_drew1 (Below.refl _ _)) hb)); replace HW := Aside0.mk (HW.out.below (by first | exact hb | exact below_step (below_drew1 (Below.refl _ _)) hb)); replace HB := zbs HB hb; clear hb) | (go_at_call 29; (with_reducible refine (memory_Bytes.is g _ _ HM.out.pm).mono ?_); rintro e w_ ⟨v, rfl, hv, hb⟩; obtain ⟨A, cv, rfl⟩ := Kd.R_slice hv; have HV := Aside0.mk (Kd.R_reads' hv); clear hv; replace HM := Aside0.mk (HM.out.below (by first | exact hb | exact below_step (below_drew1 (Below.refl _ _)) hb)); replace HW := Aside0.mk (HW.out.below (by first | exact hb | exact below_step (below_drew1 (Below.refl _ _)) hb)); replace HB := zbs HB hb; clear hb) | (go_at_call 24; (with_reducible refine (Same_be _ A (some ⟨hb', 0, none⟩) cv d _ HV.out.2.2 HV.out.2.1 (Kd.R_reads' HW.out.row).2.2 (Kd.R_reads' HW.out.row).2.1 HM.out.len).mono ?_); rintro e w_ ⟨rfl, hb⟩; replace HM := Aside0.mk (HM.out.below (by first | exact hb | exact below_step (below_drew1 (Below.refl _ _)) hb)); replace HW := Aside0.mk (HW.out.below (by first | exact hb | exact below_step (below_drew1 (Below.refl _ _)) hb)); replace HB := zbs HB hb; clear hb; clear HV) | (go_at_call 14; (with_reducible refine (live.is _).mono ?_); rintro e w_ ⟨rfl, hb⟩; replace HM := Aside0.mk (HM.out.below (by first | exact hb | exact below_step (below_drew1 (Below.refl _ _)) hb)); replace HW := Aside0.mk (HW.out.below (by first | exact hb | exact below_step (below_drew1 (Below.refl _ _)) hb)); replace HB := zbs HB hb; clear hb) | fail)
    go_wp2
    go_ret
    exact ⟨rfl, zb HB⟩
set_option maxHeartbeats 8000000 in
set_option maxRecDepth 100000 in
theorem FindSorts.law (A0 : Option Addr) (c0 : Nat) (l0 : List Int) (a1_0 : Int) (a1_1 : Int) (a1_2 : Int) (a1_3 : Int) (a1_4 : Int) (a1_5 : Int) (a1_6 : Int) (a1_7 : Int) (w : World) (hr0 : Kd.C (Kd.int .u8) w A0 l0.length l0) (hc0 : l0.length ≤ c0) (hm0 : l0.length ≤ maxLen) (y0 : l0.length * 1 ≤ 140737488351232) (w0 : ∀ x ∈ l0, (Lit.int .u8 x).wf = true) (w1_0 : (Lit.int .u32 a1_0).wf = true) (w1_1 : (Lit.int .u32 a1_1).wf = true) (w1_2 : (Lit.int .u32 a1_2).wf = true) (w1_3 : (Lit.int .u32 a1_3).wf = true) (w1_4 : (Lit.int .u32 a1_4).wf = true) (w1_5 : (Lit.int .u32 a1_5).wf = true) (w1_6 : (Lit.int .u32 a1_6).wf = true) (w1_7 : (Lit.int .u32 a1_7).wf = true) :
    Calls Try.prog 12 #[.slice A0 l0.length c0, .agg #[.int .u32 a1_0, .int .u32 a1_1, .int .u32 a1_2, .int .u32 a1_3, .int .u32 a1_4, .int .u32 a1_5, .int .u32 a1_6, .int .u32 a1_7]] w fun e w' => e = .returned (.bool true) ∧ Below w.heap.size w w' := by
  have HO := Aside0.mk (show (Sr.mk a1_0 a1_1 a1_2 a1_3 a1_4 a1_5 a1_6 a1_7).Ok from ⟨wf_u32 w1_0, wf_u32 w1_1, wf_u32 w1_2, wf_u32 w1_3, wf_u32 w1_4, wf_u32 w1_5, wf_u32 w1_6, wf_u32 w1_7⟩)
  have HR := Aside0.mk hr0
  have HY := Aside0.mk (byt_of w0)
  have HB := Aside0.mk (Below.refl w.heap.size w)
  clear hr0 hc0 hm0 y0 w0 w1_0 w1_1 w1_2 w1_3 w1_4 w1_5 w1_6 w1_7
  by_cases c1 : (l0.length : Int) > 8192
  · have c1b : decide ((l0.length : Int) > 8192) = true := decide_eq_true c1
    have c1c : decide (8192 < (l0.length : Int)) = true := decide_eq_true c1
    have c1d : decide (8192 < l0.length) = true := decide_eq_true (by omega)
    clear c1
    go_enter Try.func12, Try.ntmps12
    go_wp2_with (first | ((with_reducible refine gate_dst (N := 3) rfl ?_); refine zbox (N := 3) (cs := #[.int .u32 a1_0, .int .u32 a1_1, .int .u32 a1_2, .int .u32 a1_3, .int .u32 a1_4, .int .u32 a1_5, .int .u32 a1_6, .int .u32 a1_7]) (t := 32) ?_; intro gs hg w_ hbox hb; have BK := Aside0.mk hbox; replace HB := zbs HB hb; replace HR := Aside0.mk (Kd.C_below HR.out hb); obtain ⟨z0, z1, z2, z3, z4, z5, z6, z7⟩ := c8 BK.out; clear hb hbox hg) | (go_at_call 14; (with_reducible refine (live.is _).mono ?_); rintro e w_ ⟨rfl, hb⟩; replace HB := zbs HB hb; clear hb))
    go_ret
    exact ⟨rfl, zb HB⟩
  · have c1c : decide (8192 < (l0.length : Int)) = false := decide_eq_false c1
    have c1d : decide (8192 < l0.length) = false := decide_eq_false (by omega)
    have HL := Aside0.mk (show l0.length ≤ 1048576 by omega)
    clear c1
    go_enter Try.func12, Try.ntmps12
    go_upto_region 6 with (first | ((with_reducible refine gate_dst (N := 3) rfl ?_); refine zbox (N := 3) (cs := #[.int .u32 a1_0, .int .u32 a1_1, .int .u32 a1_2, .int .u32 a1_3, .int .u32 a1_4, .int .u32 a1_5, .int .u32 a1_6, .int .u32 a1_7]) (t := 32) ?_; intro gs hg w_ hbox hb; have BK := Aside0.mk hbox; replace HB := zbs HB hb; replace HR := Aside0.mk (Kd.C_below HR.out hb); obtain ⟨z0, z1, z2, z3, z4, z5, z6, z7⟩ := c8 BK.out; clear hb hbox hg) | (go_at_call 15; (with_reducible refine (laid.is A0 c0 l0 _ HR.out HY.out HL.out).mono ?_); rintro e w_ ⟨g, gb, c, h, hb', d, rfl, hm, hw, hne, hge, hhe, hb⟩; have HM := Aside0.mk hm; have HW := Aside0.mk hw; replace BK := zkb BK hb; replace HB := zbs HB hb; clear hb hm hw hne hge hhe z0 z1 z2 z3 z4 z5 z6 z7; obtain ⟨z0, z1, z2, z3, z4, z5, z6, z7⟩ := c8 BK.out))
    obtain ⟨r1, r2, h1, h2⟩ := bin_both _ (Sr.mk a1_0 a1_1 a1_2 a1_3 a1_4 a1_5 a1_6 a1_7) HO.out g h
    have H1 := Aside0.mk h1
    have H2 := Aside0.mk h2
    clear h1 h2
    go_wp2_with (first | (go_at_call 19; (with_reducible refine (H1.out _ HM.out.pm).mono ?_); rintro e w_ ⟨rfl, hb⟩; replace HM := Aside0.mk (HM.out.below hb); replace HW := Aside0.mk (HW.out.below hb); replace BK := zkb BK hb; replace HB := zbs HB hb; clear hb z0 z1 z2 z3 z4 z5 z6 z7; obtain ⟨z0, z1, z2, z3, z4, z5, z6, z7⟩ := c8 BK.out) | (go_at_call 31; (with_reducible refine (H2.out _ HW.out.rm).mono ?_); rintro e w_ ⟨rfl, hb⟩; replace HM := Aside0.mk (HM.out.below hb); replace HW := Aside0.mk (HW.out.below hb); replace BK := zkb BK hb; replace HB := zbs HB hb; clear hb z0 z1 z2 z3 z4 z5 z6 z7; obtain ⟨z0, z1, z2, z3, z4, z5, z6, z7⟩ := c8 BK.out))
    go_region_held3 (fun w' => w'.cell? ⟨h, 0, none⟩ = some (.slice (some ⟨hb', 0, none⟩) (laidB l0 (min l0.length 3840)).length d)) (first | exact HW.out.cell0 | exact (HW.out.below (below_drew1 (Below.refl _ _))).cell0 | go_keep) (first | (go_at_call 18; (with_reducible refine (num_be r2 _).mono ?_); rintro e w_ ⟨rfl, hb⟩; replace HM := Aside0.mk (HM.out.below (by first | exact hb | exact below_step (below_drew1 (Below.refl _ _)) hb)); replace HW := Aside0.mk (HW.out.below (by first | exact hb | exact below_step (below_drew1 (Below.refl _ _)) hb)); replace HB := zbs HB hb; clear hb) | (go_at_call 29; (with_reducible refine (memory_Bytes.is g _ _ HM.out.pm).mono ?_); rintro e w_ ⟨v, rfl, hv, hb⟩; obtain ⟨A, cv, rfl⟩ := Kd.R_slice hv; have HV := Aside0.mk (Kd.R_reads' hv); clear hv; replace HM := Aside0.mk (HM.out.below (by first | exact hb | exact below_step (below_drew1 (Below.refl _ _)) hb)); replace HW := Aside0.mk (HW.out.below (by first | exact hb | exact below_step (below_drew1 (Below.refl _ _)) hb)); replace HB := zbs HB hb; clear hb) | (go_at_call 24; (with_reducible refine (Same_be _ A (some ⟨hb', 0, none⟩) cv d _ HV.out.2.2 HV.out.2.1 (Kd.R_reads' HW.out.row).2.2 (Kd.R_reads' HW.out.row).2.1 HM.out.len).mono ?_); rintro e w_ ⟨rfl, hb⟩; replace HM := Aside0.mk (HM.out.below (by first | exact hb | exact below_step (below_drew1 (Below.refl _ _)) hb)); replace HW := Aside0.mk (HW.out.below (by first | exact hb | exact below_step (below_drew1 (Below.refl _ _)) hb)); replace HB := zbs HB hb; clear hb; clear HV) | (go_at_call 14; (with_reducible refine (live.is _).mono ?_); rintro e w_ ⟨rfl, hb⟩; replace HM := Aside0.mk (HM.out.below (by first | exact hb | exact below_step (below_drew1 (Below.refl _ _)) hb)); replace HW := Aside0.mk (HW.out.below (by first | exact hb | exact below_step (below_drew1 (Below.refl _ _)) hb)); replace HB := zbs HB hb; clear hb) | fail)
    go_wp2
    go_ret
    exact ⟨rfl, zb HB⟩
set_option maxHeartbeats 8000000 in
set_option maxRecDepth 100000 in
theorem FindChains.law (A0 : Option Addr) (c0 : Nat) (l0 : List Int) (a1_0 : Int) (a1_1 : Int) (a1_2 : Int) (a1_3 : Int) (a1_4 : Int) (a1_5 : Int) (a1_6 : Int) (a1_7 : Int) (w : World) (hr0 : Kd.C (Kd.int .u8) w A0 l0.length l0) (hc0 : l0.length ≤ c0) (hm0 : l0.length ≤ maxLen) (y0 : l0.length * 1 ≤ 140737488351232) (w0 : ∀ x ∈ l0, (Lit.int .u8 x).wf = true) (w1_0 : (Lit.int .u32 a1_0).wf = true) (w1_1 : (Lit.int .u32 a1_1).wf = true) (w1_2 : (Lit.int .u32 a1_2).wf = true) (w1_3 : (Lit.int .u32 a1_3).wf = true) (w1_4 : (Lit.int .u32 a1_4).wf = true) (w1_5 : (Lit.int .u32 a1_5).wf = true) (w1_6 : (Lit.int .u32 a1_6).wf = true) (w1_7 : (Lit.int .u32 a1_7).wf = true) :
    Calls Try.prog 13 #[.slice A0 l0.length c0, .agg #[.int .u32 a1_0, .int .u32 a1_1, .int .u32 a1_2, .int .u32 a1_3, .int .u32 a1_4, .int .u32 a1_5, .int .u32 a1_6, .int .u32 a1_7]] w fun e w' => e = .returned (.bool true) ∧ Below w.heap.size w w' := by
  have HO := Aside0.mk (show (Sr.mk a1_0 a1_1 a1_2 a1_3 a1_4 a1_5 a1_6 a1_7).Ok from ⟨wf_u32 w1_0, wf_u32 w1_1, wf_u32 w1_2, wf_u32 w1_3, wf_u32 w1_4, wf_u32 w1_5, wf_u32 w1_6, wf_u32 w1_7⟩)
  have HR := Aside0.mk hr0
  have HY := Aside0.mk (byt_of w0)
  have HB := Aside0.mk (Below.refl w.heap.size w)
  clear hr0 hc0 hm0 y0 w0 w1_0 w1_1 w1_2 w1_3 w1_4 w1_5 w1_6 w1_7
  by_cases c1 : (l0.length : Int) > 8192
  · have c1b : decide ((l0.length : Int) > 8192) = true := decide_eq_true c1
    have c1c : decide (8192 < (l0.length : Int)) = true := decide_eq_true c1
    have c1d : decide (8192 < l0.length) = true := decide_eq_true (by omega)
    clear c1
    go_enter Try.func13, Try.ntmps13
    go_wp2_with (first | ((with_reducible refine gate_dst (N := 3) rfl ?_); refine zbox (N := 3) (cs := #[.int .u32 a1_0, .int .u32 a1_1, .int .u32 a1_2, .int .u32 a1_3, .int .u32 a1_4, .int .u32 a1_5, .int .u32 a1_6, .int .u32 a1_7]) (t := 32) ?_; intro gs hg w_ hbox hb; have BK := Aside0.mk hbox; replace HB := zbs HB hb; replace HR := Aside0.mk (Kd.C_below HR.out hb); obtain ⟨z0, z1, z2, z3, z4, z5, z6, z7⟩ := c8 BK.out; clear hb hbox hg) | (go_at_call 14; (with_reducible refine (live.is _).mono ?_); rintro e w_ ⟨rfl, hb⟩; replace HB := zbs HB hb; clear hb))
    go_ret
    exact ⟨rfl, zb HB⟩
  · have c1c : decide (8192 < (l0.length : Int)) = false := decide_eq_false c1
    have c1d : decide (8192 < l0.length) = false := decide_eq_false (by omega)
    have HL := Aside0.mk (show l0.length ≤ 1048576 by omega)
    clear c1
    go_enter Try.func13, Try.ntmps13
    go_upto_region 6 with (first | ((with_reducible refine gate_dst (N := 3) rfl ?_); refine zbox (N := 3) (cs := #[.int .u32 a1_0, .int .u32 a1_1, .int .u32 a1_2, .int .u32 a1_3, .int .u32 a1_4, .int .u32 a1_5, .int .u32 a1_6, .int .u32 a1_7]) (t := 32) ?_; intro gs hg w_ hbox hb; have BK := Aside0.mk hbox; replace HB := zbs HB hb; replace HR := Aside0.mk (Kd.C_below HR.out hb); obtain ⟨z0, z1, z2, z3, z4, z5, z6, z7⟩ := c8 BK.out; clear hb hbox hg) | (go_at_call 15; (with_reducible refine (laid.is A0 c0 l0 _ HR.out HY.out HL.out).mono ?_); rintro e w_ ⟨g, gb, c, h, hb', d, rfl, hm, hw, hne, hge, hhe, hb⟩; have HM := Aside0.mk hm; have HW := Aside0.mk hw; replace BK := zkb BK hb; replace HB := zbs HB hb; clear hb hm hw hne hge hhe z0 z1 z2 z3 z4 z5 z6 z7; obtain ⟨z0, z1, z2, z3, z4, z5, z6, z7⟩ := c8 BK.out))
    obtain ⟨r1, r2, h1, h2⟩ := link_both _ (Sr.mk a1_0 a1_1 a1_2 a1_3 a1_4 a1_5 a1_6 a1_7) HO.out g h
    have H1 := Aside0.mk h1
    have H2 := Aside0.mk h2
    clear h1 h2
    go_wp2_with (first | (go_at_call 21; (with_reducible refine (H1.out _ HM.out.pm).mono ?_); rintro e w_ ⟨rfl, hb⟩; replace HM := Aside0.mk (HM.out.below hb); replace HW := Aside0.mk (HW.out.below hb); replace BK := zkb BK hb; replace HB := zbs HB hb; clear hb z0 z1 z2 z3 z4 z5 z6 z7; obtain ⟨z0, z1, z2, z3, z4, z5, z6, z7⟩ := c8 BK.out) | (go_at_call 32; (with_reducible refine (H2.out _ HW.out.rm).mono ?_); rintro e w_ ⟨rfl, hb⟩; replace HM := Aside0.mk (HM.out.below hb); replace HW := Aside0.mk (HW.out.below hb); replace BK := zkb BK hb; replace HB := zbs HB hb; clear hb z0 z1 z2 z3 z4 z5 z6 z7; obtain ⟨z0, z1, z2, z3, z4, z5, z6, z7⟩ := c8 BK.out))
    go_region_held3 (fun w' => w'.cell? ⟨h, 0, none⟩ = some (.slice (some ⟨hb', 0, none⟩) (laidB l0 (min l0.length 3840)).length d)) (first | exact HW.out.cell0 | exact (HW.out.below (below_drew1 (Below.refl _ _))).cell0 | go_keep) (first | (go_at_call 18; (with_reducible refine (num_be r2 _).mono ?_); rintro e w_ ⟨rfl, hb⟩; replace HM := Aside0.mk (HM.out.below (by first | exact hb | exact below_step (below_drew1 (Below.refl _ _)) hb)); replace HW := Aside0.mk (HW.out.below (by first | exact hb | exact below_step (below_drew1 (Below.refl _ _)) hb)); replace HB := zbs HB hb; clear hb) | (go_at_call 29; (with_reducible refine (memory_Bytes.is g _ _ HM.out.pm).mono ?_); rintro e w_ ⟨v, rfl, hv, hb⟩; obtain ⟨A, cv, rfl⟩ := Kd.R_slice hv; have HV := Aside0.mk (Kd.R_reads' hv); clear hv; replace HM := Aside0.mk (HM.out.below (by first | exact hb | exact below_step (below_drew1 (Below.refl _ _)) hb)); replace HW := Aside0.mk (HW.out.below (by first | exact hb | exact below_step (below_drew1 (Below.refl _ _)) hb)); replace HB := zbs HB hb; clear hb) | (go_at_call 24; (with_reducible refine (Same_be _ A (some ⟨hb', 0, none⟩) cv d _ HV.out.2.2 HV.out.2.1 (Kd.R_reads' HW.out.row).2.2 (Kd.R_reads' HW.out.row).2.1 HM.out.len).mono ?_); rintro e w_ ⟨rfl, hb⟩; replace HM := Aside0.mk (HM.out.below (by first | exact hb | exact below_step (below_drew1 (Below.refl _ _)) hb)); replace HW := Aside0.mk (HW.out.below (by first | exact hb | exact below_step (below_drew1 (Below.refl _ _)) hb)); replace HB := zbs HB hb; clear hb; clear HV) | (go_at_call 14; (with_reducible refine (live.is _).mono ?_); rintro e w_ ⟨rfl, hb⟩; replace HM := Aside0.mk (HM.out.below (by first | exact hb | exact below_step (below_drew1 (Below.refl _ _)) hb)); replace HW := Aside0.mk (HW.out.below (by first | exact hb | exact below_step (below_drew1 (Below.refl _ _)) hb)); replace HB := zbs HB hb; clear hb) | fail)
    go_wp2
    go_ret
    exact ⟨rfl, zb HB⟩
end Go.Proofs.Ytohmipmioaceeaa.PQ
