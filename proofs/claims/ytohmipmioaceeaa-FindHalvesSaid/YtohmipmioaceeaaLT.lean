/- The law FindSteps walked. -/
import Derived.Test.YtohmipmioaceeaaLTp
import Derived.Test.YtohmipmioaceeaaPQx1
namespace Go.Proofs.Ytohmipmioaceeaa.PQ
set_option linter.all false
open Go.RowKit Go.Proofs.YtohmipmioaceeaaW.PrintWords Go.Proofs.YtohmipmioaceeaaW.PrintLast Go.Proofs.YtohmipmioaceeaaW.PrintMore Go.Proofs.Ytohmipmioaceeaa.Z Go.Proofs.Ytohmipmioaceeaa.Pure
set_option linter.unusedVariables false
set_option linter.unusedSimpArgs false
theorem row11 : grottolaw13_row.f 2 1 1 = some [256] := by kernel_rfl
theorem laid_nil (w : World) : Calls Try.prog 15 #[.slice none 0 0] w fun e w' => ∃ g gb c h : Nat, e = .returned (.tuple #[.pointer (some ⟨g, 0, none⟩), .pointer (some ⟨h, 0, none⟩)]) ∧ PW w' w.heap.size g gb c (laidB [] 0) ∧ Below w.heap.size w w' :=
  (laid.is none 0 [] w (Kd.R_reads' (Kd.R_nil (Kd.int .u8) 5 w 0 (fun _ => True))).2.2 (by intro x hx; cases hx) (by simp)).mono fun e w' hh => by
    obtain ⟨g, gb, c, h, hb', d, he, hm, hw, hne, hge, hhe, hb⟩ := hh
    exact ⟨g, gb, c, h, he, hm, hb⟩
theorem b32t (a n st cn : Int) (w : World) : (Instr.build 32 #[(0, .int .u32 a), (1, .int .u32 1), (2, .int .u32 n), (3, .int .u32 st), (4, .int .u32 cn)]).run Try.prog w = .ok (.agg #[.int .u32 a, .int .u32 1, .int .u32 n, .int .u32 st, .int .u32 cn, .int .u32 0, .int .u32 0, .int .u32 0]) w := run_build w 32 _ _ (by kernel_rfl)
set_option maxHeartbeats 8000000 in
set_option maxRecDepth 100000 in
theorem FindSteps.law (a0 : Int) (a1 : Int) (a2 : Int) (a3 : Int) (w : World) (w0 : (Lit.int .u16 a0).wf = true) (w1 : (Lit.int .i8 a1).wf = true) (w2 : (Lit.int .u8 a2).wf = true) (w3 : (Lit.int .u8 a3).wf = true) :
    Calls Try.prog 9 #[.int .u16 a0, .int .i8 a1, .int .u8 a2, .int .u8 a3] w fun e w' => e = .returned (.bool true) ∧ Below w.heap.size w w' := by
  have HB := Aside0.mk (Below.refl w.heap.size w)
  have b0 := wf_u16 w0
  have b1 := wf_i8 w1
  have b2 := wf_u8 w2
  have b3 := wf_u8 w3
  have bb := b32t a3 a0 (a1 % 4294967296) (a2 + 1)
  obtain ⟨ad, had⟩ : ∃ ad, ad = a0 + a2 * a1 := ⟨_, rfl⟩
  have hbd : -32640 ≤ a2 * a1 ∧ a2 * a1 ≤ 32640 := by
    have k1 : a2 * a1 ≤ a2 * 128 := Int.mul_le_mul_of_nonneg_left (by omega) b2.1
    have k2 : a2 * (-128) ≤ a2 * a1 := Int.mul_le_mul_of_nonneg_left (by omega) b2.1
    omega
  have x0 : wrap64 a0 = a0 := w64 (by omega) (by omega)
  have x1 : wrap64 a1 = a1 := w64 (by omega) (by omega)
  have x2 : wrap64 a2 = a2 := w64 (by omega) (by omega)
  have x3 : wrap64 (a2 * a1) = a2 * a1 := w64 (by omega) (by omega)
  have x4 : wrap64 (a0 + a2 * a1) = ad := by rw [had]; exact w64 (by omega) (by omega)
  have y1 : wrap32 a1 = a1 := by unfold wrap32; omega
  have u0 : a0 % 4294967296 = a0 := by omega
  have u2 : a2 % 4294967296 = a2 := by omega
  have u3 : a3 % 4294967296 = a3 := by omega
  have u4 : (a2 + 1) % 4294967296 = a2 + 1 := by omega
  have HA0 := Aside0.mk (And.intro had (And.intro b0 (And.intro b1 (And.intro b2 b3))))
  obtain ⟨lo, mn⟩ : ∃ lo, (if ad < a0 then ad else a0) = lo := ⟨_, rfl⟩
  obtain ⟨hi, mx⟩ : ∃ hi, (if a0 < ad then ad else a0) = hi := ⟨_, rfl⟩
  have hq : decide (lo < 256) = true ∨ (decide (lo < 256) = false ∧ decide (4096 ≤ hi) = true) ∨ (decide (lo < 256) = false ∧ decide (4096 ≤ hi) = false ∧ decide (a1 = 0) = true ∧ (a1 == 0) = true) ∨ (decide (lo < 256) = false ∧ decide (4096 ≤ hi) = false ∧ decide (a1 = 0) = false ∧ (a1 == 0) = false ∧ decide (a3 = 0) = true ∧ (a3 == 0) = true) ∨ (decide (lo < 256) = false ∧ decide (4096 ≤ hi) = false ∧ decide (a1 = 0) = false ∧ (a1 == 0) = false ∧ decide (a3 = 0) = false ∧ (a3 == 0) = false) := by
    cases decide (lo < 256) <;> cases decide (4096 ≤ hi) <;> by_cases c3 : a1 = 0 <;> by_cases c4 : a3 = 0 <;> simp [c3, c4]
  clear w0 w1 w2 w3 had hbd b0 b1 b2 b3
  go_enter Try.func9, Try.ntmps9
  go_upto_region 6 with (first | (go_at_call 15; (with_reducible refine (laid_nil _).mono ?_); rintro e w_ ⟨g, gb, c, h, rfl, hm, hb⟩; have HM := Aside0.mk hm; have GB := Aside0.mk hm.base_le; replace HB := zbs HB hb; clear hb hm))
  rcases hq with d1 | ⟨d1, d2⟩ | ⟨d1, d2, d3, d4⟩ | ⟨d1, d2, d3, d4, d5, d6⟩ | ⟨d1, d2, d3, d4, d5, d6⟩
  iterate 4
    · clear HM GB
      go_wp2_with (first | (go_at_call 14; (with_reducible refine (live.is _).mono ?_); rintro e w_ ⟨rfl, hb⟩; replace HB := zbs HB hb; clear hb) | fail)
      go_ret
      exact ⟨rfl, zb HB⟩
  · have hA : (256 ≤ a0 ∧ a0 < 4096) ∧ (256 ≤ ad ∧ ad < 4096) := by
      have e1 := of_decide_eq_false d1
      have e2 := of_decide_eq_false d2
      rw [← mn] at e1
      rw [← mx] at e2
      split at e1 <;> split at e2 <;> omega
    have hB := HA0.out
    have hc1 : a1 ≠ 0 := of_decide_eq_false d3
    have hc3 : a3 ≠ 0 := of_decide_eq_false d5
    obtain ⟨hl1, hl2, hl3⟩ := steps_all (a3 := a3) hB.1 hB.2.2.2.1 (by omega) (by omega) hA.1 hA.2
    have L1 := Aside0.mk (And.intro (show (Sr.mk (a3) (1) (a0) (a1 % 4294967296) (a2 + 1) (0) (0) (0)).Ok from mkOk (by omega) (by omega) (by omega) (by omega) (by omega) (by omega) (by omega) (by omega)) hl1)
    have L2 := Aside0.mk (And.intro (show (Sr.mk (a3) (1) (a0) (a1 % 4294967296) (a2) (0) (0) (0)).Ok from mkOk (by omega) (by omega) (by omega) (by omega) (by omega) (by omega) (by omega) (by omega)) hl2)
    have L3 := Aside0.mk (And.intro (show (Sr.mk (a3) (1) (a0) (a1 % 4294967296) (4294967295) (0) (0) (4)).Ok from mkOk (by omega) (by omega) (by omega) (by omega) (by omega) (by omega) (by omega) (by omega)) hl3)
    have u5 : ad % 4294967296 = ad := by omega
    have HA := Aside0.mk (And.intro (show 256 ≤ ad ∧ ad < ((laidB [] 0).length : Int) by rw [laidB_len (l := []) (i := 0) (by simp) (by omega)]; omega) (show 0 ≤ a3 ∧ a3 < 256 from hB.2.2.2.2))
    clear hA hB hc1 hc3 hl1 hl2 hl3
    go_upto_region 10 with (first | (go_at_call 25; (with_reducible refine (memory_Write.to _ g gb c (laidB [] 0) ad a3 _ HM.out HA.out.1 HA.out.2).mono ?_); rintro e w_ ⟨rfl, hm, hgr⟩; replace HM := Aside0.mk (show PW _ _ g gb c (stepB ad a3) from hm); replace HB := Aside0.mk (HB.out.grown hgr (below_size HB.out) (fun k_ hk_ => by injection hk_ with hk_; subst hk_; exact GB.out)); clear hm hgr) | (go_at_call 18; (with_reducible refine (num_be _ _).mono ?_); rintro e w_ ⟨rfl, hb⟩; replace HM := Aside0.mk (HM.out.below (by first | exact hb | exact below_step (below_drew1 (Below.refl _ _)) hb)); replace HB := zbs HB hb; clear hb))
    go_upto_region 11 with (first | ((with_reducible refine gate_dst (N := 14) rfl ?_); refine zbox (N := 14) (cs := #[.int .u32 0, .int .u32 0, .int .u32 0, .int .u32 0, .int .u32 0, .int .u32 0, .int .u32 0, .int .u32 0]) (t := 32) ?_; intro gs hg w_ hbox hb; have BK := Aside0.mk hbox; have GE := Aside0.mk (show w.heap.size ≤ gs by rw [hg]; exact below_size HB.out); replace HM := Aside0.mk (HM.out.below (by first | exact hb | exact below_step (below_drew1 (Below.refl _ _)) hb)); replace HB := zbs HB hb; clear hb hbox hg; obtain ⟨z0, z1, z2, z3, z4, z5, z6, z7⟩ := c8 BK.out) | ((with_reducible refine gate_ (.store 32 (.tmp 14) (.tmp 76)) rfl ?_); refine store_blk (cs := #[.int .u32 0, .int .u32 0, .int .u32 0, .int .u32 0, .int .u32 0, .int .u32 0, .int .u32 0, .int .u32 0]) (cs' := #[.int .u32 (a3), .int .u32 1, .int .u32 (a0), .int .u32 (a1 % 4294967296), .int .u32 (a2 + 1), .int .u32 0, .int .u32 0, .int .u32 0]) rfl rfl 32 (.tmp 14) (.tmp 76) rfl rfl rfl ?hh ?hsz size32 ?h1 ?_; (case hh => exact BK.out); (case hsz => rfl); (case h1 => intro q_ hq_; simp only [List.mem_cons, List.not_mem_nil, or_false] at hq_; rcases hq_ with rfl | rfl | rfl | rfl | rfl | rfl | rfl | rfl <;> rfl); intro w_ hh hgr; have hbk := BK.out; replace HM := Aside0.mk (HM.out.grown hgr (HM.out.ne32 hbk (by decide) (by decide)).1 (HM.out.ne32 hbk (by decide) (by decide)).2); replace HB := Aside0.mk (HB.out.grown hgr (below_size HB.out) (fun k_ hk_ => by injection hk_ with hk_; subst hk_; exact GE.out)); clear hbk BK; have BK := Aside0.mk hh; (try clear z0 z1 z2 z3 z4 z5 z6 z7); obtain ⟨z0, z1, z2, z3, z4, z5, z6, z7⟩ := c8 BK.out; clear hh hgr))
    go_upto_region 12 with (first | (go_at_call 17; (with_reducible refine (find_Linear.is (a2.toNat + 1) g (Sr.mk (a3) (1) (a0) (a1 % 4294967296) (a2 + 1) (0) (0) (0)) (stepB ad a3) (ad) 0 _ L1.out.1 HM.out.pm L1.out.2).mono ?_); rintro e w_ ⟨rfl, hb⟩; replace HM := Aside0.mk (HM.out.below (by first | exact hb | exact below_step (below_drew1 (Below.refl _ _)) hb)); replace BK := zkb BK hb; replace HB := zbs HB hb; clear hb z0 z1 z2 z3 z4 z5 z6 z7; obtain ⟨z0, z1, z2, z3, z4, z5, z6, z7⟩ := c8 BK.out))
    go_upto_region 13 with (first | ((with_reducible refine gate_ (.store 23 (.tmp 85) (.tmp 84)) rfl ?_); refine store_cell (cs := #[.int .u32 (a3), .int .u32 1, .int .u32 (a0), .int .u32 (a1 % 4294967296), .int .u32 (a2 + 1), .int .u32 0, .int .u32 0, .int .u32 0]) rfl rfl 23 32 (.tmp 85) (.tmp 84) rfl (j := 4) rfl rfl ?hh ?hsz (infoS info23) ?_; (case hh => exact BK.out); (case hsz => exact (by decide : (4 : Nat) < 8)); intro w_ hh hgr; have hbk := BK.out; replace hh : w_.heap[gs]? = some (.cells #[.int .u32 (a3), .int .u32 1, .int .u32 (a0), .int .u32 (a1 % 4294967296), .int .u32 (a2), .int .u32 0, .int .u32 0, .int .u32 0] 32 (0, 0)) := hh; replace HM := Aside0.mk (HM.out.grown hgr (HM.out.ne32 hbk (by decide) (by decide)).1 (HM.out.ne32 hbk (by decide) (by decide)).2); replace HB := Aside0.mk (HB.out.grown hgr (below_size HB.out) (fun k_ hk_ => by injection hk_ with hk_; subst hk_; exact GE.out)); clear hbk BK; have BK := Aside0.mk hh; (try clear z0 z1 z2 z3 z4 z5 z6 z7); obtain ⟨z0, z1, z2, z3, z4, z5, z6, z7⟩ := c8 BK.out; clear hh hgr))
    go_upto_region 14 with (first | (go_at_call 17; (with_reducible refine (find_Linear.is (a2.toNat + 1) g (Sr.mk (a3) (1) (a0) (a1 % 4294967296) (a2) (0) (0) (0)) (stepB ad a3) (0) 0 _ L2.out.1 HM.out.pm L2.out.2).mono ?_); rintro e w_ ⟨rfl, hb⟩; replace HM := Aside0.mk (HM.out.below (by first | exact hb | exact below_step (below_drew1 (Below.refl _ _)) hb)); replace BK := zkb BK hb; replace HB := zbs HB hb; clear hb z0 z1 z2 z3 z4 z5 z6 z7; obtain ⟨z0, z1, z2, z3, z4, z5, z6, z7⟩ := c8 BK.out))
    go_upto_region 15 with (first | ((with_reducible refine gate_ (.store 23 (.tmp 92) (.const (.int .u32 4294967295))) rfl ?_); refine store_cell (cs := #[.int .u32 (a3), .int .u32 1, .int .u32 (a0), .int .u32 (a1 % 4294967296), .int .u32 (a2), .int .u32 0, .int .u32 0, .int .u32 0]) rfl rfl 23 32 (.tmp 92) (.const (.int .u32 4294967295)) rfl (j := 4) rfl rfl ?hh ?hsz (infoS info23) ?_; (case hh => exact BK.out); (case hsz => exact (by decide : (4 : Nat) < 8)); intro w_ hh hgr; have hbk := BK.out; replace hh : w_.heap[gs]? = some (.cells #[.int .u32 (a3), .int .u32 1, .int .u32 (a0), .int .u32 (a1 % 4294967296), .int .u32 4294967295, .int .u32 0, .int .u32 0, .int .u32 0] 32 (0, 0)) := hh; replace HM := Aside0.mk (HM.out.grown hgr (HM.out.ne32 hbk (by decide) (by decide)).1 (HM.out.ne32 hbk (by decide) (by decide)).2); replace HB := Aside0.mk (HB.out.grown hgr (below_size HB.out) (fun k_ hk_ => by injection hk_ with hk_; subst hk_; exact GE.out)); clear hbk BK; have BK := Aside0.mk hh; (try clear z0 z1 z2 z3 z4 z5 z6 z7); obtain ⟨z0, z1, z2, z3, z4, z5, z6, z7⟩ := c8 BK.out; clear hh hgr) | ((with_reducible refine gate_ (.store 23 (.tmp 93) (.const (.int .u32 4))) rfl ?_); refine store_cell (cs := #[.int .u32 (a3), .int .u32 1, .int .u32 (a0), .int .u32 (a1 % 4294967296), .int .u32 4294967295, .int .u32 0, .int .u32 0, .int .u32 0]) rfl rfl 23 32 (.tmp 93) (.const (.int .u32 4)) rfl (j := 7) rfl rfl ?hh ?hsz (infoS info23) ?_; (case hh => exact BK.out); (case hsz => exact (by decide : (7 : Nat) < 8)); intro w_ hh hgr; have hbk := BK.out; replace hh : w_.heap[gs]? = some (.cells #[.int .u32 (a3), .int .u32 1, .int .u32 (a0), .int .u32 (a1 % 4294967296), .int .u32 4294967295, .int .u32 0, .int .u32 0, .int .u32 4] 32 (0, 0)) := hh; replace HM := Aside0.mk (HM.out.grown hgr (HM.out.ne32 hbk (by decide) (by decide)).1 (HM.out.ne32 hbk (by decide) (by decide)).2); replace HB := Aside0.mk (HB.out.grown hgr (below_size HB.out) (fun k_ hk_ => by injection hk_ with hk_; subst hk_; exact GE.out)); clear hbk BK; have BK := Aside0.mk hh; (try clear z0 z1 z2 z3 z4 z5 z6 z7); obtain ⟨z0, z1, z2, z3, z4, z5, z6, z7⟩ := c8 BK.out; clear hh hgr))
    go_upto_region 16 with (first | (go_at_call 17; (with_reducible refine (find_Linear.is (a2.toNat + 1) g (Sr.mk (a3) (1) (a0) (a1 % 4294967296) (4294967295) (0) (0) (4)) (stepB ad a3) (a2) 0 _ L3.out.1 HM.out.pm L3.out.2).mono ?_); rintro e w_ ⟨rfl, hb⟩; replace HM := Aside0.mk (HM.out.below (by first | exact hb | exact below_step (below_drew1 (Below.refl _ _)) hb)); replace BK := zkb BK hb; replace HB := zbs HB hb; clear hb z0 z1 z2 z3 z4 z5 z6 z7; obtain ⟨z0, z1, z2, z3, z4, z5, z6, z7⟩ := c8 BK.out))
    clear HM BK z0 z1 z2 z3 z4 z5 z6 z7 L1 L2 L3
    go_wp2_with (first | (go_at_call 18; (with_reducible refine (num_be _ _).mono ?_); rintro e w_ ⟨rfl, hb⟩; replace HB := zbs HB hb; clear hb) | (go_at_call 26; (with_reducible refine (grottolaw13_row.calls 2 1 1 [256] _ row11).mono ?_); rintro e w_ ⟨v9, rfl, hv, hb⟩; obtain ⟨A9, c9, rfl⟩ := Kd.R_slice hv; replace HB := zbs HB hb; clear hv hb) | (go_at_call 14; (with_reducible refine (live.is _).mono ?_); rintro e w_ ⟨rfl, hb⟩; replace HB := zbs HB hb; clear hb) | fail)
    go_ret
    exact ⟨rfl, zb HB⟩
end Go.Proofs.Ytohmipmioaceeaa.PQ
