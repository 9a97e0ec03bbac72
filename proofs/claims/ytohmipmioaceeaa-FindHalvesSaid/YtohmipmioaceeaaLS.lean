/- The law FindSpans walked. -/
import Derived.Test.YtohmipmioaceeaaLSp
namespace Go.Proofs.Ytohmipmioaceeaa.PQ
set_option linter.all false
open Go.RowKit Go.Proofs.YtohmipmioaceeaaW.PrintWords Go.Proofs.YtohmipmioaceeaaW.PrintLast Go.Proofs.YtohmipmioaceeaaW.PrintMore Go.Proofs.Ytohmipmioaceeaa.Z Go.Proofs.Ytohmipmioaceeaa.Pure
set_option linter.unusedVariables false
set_option linter.unusedSimpArgs false
theorem RW.ne32 {w : World} {base g gb c gs t : Nat} {bs : List Int} {cs : Array Value} (h : RW w base g gb c bs) (hb : w.heap[gs]? = some (.cells cs t (0, 0))) (h1 : 64 ≠ t) (h2 : 5 ≠ t) : some g ≠ some gs ∧ some gb ≠ some gs := by
  obtain ⟨x, k1, _⟩ := h.blk
  have a := blk_ne k1 hb h1
  have b := ne_of_R h.row hb h2
  exact ⟨by simpa using a, by simpa using fun e => b e.symm⟩
theorem wf_u16 {a : Int} (h : (Lit.int .u16 a).wf = true) : 0 ≤ a ∧ a < 65536 := by
  simp [Lit.wf, IntKind.min, IntKind.max, IntKind.signed, IntKind.bits] at h; omega
theorem b32s (a n st : Int) (w : World) : (Instr.build 32 #[(0, .int .u32 a), (1, .int .u32 n), (2, .int .u32 st), (3, .int .u32 1), (4, .int .u32 4294967295), (7, .int .u32 1)]).run Try.prog w = .ok (.agg #[.int .u32 a, .int .u32 n, .int .u32 st, .int .u32 1, .int .u32 4294967295, .int .u32 0, .int .u32 0, .int .u32 1]) w := run_build w 32 _ _ (by kernel_rfl)
set_option maxHeartbeats 8000000 in
set_option maxRecDepth 100000 in
theorem FindSpans.law (A0 : Option Addr) (c0 : Nat) (l0 : List Int) (a1 : Int) (a2 : Int) (a3 : Int) (w : World) (hr0 : Kd.C (Kd.int .u8) w A0 l0.length l0) (hc0 : l0.length ≤ c0) (hm0 : l0.length ≤ maxLen) (y0 : l0.length * 1 ≤ 140737488351232) (w0 : ∀ x ∈ l0, (Lit.int .u8 x).wf = true) (w1 : (Lit.int .u16 a1).wf = true) (w2 : (Lit.int .u8 a2).wf = true) (w3 : (Lit.int .u16 a3).wf = true) :
    Calls Try.prog 7 #[.slice A0 l0.length c0, .int .u16 a1, .int .u8 a2, .int .u16 a3] w fun e w' => e = .returned (.bool true) ∧ Below w.heap.size w w' := by
  have HR := Aside0.mk hr0
  have HY := Aside0.mk (byt_of w0)
  have HB := Aside0.mk (Below.refl w.heap.size w)
  have b1 := wf_u16 w1
  have b2 := wf_u8 w2
  have b3 := wf_u16 w3
  clear hr0 hc0 hm0 y0 w0 w1 w2 w3
  by_cases c1 : (l0.length : Int) > 3840
  · have c1c : decide (3840 < (l0.length : Int)) = true := decide_eq_true c1
    have c1d : decide (3840 < l0.length) = true := decide_eq_true (by omega)
    clear c1 b1 b2 b3
    go_enter Try.func7, Try.ntmps7
    go_wp2_with (first | (go_at_call 14; (with_reducible refine (live.is _).mono ?_); rintro e w_ ⟨rfl, hb⟩; replace HB := zbs HB hb; clear hb))
    go_ret
    exact ⟨rfl, zb HB⟩
  · have c1c : decide (3840 < (l0.length : Int)) = false := decide_eq_false c1
    have c1d : decide (3840 < l0.length) = false := decide_eq_false (by omega)
    have HL := Aside0.mk (show l0.length ≤ 3840 by omega)
    have HO := Aside0.mk (show (Sr.mk a1 a2 a3 1 4294967295 0 0 1).Ok from mkOk (by omega) (by omega) (by omega) (by omega) (by omega) (by omega) (by omega) (by omega))
    have hall := spans_all (laidB l0 (min l0.length 3840)) a1 a2 a3 (laidB_len (Nat.min_le_left _ _) (Nat.min_le_right _ _)) b2 b1 b3
    have bb := b32s a1 a2 a3
    have u1 : a1 % 4294967296 = a1 := by omega
    have u2 : a2 % 4294967296 = a2 := by omega
    have u3 : a3 % 4294967296 = a3 := by omega
    have x1 : wrap64 a1 = a1 := w64 (by omega) (by omega)
    have x2 : wrap64 a2 = a2 := w64 (by omega) (by omega)
    have x12 : wrap64 (a1 + a2) = a1 + a2 := w64 (by omega) (by omega)
    clear c1
    go_enter Try.func7, Try.ntmps7
    go_upto_region 6 with (first | (go_at_call 15; (with_reducible refine (laid.is A0 c0 l0 _ HR.out HY.out (by have := HL.out; omega)).mono ?_); rintro e w_ ⟨g, gb, c, h, hb', d, rfl, hm, hw, hne, hge, hhe, hb⟩; have HM := Aside0.mk hm; have HW := Aside0.mk hw; replace HB := zbs HB hb; clear hb hm hw hne hge hhe))
    clear HR HY HL
    go_upto_region 7 with (first | ((with_reducible refine gate_dst (N := 11) rfl ?_); refine zbox (N := 11) (cs := #[.int .u32 0, .int .u32 0, .int .u32 0, .int .u32 0, .int .u32 0, .int .u32 0, .int .u32 0, .int .u32 0]) (t := 32) ?_; intro gs hg w_ hbox hb; have BK := Aside0.mk hbox; have GE := Aside0.mk (show w.heap.size ≤ gs by rw [hg]; exact below_size HB.out); replace HM := Aside0.mk (HM.out.below (by first | exact hb | exact below_step (below_drew1 (Below.refl _ _)) hb)); replace HW := Aside0.mk (HW.out.below (by first | exact hb | exact below_step (below_drew1 (Below.refl _ _)) hb)); replace HB := zbs HB hb; clear hb hbox hg; obtain ⟨z0, z1, z2, z3, z4, z5, z6, z7⟩ := c8 BK.out) | ((with_reducible refine gate_ (.store 32 (.tmp 11) (.tmp 35)) rfl ?_); refine store_blk (cs := #[.int .u32 0, .int .u32 0, .int .u32 0, .int .u32 0, .int .u32 0, .int .u32 0, .int .u32 0, .int .u32 0]) (cs' := #[.int .u32 (a1), .int .u32 (a2), .int .u32 (a3), .int .u32 1, .int .u32 4294967295, .int .u32 0, .int .u32 0, .int .u32 1]) rfl rfl 32 (.tmp 11) (.tmp 35) rfl rfl rfl ?hh ?hsz size32 ?h1 ?_; (case hh => exact BK.out); (case hsz => rfl); (case h1 => intro q_ hq_; simp only [List.mem_cons, List.not_mem_nil, or_false] at hq_; rcases hq_ with rfl | rfl | rfl | rfl | rfl | rfl | rfl | rfl <;> rfl); intro w_ hh hgr; have hbk := BK.out; replace HM := Aside0.mk (HM.out.grown hgr (HM.out.ne32 hbk (by decide) (by decide)).1 (HM.out.ne32 hbk (by decide) (by decide)).2); replace HW := Aside0.mk (HW.out.grown hgr (HW.out.ne32 hbk (by decide) (by decide)).1 (HW.out.ne32 hbk (by decide) (by decide)).2); replace HB := Aside0.mk (HB.out.grown hgr (below_size HB.out) (fun k_ hk_ => by injection hk_ with hk_; subst hk_; exact GE.out)); clear hbk BK; have BK := Aside0.mk hh; (try clear z0 z1 z2 z3 z4 z5 z6 z7); obtain ⟨z0, z1, z2, z3, z4, z5, z6, z7⟩ := c8 BK.out; clear hh hgr))
    rcases hall with ⟨p1, p2, hkey, hlin⟩ | ⟨pn, key, k, r, e, hkey, hlen, hlin, hr0, hr1, hcase⟩
    · have d1 : decide (4096 < a1 + a2) = true := decide_eq_true p1
      have d2 : decide (0 < a2) = true := decide_eq_true p2
      clear b1 b2 b3 p1 p2
      go_upto_region 10 with (first | (go_at_call 22; (with_reducible refine (find_Key.is g (Sr.mk a1 a2 a3 1 4294967295 0 0 1) (laidB l0 (min l0.length 3840)) _ HO.out HM.out.pm).mono ?_); rintro e w_ ⟨v9, he_, hv, hb⟩; rw [hkey] at he_ hv; subst he_; obtain ⟨A9, c9, rfl⟩ := Kd.R_slice hv; have HV := Aside0.mk hv; clear hv; replace HM := Aside0.mk (HM.out.below (by first | exact hb | exact below_step (below_drew1 (Below.refl _ _)) hb)); replace HW := Aside0.mk (HW.out.below (by first | exact hb | exact below_step (below_drew1 (Below.refl _ _)) hb)); replace BK := zkb BK hb; replace HB := zbs HB hb; clear hb z0 z1 z2 z3 z4 z5 z6 z7; obtain ⟨z0, z1, z2, z3, z4, z5, z6, z7⟩ := c8 BK.out) | (go_at_call 17; (with_reducible refine (find_Linear.is 1 g (Sr.mk a1 a2 a3 1 4294967295 0 0 1) (laidB l0 (min l0.length 3840)) 0 90 _ HO.out HM.out.pm hlin).mono ?_); rintro e w_ ⟨rfl, hb⟩; replace HV := Aside0.mk (Kd.R_below HV.out hb); replace HM := Aside0.mk (HM.out.below (by first | exact hb | exact below_step (below_drew1 (Below.refl _ _)) hb)); replace HW := Aside0.mk (HW.out.below (by first | exact hb | exact below_step (below_drew1 (Below.refl _ _)) hb)); replace BK := zkb BK hb; replace HB := zbs HB hb; clear hb z0 z1 z2 z3 z4 z5 z6 z7; obtain ⟨z0, z1, z2, z3, z4, z5, z6, z7⟩ := c8 BK.out))
      clear HM HW BK z0 z1 z2 z3 z4 z5 z6 z7
      go_wp2_with (first | (go_at_call 18; (with_reducible refine (num_be _ _).mono ?_); rintro e w_ ⟨rfl, hb⟩; replace HB := zbs HB hb; clear hb) | (go_at_call 14; (with_reducible refine (live.is _).mono ?_); rintro e w_ ⟨rfl, hb⟩; replace HB := zbs HB hb; clear hb) | fail)
      go_ret
      exact ⟨rfl, zb HB⟩
    · have hg : decide (4096 < a1 + a2) = false ∨ (decide (4096 < a1 + a2) = true ∧ decide (0 < a2) = false) := by
        by_cases p : 4096 < a1 + a2
        · exact Or.inr ⟨decide_eq_true p, decide_eq_false (fun q => pn ⟨p, q⟩)⟩
        · exact Or.inl (decide_eq_false p)
      have hq : (e = 90 ∧ decide (a1 < a3) = true) ∨ (e = 0 ∧ spanS (laidB l0 (min l0.length 3840)) r a2 = (key, 0) ∧ decide (a3 ≤ r) = true ∧ (decide (a1 < a3) = true ∨ (decide (a1 < a3) = false ∧ decide (r ≤ a1) = true))) := by
        rcases hcase with ⟨q1, q2⟩ | ⟨q1, q2, q3, q4⟩
        · exact Or.inl ⟨q1, decide_eq_true q2⟩
        · refine Or.inr ⟨q1, q2, decide_eq_true q3, ?_⟩
          by_cases p : a1 < a3
          · exact Or.inl (decide_eq_true p)
          · exact Or.inr ⟨decide_eq_false p, decide_eq_true (q4 (by omega))⟩
      have HS := Aside0.mk (And.intro (And.intro hr0 hr1) (show 0 ≤ a2 ∧ a2 < 4294967296 by omega))
      clear b1 b2 b3 pn hcase hr0 hr1
      rcases hq with ⟨rfl, d3⟩ | ⟨rfl, hspan, d3, hq2⟩
      · rcases hg with d1 | ⟨d1, d2⟩
        all_goals
          go_upto_region 14 with (first | (go_at_call 22; (with_reducible refine (find_Key.is g (Sr.mk a1 a2 a3 1 4294967295 0 0 1) (laidB l0 (min l0.length 3840)) _ HO.out HM.out.pm).mono ?_); rintro e w_ ⟨v9, he_, hv, hb⟩; rw [hkey] at he_ hv; subst he_; obtain ⟨A9, c9, rfl⟩ := Kd.R_slice hv; have HV := Aside0.mk hv; clear hv; replace HM := Aside0.mk (HM.out.below (by first | exact hb | exact below_step (below_drew1 (Below.refl _ _)) hb)); replace HW := Aside0.mk (HW.out.below (by first | exact hb | exact below_step (below_drew1 (Below.refl _ _)) hb)); replace BK := zkb BK hb; replace HB := zbs HB hb; clear hb z0 z1 z2 z3 z4 z5 z6 z7; obtain ⟨z0, z1, z2, z3, z4, z5, z6, z7⟩ := c8 BK.out) | (go_at_call 17; (with_reducible refine (find_Linear.is k g (Sr.mk a1 a2 a3 1 4294967295 0 0 1) (laidB l0 (min l0.length 3840)) r _ _ HO.out HM.out.pm hlin).mono ?_); rintro e w_ ⟨rfl, hb⟩; replace HV := Aside0.mk (Kd.R_below HV.out hb); replace HM := Aside0.mk (HM.out.below (by first | exact hb | exact below_step (below_drew1 (Below.refl _ _)) hb)); replace HW := Aside0.mk (HW.out.below (by first | exact hb | exact below_step (below_drew1 (Below.refl _ _)) hb)); replace BK := zkb BK hb; replace HB := zbs HB hb; clear hb z0 z1 z2 z3 z4 z5 z6 z7; obtain ⟨z0, z1, z2, z3, z4, z5, z6, z7⟩ := c8 BK.out) | (go_at_call 18; (with_reducible refine (num_be _ _).mono ?_); rintro e w_ ⟨rfl, hb⟩; replace HM := Aside0.mk (HM.out.below (by first | exact hb | exact below_step (below_drew1 (Below.refl _ _)) hb)); replace HW := Aside0.mk (HW.out.below (by first | exact hb | exact below_step (below_drew1 (Below.refl _ _)) hb)); replace HV := Aside0.mk (Kd.R_below HV.out (by first | exact hb | exact below_step (below_drew1 (Below.refl _ _)) hb)); replace HB := zbs HB hb; clear hb))
          clear HM HW BK z0 z1 z2 z3 z4 z5 z6 z7
          go_wp2_with (first | (go_at_call 18; (with_reducible refine (num_be _ _).mono ?_); rintro e w_ ⟨rfl, hb⟩; replace HB := zbs HB hb; clear hb) | (go_at_call 14; (with_reducible refine (live.is _).mono ?_); rintro e w_ ⟨rfl, hb⟩; replace HB := zbs HB hb; clear hb) | fail)
          go_ret
          exact ⟨rfl, zb HB⟩
      · rcases hg with d1 | ⟨d1, d2⟩ <;> rcases hq2 with d4 | ⟨d4, d5⟩
        all_goals
          go_upto_region 15 with (first | (go_at_call 22; (with_reducible refine (find_Key.is g (Sr.mk a1 a2 a3 1 4294967295 0 0 1) (laidB l0 (min l0.length 3840)) _ HO.out HM.out.pm).mono ?_); rintro e w_ ⟨v9, he_, hv, hb⟩; rw [hkey] at he_ hv; subst he_; obtain ⟨A9, c9, rfl⟩ := Kd.R_slice hv; have HV := Aside0.mk hv; clear hv; replace HM := Aside0.mk (HM.out.below (by first | exact hb | exact below_step (below_drew1 (Below.refl _ _)) hb)); replace HW := Aside0.mk (HW.out.below (by first | exact hb | exact below_step (below_drew1 (Below.refl _ _)) hb)); replace BK := zkb BK hb; replace HB := zbs HB hb; clear hb z0 z1 z2 z3 z4 z5 z6 z7; obtain ⟨z0, z1, z2, z3, z4, z5, z6, z7⟩ := c8 BK.out) | (go_at_call 17; (with_reducible refine (find_Linear.is k g (Sr.mk a1 a2 a3 1 4294967295 0 0 1) (laidB l0 (min l0.length 3840)) r _ _ HO.out HM.out.pm hlin).mono ?_); rintro e w_ ⟨rfl, hb⟩; replace HV := Aside0.mk (Kd.R_below HV.out hb); replace HM := Aside0.mk (HM.out.below (by first | exact hb | exact below_step (below_drew1 (Below.refl _ _)) hb)); replace HW := Aside0.mk (HW.out.below (by first | exact hb | exact below_step (below_drew1 (Below.refl _ _)) hb)); replace BK := zkb BK hb; replace HB := zbs HB hb; clear hb z0 z1 z2 z3 z4 z5 z6 z7; obtain ⟨z0, z1, z2, z3, z4, z5, z6, z7⟩ := c8 BK.out) | (go_at_call 18; (with_reducible refine (num_be _ _).mono ?_); rintro e w_ ⟨rfl, hb⟩; replace HM := Aside0.mk (HM.out.below (by first | exact hb | exact below_step (below_drew1 (Below.refl _ _)) hb)); replace HW := Aside0.mk (HW.out.below (by first | exact hb | exact below_step (below_drew1 (Below.refl _ _)) hb)); replace HV := Aside0.mk (Kd.R_below HV.out (by first | exact hb | exact below_step (below_drew1 (Below.refl _ _)) hb)); replace HB := zbs HB hb; clear hb))
          go_upto_region 16 with (first | (go_at_call 23; (with_reducible refine (ref_Span.to h (laidB l0 (min l0.length 3840)) key r a2 0 _ HW.out.rm HS.out.1 HS.out.2 hspan).mono ?_); rintro e w_ ⟨A7, c7, rfl, hv, hb⟩; replace HV := Aside0.mk (Kd.R_below HV.out hb); have HT := Aside0.mk hv; replace HM := Aside0.mk (HM.out.below (by first | exact hb | exact below_step (below_drew1 (Below.refl _ _)) hb)); replace HW := Aside0.mk (HW.out.below (by first | exact hb | exact below_step (below_drew1 (Below.refl _ _)) hb)); replace HB := zbs HB hb; clear hv hb))
          clear HM HW BK z0 z1 z2 z3 z4 z5 z6 z7
          go_wp2_with (first | (go_at_call 24; (with_reducible refine (Same_be0 key A7 A9 c7 c9 _ (by first | exact (Kd.R_reads' HT.out).2.2 | exact (Kd.R_reads' (Kd.R_drew HT.out)).2.2) (Kd.R_reads' HT.out).2.1 (by first | exact (Kd.R_reads' HV.out).2.2 | exact (Kd.R_reads' (Kd.R_drew HV.out)).2.2) (Kd.R_reads' HV.out).2.1).mono ?_); rintro e w_ ⟨rfl, hb⟩; replace HB := zbs HB hb; clear hb) | (go_at_call 14; (with_reducible refine (live.is _).mono ?_); rintro e w_ ⟨rfl, hb⟩; replace HB := zbs HB hb; clear hb) | fail)
          go_ret
          exact ⟨rfl, zb HB⟩
end Go.Proofs.Ytohmipmioaceeaa.PQ
