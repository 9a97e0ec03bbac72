/- The law FindHalves walked. -/
import Derived.Test.YtohmipmioaceeaaLHp
namespace Go.Proofs.Ytohmipmioaceeaa.PQ
set_option linter.all false
open Go.RowKit Go.Proofs.YtohmipmioaceeaaW.PrintWords Go.Proofs.YtohmipmioaceeaaW.PrintLast Go.Proofs.YtohmipmioaceeaaW.PrintMore Go.Proofs.Ytohmipmioaceeaa.Z Go.Proofs.Ytohmipmioaceeaa.Pure
set_option linter.unusedVariables false
set_option linter.unusedSimpArgs false
theorem wf16s {l : List Int} (h : ∀ x ∈ l, (Lit.int .u16 x).wf = true) : S16 l := fun x hx => wf_u16 (h x hx)
theorem row32_grown {w w1 : World} {base gs t : Nat} {v : Value} {xs : List Int} {cs : Array Value} (h : Kd.R (Kd.int .u32) 23 w base (fun _ => True) v xs) (hb : w.heap[gs]? = some (.cells cs t (0, 0))) (ht : 23 ≠ t) (hg : w.grownBy w1 (some gs)) : Kd.R (Kd.int .u32) 23 w1 base (fun _ => True) v xs :=
  Kd.R_mono (Kd.R_grown (Kd.R_tight rfl h) hg (fun k hk e => Kd.R_ne h hb ht (e.symm.trans hk))) (fun _ _ => trivial)
theorem b32h (n : Int) (w : World) : (Instr.build 32 #[(1, .int .u32 4), (2, .int .u32 256), (3, .int .u32 4), (4, .int .u32 n)]).run Try.prog w = .ok (.agg #[.int .u32 0, .int .u32 4, .int .u32 256, .int .u32 4, .int .u32 n, .int .u32 0, .int .u32 0, .int .u32 0]) w := run_build w 32 _ _ (by kernel_rfl)
set_option maxHeartbeats 8000000 in
set_option maxRecDepth 100000 in
theorem FindHalves.law (A0 : Option Addr) (c0 : Nat) (l0 : List Int) (a1 : Int) (a2 : Bool) (w : World) (hr0 : Kd.C (Kd.int .u16) w A0 l0.length l0) (hc0 : l0.length ≤ c0) (hm0 : l0.length ≤ maxLen) (y0 : l0.length * 2 ≤ 140737488351232) (w0 : ∀ x ∈ l0, (Lit.int .u16 x).wf = true) (w1 : (Lit.int .u32 a1).wf = true) :
    Calls Try.prog 4 #[.slice A0 l0.length c0, .int .u32 a1, .bool a2] w fun e w' => e = .returned (.bool true) ∧ Below w.heap.size w w' := by
  have HB := Aside0.mk (Below.refl w.heap.size w)
  have HR := Aside0.mk hr0
  have HW := Aside0.mk (wf16s w0)
  have B1 := Aside0.mk (wf_u32 w1)
  clear hr0 hc0 hm0 y0 w0 w1
  by_cases c1 : (l0.length : Int) > 900
  · have c1c : decide (900 < (l0.length : Int)) = true := decide_eq_true c1
    have c1d : decide (900 < l0.length) = true := decide_eq_true (by omega)
    clear c1
    go_enter Try.func4, Try.ntmps4
    go_wp2_with (first | (go_at_call 14; (with_reducible refine (live.is _).mono ?_); rintro e w_ ⟨rfl, hb⟩; replace HB := zbs HB hb; clear hb))
    go_ret
    exact ⟨rfl, zb HB⟩
  have c1c : decide (900 < (l0.length : Int)) = false := decide_eq_false c1
  have c1d : decide (900 < l0.length) = false := decide_eq_false (by omega)
  have HL := Aside0.mk (show l0.length ≤ 900 by omega)
  clear c1
  go_enter Try.func4, Try.ntmps4
  go_wp2
  go_loopg [7, 8, 9] (l0.length + 1) (fun kq v7 v8 v9 w' => ∃ i s : Int, v9 = .int .i64 i ∧ v8 = .int .u32 s ∧ Aside0 (0 ≤ i ∧ i ≤ (l0.length : Int) ∧ kq = ((l0.length : Int) - i).toNat + 1 ∧ s = sumI l0 i.toNat) ∧ Aside0 (Kd.R (Kd.int .u32) 23 w' w.heap.size (fun _ => True) v7 (riseL l0 i.toNat)) ∧ Aside0 (Below w.heap.size w w'))
  case atStart => exact ⟨0, 0, rfl, rfl, ⟨by omega, by omega, by omega, rfl⟩, ⟨Kd.R_nil _ _ _ _ _⟩, ⟨zb HB⟩⟩
  case round =>
    clear HB
    obtain ⟨i, s, rfl, rfl, HI, HO, HB⟩ := hrel
    by_cases c1 : i < (l0.length : Int)
    · have p1 : 0 ≤ i := HI.out.1
      obtain ⟨ad, ea, hx⟩ := Kd.at_int HR.out i p1 c1
      subst ea
      replace hx := pw_cell_below HB.out hx
      have hsr := sumI_rng HW.out i.toNat (by have := HI.out; omega)
      rw [← HI.out.2.2.2] at hsr
      have hrr := HW.out.at (i := i.toNat) (by have := HI.out; omega)
      rw [Int.toNat_of_nonneg p1] at hrr
      have hs2 : sumI l0 (i.toNat + 1) = s + 1 + rd l0 i := by
        have e : sumI l0 (i.toNat + 1) = sumI l0 i.toNat + 1 + rd l0 (i.toNat : Int) := rfl
        rw [e, ← HI.out.2.2.2, Int.toNat_of_nonneg p1]
      have hn := riseL_succ l0 i.toNat
      rw [hs2] at hn
      rw [show i.toNat + 1 = (i + 1).toNat by omega] at hn hs2
      obtain ⟨s2, e2⟩ : ∃ s2, s2 = s + 1 + rd l0 i := ⟨_, rfl⟩
      rw [← e2] at hn hs2
      have f1 : (s + 1) % 4294967296 = s + 1 := by have := HL.out; omega
      have f2 : rd l0 i % 4294967296 = rd l0 i := by omega
      have f3 : (s + 1 + rd l0 i) % 4294967296 = s2 := by have := HL.out; omega
      have hi : wrap64 (i + 1) = i + 1 := w64 (by omega) (by have := HL.out; omega)
      have hln := riseL_len l0 i.toNat
      have HLN := Aside0.mk (show ((riseL l0 i.toNat).length + 1) * 4 ≤ 140737488355328 by have := HL.out; have := HI.out; omega)
      have HI2 := Aside0.mk (show 0 ≤ i + 1 ∧ i + 1 ≤ (l0.length : Int) ∧ ((l0.length : Int) - (i + 1)).toNat + 1 < gk by have := HI.out; omega)
      have HN := Aside0.mk hn
      have HS := Aside0.mk hs2
      have b1 : decide (i < (l0.length : Int)) = true := decide_eq_true c1
      replace c1 := eq_true c1
      replace p1 := eq_true p1
      clear hn hs2 hln hsr hrr e2
      go_wp2_with (first | ((with_reducible refine gate_builtin (b := .append) (xs := #[.tmp 36, .tmp 38]) rfl ?_); (try simp only [f1, f2, f3]); at_builtin; refine Kd.R_append (Kd.int .u32) (w0 := w) w.heap.size rfl (.tmp 36) (.tmp 38) 22 23 (.int .u32 0) 4 rfl Try.underlying22 info23 rfl (by decide) (by omega) u7 (riseL l0 i.toNat) s2 [.int .u32 s2] (fun _ => True) (fun _ => False) rfl rfl ?aP (fun _ hk => hk.elim) ?aF ?aO ?aB ?aS ?aL ?_; (case aP => exact rfl); (case aB => exact (zb HB)); (case aF => exact (fun _ _ => trivial)); (case aO => exact (by (with_reducible repeat (first | apply Kd.R_alloc | apply Kd.R_drewN | apply Kd.R_drew)); exact HO.out)); (case aS => exact (below_size (zb HB))); (case aL => exact HLN.out); intro v3 w3 ho hb hg hat; rw [← HN.out] at ho; replace HO := Aside0.mk ho; replace HB := Aside0.mk hb; clear ho hb hg hat) | fail)
      go_roundg (((l0.length : Int) - (i + 1)).toNat + 1)
      case measure => exact HI2.out.2.2
      case rel => exact ⟨i + 1, s2, by first | rfl | rw [hi], by first | rfl | rw [f1, f2, f3] | rw [f1, f3], ⟨HI2.out.1, HI2.out.2.1, rfl, HS.out.symm⟩, HO, HB⟩
    · have b1 : decide (i < (l0.length : Int)) = false := decide_eq_false c1
      have hi : i = (l0.length : Int) := by have := HI.out; omega
      subst hi
      have HRI := Aside0.mk (riseL_rise HW.out HL.out)
      have HKR0 := HO.out
      rw [Int.toNat_natCast] at HKR0
      generalize riseL l0 l0.length = L at HRI HKR0
      have HKR := Aside0.mk HKR0
      clear HKR0 HO HI c1
      obtain ⟨Ar, cr, er⟩ := Kd.R_slice HKR.out
      subst er
      have bb := b32h (L.length : Int)
      have u0 : (L.length : Int) % 4294967296 = (L.length : Int) := by have := HRI.out.len; omega
      cases a2
      · go_upto_region 16 with (first | (go_at_call 16; (with_reducible refine (words_is Ar cr L _ (Kd.R_reads' HKR.out).2.2 (Kd.R_reads' HKR.out).2.1 HRI.out.w (by have := HRI.out.len; omega)).mono ?_); rintro e w_ ⟨A9, c9, rfl, hv, hb⟩; have HV := Aside0.mk (Kd.R_reads' hv); replace HKR := Aside0.mk (Kd.R_below HKR.out (by first | exact hb | exact below_step (below_drew1 (Below.refl _ _)) hb)); replace HB := zbs HB hb; clear hv hb) | (go_at_call 15; (with_reducible refine (laid_words L A9 c9 _ HV.out.2.2 (by have := HRI.out.len; omega)).mono ?_); rintro e w_ ⟨g, gb, c, h, rfl, hm, hb⟩; have HM := Aside0.mk hm; replace HKR := Aside0.mk (Kd.R_below HKR.out (by first | exact hb | exact below_step (below_drew1 (Below.refl _ _)) hb)); replace HB := zbs HB hb; clear hb hm HV) | ((with_reducible refine gate_dst (N := 12) rfl ?_); refine zbox (N := 12) (cs := #[.int .u32 0, .int .u32 0, .int .u32 0, .int .u32 0, .int .u32 0, .int .u32 0, .int .u32 0, .int .u32 0]) (t := 32) ?_; intro gs hg w_ hbox hb; have BK := Aside0.mk hbox; have GE := Aside0.mk (show w.heap.size ≤ gs by rw [hg]; exact below_size HB.out); replace HM := Aside0.mk (HM.out.below (by first | exact hb | exact below_step (below_drew1 (Below.refl _ _)) hb)); replace HKR := Aside0.mk (Kd.R_below HKR.out (by first | exact hb | exact below_step (below_drew1 (Below.refl _ _)) hb)); replace HB := zbs HB hb; clear hb hbox hg; (try clear z0 z1 z2 z3 z4 z5 z6 z7); obtain ⟨z0, z1, z2, z3, z4, z5, z6, z7⟩ := c8 BK.out) | ((with_reducible refine gate_ (.store 32 (.tmp 12) (.tmp 51)) rfl ?_); refine store_blk (cs := #[.int .u32 0, .int .u32 0, .int .u32 0, .int .u32 0, .int .u32 0, .int .u32 0, .int .u32 0, .int .u32 0]) (cs' := #[.int .u32 0, .int .u32 4, .int .u32 256, .int .u32 4, .int .u32 ((L.length : Int)), .int .u32 0, .int .u32 0, .int .u32 0]) rfl rfl 32 (.tmp 12) (.tmp 51) rfl rfl rfl ?hh ?hsz size32 ?h1 ?_; (case hh => exact BK.out); (case hsz => rfl); (case h1 => intro q_ hq_; simp only [List.mem_cons, List.not_mem_nil, or_false] at hq_; rcases hq_ with rfl | rfl | rfl | rfl | rfl | rfl | rfl | rfl <;> rfl); intro w_ hh hgr; have hbk := BK.out; replace HM := Aside0.mk (HM.out.grown hgr (HM.out.ne32 hbk (by decide) (by decide)).1 (HM.out.ne32 hbk (by decide) (by decide)).2); replace HKR := Aside0.mk (row32_grown HKR.out hbk (by decide) hgr); replace HB := Aside0.mk (HB.out.grown hgr (below_size HB.out) (fun k_ hk_ => by injection hk_ with hk_; subst hk_; exact GE.out)); clear hbk BK; have BK := Aside0.mk hh; (try clear z0 z1 z2 z3 z4 z5 z6 z7); obtain ⟨z0, z1, z2, z3, z4, z5, z6, z7⟩ := c8 BK.out; clear hh hgr))
        go_wp2
        go_loopg [13, 14, 15, 16, 17] (L.length + 2) (fun kq v13 v14 v15 v16 v17 w' => ∃ i κ : Int, v13 = .int .i64 i ∧ Aside0 (-1 ≤ i ∧ i ≤ (L.length : Int) ∧ kq = ((L.length : Int) - i).toNat + 1) ∧ Aside0 (w'.heap[gs]? = some (.cells #[.int .u32 (κ), .int .u32 4, .int .u32 256, .int .u32 4, .int .u32 ((L.length : Int)), .int .u32 0, .int .u32 0, .int .u32 0] 32 (0, 0))) ∧ Aside0 (PW w' _ g gb c (wordM L)) ∧ Aside0 (Kd.R (Kd.int .u32) 23 w' w.heap.size (fun _ => True) (.slice Ar L.length cr) L) ∧ Aside0 (Below w.heap.size w w'))
        case atStart => exact ⟨-1, 0, rfl, ⟨by omega, by omega, by omega⟩, BK, HM, HKR, ⟨zb HB⟩⟩
        case round =>
          clear HB HM HKR BK z0 z1 z2 z3 z4 z5 z6 z7
          obtain ⟨i, κ, rfl, HI, BK, HM, HKR, HB⟩ := hrel
          obtain ⟨z0, z1, z2, z3, z4, z5, z6, z7⟩ := c8 BK.out
          by_cases c1 : i < (L.length : Int)
          · have HI2 := Aside0.mk (show -1 ≤ i + 1 ∧ i + 1 ≤ (L.length : Int) ∧ ((L.length : Int) - (i + 1)).toNat + 1 < gk by have := HI.out; omega)
            have hi : wrap64 (i + 1) = i + 1 := w64 (by have := HI.out; omega) (by have := HRI.out.len; omega)
            have b2 : decide (i < (L.length : Int)) = true := decide_eq_true c1
            by_cases c2 : 0 ≤ i
            · have b3 : decide (0 ≤ i) = true := decide_eq_true c2
              have P1 := Aside0.mk c2
              have C1 := Aside0.mk c1
              obtain ⟨ad, ea, hx⟩ := Kd.at_int (Kd.R_reads' HKR.out).2.2 i c2 c1
              subst ea
              clear hx
              have hri := HRI.out.w.at (i := i.toNat) (by omega)
              rw [Int.toNat_of_nonneg c2] at hri
              obtain ⟨x, q1, q2, q3⟩ := halves_all (op := 0) HRI.out hri rfl rfl
              have HX := Aside0.mk (And.intro q1 q2)
              have HOK := Aside0.mk (show (Sr.mk (rd L i) (4) (256) (4) ((L.length : Int)) (0) (0) (0)).Ok from mkOk hri (by omega) (by omega) (by omega) (by have := HRI.out.len; omega) (by omega) (by omega) (by omega))
              have hxi : True := trivial
              have y4 : i % 4294967296 = i := by have := HRI.out.len; omega
              have p1 := eq_true c2
              have p2 := eq_true c1
              clear q1 q2 q3 hri c1 c2
              skip
              go_upto_region 20 with (first | ((with_reducible refine gate_ (.store 23 (.tmp 61) (.tmp 60)) rfl ?_); refine store_cell (cs := #[.int .u32 (κ), .int .u32 4, .int .u32 256, .int .u32 4, .int .u32 ((L.length : Int)), .int .u32 0, .int .u32 0, .int .u32 0]) rfl rfl 23 32 (.tmp 61) (.tmp 60) rfl (j := 0) rfl rfl ?hh ?hsz (infoS info23) ?_; (case hh => exact BK.out); (case hsz => exact (by decide : (0 : Nat) < 8)); intro w_ hh hgr; have hbk := BK.out; replace hh : w_.heap[gs]? = some (.cells #[.int .u32 (a1), .int .u32 4, .int .u32 256, .int .u32 4, .int .u32 ((L.length : Int)), .int .u32 0, .int .u32 0, .int .u32 0] 32 (0, 0)) := hh; replace HM := Aside0.mk (HM.out.grown hgr (HM.out.ne32 hbk (by decide) (by decide)).1 (HM.out.ne32 hbk (by decide) (by decide)).2); replace HKR := Aside0.mk (row32_grown HKR.out hbk (by decide) hgr); replace HB := Aside0.mk (HB.out.grown hgr (below_size HB.out) (fun k_ hk_ => by injection hk_ with hk_; subst hk_; exact GE.out)); clear hbk BK; have BK := Aside0.mk hh; (try clear z0 z1 z2 z3 z4 z5 z6 z7); obtain ⟨z0, z1, z2, z3, z4, z5, z6, z7⟩ := c8 BK.out; clear hh hgr; (obtain ⟨ad2, ea2, hx⟩ := Kd.at_int (Kd.R_reads' HKR.out).2.2 i P1.out C1.out); (injection ea2 with ea2); subst ea2))
              go_upto_region 22 with (first | ((with_reducible refine gate_ (.store 23 (.tmp 68) (.tmp 67)) rfl ?_); refine store_cell (cs := #[.int .u32 (a1), .int .u32 4, .int .u32 256, .int .u32 4, .int .u32 ((L.length : Int)), .int .u32 0, .int .u32 0, .int .u32 0]) rfl rfl 23 32 (.tmp 68) (.tmp 67) rfl (j := 0) rfl rfl ?hh ?hsz (infoS info23) ?_; (case hh => exact BK.out); (case hsz => exact (by decide : (0 : Nat) < 8)); intro w_ hh hgr; have hbk := BK.out; replace hh : w_.heap[gs]? = some (.cells #[.int .u32 (rd L i), .int .u32 4, .int .u32 256, .int .u32 4, .int .u32 ((L.length : Int)), .int .u32 0, .int .u32 0, .int .u32 0] 32 (0, 0)) := hh; replace HM := Aside0.mk (HM.out.grown hgr (HM.out.ne32 hbk (by decide) (by decide)).1 (HM.out.ne32 hbk (by decide) (by decide)).2); replace HKR := Aside0.mk (row32_grown HKR.out hbk (by decide) hgr); replace HB := Aside0.mk (HB.out.grown hgr (below_size HB.out) (fun k_ hk_ => by injection hk_ with hk_; subst hk_; exact GE.out)); clear hbk BK; have BK := Aside0.mk hh; (try clear z0 z1 z2 z3 z4 z5 z6 z7); obtain ⟨z0, z1, z2, z3, z4, z5, z6, z7⟩ := c8 BK.out; clear hh hgr))
              go_upto_region 24 with (first | (go_at_call 17; (with_reducible refine (find_Linear.is (L.length + 1) g (Sr.mk (rd L i) (4) (256) (4) ((L.length : Int)) (0) (0) (0)) (wordM L) _ 0 _ HOK.out HM.out.pm HX.out.1).mono ?_); rintro e w_ ⟨rfl, hb⟩; replace HKR := Aside0.mk (Kd.R_below HKR.out (by first | exact hb | exact below_step (below_drew1 (Below.refl _ _)) hb)); replace HM := Aside0.mk (HM.out.below (by first | exact hb | exact below_step (below_drew1 (Below.refl _ _)) hb)); replace BK := zkb BK hb; replace HB := zbs HB hb; clear hb z0 z1 z2 z3 z4 z5 z6 z7; obtain ⟨z0, z1, z2, z3, z4, z5, z6, z7⟩ := c8 BK.out) | (go_at_call 19; (with_reducible refine (find_Binary.is (L.length + 2) g (Sr.mk (rd L i) (4) (256) (4) ((L.length : Int)) (0) (0) (0)) (wordM L) _ 0 _ HOK.out HM.out.pm HX.out.2).mono ?_); rintro e w_ ⟨rfl, hb⟩; replace HKR := Aside0.mk (Kd.R_below HKR.out (by first | exact hb | exact below_step (below_drew1 (Below.refl _ _)) hb)); replace HM := Aside0.mk (HM.out.below (by first | exact hb | exact below_step (below_drew1 (Below.refl _ _)) hb)); replace BK := zkb BK hb; replace HB := zbs HB hb; clear hb z0 z1 z2 z3 z4 z5 z6 z7; obtain ⟨z0, z1, z2, z3, z4, z5, z6, z7⟩ := c8 BK.out))
              go_wp2_with (first | (go_at_call 18; (with_reducible refine (num_be _ _).mono ?_); rintro e w_ ⟨rfl, hb⟩; replace HM := Aside0.mk (HM.out.below (by first | exact hb | exact below_step (below_drew1 (Below.refl _ _)) hb)); replace HKR := Aside0.mk (Kd.R_below HKR.out (by first | exact hb | exact below_step (below_drew1 (Below.refl _ _)) hb)); replace BK := Aside0.mk (blk_below BK.out (by first | exact hb | exact below_step (below_drew1 (Below.refl _ _)) hb)); replace HB := zbs HB hb; clear hb) | fail)
              go_roundg (((L.length : Int) - (i + 1)).toNat + 1)
              case measure => exact HI2.out.2.2
              case rel => exact ⟨i + 1, _, by first | rfl | rw [hi], ⟨HI2.out.1, HI2.out.2.1, rfl⟩, BK, HM, HKR, HB⟩
            · have b3 : decide (0 ≤ i) = false := decide_eq_false c2
              obtain ⟨x, q1, q2, q3⟩ := halves_all (op := 0) HRI.out B1.out rfl rfl
              have HX := Aside0.mk (And.intro q1 q2)
              have HOK := Aside0.mk (show (Sr.mk (a1) (4) (256) (4) ((L.length : Int)) (0) (0) (0)).Ok from mkOk B1.out (by omega) (by omega) (by omega) (by have := HRI.out.len; omega) (by omega) (by omega) (by omega))
              clear q1 q2 q3 c1 c2
              go_upto_region 20 with (first | ((with_reducible refine gate_ (.store 23 (.tmp 61) (.tmp 60)) rfl ?_); refine store_cell (cs := #[.int .u32 (κ), .int .u32 4, .int .u32 256, .int .u32 4, .int .u32 ((L.length : Int)), .int .u32 0, .int .u32 0, .int .u32 0]) rfl rfl 23 32 (.tmp 61) (.tmp 60) rfl (j := 0) rfl rfl ?hh ?hsz (infoS info23) ?_; (case hh => exact BK.out); (case hsz => exact (by decide : (0 : Nat) < 8)); intro w_ hh hgr; have hbk := BK.out; replace hh : w_.heap[gs]? = some (.cells #[.int .u32 (a1), .int .u32 4, .int .u32 256, .int .u32 4, .int .u32 ((L.length : Int)), .int .u32 0, .int .u32 0, .int .u32 0] 32 (0, 0)) := hh; replace HM := Aside0.mk (HM.out.grown hgr (HM.out.ne32 hbk (by decide) (by decide)).1 (HM.out.ne32 hbk (by decide) (by decide)).2); replace HKR := Aside0.mk (row32_grown HKR.out hbk (by decide) hgr); replace HB := Aside0.mk (HB.out.grown hgr (below_size HB.out) (fun k_ hk_ => by injection hk_ with hk_; subst hk_; exact GE.out)); clear hbk BK; have BK := Aside0.mk hh; (try clear z0 z1 z2 z3 z4 z5 z6 z7); obtain ⟨z0, z1, z2, z3, z4, z5, z6, z7⟩ := c8 BK.out; clear hh hgr))
              go_upto_region 24 with (first | (go_at_call 17; (with_reducible refine (find_Linear.is (L.length + 1) g (Sr.mk (a1) (4) (256) (4) ((L.length : Int)) (0) (0) (0)) (wordM L) _ 0 _ HOK.out HM.out.pm HX.out.1).mono ?_); rintro e w_ ⟨rfl, hb⟩; replace HKR := Aside0.mk (Kd.R_below HKR.out (by first | exact hb | exact below_step (below_drew1 (Below.refl _ _)) hb)); replace HM := Aside0.mk (HM.out.below (by first | exact hb | exact below_step (below_drew1 (Below.refl _ _)) hb)); replace BK := zkb BK hb; replace HB := zbs HB hb; clear hb z0 z1 z2 z3 z4 z5 z6 z7; obtain ⟨z0, z1, z2, z3, z4, z5, z6, z7⟩ := c8 BK.out) | (go_at_call 19; (with_reducible refine (find_Binary.is (L.length + 2) g (Sr.mk (a1) (4) (256) (4) ((L.length : Int)) (0) (0) (0)) (wordM L) _ 0 _ HOK.out HM.out.pm HX.out.2).mono ?_); rintro e w_ ⟨rfl, hb⟩; replace HKR := Aside0.mk (Kd.R_below HKR.out (by first | exact hb | exact below_step (below_drew1 (Below.refl _ _)) hb)); replace HM := Aside0.mk (HM.out.below (by first | exact hb | exact below_step (below_drew1 (Below.refl _ _)) hb)); replace BK := zkb BK hb; replace HB := zbs HB hb; clear hb z0 z1 z2 z3 z4 z5 z6 z7; obtain ⟨z0, z1, z2, z3, z4, z5, z6, z7⟩ := c8 BK.out))
              go_wp2_with (first | (go_at_call 18; (with_reducible refine (num_be _ _).mono ?_); rintro e w_ ⟨rfl, hb⟩; replace HM := Aside0.mk (HM.out.below (by first | exact hb | exact below_step (below_drew1 (Below.refl _ _)) hb)); replace HKR := Aside0.mk (Kd.R_below HKR.out (by first | exact hb | exact below_step (below_drew1 (Below.refl _ _)) hb)); replace BK := Aside0.mk (blk_below BK.out (by first | exact hb | exact below_step (below_drew1 (Below.refl _ _)) hb)); replace HB := zbs HB hb; clear hb) | fail)
              go_roundg (((L.length : Int) - (i + 1)).toNat + 1)
              case measure => exact HI2.out.2.2
              case rel => exact ⟨i + 1, _, by first | rfl | rw [hi], ⟨HI2.out.1, HI2.out.2.1, rfl⟩, BK, HM, HKR, HB⟩
          · have b2 : decide (i < (L.length : Int)) = false := decide_eq_false c1
            clear c1 HM HKR BK z0 z1 z2 z3 z4 z5 z6 z7
            go_wp2_with (first | (go_at_call 14; (with_reducible refine (live.is _).mono ?_); rintro e w_ ⟨rfl, hb⟩; replace HB := zbs HB hb; clear hb) | fail)
            go_ret
            exact ⟨rfl, zb HB⟩
      · go_upto_region 16 with (first | (go_at_call 16; (with_reducible refine (words_is Ar cr L _ (Kd.R_reads' HKR.out).2.2 (Kd.R_reads' HKR.out).2.1 HRI.out.w (by have := HRI.out.len; omega)).mono ?_); rintro e w_ ⟨A9, c9, rfl, hv, hb⟩; have HV := Aside0.mk (Kd.R_reads' hv); replace HKR := Aside0.mk (Kd.R_below HKR.out (by first | exact hb | exact below_step (below_drew1 (Below.refl _ _)) hb)); replace HB := zbs HB hb; clear hv hb) | (go_at_call 15; (with_reducible refine (laid_words L A9 c9 _ HV.out.2.2 (by have := HRI.out.len; omega)).mono ?_); rintro e w_ ⟨g, gb, c, h, rfl, hm, hb⟩; have HM := Aside0.mk hm; replace HKR := Aside0.mk (Kd.R_below HKR.out (by first | exact hb | exact below_step (below_drew1 (Below.refl _ _)) hb)); replace HB := zbs HB hb; clear hb hm HV) | ((with_reducible refine gate_dst (N := 12) rfl ?_); refine zbox (N := 12) (cs := #[.int .u32 0, .int .u32 0, .int .u32 0, .int .u32 0, .int .u32 0, .int .u32 0, .int .u32 0, .int .u32 0]) (t := 32) ?_; intro gs hg w_ hbox hb; have BK := Aside0.mk hbox; have GE := Aside0.mk (show w.heap.size ≤ gs by rw [hg]; exact below_size HB.out); replace HM := Aside0.mk (HM.out.below (by first | exact hb | exact below_step (below_drew1 (Below.refl _ _)) hb)); replace HKR := Aside0.mk (Kd.R_below HKR.out (by first | exact hb | exact below_step (below_drew1 (Below.refl _ _)) hb)); replace HB := zbs HB hb; clear hb hbox hg; (try clear z0 z1 z2 z3 z4 z5 z6 z7); obtain ⟨z0, z1, z2, z3, z4, z5, z6, z7⟩ := c8 BK.out) | ((with_reducible refine gate_ (.store 32 (.tmp 12) (.tmp 51)) rfl ?_); refine store_blk (cs := #[.int .u32 0, .int .u32 0, .int .u32 0, .int .u32 0, .int .u32 0, .int .u32 0, .int .u32 0, .int .u32 0]) (cs' := #[.int .u32 0, .int .u32 4, .int .u32 256, .int .u32 4, .int .u32 ((L.length : Int)), .int .u32 0, .int .u32 0, .int .u32 0]) rfl rfl 32 (.tmp 12) (.tmp 51) rfl rfl rfl ?hh ?hsz size32 ?h1 ?_; (case hh => exact BK.out); (case hsz => rfl); (case h1 => intro q_ hq_; simp only [List.mem_cons, List.not_mem_nil, or_false] at hq_; rcases hq_ with rfl | rfl | rfl | rfl | rfl | rfl | rfl | rfl <;> rfl); intro w_ hh hgr; have hbk := BK.out; replace HM := Aside0.mk (HM.out.grown hgr (HM.out.ne32 hbk (by decide) (by decide)).1 (HM.out.ne32 hbk (by decide) (by decide)).2); replace HKR := Aside0.mk (row32_grown HKR.out hbk (by decide) hgr); replace HB := Aside0.mk (HB.out.grown hgr (below_size HB.out) (fun k_ hk_ => by injection hk_ with hk_; subst hk_; exact GE.out)); clear hbk BK; have BK := Aside0.mk hh; (try clear z0 z1 z2 z3 z4 z5 z6 z7); obtain ⟨z0, z1, z2, z3, z4, z5, z6, z7⟩ := c8 BK.out; clear hh hgr) | ((with_reducible refine gate_ (.store 23 (.tmp 53) (.const (.int .u32 4))) rfl ?_); refine store_cell (cs := #[.int .u32 0, .int .u32 4, .int .u32 256, .int .u32 4, .int .u32 ((L.length : Int)), .int .u32 0, .int .u32 0, .int .u32 0]) rfl rfl 23 32 (.tmp 53) (.const (.int .u32 4)) rfl (j := 7) rfl rfl ?hh ?hsz (infoS info23) ?_; (case hh => exact BK.out); (case hsz => exact (by decide : (7 : Nat) < 8)); intro w_ hh hgr; have hbk := BK.out; replace hh : w_.heap[gs]? = some (.cells #[.int .u32 0, .int .u32 4, .int .u32 256, .int .u32 4, .int .u32 ((L.length : Int)), .int .u32 0, .int .u32 0, .int .u32 4] 32 (0, 0)) := hh; replace HM := Aside0.mk (HM.out.grown hgr (HM.out.ne32 hbk (by decide) (by decide)).1 (HM.out.ne32 hbk (by decide) (by decide)).2); replace HKR := Aside0.mk (row32_grown HKR.out hbk (by decide) hgr); replace HB := Aside0.mk (HB.out.grown hgr (below_size HB.out) (fun k_ hk_ => by injection hk_ with hk_; subst hk_; exact GE.out)); clear hbk BK; have BK := Aside0.mk hh; (try clear z0 z1 z2 z3 z4 z5 z6 z7); obtain ⟨z0, z1, z2, z3, z4, z5, z6, z7⟩ := c8 BK.out; clear hh hgr))
        go_wp2
        go_loopg [13, 14, 15, 16, 17] (L.length + 2) (fun kq v13 v14 v15 v16 v17 w' => ∃ i κ : Int, v13 = .int .i64 i ∧ Aside0 (-1 ≤ i ∧ i ≤ (L.length : Int) ∧ kq = ((L.length : Int) - i).toNat + 1) ∧ Aside0 (w'.heap[gs]? = some (.cells #[.int .u32 (κ), .int .u32 4, .int .u32 256, .int .u32 4, .int .u32 ((L.length : Int)), .int .u32 0, .int .u32 0, .int .u32 4] 32 (0, 0))) ∧ Aside0 (PW w' _ g gb c (wordM L)) ∧ Aside0 (Kd.R (Kd.int .u32) 23 w' w.heap.size (fun _ => True) (.slice Ar L.length cr) L) ∧ Aside0 (Below w.heap.size w w'))
        case atStart => exact ⟨-1, 0, rfl, ⟨by omega, by omega, by omega⟩, BK, HM, HKR, ⟨zb HB⟩⟩
        case round =>
          clear HB HM HKR BK z0 z1 z2 z3 z4 z5 z6 z7
          obtain ⟨i, κ, rfl, HI, BK, HM, HKR, HB⟩ := hrel
          obtain ⟨z0, z1, z2, z3, z4, z5, z6, z7⟩ := c8 BK.out
          by_cases c1 : i < (L.length : Int)
          · have HI2 := Aside0.mk (show -1 ≤ i + 1 ∧ i + 1 ≤ (L.length : Int) ∧ ((L.length : Int) - (i + 1)).toNat + 1 < gk by have := HI.out; omega)
            have hi : wrap64 (i + 1) = i + 1 := w64 (by have := HI.out; omega) (by have := HRI.out.len; omega)
            have b2 : decide (i < (L.length : Int)) = true := decide_eq_true c1
            by_cases c2 : 0 ≤ i
            · have b3 : decide (0 ≤ i) = true := decide_eq_true c2
              have P1 := Aside0.mk c2
              have C1 := Aside0.mk c1
              obtain ⟨ad, ea, hx⟩ := Kd.at_int (Kd.R_reads' HKR.out).2.2 i c2 c1
              subst ea
              clear hx
              have hri := HRI.out.w.at (i := i.toNat) (by omega)
              rw [Int.toNat_of_nonneg c2] at hri
              obtain ⟨x, q1, q2, q3⟩ := halves_all (op := 4) HRI.out hri rfl rfl
              have HX := Aside0.mk (And.intro q1 q2)
              have HOK := Aside0.mk (show (Sr.mk (rd L i) (4) (256) (4) ((L.length : Int)) (0) (0) (4)).Ok from mkOk hri (by omega) (by omega) (by omega) (by have := HRI.out.len; omega) (by omega) (by omega) (by omega))
              have hxi : i = x := by have := q3 rfl i.toNat (by omega) (by rw [Int.toNat_of_nonneg c2]); rw [Int.toNat_of_nonneg c2] at this; exact this.symm
              have y4 : i % 4294967296 = i := by have := HRI.out.len; omega
              have p1 := eq_true c2
              have p2 := eq_true c1
              clear q1 q2 q3 hri c1 c2
              subst hxi
              go_upto_region 20 with (first | ((with_reducible refine gate_ (.store 23 (.tmp 61) (.tmp 60)) rfl ?_); refine store_cell (cs := #[.int .u32 (κ), .int .u32 4, .int .u32 256, .int .u32 4, .int .u32 ((L.length : Int)), .int .u32 0, .int .u32 0, .int .u32 4]) rfl rfl 23 32 (.tmp 61) (.tmp 60) rfl (j := 0) rfl rfl ?hh ?hsz (infoS info23) ?_; (case hh => exact BK.out); (case hsz => exact (by decide : (0 : Nat) < 8)); intro w_ hh hgr; have hbk := BK.out; replace hh : w_.heap[gs]? = some (.cells #[.int .u32 (a1), .int .u32 4, .int .u32 256, .int .u32 4, .int .u32 ((L.length : Int)), .int .u32 0, .int .u32 0, .int .u32 4] 32 (0, 0)) := hh; replace HM := Aside0.mk (HM.out.grown hgr (HM.out.ne32 hbk (by decide) (by decide)).1 (HM.out.ne32 hbk (by decide) (by decide)).2); replace HKR := Aside0.mk (row32_grown HKR.out hbk (by decide) hgr); replace HB := Aside0.mk (HB.out.grown hgr (below_size HB.out) (fun k_ hk_ => by injection hk_ with hk_; subst hk_; exact GE.out)); clear hbk BK; have BK := Aside0.mk hh; (try clear z0 z1 z2 z3 z4 z5 z6 z7); obtain ⟨z0, z1, z2, z3, z4, z5, z6, z7⟩ := c8 BK.out; clear hh hgr; (obtain ⟨ad2, ea2, hx⟩ := Kd.at_int (Kd.R_reads' HKR.out).2.2 i P1.out C1.out); (injection ea2 with ea2); subst ea2))
              go_upto_region 22 with (first | ((with_reducible refine gate_ (.store 23 (.tmp 68) (.tmp 67)) rfl ?_); refine store_cell (cs := #[.int .u32 (a1), .int .u32 4, .int .u32 256, .int .u32 4, .int .u32 ((L.length : Int)), .int .u32 0, .int .u32 0, .int .u32 4]) rfl rfl 23 32 (.tmp 68) (.tmp 67) rfl (j := 0) rfl rfl ?hh ?hsz (infoS info23) ?_; (case hh => exact BK.out); (case hsz => exact (by decide : (0 : Nat) < 8)); intro w_ hh hgr; have hbk := BK.out; replace hh : w_.heap[gs]? = some (.cells #[.int .u32 (rd L i), .int .u32 4, .int .u32 256, .int .u32 4, .int .u32 ((L.length : Int)), .int .u32 0, .int .u32 0, .int .u32 4] 32 (0, 0)) := hh; replace HM := Aside0.mk (HM.out.grown hgr (HM.out.ne32 hbk (by decide) (by decide)).1 (HM.out.ne32 hbk (by decide) (by decide)).2); replace HKR := Aside0.mk (row32_grown HKR.out hbk (by decide) hgr); replace HB := Aside0.mk (HB.out.grown hgr (below_size HB.out) (fun k_ hk_ => by injection hk_ with hk_; subst hk_; exact GE.out)); clear hbk BK; have BK := Aside0.mk hh; (try clear z0 z1 z2 z3 z4 z5 z6 z7); obtain ⟨z0, z1, z2, z3, z4, z5, z6, z7⟩ := c8 BK.out; clear hh hgr))
              go_upto_region 24 with (first | (go_at_call 17; (with_reducible refine (find_Linear.is (L.length + 1) g (Sr.mk (rd L i) (4) (256) (4) ((L.length : Int)) (0) (0) (4)) (wordM L) _ 0 _ HOK.out HM.out.pm HX.out.1).mono ?_); rintro e w_ ⟨rfl, hb⟩; replace HKR := Aside0.mk (Kd.R_below HKR.out (by first | exact hb | exact below_step (below_drew1 (Below.refl _ _)) hb)); replace HM := Aside0.mk (HM.out.below (by first | exact hb | exact below_step (below_drew1 (Below.refl _ _)) hb)); replace BK := zkb BK hb; replace HB := zbs HB hb; clear hb z0 z1 z2 z3 z4 z5 z6 z7; obtain ⟨z0, z1, z2, z3, z4, z5, z6, z7⟩ := c8 BK.out) | (go_at_call 19; (with_reducible refine (find_Binary.is (L.length + 2) g (Sr.mk (rd L i) (4) (256) (4) ((L.length : Int)) (0) (0) (4)) (wordM L) _ 0 _ HOK.out HM.out.pm HX.out.2).mono ?_); rintro e w_ ⟨rfl, hb⟩; replace HKR := Aside0.mk (Kd.R_below HKR.out (by first | exact hb | exact below_step (below_drew1 (Below.refl _ _)) hb)); replace HM := Aside0.mk (HM.out.below (by first | exact hb | exact below_step (below_drew1 (Below.refl _ _)) hb)); replace BK := zkb BK hb; replace HB := zbs HB hb; clear hb z0 z1 z2 z3 z4 z5 z6 z7; obtain ⟨z0, z1, z2, z3, z4, z5, z6, z7⟩ := c8 BK.out))
              go_wp2_with (first | (go_at_call 18; (with_reducible refine (num_be _ _).mono ?_); rintro e w_ ⟨rfl, hb⟩; replace HM := Aside0.mk (HM.out.below (by first | exact hb | exact below_step (below_drew1 (Below.refl _ _)) hb)); replace HKR := Aside0.mk (Kd.R_below HKR.out (by first | exact hb | exact below_step (below_drew1 (Below.refl _ _)) hb)); replace BK := Aside0.mk (blk_below BK.out (by first | exact hb | exact below_step (below_drew1 (Below.refl _ _)) hb)); replace HB := zbs HB hb; clear hb) | fail)
              go_roundg (((L.length : Int) - (i + 1)).toNat + 1)
              case measure => exact HI2.out.2.2
              case rel => exact ⟨i + 1, _, by first | rfl | rw [hi], ⟨HI2.out.1, HI2.out.2.1, rfl⟩, BK, HM, HKR, HB⟩
            · have b3 : decide (0 ≤ i) = false := decide_eq_false c2
              obtain ⟨x, q1, q2, q3⟩ := halves_all (op := 4) HRI.out B1.out rfl rfl
              have HX := Aside0.mk (And.intro q1 q2)
              have HOK := Aside0.mk (show (Sr.mk (a1) (4) (256) (4) ((L.length : Int)) (0) (0) (4)).Ok from mkOk B1.out (by omega) (by omega) (by omega) (by have := HRI.out.len; omega) (by omega) (by omega) (by omega))
              clear q1 q2 q3 c1 c2
              go_upto_region 20 with (first | ((with_reducible refine gate_ (.store 23 (.tmp 61) (.tmp 60)) rfl ?_); refine store_cell (cs := #[.int .u32 (κ), .int .u32 4, .int .u32 256, .int .u32 4, .int .u32 ((L.length : Int)), .int .u32 0, .int .u32 0, .int .u32 4]) rfl rfl 23 32 (.tmp 61) (.tmp 60) rfl (j := 0) rfl rfl ?hh ?hsz (infoS info23) ?_; (case hh => exact BK.out); (case hsz => exact (by decide : (0 : Nat) < 8)); intro w_ hh hgr; have hbk := BK.out; replace hh : w_.heap[gs]? = some (.cells #[.int .u32 (a1), .int .u32 4, .int .u32 256, .int .u32 4, .int .u32 ((L.length : Int)), .int .u32 0, .int .u32 0, .int .u32 4] 32 (0, 0)) := hh; replace HM := Aside0.mk (HM.out.grown hgr (HM.out.ne32 hbk (by decide) (by decide)).1 (HM.out.ne32 hbk (by decide) (by decide)).2); replace HKR := Aside0.mk (row32_grown HKR.out hbk (by decide) hgr); replace HB := Aside0.mk (HB.out.grown hgr (below_size HB.out) (fun k_ hk_ => by injection hk_ with hk_; subst hk_; exact GE.out)); clear hbk BK; have BK := Aside0.mk hh; (try clear z0 z1 z2 z3 z4 z5 z6 z7); obtain ⟨z0, z1, z2, z3, z4, z5, z6, z7⟩ := c8 BK.out; clear hh hgr))
              go_upto_region 24 with (first | (go_at_call 17; (with_reducible refine (find_Linear.is (L.length + 1) g (Sr.mk (a1) (4) (256) (4) ((L.length : Int)) (0) (0) (4)) (wordM L) _ 0 _ HOK.out HM.out.pm HX.out.1).mono ?_); rintro e w_ ⟨rfl, hb⟩; replace HKR := Aside0.mk (Kd.R_below HKR.out (by first | exact hb | exact below_step (below_drew1 (Below.refl _ _)) hb)); replace HM := Aside0.mk (HM.out.below (by first | exact hb | exact below_step (below_drew1 (Below.refl _ _)) hb)); replace BK := zkb BK hb; replace HB := zbs HB hb; clear hb z0 z1 z2 z3 z4 z5 z6 z7; obtain ⟨z0, z1, z2, z3, z4, z5, z6, z7⟩ := c8 BK.out) | (go_at_call 19; (with_reducible refine (find_Binary.is (L.length + 2) g (Sr.mk (a1) (4) (256) (4) ((L.length : Int)) (0) (0) (4)) (wordM L) _ 0 _ HOK.out HM.out.pm HX.out.2).mono ?_); rintro e w_ ⟨rfl, hb⟩; replace HKR := Aside0.mk (Kd.R_below HKR.out (by first | exact hb | exact below_step (below_drew1 (Below.refl _ _)) hb)); replace HM := Aside0.mk (HM.out.below (by first | exact hb | exact below_step (below_drew1 (Below.refl _ _)) hb)); replace BK := zkb BK hb; replace HB := zbs HB hb; clear hb z0 z1 z2 z3 z4 z5 z6 z7; obtain ⟨z0, z1, z2, z3, z4, z5, z6, z7⟩ := c8 BK.out))
              go_wp2_with (first | (go_at_call 18; (with_reducible refine (num_be _ _).mono ?_); rintro e w_ ⟨rfl, hb⟩; replace HM := Aside0.mk (HM.out.below (by first | exact hb | exact below_step (below_drew1 (Below.refl _ _)) hb)); replace HKR := Aside0.mk (Kd.R_below HKR.out (by first | exact hb | exact below_step (below_drew1 (Below.refl _ _)) hb)); replace BK := Aside0.mk (blk_below BK.out (by first | exact hb | exact below_step (below_drew1 (Below.refl _ _)) hb)); replace HB := zbs HB hb; clear hb) | fail)
              go_roundg (((L.length : Int) - (i + 1)).toNat + 1)
              case measure => exact HI2.out.2.2
              case rel => exact ⟨i + 1, _, by first | rfl | rw [hi], ⟨HI2.out.1, HI2.out.2.1, rfl⟩, BK, HM, HKR, HB⟩
          · have b2 : decide (i < (L.length : Int)) = false := decide_eq_false c1
            clear c1 HM HKR BK z0 z1 z2 z3 z4 z5 z6 z7
            go_wp2_with (first | (go_at_call 14; (with_reducible refine (live.is _).mono ?_); rintro e w_ ⟨rfl, hb⟩; replace HB := zbs HB hb; clear hb) | fail)
            go_ret
            exact ⟨rfl, zb HB⟩
end Go.Proofs.Ytohmipmioaceeaa.PQ
