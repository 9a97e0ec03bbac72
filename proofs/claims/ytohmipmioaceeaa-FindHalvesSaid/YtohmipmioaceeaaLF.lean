/- The law FindFirst walked. -/
import Derived.Test.YtohmipmioaceeaaLWp
namespace Go.Proofs.Ytohmipmioaceeaa.PQ
set_option linter.all false
open Go.RowKit Go.Proofs.YtohmipmioaceeaaW.PrintWords Go.Proofs.YtohmipmioaceeaaW.PrintLast Go.Proofs.YtohmipmioaceeaaW.PrintMore Go.Proofs.Ytohmipmioaceeaa.Z Go.Proofs.Ytohmipmioaceeaa.Pure
set_option linter.unusedVariables false
set_option linter.unusedSimpArgs false
theorem wf32s {l : List Int} (h : ∀ x ∈ l, (Lit.int .u32 x).wf = true) : W32 l := fun x hx => wf_u32 (h x hx)
theorem words_is (A : Option Addr) (c : Nat) (l : List Int) (w : World) (hr : Kd.C (Kd.int .u32) w A l.length l) (hc : l.length ≤ c) (hw : W32 l) (hl : l.length ≤ 100000) : Calls Try.prog 16 #[.slice A l.length c] w fun e w' => ∃ (A9 : Option Addr) (c9 : Nat), e = .returned (.slice A9 (wordsB l).length c9) ∧ Kd.R (Kd.int .u8) 5 w' w.heap.size (fun _ => True) (.slice A9 (wordsB l).length c9) (wordsB l) ∧ Below w.heap.size w w' := by
  obtain ⟨k, hk⟩ := words_f l hw hl
  refine (grottolaw13_words.calls k A c l _ w hr hc hk).mono fun e w' h => ?_
  obtain ⟨v, he, hv, hb⟩ := h
  obtain ⟨A9, c9, rfl⟩ := Kd.R_slice hv
  exact ⟨A9, c9, he, hv, hb⟩
theorem laid_words (l : List Int) (A : Option Addr) (c0 : Nat) (w : World) (hr : Kd.C (Kd.int .u8) w A (wordsB l).length (wordsB l)) (hl : l.length ≤ 960) : Calls Try.prog 15 #[.slice A (wordsB l).length c0] w fun e w' => ∃ g gb c h : Nat, e = .returned (.tuple #[.pointer (some ⟨g, 0, none⟩), .pointer (some ⟨h, 0, none⟩)]) ∧ PW w' w.heap.size g gb c (wordM l) ∧ Below w.heap.size w w' := by
  have hlen := wordsB_len l
  refine (laid.is A c0 (wordsB l) w hr (wordsB_byt l) (by omega)).mono fun e w' hh => ?_
  obtain ⟨g, gb, c, h, hb', d, he, hm, hw, hne, hge, hhe, hb⟩ := hh
  rw [show min (wordsB l).length 3840 = 4 * l.length by omega] at hm
  exact ⟨g, gb, c, h, he, hm, hb⟩
theorem firstI_at {key : Int} {zero : Bool} {l : List Int} {i : Int} (h0 : 0 ≤ i) (h : i < (l.length : Int)) : firstI key zero (l.drop i.toNat) i = if rd l i = key then i else if (zero && (rd l i == 0)) = true then -1 else firstI key zero (l.drop (i + 1).toNat) (i + 1) := by
  obtain ⟨n, rfl⟩ : ∃ n : Nat, i = (n : Int) := ⟨i.toNat, by omega⟩
  rw [Int.toNat_natCast, drop_at (by omega), show ((n : Int) + 1).toNat = n + 1 by omega]
  rfl
theorem told0 {r key n op : Int} (h : 0 ≤ r ∧ r < 1000) {h2 : hasB op 4 = false} : toldS (rowSr key n op) r = 256 + 4 * r := by
  unfold toldS
  rw [if_neg (by show ¬ hasB op 4 = true; rw [h2]; decide)]
  show (256 + r * 4 % 4294967296) % 4294967296 = _
  omega
theorem b32f (a n : Int) (w : World) : (Instr.build 32 #[(0, .int .u32 a), (1, .int .u32 4), (2, .int .u32 256), (3, .int .u32 4), (4, .int .u32 n)]).run Try.prog w = .ok (.agg #[.int .u32 a, .int .u32 4, .int .u32 256, .int .u32 4, .int .u32 n, .int .u32 0, .int .u32 0, .int .u32 0]) w := run_build w 32 _ _ (by kernel_rfl)
set_option maxHeartbeats 8000000 in
set_option maxRecDepth 100000 in
theorem FindFirst.law (A0 : Option Addr) (c0 : Nat) (l0 : List Int) (a1 : Int) (a2 : Bool) (w : World) (hr0 : Kd.C (Kd.int .u32) w A0 l0.length l0) (hc0 : l0.length ≤ c0) (hm0 : l0.length ≤ maxLen) (y0 : l0.length * 4 ≤ 140737488351232) (w0 : ∀ x ∈ l0, (Lit.int .u32 x).wf = true) (w1 : (Lit.int .u32 a1).wf = true) :
    Calls Try.prog 3 #[.slice A0 l0.length c0, .int .u32 a1, .bool a2] w fun e w' => e = .returned (.bool true) ∧ Below w.heap.size w w' := by
  have HB := Aside0.mk (Below.refl w.heap.size w)
  have HR := Aside0.mk hr0
  have HC := Aside0.mk hc0
  have HW := Aside0.mk (wf32s w0)
  have b1 := wf_u32 w1
  have bb := b32f a1 (l0.length : Int)
  clear hr0 hc0 hm0 y0 w0 w1
  by_cases c1 : (l0.length : Int) > 900
  · have c1c : decide (900 < (l0.length : Int)) = true := decide_eq_true c1
    have c1d : decide (900 < l0.length) = true := decide_eq_true (by omega)
    clear c1 b1
    go_enter Try.func3, Try.ntmps3
    go_wp2_with (first | (go_at_call 14; (with_reducible refine (live.is _).mono ?_); rintro e w_ ⟨rfl, hb⟩; replace HB := zbs HB hb; clear hb))
    go_ret
    exact ⟨rfl, zb HB⟩
  have c1c : decide (900 < (l0.length : Int)) = false := decide_eq_false c1
  have c1d : decide (900 < l0.length) = false := decide_eq_false (by omega)
  have HL := Aside0.mk (show l0.length ≤ 900 by omega)
  have u0 : (l0.length : Int) % 4294967296 = (l0.length : Int) := by omega
  have x0 : wrap64 ((l0.length : Int) - 1) = (l0.length : Int) - 1 := w64 (by omega) (by omega)
  clear c1
  cases a2
  · go_enter Try.func3, Try.ntmps3
    go_upto_region 6 with (first | (go_at_call 16; (with_reducible refine (words_is A0 c0 l0 _ HR.out HC.out HW.out (by have := HL.out; omega)).mono ?_); rintro e w_ ⟨A9, c9, rfl, hv, hb⟩; have HV := Aside0.mk (Kd.R_reads' hv); replace HB := zbs HB hb; clear hv hb) | (go_at_call 15; (with_reducible refine (laid_words l0 A9 c9 _ HV.out.2.2 (by have := HL.out; omega)).mono ?_); rintro e w_ ⟨g, gb, c, h, rfl, hm, hb⟩; have HM := Aside0.mk hm; replace HB := zbs HB hb; clear hb hm))
    clear HV
    go_upto_region 9 with (first | ((with_reducible refine gate_dst (N := 9) rfl ?_); refine zbox (N := 9) (cs := #[.int .u32 0, .int .u32 0, .int .u32 0, .int .u32 0, .int .u32 0, .int .u32 0, .int .u32 0, .int .u32 0]) (t := 32) ?_; intro gs hg w_ hbox hb; have BK := Aside0.mk hbox; have GE := Aside0.mk (show w.heap.size ≤ gs by rw [hg]; exact below_size HB.out); replace HM := Aside0.mk (HM.out.below (by first | exact hb | exact below_step (below_drew1 (Below.refl _ _)) hb)); replace HB := zbs HB hb; clear hb hbox hg; obtain ⟨z0, z1, z2, z3, z4, z5, z6, z7⟩ := c8 BK.out) | ((with_reducible refine gate_ (.store 32 (.tmp 9) (.tmp 32)) rfl ?_); refine store_blk (cs := #[.int .u32 0, .int .u32 0, .int .u32 0, .int .u32 0, .int .u32 0, .int .u32 0, .int .u32 0, .int .u32 0]) (cs' := #[.int .u32 (a1), .int .u32 4, .int .u32 256, .int .u32 4, .int .u32 ((l0.length : Int)), .int .u32 0, .int .u32 0, .int .u32 0]) rfl rfl 32 (.tmp 9) (.tmp 32) rfl rfl rfl ?hh ?hsz size32 ?h1 ?_; (case hh => exact BK.out); (case hsz => rfl); (case h1 => intro q_ hq_; simp only [List.mem_cons, List.not_mem_nil, or_false] at hq_; rcases hq_ with rfl | rfl | rfl | rfl | rfl | rfl | rfl | rfl <;> rfl); intro w_ hh hgr; have hbk := BK.out; replace HM := Aside0.mk (HM.out.grown hgr (HM.out.ne32 hbk (by decide) (by decide)).1 (HM.out.ne32 hbk (by decide) (by decide)).2); replace HB := Aside0.mk (HB.out.grown hgr (below_size HB.out) (fun k_ hk_ => by injection hk_ with hk_; subst hk_; exact GE.out)); clear hbk BK; have BK := Aside0.mk hh; (try clear z0 z1 z2 z3 z4 z5 z6 z7); obtain ⟨z0, z1, z2, z3, z4, z5, z6, z7⟩ := c8 BK.out; clear hh hgr))
    go_wp2
    go_loopg [10, 11] (l0.length + 1) (fun kq v10 v11 w' => ∃ i r : Int, v11 = .int .i64 i ∧ v10 = .int .i64 r ∧ Aside0 (-1 ≤ i ∧ i < (l0.length : Int) ∧ kq = (i + 1).toNat + 1 ∧ r = firstI a1 false (l0.drop (i + 1).toNat) (i + 1)) ∧ w' = w_)
    case atStart => exact ⟨(l0.length : Int) - 1, -1, by first | rfl | rw [x0], rfl, ⟨by omega, by omega, by omega, by rw [List.drop_eq_nil_of_le (by omega)]; rfl⟩, rfl⟩
    case round =>
      obtain ⟨i, r, rfl, rfl, HI, rfl⟩ := hrel
      by_cases c1 : 0 ≤ i
      · have c2 : i < (l0.length : Int) := HI.out.2.1
        obtain ⟨ad, ea, hx⟩ := Kd.at_int HR.out i c1 c2
        subst ea
        replace hx := pw_cell_below HB.out hx
        have hnx : wrap64 (i - 1) = i - 1 := w64 (by omega) (by omega)
        have hf := firstI_at (key := a1) (zero := false) c1 c2
        have HI2 := Aside0.mk (show -1 ≤ i - 1 ∧ i - 1 < (l0.length : Int) ∧ (i - 1 + 1).toNat + 1 < gk by have := HI.out; omega)
        have Hr := Aside0.mk HI.out.2.2.2
        have b0 : decide (0 ≤ i) = true := decide_eq_true c1
        have hz : ((rd l0 i == 0) = true ∧ decide (rd l0 i = 0) = true) ∨ ((rd l0 i == 0) = false ∧ decide (rd l0 i = 0) = false) := by by_cases c : rd l0 i = 0 <;> simp [c]
        have p1 := eq_true c1
        have p2 := eq_true c2
        by_cases ck : rd l0 i = a1
        · have k1 : decide (rd l0 i = a1) = true := decide_eq_true ck
          have k2 : (rd l0 i == a1) = true := beq_iff_eq.2 ck
          rw [if_pos ck] at hf
          have Hf := Aside0.mk hf
          clear hf c1 c2 ck
          skip
          all_goals
            go_wp2
            go_roundg ((i - 1 + 1).toNat + 1)
            case measure => exact HI2.out.2.2
            case rel => exact ⟨i - 1, _, by first | rfl | rw [hnx], rfl, ⟨HI2.out.1, HI2.out.2.1, rfl, by rw [show i - 1 + 1 = i by omega]; exact Hf.out.symm⟩, rfl⟩
        · have k1 : decide (rd l0 i = a1) = false := decide_eq_false ck
          have k2 : (rd l0 i == a1) = false := beq_false_of_ne ck
          rw [if_neg ck] at hf
          have Hf := Aside0.mk ((hf.trans (if_neg (by simp))).trans Hr.out.symm)
          clear hf c1 c2 ck
          all_goals
            go_wp2
            go_roundg ((i - 1 + 1).toNat + 1)
            case measure => exact HI2.out.2.2
            case rel => exact ⟨i - 1, _, by first | rfl | rw [hnx], rfl, ⟨HI2.out.1, HI2.out.2.1, rfl, by rw [show i - 1 + 1 = i by omega]; exact Hf.out.symm⟩, rfl⟩
      · have hi : i = -1 := by have := HI.out; omega
        subst hi
        have hr : r = firstI a1 false l0 0 := HI.out.2.2.2
        have hrg := firstI_rng a1 false l0 0
        rw [← hr] at hrg
        have b0 : decide ((0 : Int) ≤ -1) = false := rfl
        have hl1 := first_all (op := 0) HW.out (by have := HL.out; omega) b1 (zero := false) rfl rfl
        have hl2 := first_all (op := 4) HW.out (by have := HL.out; omega) b1 (zero := false) rfl rfl
        rw [← hr] at hl1 hl2
        have hok1 := Aside0.mk (show (Sr.mk (a1) (4) (256) (4) ((l0.length : Int)) (0) (0) (0)).Ok from mkOk (by omega) (by omega) (by omega) (by omega) (by have := HL.out; omega) (by omega) (by omega) (by omega))
        have hok2 := Aside0.mk (show (Sr.mk (a1) (4) (256) (4) ((l0.length : Int)) (0) (0) (4)).Ok from mkOk (by omega) (by omega) (by omega) (by omega) (by have := HL.out; omega) (by omega) (by omega) (by omega))
        by_cases cr : r = -1
        · rw [if_pos cr] at hl1 hl2
          have L1 := Aside0.mk (And.intro hok1.out (show LinearS (wordM l0) (Sr.mk (a1) (4) (256) (4) ((l0.length : Int)) (0) (0) (0)) (l0.length + 1) = some (0, 0) from hl1))
          have L2 := Aside0.mk (And.intro hok2.out (show LinearS (wordM l0) (Sr.mk (a1) (4) (256) (4) ((l0.length : Int)) (0) (0) (4)) (l0.length + 1) = some (4294967295, 0) from hl2))
          subst cr
          clear hl1 hl2 hok1 hok2 HI hr hrg c1 b1
          go_upto_region 18 with (first | (go_at_call 17; (with_reducible refine (find_Linear.is (l0.length + 1) g (Sr.mk (a1) (4) (256) (4) ((l0.length : Int)) (0) (0) (0)) (wordM l0) (0) 0 _ L1.out.1 HM.out.pm L1.out.2).mono ?_); rintro e w_ ⟨rfl, hb⟩; replace HM := Aside0.mk (HM.out.below (by first | exact hb | exact below_step (below_drew1 (Below.refl _ _)) hb)); replace BK := zkb BK hb; replace HB := zbs HB hb; clear hb z0 z1 z2 z3 z4 z5 z6 z7; obtain ⟨z0, z1, z2, z3, z4, z5, z6, z7⟩ := c8 BK.out))
          go_upto_region 19 with (first | ((with_reducible refine gate_ (.store 23 (.tmp 66) (.tmp 65)) rfl ?_); refine store_cell (cs := #[.int .u32 (a1), .int .u32 4, .int .u32 256, .int .u32 4, .int .u32 ((l0.length : Int)), .int .u32 0, .int .u32 0, .int .u32 0]) rfl rfl 23 32 (.tmp 66) (.tmp 65) rfl (j := 7) rfl rfl ?hh ?hsz (infoS info23) ?_; (case hh => exact BK.out); (case hsz => exact (by decide : (7 : Nat) < 8)); intro w_ hh hgr; have hbk := BK.out; replace hh : w_.heap[gs]? = some (.cells #[.int .u32 (a1), .int .u32 4, .int .u32 256, .int .u32 4, .int .u32 ((l0.length : Int)), .int .u32 0, .int .u32 0, .int .u32 4] 32 (0, 0)) := hh; replace HM := Aside0.mk (HM.out.grown hgr (HM.out.ne32 hbk (by decide) (by decide)).1 (HM.out.ne32 hbk (by decide) (by decide)).2); replace HB := Aside0.mk (HB.out.grown hgr (below_size HB.out) (fun k_ hk_ => by injection hk_ with hk_; subst hk_; exact GE.out)); clear hbk BK; have BK := Aside0.mk hh; (try clear z0 z1 z2 z3 z4 z5 z6 z7); obtain ⟨z0, z1, z2, z3, z4, z5, z6, z7⟩ := c8 BK.out; clear hh hgr))
          go_upto_region 20 with (first | (go_at_call 17; (with_reducible refine (find_Linear.is (l0.length + 1) g (Sr.mk (a1) (4) (256) (4) ((l0.length : Int)) (0) (0) (4)) (wordM l0) (4294967295) 0 _ L2.out.1 HM.out.pm L2.out.2).mono ?_); rintro e w_ ⟨rfl, hb⟩; replace HM := Aside0.mk (HM.out.below (by first | exact hb | exact below_step (below_drew1 (Below.refl _ _)) hb)); replace BK := zkb BK hb; replace HB := zbs HB hb; clear hb z0 z1 z2 z3 z4 z5 z6 z7; obtain ⟨z0, z1, z2, z3, z4, z5, z6, z7⟩ := c8 BK.out))
          clear HM BK z0 z1 z2 z3 z4 z5 z6 z7 L1 L2
          go_wp2_with (first | (go_at_call 18; (with_reducible refine (num_be _ _).mono ?_); rintro e w_ ⟨rfl, hb⟩; replace HB := zbs HB hb; clear hb) | (go_at_call 14; (with_reducible refine (live.is _).mono ?_); rintro e w_ ⟨rfl, hb⟩; replace HB := zbs HB hb; clear hb) | fail)
          go_ret
          exact ⟨rfl, zb HB⟩
        · rw [if_neg cr] at hl1 hl2
          have hr0 : 0 ≤ r ∧ r < (l0.length : Int) := by omega
          have L1 := Aside0.mk (And.intro hok1.out (show LinearS (wordM l0) (Sr.mk (a1) (4) (256) (4) ((l0.length : Int)) (0) (0) (0)) (l0.length + 1) = some (256 + 4 * r, 0) from hl1.trans (by rw [told0 (by have := HL.out; omega) (h2 := rfl)])))
          have L2 := Aside0.mk (And.intro hok2.out (show LinearS (wordM l0) (Sr.mk (a1) (4) (256) (4) ((l0.length : Int)) (0) (0) (4)) (l0.length + 1) = some (r, 0) from hl2))
          have d0 : decide (r < 0) = false := decide_eq_false (by omega)
          have y1 : wrap64 (4 * r) = 4 * r := w64 (by omega) (by have := HL.out; omega)
          have y2 : wrap64 (256 + 4 * r) = 256 + 4 * r := w64 (by omega) (by have := HL.out; omega)
          have y3 : (256 + 4 * r) % 4294967296 = 256 + 4 * r := by have := HL.out; omega
          have y4 : r % 4294967296 = r := by have := HL.out; omega
          clear hl1 hl2 hok1 hok2 HI hr hrg c1 b1 hr0 cr
          go_upto_region 18 with (first | (go_at_call 17; (with_reducible refine (find_Linear.is (l0.length + 1) g (Sr.mk (a1) (4) (256) (4) ((l0.length : Int)) (0) (0) (0)) (wordM l0) (256 + 4 * r) 0 _ L1.out.1 HM.out.pm L1.out.2).mono ?_); rintro e w_ ⟨rfl, hb⟩; replace HM := Aside0.mk (HM.out.below (by first | exact hb | exact below_step (below_drew1 (Below.refl _ _)) hb)); replace BK := zkb BK hb; replace HB := zbs HB hb; clear hb z0 z1 z2 z3 z4 z5 z6 z7; obtain ⟨z0, z1, z2, z3, z4, z5, z6, z7⟩ := c8 BK.out))
          go_upto_region 19 with (first | ((with_reducible refine gate_ (.store 23 (.tmp 66) (.tmp 65)) rfl ?_); refine store_cell (cs := #[.int .u32 (a1), .int .u32 4, .int .u32 256, .int .u32 4, .int .u32 ((l0.length : Int)), .int .u32 0, .int .u32 0, .int .u32 0]) rfl rfl 23 32 (.tmp 66) (.tmp 65) rfl (j := 7) rfl rfl ?hh ?hsz (infoS info23) ?_; (case hh => exact BK.out); (case hsz => exact (by decide : (7 : Nat) < 8)); intro w_ hh hgr; have hbk := BK.out; replace hh : w_.heap[gs]? = some (.cells #[.int .u32 (a1), .int .u32 4, .int .u32 256, .int .u32 4, .int .u32 ((l0.length : Int)), .int .u32 0, .int .u32 0, .int .u32 4] 32 (0, 0)) := hh; replace HM := Aside0.mk (HM.out.grown hgr (HM.out.ne32 hbk (by decide) (by decide)).1 (HM.out.ne32 hbk (by decide) (by decide)).2); replace HB := Aside0.mk (HB.out.grown hgr (below_size HB.out) (fun k_ hk_ => by injection hk_ with hk_; subst hk_; exact GE.out)); clear hbk BK; have BK := Aside0.mk hh; (try clear z0 z1 z2 z3 z4 z5 z6 z7); obtain ⟨z0, z1, z2, z3, z4, z5, z6, z7⟩ := c8 BK.out; clear hh hgr))
          go_upto_region 20 with (first | (go_at_call 17; (with_reducible refine (find_Linear.is (l0.length + 1) g (Sr.mk (a1) (4) (256) (4) ((l0.length : Int)) (0) (0) (4)) (wordM l0) (r) 0 _ L2.out.1 HM.out.pm L2.out.2).mono ?_); rintro e w_ ⟨rfl, hb⟩; replace HM := Aside0.mk (HM.out.below (by first | exact hb | exact below_step (below_drew1 (Below.refl _ _)) hb)); replace BK := zkb BK hb; replace HB := zbs HB hb; clear hb z0 z1 z2 z3 z4 z5 z6 z7; obtain ⟨z0, z1, z2, z3, z4, z5, z6, z7⟩ := c8 BK.out))
          clear HM BK z0 z1 z2 z3 z4 z5 z6 z7 L1 L2
          go_wp2_with (first | (go_at_call 18; (with_reducible refine (num_be _ _).mono ?_); rintro e w_ ⟨rfl, hb⟩; replace HB := zbs HB hb; clear hb) | (go_at_call 14; (with_reducible refine (live.is _).mono ?_); rintro e w_ ⟨rfl, hb⟩; replace HB := zbs HB hb; clear hb) | fail)
          go_ret
          exact ⟨rfl, zb HB⟩
  · go_enter Try.func3, Try.ntmps3
    go_upto_region 6 with (first | (go_at_call 16; (with_reducible refine (words_is A0 c0 l0 _ HR.out HC.out HW.out (by have := HL.out; omega)).mono ?_); rintro e w_ ⟨A9, c9, rfl, hv, hb⟩; have HV := Aside0.mk (Kd.R_reads' hv); replace HB := zbs HB hb; clear hv hb) | (go_at_call 15; (with_reducible refine (laid_words l0 A9 c9 _ HV.out.2.2 (by have := HL.out; omega)).mono ?_); rintro e w_ ⟨g, gb, c, h, rfl, hm, hb⟩; have HM := Aside0.mk hm; replace HB := zbs HB hb; clear hb hm))
    clear HV
    go_upto_region 9 with (first | ((with_reducible refine gate_dst (N := 9) rfl ?_); refine zbox (N := 9) (cs := #[.int .u32 0, .int .u32 0, .int .u32 0, .int .u32 0, .int .u32 0, .int .u32 0, .int .u32 0, .int .u32 0]) (t := 32) ?_; intro gs hg w_ hbox hb; have BK := Aside0.mk hbox; have GE := Aside0.mk (show w.heap.size ≤ gs by rw [hg]; exact below_size HB.out); replace HM := Aside0.mk (HM.out.below (by first | exact hb | exact below_step (below_drew1 (Below.refl _ _)) hb)); replace HB := zbs HB hb; clear hb hbox hg; obtain ⟨z0, z1, z2, z3, z4, z5, z6, z7⟩ := c8 BK.out) | ((with_reducible refine gate_ (.store 32 (.tmp 9) (.tmp 32)) rfl ?_); refine store_blk (cs := #[.int .u32 0, .int .u32 0, .int .u32 0, .int .u32 0, .int .u32 0, .int .u32 0, .int .u32 0, .int .u32 0]) (cs' := #[.int .u32 (a1), .int .u32 4, .int .u32 256, .int .u32 4, .int .u32 ((l0.length : Int)), .int .u32 0, .int .u32 0, .int .u32 0]) rfl rfl 32 (.tmp 9) (.tmp 32) rfl rfl rfl ?hh ?hsz size32 ?h1 ?_; (case hh => exact BK.out); (case hsz => rfl); (case h1 => intro q_ hq_; simp only [List.mem_cons, List.not_mem_nil, or_false] at hq_; rcases hq_ with rfl | rfl | rfl | rfl | rfl | rfl | rfl | rfl <;> rfl); intro w_ hh hgr; have hbk := BK.out; replace HM := Aside0.mk (HM.out.grown hgr (HM.out.ne32 hbk (by decide) (by decide)).1 (HM.out.ne32 hbk (by decide) (by decide)).2); replace HB := Aside0.mk (HB.out.grown hgr (below_size HB.out) (fun k_ hk_ => by injection hk_ with hk_; subst hk_; exact GE.out)); clear hbk BK; have BK := Aside0.mk hh; (try clear z0 z1 z2 z3 z4 z5 z6 z7); obtain ⟨z0, z1, z2, z3, z4, z5, z6, z7⟩ := c8 BK.out; clear hh hgr) | ((with_reducible refine gate_ (.store 23 (.tmp 34) (.const (.int .u32 2))) rfl ?_); refine store_cell (cs := #[.int .u32 (a1), .int .u32 4, .int .u32 256, .int .u32 4, .int .u32 ((l0.length : Int)), .int .u32 0, .int .u32 0, .int .u32 0]) rfl rfl 23 32 (.tmp 34) (.const (.int .u32 2)) rfl (j := 7) rfl rfl ?hh ?hsz (infoS info23) ?_; (case hh => exact BK.out); (case hsz => exact (by decide : (7 : Nat) < 8)); intro w_ hh hgr; have hbk := BK.out; replace hh : w_.heap[gs]? = some (.cells #[.int .u32 (a1), .int .u32 4, .int .u32 256, .int .u32 4, .int .u32 ((l0.length : Int)), .int .u32 0, .int .u32 0, .int .u32 2] 32 (0, 0)) := hh; replace HM := Aside0.mk (HM.out.grown hgr (HM.out.ne32 hbk (by decide) (by decide)).1 (HM.out.ne32 hbk (by decide) (by decide)).2); replace HB := Aside0.mk (HB.out.grown hgr (below_size HB.out) (fun k_ hk_ => by injection hk_ with hk_; subst hk_; exact GE.out)); clear hbk BK; have BK := Aside0.mk hh; (try clear z0 z1 z2 z3 z4 z5 z6 z7); obtain ⟨z0, z1, z2, z3, z4, z5, z6, z7⟩ := c8 BK.out; clear hh hgr))
    go_wp2
    go_loopg [10, 11] (l0.length + 1) (fun kq v10 v11 w' => ∃ i r : Int, v11 = .int .i64 i ∧ v10 = .int .i64 r ∧ Aside0 (-1 ≤ i ∧ i < (l0.length : Int) ∧ kq = (i + 1).toNat + 1 ∧ r = firstI a1 true (l0.drop (i + 1).toNat) (i + 1)) ∧ w' = w_)
    case atStart => exact ⟨(l0.length : Int) - 1, -1, by first | rfl | rw [x0], rfl, ⟨by omega, by omega, by omega, by rw [List.drop_eq_nil_of_le (by omega)]; rfl⟩, rfl⟩
    case round =>
      obtain ⟨i, r, rfl, rfl, HI, rfl⟩ := hrel
      by_cases c1 : 0 ≤ i
      · have c2 : i < (l0.length : Int) := HI.out.2.1
        obtain ⟨ad, ea, hx⟩ := Kd.at_int HR.out i c1 c2
        subst ea
        replace hx := pw_cell_below HB.out hx
        have hnx : wrap64 (i - 1) = i - 1 := w64 (by omega) (by omega)
        have hf := firstI_at (key := a1) (zero := true) c1 c2
        have HI2 := Aside0.mk (show -1 ≤ i - 1 ∧ i - 1 < (l0.length : Int) ∧ (i - 1 + 1).toNat + 1 < gk by have := HI.out; omega)
        have Hr := Aside0.mk HI.out.2.2.2
        have b0 : decide (0 ≤ i) = true := decide_eq_true c1
        have hz : ((rd l0 i == 0) = true ∧ decide (rd l0 i = 0) = true) ∨ ((rd l0 i == 0) = false ∧ decide (rd l0 i = 0) = false) := by by_cases c : rd l0 i = 0 <;> simp [c]
        have p1 := eq_true c1
        have p2 := eq_true c2
        by_cases ck : rd l0 i = a1
        · have k1 : decide (rd l0 i = a1) = true := decide_eq_true ck
          have k2 : (rd l0 i == a1) = true := beq_iff_eq.2 ck
          rw [if_pos ck] at hf
          have Hf := Aside0.mk hf
          clear hf c1 c2 ck
          rcases hz with ⟨hz, hz2⟩ | ⟨hz, hz2⟩
          all_goals
            go_wp2
            go_roundg ((i - 1 + 1).toNat + 1)
            case measure => exact HI2.out.2.2
            case rel => exact ⟨i - 1, _, by first | rfl | rw [hnx], rfl, ⟨HI2.out.1, HI2.out.2.1, rfl, by rw [show i - 1 + 1 = i by omega]; exact Hf.out.symm⟩, rfl⟩
        · have k1 : decide (rd l0 i = a1) = false := decide_eq_false ck
          have k2 : (rd l0 i == a1) = false := beq_false_of_ne ck
          rw [if_neg ck] at hf
          rcases hz with ⟨hz, hz2⟩ | ⟨hz, hz2⟩
          · rw [if_pos (by rw [hz]; rfl)] at hf
            have Hf := Aside0.mk hf
            clear hf c1 c2 ck
            go_wp2
            go_roundg ((i - 1 + 1).toNat + 1)
            case measure => exact HI2.out.2.2
            case rel => exact ⟨i - 1, _, by first | rfl | rw [hnx], rfl, ⟨HI2.out.1, HI2.out.2.1, rfl, by rw [show i - 1 + 1 = i by omega]; exact Hf.out.symm⟩, rfl⟩
          · rw [if_neg (by rw [hz]; simp)] at hf
            have Hf := Aside0.mk (hf.trans Hr.out.symm)
            clear hf c1 c2 ck
            go_wp2
            go_roundg ((i - 1 + 1).toNat + 1)
            case measure => exact HI2.out.2.2
            case rel => exact ⟨i - 1, _, by first | rfl | rw [hnx], rfl, ⟨HI2.out.1, HI2.out.2.1, rfl, by rw [show i - 1 + 1 = i by omega]; exact Hf.out.symm⟩, rfl⟩
      · have hi : i = -1 := by have := HI.out; omega
        subst hi
        have hr : r = firstI a1 true l0 0 := HI.out.2.2.2
        have hrg := firstI_rng a1 true l0 0
        rw [← hr] at hrg
        have b0 : decide ((0 : Int) ≤ -1) = false := rfl
        have hl1 := first_all (op := 2) HW.out (by have := HL.out; omega) b1 (zero := true) rfl rfl
        have hl2 := first_all (op := 6) HW.out (by have := HL.out; omega) b1 (zero := true) rfl rfl
        rw [← hr] at hl1 hl2
        have hok1 := Aside0.mk (show (Sr.mk (a1) (4) (256) (4) ((l0.length : Int)) (0) (0) (2)).Ok from mkOk (by omega) (by omega) (by omega) (by omega) (by have := HL.out; omega) (by omega) (by omega) (by omega))
        have hok2 := Aside0.mk (show (Sr.mk (a1) (4) (256) (4) ((l0.length : Int)) (0) (0) (6)).Ok from mkOk (by omega) (by omega) (by omega) (by omega) (by have := HL.out; omega) (by omega) (by omega) (by omega))
        by_cases cr : r = -1
        · rw [if_pos cr] at hl1 hl2
          have L1 := Aside0.mk (And.intro hok1.out (show LinearS (wordM l0) (Sr.mk (a1) (4) (256) (4) ((l0.length : Int)) (0) (0) (2)) (l0.length + 1) = some (0, 0) from hl1))
          have L2 := Aside0.mk (And.intro hok2.out (show LinearS (wordM l0) (Sr.mk (a1) (4) (256) (4) ((l0.length : Int)) (0) (0) (6)) (l0.length + 1) = some (4294967295, 0) from hl2))
          subst cr
          clear hl1 hl2 hok1 hok2 HI hr hrg c1 b1
          go_upto_region 18 with (first | (go_at_call 17; (with_reducible refine (find_Linear.is (l0.length + 1) g (Sr.mk (a1) (4) (256) (4) ((l0.length : Int)) (0) (0) (2)) (wordM l0) (0) 0 _ L1.out.1 HM.out.pm L1.out.2).mono ?_); rintro e w_ ⟨rfl, hb⟩; replace HM := Aside0.mk (HM.out.below (by first | exact hb | exact below_step (below_drew1 (Below.refl _ _)) hb)); replace BK := zkb BK hb; replace HB := zbs HB hb; clear hb z0 z1 z2 z3 z4 z5 z6 z7; obtain ⟨z0, z1, z2, z3, z4, z5, z6, z7⟩ := c8 BK.out))
          go_upto_region 19 with (first | ((with_reducible refine gate_ (.store 23 (.tmp 66) (.tmp 65)) rfl ?_); refine store_cell (cs := #[.int .u32 (a1), .int .u32 4, .int .u32 256, .int .u32 4, .int .u32 ((l0.length : Int)), .int .u32 0, .int .u32 0, .int .u32 2]) rfl rfl 23 32 (.tmp 66) (.tmp 65) rfl (j := 7) rfl rfl ?hh ?hsz (infoS info23) ?_; (case hh => exact BK.out); (case hsz => exact (by decide : (7 : Nat) < 8)); intro w_ hh hgr; have hbk := BK.out; replace hh : w_.heap[gs]? = some (.cells #[.int .u32 (a1), .int .u32 4, .int .u32 256, .int .u32 4, .int .u32 ((l0.length : Int)), .int .u32 0, .int .u32 0, .int .u32 6] 32 (0, 0)) := hh; replace HM := Aside0.mk (HM.out.grown hgr (HM.out.ne32 hbk (by decide) (by decide)).1 (HM.out.ne32 hbk (by decide) (by decide)).2); replace HB := Aside0.mk (HB.out.grown hgr (below_size HB.out) (fun k_ hk_ => by injection hk_ with hk_; subst hk_; exact GE.out)); clear hbk BK; have BK := Aside0.mk hh; (try clear z0 z1 z2 z3 z4 z5 z6 z7); obtain ⟨z0, z1, z2, z3, z4, z5, z6, z7⟩ := c8 BK.out; clear hh hgr))
          go_upto_region 20 with (first | (go_at_call 17; (with_reducible refine (find_Linear.is (l0.length + 1) g (Sr.mk (a1) (4) (256) (4) ((l0.length : Int)) (0) (0) (6)) (wordM l0) (4294967295) 0 _ L2.out.1 HM.out.pm L2.out.2).mono ?_); rintro e w_ ⟨rfl, hb⟩; replace HM := Aside0.mk (HM.out.below (by first | exact hb | exact below_step (below_drew1 (Below.refl _ _)) hb)); replace BK := zkb BK hb; replace HB := zbs HB hb; clear hb z0 z1 z2 z3 z4 z5 z6 z7; obtain ⟨z0, z1, z2, z3, z4, z5, z6, z7⟩ := c8 BK.out))
          clear HM BK z0 z1 z2 z3 z4 z5 z6 z7 L1 L2
          go_wp2_with (first | (go_at_call 18; (with_reducible refine (num_be _ _).mono ?_); rintro e w_ ⟨rfl, hb⟩; replace HB := zbs HB hb; clear hb) | (go_at_call 14; (with_reducible refine (live.is _).mono ?_); rintro e w_ ⟨rfl, hb⟩; replace HB := zbs HB hb; clear hb) | fail)
          go_ret
          exact ⟨rfl, zb HB⟩
        · rw [if_neg cr] at hl1 hl2
          have hr0 : 0 ≤ r ∧ r < (l0.length : Int) := by omega
          have L1 := Aside0.mk (And.intro hok1.out (show LinearS (wordM l0) (Sr.mk (a1) (4) (256) (4) ((l0.length : Int)) (0) (0) (2)) (l0.length + 1) = some (256 + 4 * r, 0) from hl1.trans (by rw [told0 (by have := HL.out; omega) (h2 := rfl)])))
          have L2 := Aside0.mk (And.intro hok2.out (show LinearS (wordM l0) (Sr.mk (a1) (4) (256) (4) ((l0.length : Int)) (0) (0) (6)) (l0.length + 1) = some (r, 0) from hl2))
          have d0 : decide (r < 0) = false := decide_eq_false (by omega)
          have y1 : wrap64 (4 * r) = 4 * r := w64 (by omega) (by have := HL.out; omega)
          have y2 : wrap64 (256 + 4 * r) = 256 + 4 * r := w64 (by omega) (by have := HL.out; omega)
          have y3 : (256 + 4 * r) % 4294967296 = 256 + 4 * r := by have := HL.out; omega
          have y4 : r % 4294967296 = r := by have := HL.out; omega
          clear hl1 hl2 hok1 hok2 HI hr hrg c1 b1 hr0 cr
          go_upto_region 18 with (first | (go_at_call 17; (with_reducible refine (find_Linear.is (l0.length + 1) g (Sr.mk (a1) (4) (256) (4) ((l0.length : Int)) (0) (0) (2)) (wordM l0) (256 + 4 * r) 0 _ L1.out.1 HM.out.pm L1.out.2).mono ?_); rintro e w_ ⟨rfl, hb⟩; replace HM := Aside0.mk (HM.out.below (by first | exact hb | exact below_step (below_drew1 (Below.refl _ _)) hb)); replace BK := zkb BK hb; replace HB := zbs HB hb; clear hb z0 z1 z2 z3 z4 z5 z6 z7; obtain ⟨z0, z1, z2, z3, z4, z5, z6, z7⟩ := c8 BK.out))
          go_upto_region 19 with (first | ((with_reducible refine gate_ (.store 23 (.tmp 66) (.tmp 65)) rfl ?_); refine store_cell (cs := #[.int .u32 (a1), .int .u32 4, .int .u32 256, .int .u32 4, .int .u32 ((l0.length : Int)), .int .u32 0, .int .u32 0, .int .u32 2]) rfl rfl 23 32 (.tmp 66) (.tmp 65) rfl (j := 7) rfl rfl ?hh ?hsz (infoS info23) ?_; (case hh => exact BK.out); (case hsz => exact (by decide : (7 : Nat) < 8)); intro w_ hh hgr; have hbk := BK.out; replace hh : w_.heap[gs]? = some (.cells #[.int .u32 (a1), .int .u32 4, .int .u32 256, .int .u32 4, .int .u32 ((l0.length : Int)), .int .u32 0, .int .u32 0, .int .u32 6] 32 (0, 0)) := hh; replace HM := Aside0.mk (HM.out.grown hgr (HM.out.ne32 hbk (by decide) (by decide)).1 (HM.out.ne32 hbk (by decide) (by decide)).2); replace HB := Aside0.mk (HB.out.grown hgr (below_size HB.out) (fun k_ hk_ => by injection hk_ with hk_; subst hk_; exact GE.out)); clear hbk BK; have BK := Aside0.mk hh; (try clear z0 z1 z2 z3 z4 z5 z6 z7); obtain ⟨z0, z1, z2, z3, z4, z5, z6, z7⟩ := c8 BK.out; clear hh hgr))
          go_upto_region 20 with (first | (go_at_call 17; (with_reducible refine (find_Linear.is (l0.length + 1) g (Sr.mk (a1) (4) (256) (4) ((l0.length : Int)) (0) (0) (6)) (wordM l0) (r) 0 _ L2.out.1 HM.out.pm L2.out.2).mono ?_); rintro e w_ ⟨rfl, hb⟩; replace HM := Aside0.mk (HM.out.below (by first | exact hb | exact below_step (below_drew1 (Below.refl _ _)) hb)); replace BK := zkb BK hb; replace HB := zbs HB hb; clear hb z0 z1 z2 z3 z4 z5 z6 z7; obtain ⟨z0, z1, z2, z3, z4, z5, z6, z7⟩ := c8 BK.out))
          clear HM BK z0 z1 z2 z3 z4 z5 z6 z7 L1 L2
          go_wp2_with (first | (go_at_call 18; (with_reducible refine (num_be _ _).mono ?_); rintro e w_ ⟨rfl, hb⟩; replace HB := zbs HB hb; clear hb) | (go_at_call 14; (with_reducible refine (live.is _).mono ?_); rintro e w_ ⟨rfl, hb⟩; replace HB := zbs HB hb; clear hb) | fail)
          go_ret
          exact ⟨rfl, zb HB⟩
end Go.Proofs.Ytohmipmioaceeaa.PQ
