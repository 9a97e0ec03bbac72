/- Texts AL AT AR AV in one. -/
import Derived.Test.YtmpiifjckhcbmaaGB
import Derived.Test.YtmpiifjckhcbmaaPQx6
import Derived.Test.YtmpiifjckhcbmaaGD
import Derived.Test.YtmpiifjckhcbmaaPQx3
import Derived.Maps.OwnSet
import Derived.Maps.OwnOps
import Derived.Test.YtmpiifjckhcbmaaPQx7
/- laid: a memory in which bytes lie, the program's and the document's. -/
namespace Go.Proofs.Ytmpiifjckhcbmaa.PQ
set_option linter.all false
open Go.RowKit Go.Proofs.YtmpiifjckhcbmaaW.PrintWords Go.Proofs.YtmpiifjckhcbmaaW.PrintLast Go.Proofs.YtmpiifjckhcbmaaW.PrintMore Go.Proofs.Ytmpiifjckhcbmaa.Z Go.Proofs.Ytmpiifjckhcbmaa.Pure
set_option linter.unusedVariables false
set_option linter.unusedSimpArgs false
/-- the bytes of a memory in which the first i of l lie from 256 on -/
def laidB (l : List Int) (i : Nat) : List Int := gm ++ (l.take i ++ List.replicate (1792 - i) 0)
theorem laidB_len {l : List Int} {i : Nat} (h : i ≤ l.length) (h2 : i ≤ 1792) : (laidB l i).length = 2048 := by
  unfold laidB
  rw [List.length_append, gm_len, List.length_append, List.length_take, List.length_replicate]
  omega
theorem laidB_byt {l : List Int} (h : Byt l) (i : Nat) : Byt (laidB l i) := gm_byt.app ((h.take _).app (by intro x hx; rw [List.mem_replicate] at hx; omega))
theorem laidB_set {l : List Int} {i : Nat} (h : i < l.length) (h2 : i < 1792) : (laidB l i).set (256 + i) (rd l (i : Int)) = laidB l (i + 1) := by
  unfold laidB
  rw [List.set_append_right _ _ (by rw [gm_len]; omega), gm_len, show 256 + i - 256 = i by omega]
  have hl : (l.take i).length = i := by rw [List.length_take]; omega
  rw [List.set_append_right _ _ (by omega), hl, Nat.sub_self, show 1792 - i = (1792 - (i + 1)) + 1 by omega, List.replicate_succ, List.set_cons_zero, List.take_succ_eq_append_getElem h, rd_nat h, List.append_assoc]
  rfl
theorem gm_zero : gm ++ List.replicate (2048 - 256) 0 = laidB [] 0 := by
  unfold laidB
  rw [List.take_nil, List.nil_append]
theorem laidB_zero (l : List Int) : laidB l 0 = gm ++ List.replicate (2048 - 256) 0 := by
  unfold laidB
  rw [List.take_zero, List.nil_append]
theorem memory_Write.to (base g gb c : Nat) (bs : List Int) (a x : Int) (w : World) (hm : PW w base g gb c bs) (ha : 256 ≤ a ∧ a < (bs.length : Int)) (hx : 0 ≤ x ∧ x < 256) :
    Calls Try.prog 11 #[.pointer (some ⟨g, 0, none⟩), .int .u32 a, .int .i64 1, .int .u32 x] w fun e w' => e = .returned (.int .i64 0) ∧ PW w' base g gb c (bs.set a.toNat x) ∧ w.grownBy w' (some gb) := by
  have h := memory_Write.ok base g gb c bs a x.toNat w hm ha (by omega)
  rw [show ((x.toNat % 256 : Nat) : Int) = x by omega, show ((x.toNat : Nat) : Int) = x by omega] at h
  exact h
theorem ref_Write.to (base g gb c : Nat) (bs : List Int) (a x : Int) (w : World) (hm : RW w base g gb c bs) (ha : 256 ≤ a ∧ a < (bs.length : Int)) (hx : 0 ≤ x ∧ x < 256) :
    Calls Try.prog 27 #[.pointer (some ⟨g, 0, none⟩), .int .u32 a, .int .i64 1, .int .u32 x] w fun e w' => e = .returned (.int .i64 0) ∧ RW w' base g gb c (bs.set a.toNat x) ∧ w.grownBy w' (some gb) := by
  have h := ref_Write.ok base g gb c bs a x.toNat w hm ha (by omega)
  rw [show ((x.toNat % 256 : Nat) : Int) = x by omega, show ((x.toNat : Nat) : Int) = x by omega] at h
  exact h
theorem PW.neR {w : World} {base g gb c base' h hb d : Nat} {bs cs : List Int} (h1 : PW w base g gb c bs) (h2 : RW w base' h hb d cs) : g ≠ hb ∧ h ≠ gb := by
  obtain ⟨x, k1, _⟩ := h1.blk
  obtain ⟨y, k2, _⟩ := h2.blk
  exact ⟨ne_of_R h2.row k1 (by decide), ne_of_R h1.row k2 (by decide)⟩
theorem gm_made : grottoref07_Make.f 300 196867 256 256 2048 256 36 0 0 (List.replicate 220 0) = some (gm, 0) := by decide +kernel
theorem num_is (x : Int) (w : World) : Calls Try.prog 13 #[.int .i64 x] w fun e w' => e = .returned (.int .i64 x) ∧ Drawn0 w w' := grottolaw18_num.calls x x w rfl
theorem num_be (x : Int) (w : World) : Calls Try.prog 13 #[.int .i64 x] w fun e w' => e = .returned (.int .i64 x) ∧ Below w.heap.size w w' := (num_is x w).mono fun _ _ h => ⟨h.1, h.2.below⟩
theorem Make_gm (A1 : Option Addr) (c1 : Nat) (w : World) (hr1 : Kd.C (Kd.int .u8) w A1 220 (List.replicate 220 0)) (hc1 : 220 ≤ c1) :
    Calls Try.prog 24 #[.agg #[.int .u32 196867, .int .u32 256, .int .u32 256, .int .u32 2048, .int .u32 256, .int .u32 36, .int .u32 0, .int .u32 0], .slice A1 220 c1] w fun e w' => ∃ v0_ : Value, e = .returned (.tuple #[v0_, .int .i64 0]) ∧ Kd.R (Kd.int .u8) 5 w' w.heap.size (fun _ => True) v0_ gm ∧ Below w.heap.size w w' := by
  have hl : (List.replicate 220 (0 : Int)).length = 220 := List.length_replicate
  have h := grottoref07_Make.calls 300 196867 256 256 2048 256 36 0 0 A1 c1 (List.replicate 220 0) gm 0 w (by rw [hl]; exact hr1) (by rw [hl]; exact hc1) gm_made
  rw [hl] at h
  exact h
theorem build66 (w : World) : (Instr.build 66 #[(0, .int .u32 196867), (1, .int .u32 256), (2, .int .u32 256), (3, .int .u32 2048), (4, .int .u32 256), (5, .int .u32 36)]).run Try.prog w = .ok (.agg #[.int .u32 196867, .int .u32 256, .int .u32 256, .int .u32 2048, .int .u32 256, .int .u32 36, .int .u32 0, .int .u32 0]) w := run_build w 66 _ _ (by kernel_rfl)
theorem PH.write {w w1 : World} {base base' g gb c : Nat} {bs bs' : List Int} (h : PH w base g gb c bs) (hg : w.grownBy w1 (some gb)) (hp : PW w1 base' g gb c bs') : PH w1 base' g gb c bs' := by
  obtain ⟨h0, h2, h3, h4, h5, h6, h7, x, y, z, hd⟩ := h.hd
  have hne : some g ≠ some gb := by
    have := ne_of_R h.pw.row hd (by decide)
    simpa using this
  exact ⟨hp, _, _, _, _, _, _, _, _, _, _, blk_grown hd hg hne⟩
theorem PH.other {w w1 : World} {base g gb c : Nat} {bs : List Int} {row : Option Nat} (h : PH w base g gb c bs) (hg : w.grownBy w1 row) (h1 : some g ≠ row) (h2 : some gb ≠ row) : PH w1 base g gb c bs := by
  obtain ⟨h0, h2', h3, h4, h5, h6, h7, x, y, z, hd⟩ := h.hd
  exact ⟨h.pw.grown hg h1 h2, _, _, _, _, _, _, _, _, _, _, blk_grown hd hg h1⟩
theorem PH.lower {w : World} {base base' g gb c : Nat} {bs : List Int} (h : PH w base g gb c bs) (hb : base' ≤ base) : PH w base' g gb c bs := ⟨⟨Kd.R_lower h.pw.row hb, h.pw.blk, h.pw.len, h.pw.byt⟩, h.hd⟩
theorem New_gm (ad : Addr) (c0 : Nat) (w : World) (hr : Kd.C (Kd.int .u8) w (some ad) gm.length gm) (hc : gm.length ≤ c0) :
    Calls Try.prog 25 #[.slice (some ad) gm.length c0] w fun e w' => ∃ g gb c : Nat, e = .returned (.tuple #[.pointer (some ⟨g, 0, none⟩), .int .i64 0, .int .i64 36]) ∧ PH w' w.heap.size g gb c (laidB [] 0) ∧ w.heap.size ≤ g ∧ Below w.heap.size w w' := by
  have h := memory_New.is 300 ad c0 gm 196867 256 256 36 0 1198490003 2048 w hr hc gm_prog (by rw [gm_len]; omega) (by omega) gm_byt
  rw [gm_len, gm_zero, ← gm_len] at h
  exact h.mono fun _ _ ⟨g, gb, c, h1, h2, h3, h4, h5⟩ => ⟨g, gb, c, h1, ⟨h2, by obtain ⟨x, y, z, hd⟩ := h4; exact ⟨_, _, _, _, _, _, _, _, _, _, hd⟩⟩, h3, h5⟩
theorem RNew_gm (ad : Addr) (c0 : Nat) (w : World) (hr : Kd.C (Kd.int .u8) w (some ad) gm.length gm) (hc : gm.length ≤ c0) :
    Calls Try.prog 26 #[.slice (some ad) gm.length c0] w fun e w' => ∃ g gb c : Nat, e = .returned (.tuple #[.pointer (some ⟨g, 0, none⟩), .int .i64 0, .int .i64 36]) ∧ RW w' w.heap.size g gb c (laidB [] 0) ∧ w.heap.size ≤ g ∧ Below w.heap.size w w' := by
  have h := ref_New.is 300 ad c0 gm 196867 256 256 36 0 1198490003 2048 w hr hc gm_ref (by rw [gm_len]; omega) (by omega) gm_byt
  rw [gm_len, gm_zero, ← gm_len] at h
  exact h
theorem PW.lower {w : World} {base base' g gb c : Nat} {bs : List Int} (h : PW w base g gb c bs) (hb : base' ≤ base) : PW w base' g gb c bs := ⟨Kd.R_lower h.row hb, h.blk, h.len, h.byt⟩
theorem RW.lower {w : World} {base base' g gb c : Nat} {bs : List Int} (h : RW w base g gb c bs) (hb : base' ≤ base) : RW w base' g gb c bs := ⟨Kd.R_lower h.row hb, h.blk, h.len, h.byt⟩
theorem PW.lt {w : World} {base g gb c : Nat} {bs : List Int} (h : PW w base g gb c bs) : gb < w.heap.size := own_lt (Kd.own_of_R (enc := Value.int .u8) (h1 := fun _ => rfl) h.row) gb rfl
theorem laid_w {i : Int} (h : 0 ≤ i ∧ i < 1792) : wrap64 (256 + i) = 256 + i ∧ (256 + i) % 4294967296 = 256 + i ∧ wrap64 (i + 1) = i + 1 := ⟨w64 (by omega) (by omega), by omega, w64 (by omega) (by omega)⟩
set_option maxHeartbeats 8000000 in
set_option maxRecDepth 100000 in
theorem laid.is (A : Option Addr) (c0 : Nat) (l : List Int) (w : World) (hr : Kd.C (Kd.int .u8) w A l.length l) (hby : Byt l) (hl : l.length ≤ 1048576) :
    Calls Try.prog 9 #[.slice A l.length c0] w fun e w' => ∃ g gb c h hb d : Nat, e = .returned (.tuple #[.pointer (some ⟨g, 0, none⟩), .pointer (some ⟨h, 0, none⟩)]) ∧ PH w' w.heap.size g gb c (laidB l (min l.length 1792)) ∧ RW w' w.heap.size h hb d (laidB l (min l.length 1792)) ∧ gb ≠ hb ∧ w.heap.size ≤ g ∧ w.heap.size ≤ h ∧ Below w.heap.size w w' := by
  have HR := Aside0.mk hr
  have HY := Aside0.mk hby
  have HL := Aside0.mk hl
  have HG := Aside0.mk gm_made
  have HGL := Aside0.mk gm_len
  have HB := Aside0.mk (Below.refl w.heap.size w)
  clear hr hby hl
  go_enter Try.func9, Try.ntmps9
  have hbu := build66
  have HL2 := Aside0.mk (show (List.replicate (220 : Int).toNat (0 : Int)) = List.replicate 220 0 from rfl)
  go_upto_region 2 with (first | ((with_reducible refine gate_dst (N := 15) rfl ?_); refine Kd.R_make (Kd.int .u8) _ 5 rfl (N := 15) rfl 41 _ _ rfl 220 rfl rfl Try.underlying41 (.int .u8 0) 1 info5 rfl (by decide) (by omega) 0 (ok := fun _ => True) (okp := fun _ => True) rfl (fun _ hk => hk) trivial (by omega) (by omega) (Below.refl _ _) (Nat.le_refl _) ?_; intro v170 w3 ho4 hb hg_ hnew_; clear hg_ hnew_; obtain ⟨A5, c5, he5, hc5, hk5⟩ := Kd.R_reads (show Kd.R (Kd.int .u8) 5 w3 _ _ v170 (List.replicate 220 0) from ho4); rw [List.length_replicate] at he5 hc5 hk5; subst he5; have HK5 := Aside0.mk hk5; have HC5 := Aside0.mk hc5; replace HB := zbs HB hb; clear hb ho4 hk5 hc5) | (go_at_call 24; go_loud ((with_reducible refine (Make_gm _ _ _ HK5.out HC5.out).mono ?_); rintro e w1 ⟨v1, rfl, hv, hb⟩; obtain ⟨gz, cz, he_, _⟩ := Kd.R_form hv (by rw [HGL.out]; omega); subst he_; have HV := Aside0.mk (Kd.R_reads' hv); replace HB := zbs HB hb; clear hv hb)))
  clear hbu
  go_upto_region 3 with (first | (go_at_call 25; (with_reducible refine (New_gm _ _ _ HV.out.2.2 HV.out.2.1).mono ?_); rintro e w2 ⟨g, gb, c, rfl, hm, hge, hb⟩; have HM := Aside0.mk (hm.lower (below_size HB.out)); have HGE := Aside0.mk (Nat.le_trans (below_size HB.out) hge); have HV2 := Aside0.mk (Kd.C_below HV.out.2.2 hb); replace HB := zbs HB hb; clear hm hge hb))
  go_upto_region 4 with (first | (go_at_call 26; (with_reducible refine (RNew_gm _ _ _ HV2.out HV.out.2.1).mono ?_); rintro e w4 ⟨h, hb', d, rfl, hm, hge, hb⟩; have HNE := Aside0.mk (Nat.ne_of_lt (Nat.lt_of_lt_of_le HM.out.pw.lt hm.base_le)); replace HM := Aside0.mk (HM.out.below hb); have HW := Aside0.mk (hm.lower (below_size HB.out)); have HHE := Aside0.mk (Nat.le_trans (below_size HB.out) hge); replace HB := zbs HB hb; clear hm hge hb HV HV2))
  go_wp2_with (first | (go_at_call 13; (with_reducible refine (grottolaw18_num.calls 0 0 _ rfl).mono ?_); rintro e w' ⟨rfl, ⟨nd, rfl⟩⟩))
  replace HM := Aside0.mk (HM.out.below (pw_below_drewN (Below.refl _ _) nd))
  replace HW := Aside0.mk (HW.out.below (pw_below_drewN (Below.refl _ _) nd))
  replace HB := Aside0.mk (below_step HB.out (pw_below_drewN (Below.refl _ _) nd))
  go_loopg [12] (l.length + 1) (fun kq v12 w' => ∃ i : Int, v12 = .int .i64 i ∧ Aside0 (0 ≤ i ∧ i ≤ (l.length : Int) ∧ i ≤ 1792 ∧ kq = ((l.length : Int) - i).toNat + 1) ∧ Aside0 (PH w' w.heap.size g gb c (laidB l i.toNat)) ∧ Aside0 (RW w' w.heap.size h hb' d (laidB l i.toNat)) ∧ Aside0 (Below w.heap.size w w'))
  case atStart => exact ⟨0, rfl, ⟨by omega, by omega, by omega, by omega⟩, ⟨by show PH _ _ _ _ _ (laidB l 0); rw [laidB_zero, gm_zero]; exact HM.out⟩, ⟨by show RW _ _ _ _ _ (laidB l 0); rw [laidB_zero, gm_zero]; exact HW.out⟩, ⟨HB.out⟩⟩
  case round =>
    clear HM HW
    obtain ⟨i, rfl, HI, HM, HW, HB⟩ := hrel
    by_cases c1 : i < (l.length : Int)
    · by_cases c2 : i < 1792
      · obtain ⟨hi, hi2, hnx⟩ := laid_w ⟨HI.out.1, c2⟩
        have hb1 : 0 ≤ rd l i ∧ rd l i < 256 := by
          have := HY.out.at (i := i.toNat) (by have := HI.out; omega)
          rwa [Int.toNat_of_nonneg HI.out.1] at this
        have hrd2 : rd l i % 4294967296 = rd l i := by omega
        have hset := laidB_set (l := l) (i := i.toNat) (by have := HI.out; omega) (by omega)
        rw [Int.toNat_of_nonneg HI.out.1, show i.toNat + 1 = (i + 1).toNat by have := HI.out; omega, show 256 + i.toNat = (256 + i).toNat by have := HI.out; omega] at hset
        have hlen := laidB_len (l := l) (i := i.toNat) (by have := HI.out; omega) (by omega)
        have HA := Aside0.mk (show 256 ≤ 256 + i ∧ 256 + i < ((laidB l i.toNat).length : Int) by rw [hlen]; have := HI.out; omega)
        have Hset := Aside0.mk hset
        have Hb1 := Aside0.mk hb1
        have Hnx := Aside0.mk hnx
        have Hi := Aside0.mk hi
        have Hi2 := Aside0.mk hi2
        have Hrd2 := Aside0.mk hrd2
        have HI2 := Aside0.mk (show 0 ≤ i + 1 ∧ i + 1 ≤ (l.length : Int) ∧ i + 1 ≤ 1792 ∧ ((l.length : Int) - (i + 1)).toNat + 1 < gk by have := HI.out; omega)
        have p1 : 0 ≤ i := HI.out.1
        obtain ⟨ad, ea, hx⟩ := Kd.at_int HR.out i p1 c1
        subst ea
        have HX := Aside0.mk hx
        replace hx := pw_cell_below HB.out hx
        have b1 : decide (i < (l.length : Int)) = true := decide_eq_true c1
        have b3 : decide (i < 1792) = true := decide_eq_true c2
        replace p1 := eq_true p1
        replace c1 := eq_true c1
        clear hset hlen hb1 hnx c2 hi hi2 hrd2
        go_wp2_with (first | (go_at_call 13; (with_reducible refine (grottolaw18_num.calls 0 0 _ rfl).mono ?_); rintro e w' ⟨rfl, ⟨nd, rfl⟩⟩) | (go_at_call 11; (try rw [Hi.out]); (try rw [Hi2.out]); (try rw [Hrd2.out]); (with_reducible refine (memory_Write.to _ g gb c _ _ _ _ HM.out.pw HA.out Hb1.out).mono ?_); rintro e w5 ⟨rfl, hm, hgr⟩; rw [Hset.out] at hm; have HM2 := Aside0.mk (HM.out.write hgr hm); have HW2 := Aside0.mk (HW.out.grown hgr (by simp; exact (HM.out.pw.neR HW.out).2) (by simp; exact fun e_ => HNE.out e_.symm)); replace HB := Aside0.mk (HB.out.grown hgr (below_size HB.out) (fun k_ hk_ => by injection hk_ with hk_; subst hk_; exact HM.out.pw.base_le)); have hx' := pw_cell_below HB.out HX.out; clear hm hgr hx) | (go_at_call 27; (try rw [Hi.out]); (try rw [Hi2.out]); (try rw [Hrd2.out]); (with_reducible refine (ref_Write.to _ h hb' d _ _ _ _ (HW2.out.below (pw_below_drewN (Below.refl _ _) _)) HA.out Hb1.out).mono ?_); rintro e w6 ⟨rfl, hm, hgr⟩; rw [Hset.out] at hm; have HW3 := Aside0.mk hm; have HM3 := Aside0.mk ((HM2.out.below (pw_below_drewN (Below.refl _ _) _)).other hgr (by simp; exact (HM2.out.pw.neR HW2.out).1) (by simp; exact HNE.out)); replace HB := Aside0.mk ((below_step HB.out (pw_below_drewN (Below.refl _ _) _)).grown hgr (below_size (below_step HB.out (pw_below_drewN (Below.refl _ _) _))) (fun k_ hk_ => by injection hk_ with hk_; subst hk_; exact HW2.out.base_le)); clear hm hgr))
        go_roundg (((l.length : Int) - (i + 1)).toNat + 1)
        case measure => exact HI2.out.2.2.2
        case rel => exact ⟨i + 1, by rw [Hnx.out], ⟨HI2.out.1, HI2.out.2.1, HI2.out.2.2.1, rfl⟩, HM3, HW3, HB⟩
      · have Hmin := Aside0.mk (show min l.length 1792 = i.toNat by have := HI.out; omega)
        have b1 : decide (i < (l.length : Int)) = true := decide_eq_true c1
        have b3 : decide (i < 1792) = false := decide_eq_false c2
        clear c1 c2
        go_wp2
        go_ret2
        rw [Hmin.out]
        exact ⟨g, gb, c, h, hb', d, rfl, HM.out, HW.out, HNE.out, HGE.out, HHE.out, HB.out⟩
    · have Hmin := Aside0.mk (show min l.length 1792 = i.toNat by have := HI.out; omega)
      have b1 : decide (i < (l.length : Int)) = false := decide_eq_false c1
      clear c1
      go_wp2
      go_ret2
      rw [Hmin.out]
      exact ⟨g, gb, c, h, hb', d, rfl, HM.out, HW.out, HNE.out, HGE.out, HHE.out, HB.out⟩
end Go.Proofs.Ytmpiifjckhcbmaa.PQ

/- accel.Table (numbers of seat r18). -/
namespace Go.Proofs.Ytmpiifjckhcbmaa.PQ
open Go.Maps Go.RowKit Go.Proofs.YtmpiifjckhcbmaaW.PrintWords Go.Proofs.YtmpiifjckhcbmaaW.PrintLast Go.Proofs.YtmpiifjckhcbmaaW.PrintMore Go.Proofs.Ytmpiifjckhcbmaa.Z Go.Proofs.Ytmpiifjckhcbmaa.Pure
set_option linter.unusedVariables false
set_option linter.unusedSimpArgs false
set_option maxHeartbeats 4000000 in
set_option maxRecDepth 100000 in
theorem clone32.is (ad : Addr) (n c : Nat) (xs : List Int) (w : World) (hr : Kd.C (Kd.int .u32) w (some ad) n xs) (hn : n ≤ 1048576) :
    Calls Try.prog 42 #[.slice (some ad) n c] w fun e w' => ∃ v : Value, e = .returned v ∧ Kd.R (Kd.int .u32) 29 w' w.heap.size (fun _ => True) v xs ∧ Below w.heap.size w w' := by
  have HR := Aside0.mk hr
  have HB := Aside0.mk (Below.refl w.heap.size w)
  have HN := Aside0.mk hn
  have hln : xs.length = n := hr.1
  have Hln := Aside0.mk hln
  have q : ∀ (w : World) (a : Option Addr) (n c n' c' : Nat), (binOp .eql 27 (.slice a n c) (.slice none n' c')).run Try.prog w = .ok (.bool a.isNone) w := fun w a n c n' c' => Lib.run_eql_slice_nil w _ _ a n c n' c' Try.underlying27
  clear hr hn hln
  go_enter Try.func42, Try.ntmps42
  go_wp2_with (first | ((with_reducible refine gate_dst (N := 5) rfl ?_); refine Kd.R_lit (Kd.int .u32) _ 29 ?hg (N := 5) ?hd (xs := ([] : List Int)) (inner := []) (ok := fun _ => True) (okp := fun _ => True) ?hr ?hp (fun _ hk => hk) trivial (Below.refl _ _) (Nat.le_refl _) (by simp) ?_; (case hd => rfl); (case hg => rfl); (case hr => first | (go_simp; done) | (go_simp; rfl)); (case hp => exact (Reps.none _ _)); intro v177 w7 ho8 hb hg_ hnew_; clear hg_ hnew_; have HO178 := Aside0.mk (Kd.R_lower ho8 (below_size (zb HB))); replace HB := zbs HB hb; clear hb ho8) | ((with_reducible refine gate_builtin (b := .append) (xs := #[.tmp 5, .tmp 6]) rfl ?_); at_builtin; refine Kd.R_append_rows (Kd.int .u32) (w0 := w) w.heap.size rfl (.tmp 5) (.tmp 6) 27 29 (.int .u32 0) 4 rfl Try.underlying27 info29 rfl (by decide) (by omega) v177 [] xs _ _ _ (fun _ => True) (fun _ => False) rfl rfl ?aO ?aR (fun _ _ h => h) (fun _ h => h.elim) ?aF ?aB ?aS ?aL ?_; (case aR => exact (Kd.C_below HR.out HB.out)); (case aB => exact (zb HB)); (case aF => exact (fun _ _ => trivial)); (case aO => exact (by (with_reducible repeat (first | apply Kd.R_alloc | apply Kd.R_drewN | apply Kd.R_drew)); exact HO178.out)); (case aS => exact (below_size (zb HB))); (case aL => have := HN.out; have := Hln.out; simp; omega); intro v180 w9 ho hb hg hat; rw [List.nil_append] at ho; have HO181 := Aside0.mk (ho); replace HB := Aside0.mk (hb); clear HO178; clear ho hb hg hat))
  go_ret
  exact ⟨_, rfl, HO181.out, zb HB⟩

theorem key29 : Keyed Try.prog 29 := int_keyed Try.underlying29
theorem zero29 (w : World) : (zeroValue 29).run Try.prog w = .ok (.int .u32 0) w := by kernel_rfl
abbrev tcells (ps : List Int) (bm : Nat) : Array Value := (ps.map (Value.int .u32) ++ [Value.map (some bm)]).toArray
/-- a table: nine params, the functions of the addresses -/
structure TB (w : World) (base g bm n : Nat) (ps : List Int) (f : Int → Int) : Prop where
  blk : w.heap[g]? = some (.cells (tcells ps bm) 91 (0, 0))
  map : ∃ D : DataW Unit, w.ownsMap Try.prog 29 (plainElem Try.prog 29) bm n D ∧ ∀ k, (Lit.int .u32 k).wf = true → D.atKey (.int .u32 k) (.lit (.int .u32 0)) = .lit (.int .u32 (f k))
  ln : ps.length = 9
  b1 : base ≤ g
  b2 : base ≤ bm
theorem TB.ne {w : World} {base g bm n : Nat} {ps : List Int} {f : Int → Int} (h : TB w base g bm n ps f) : bm ≠ g := by
  rintro rfl
  obtain ⟨D, ⟨es, cl, hb, _⟩, _⟩ := h.map
  have := h.blk
  rw [hb] at this
  cases this
theorem TB.below {w w1 : World} {base g bm n : Nat} {ps : List Int} {f : Int → Int} (h : TB w base g bm n ps f) (hb : Below w.heap.size w w1) : TB w1 base g bm n ps f := by
  obtain ⟨D, h1, h2⟩ := h.map
  exact ⟨blk_below h.blk hb, ⟨D, h1.kept (row := none) (grown_of_below hb none) (by simp), h2⟩, h.ln, h.b1, h.b2⟩
theorem TB.cell {w : World} {base g bm n : Nat} {ps : List Int} {f : Int → Int} (h : TB w base g bm n ps f) : w.cell? ⟨g, 9, none⟩ = some (.map (some bm)) :=
  (blk_cell h.blk 9).trans (by rw [List.getElem?_toArray, List.getElem?_append_right (by rw [List.length_map, h.ln]; omega), List.length_map, h.ln]; rfl)
theorem TB.ps {w : World} {base g bm n : Nat} {ps : List Int} {f : Int → Int} (h : TB w base g bm n ps f) : Kd.C (Kd.int .u32) w (some ⟨g, 0, none⟩) 9 ps := by
  refine ⟨h.ln, by omega, fun _ => ⟨_, rfl, fun j p hj => ⟨[.int .u32 p], rfl, rfl, fun i u hu => ?_⟩⟩⟩
  have hi0 : i = 0 := by
    rcases i with _ | i
    · rfl
    · simp at hu
  subst hi0
  simp only [List.getElem?_cons_zero, Option.some.injEq] at hu
  subst hu
  have hjl : j < ps.length := by
    rcases Nat.lt_or_ge j ps.length with h | h
    · exact h
    · rw [List.getElem?_eq_none h] at hj; cases hj
  have ha : (⟨g, 0, none⟩ : Addr).add (j * (Kd.int .u32).sz + 0) = ⟨g, j, none⟩ := by
    have : (Kd.int .u32).sz = 1 := rfl
    rw [this, Nat.mul_one, Nat.add_zero, add_plain]
  rw [ha, blk_cell h.blk j, List.getElem?_toArray, List.getElem?_append_left (by rw [List.length_map]; exact hjl)]
  rw [List.getElem?_map, hj]
  rfl
theorem build91 (bm : Nat) (w : World) : (Instr.build 91 #[(1, .map (some bm))]).run Try.prog w = .ok (.agg (tcells (List.replicate 9 0) bm)) w := run_build w 91 _ _ (by kernel_rfl)
set_option maxHeartbeats 8000000 in
set_option maxRecDepth 100000 in
theorem table_New.is (w : World) :
    Calls Try.prog 18 #[] w fun r w' => ∃ g bm : Nat, r = .returned (.pointer (some ⟨g, 0, none⟩)) ∧ TB w' w.heap.size g bm 0 (List.replicate 9 0) (fun _ => 0) ∧ Below w.heap.size w w' := by
  have hmm := @run_makeMap Try.prog
  have hbu := build91
  go_enter Try.func18, Try.ntmps18
  go_wp2
  go_ret
  have hm := World.ownsMap_made (H := Unit) w Try.prog 29 (plainElem Try.prog 29)
  generalize hw1 : w.alloc (Obj.map #[] 0) = w1 at hm ⊢
  have hb1 : Below w.heap.size w w1 := by rw [← hw1]; exact below_alloc (Below.refl _ _) _
  have hs : w1.heap.size = w.heap.size + 1 := by rw [← hw1]; exact Array.size_push _
  refine ⟨w1.heap.size, w.heap.size, by first | rfl | (rw [hs]; rfl), ⟨blk_new w1 _, ⟨.map [], hm.alloc _, fun k hk => rfl⟩, rfl, by omega, Nat.le_refl _⟩, below_step hb1 (below_alloc (Below.refl _ _) _)⟩
theorem tcells_set (ps : List Int) (bm j : Nat) (x : Int) (h : j < ps.length) : (tcells ps bm).setIfInBounds j (.int .u32 x) = tcells (ps.set j x) bm := by
  unfold tcells
  rw [List.setIfInBounds_toArray, List.set_append_left _ _ (by rw [List.length_map]; exact h), List.map_set]
theorem TB.store {w w1 : World} {base g bm n : Nat} {ps ps' : List Int} {f : Int → Int} (h : TB w base g bm n ps f) (hg : w.grownBy w1 (some g)) (hh : w1.heap[g]? = some (.cells (tcells ps' bm) 91 (0, 0))) (hl : ps'.length = 9) : TB w1 base g bm n ps' f := by
  obtain ⟨D, h1, h2⟩ := h.map
  exact ⟨hh, ⟨D, h1.kept hg (by simpa using h.ne), h2⟩, hl, h.b1, h.b2⟩
/-- the params behind Param -/
def parS (ps : List Int) (i x : Int) : List Int := if i < 9 then ps.set i.toNat x else ps
set_option maxHeartbeats 8000000 in
set_option maxRecDepth 100000 in
theorem table_Param.is (base g bm n : Nat) (ps : List Int) (f : Int → Int) (i x : Int) (w : World) (h : TB w base g bm n ps f) (hi : 0 ≤ i ∧ i < 4294967296) :
    Calls Try.prog 19 #[.pointer (some ⟨g, 0, none⟩), .int .u32 i, .int .u32 x] w fun r w' => r = .returned (.tuple #[]) ∧ TB w' base g bm n (parS ps i x) f ∧ w.grownBy w' (some g) := by
  have H := Aside0.mk h
  have HI := Aside0.mk hi
  unfold parS
  by_cases c : i < 9
  · rw [if_pos c]
    have d : decide (i < 9) = true := decide_eq_true c
    have p0 := hi.1
    have HS := Aside0.mk (tcells_set ps bm i.toNat x (by rw [h.ln]; omega))
    have HJ := Aside0.mk (show i.toNat < (tcells ps bm).size by unfold tcells; rw [List.size_toArray, List.length_append, List.length_map, h.ln]; simp only [List.length_cons, List.length_nil]; omega)
    clear h hi
    go_enter Try.func19, Try.ntmps19
    go_wp2_with (first | ((with_reducible refine gate_ (.store 29 (.tmp 17) (.tmp 14)) rfl ?_); go_loud (refine store_cell (cs := tcells ps bm) rfl rfl 29 91 (.tmp 17) (.tmp 14) rfl (j := i.toNat) (g := g) (k := .u32) (z := x) rfl rfl ?hh ?hsz (infoW info29q) ?_; (case hh => exact H.out.blk); (case hsz => exact HJ.out); intro w5 hh hgr; rw [HS.out] at hh; replace H := Aside0.mk (H.out.store hgr hh (by rw [List.length_set]; exact H.out.ln)); have HG := Aside0.mk hgr; clear hh hgr)) | fail)
    first | go_end0 | ((try simp only [Exit.inBlock, Exit.then]); refine bodyPost_ret (results_none rfl _ _ _) rfl ?_)
    exact ⟨rfl, H.out, HG.out⟩
  · rw [if_neg c]
    have d : decide (i < 9) = false := decide_eq_false c
    clear h hi
    go_enter Try.func19, Try.ntmps19
    go_wp2
    first | go_end0 | ((try simp only [Exit.inBlock, Exit.then]); refine bodyPost_ret (results_none rfl _ _ _) rfl ?_)
    exact ⟨rfl, H.out, grown_of_below (Below.refl _ _) _⟩
set_option maxHeartbeats 8000000 in
set_option maxRecDepth 100000 in
theorem table_Params.is (base g bm n : Nat) (ps : List Int) (f : Int → Int) (w : World) (h : TB w base g bm n ps f) :
    Calls Try.prog 21 #[.pointer (some ⟨g, 0, none⟩)] w fun r w' => ∃ v : Value, r = .returned v ∧ Kd.R (Kd.int .u32) 29 w' w.heap.size (fun _ => True) v ps ∧ Below w.heap.size w w' := by
  have HP := Aside0.mk h.ps
  clear h
  go_enter Try.func21, Try.ntmps21
  go_wp2_with (first | (go_at_call 42; (with_reducible refine (clone32.is _ 9 9 ps _ HP.out (by omega)).mono ?_); rintro e_ w_ ⟨v, rfl, hv, hb⟩; have HV := Aside0.mk hv; have HB := Aside0.mk hb; clear hv hb) | fail)
  go_ret
  exact ⟨_, rfl, HV.out, HB.out⟩
/-- the functions behind Func -/
def funS (f : Int → Int) (n a : Int) : Int → Int := if n > 13 then f else fun k => if k = a then n else f k
theorem TB.turn {w w1 : World} {base g bm n m : Nat} {ps : List Int} {f f' : Int → Int} (h : TB w base g bm n ps f) (hg : w.grownBy w1 (some bm)) {D : DataW Unit} (h1 : w1.ownsMap Try.prog 29 (plainElem Try.prog 29) bm m D) (h2 : ∀ k, (Lit.int .u32 k).wf = true → D.atKey (.int .u32 k) (.lit (.int .u32 0)) = .lit (.int .u32 (f' k))) : TB w1 base g bm m ps f' :=
  ⟨blk_grown h.blk hg (by simpa using h.ne.symm), ⟨D, h1, h2⟩, h.ln, h.b1, h.b2⟩
set_option maxHeartbeats 8000000 in
set_option maxRecDepth 100000 in
theorem table_Func.is (base g bm m : Nat) (ps : List Int) (f : Int → Int) (n a : Int) (w : World) (h : TB w base g bm m ps f) (hm : m < 1000000) (hn : (Lit.int .u32 n).wf = true) (ha : (Lit.int .u32 a).wf = true) :
    Calls Try.prog 20 #[.pointer (some ⟨g, 0, none⟩), .int .u32 n, .int .u32 a] w fun r w' => r = .returned (.tuple #[]) ∧ TB w' base g bm (m + 1) ps (funS f n a) ∧ w.grownBy w' (some bm) := by
  have H := Aside0.mk h
  have z9 := h.cell
  obtain ⟨D, hown, hat⟩ := h.map
  have HO := Aside0.mk hown
  have HAT := Aside0.mk hat
  have hkey := keyOf_int_mk (P := Try.prog) (k := 29) Try.underlying29 ha
  have HK := Aside0.mk hkey
  have HN := Aside0.mk hn
  have HM := Aside0.mk (show m < maxLen by unfold maxLen; omega)
  have hne : ∀ k : Int, k ≠ a → Lit.int .u32 k ≠ Lit.int .u32 a := by intro k hk e; injection e with _ e; exact hk e
  have HNE := Aside0.mk hne
  unfold funS
  by_cases c : n > 13
  · rw [if_pos c]
    have d : decide (13 < n) = true := decide_eq_true c
    have HT := Aside0.mk (show TB w base g bm (m + 1) ps f from ⟨h.blk, ⟨D, hown.mono (by omega), hat⟩, h.ln, h.b1, h.b2⟩)
    clear h hn ha hown hat hkey hne hm
    go_enter Try.func20, Try.ntmps20
    go_wp2
    first | go_end0 | ((try simp only [Exit.inBlock, Exit.then]); refine bodyPost_ret (results_none rfl _ _ _) rfl ?_)
    exact ⟨rfl, HT.out, grown_of_below (Below.refl _ _) _⟩
  · rw [if_neg c]
    have d : decide (13 < n) = false := decide_eq_false c
    by_cases c0 : n = 0
    · have d0 : (n == 0) = true := beq_iff_eq.2 c0
      have HC := Aside0.mk c0
      clear h hn ha hown hat hkey hne hm c c0
      go_enter Try.func20, Try.ntmps20
      go_wp2_with (first | (at_delete; go_loud (refine wpList_delete_own _ rfl (.tmp 25) (.tmp 26) 88 29 rfl 29 key29 Try.underlying88 (plainElem Try.prog 29) bm m D rfl HO.out _ _ rfl HK.out ?_; intro w1 hown1 hturn1; have HT := Aside0.mk (H.out.turn (m := m + 1) (f' := fun k => if k = a then n else f k) hturn1.grown (hown1.mono (by omega)) (by intro k hk; by_cases e : k = a; (· rw [if_pos e, HC.out, e]; exact atKey_del_same _); (· rw [if_neg e]; exact (atKey_del_other (HNE.out k e) _).trans (HAT.out k hk)))); have HG := Aside0.mk hturn1.grown; clear hown1 hturn1)) | fail)
      first | go_end0 | ((try simp only [Exit.inBlock, Exit.then]); refine bodyPost_ret (results_none rfl _ _ _) rfl ?_)
      exact ⟨rfl, HT.out, HG.out⟩
    · have d0 : (n == 0) = false := beq_false_of_ne c0
      clear h hn ha hown hat hkey hne hm c c0
      go_enter Try.func20, Try.ntmps20
      go_wp2_with (first | (at_mapUpdate; refine wpList_mapUpdate_own _ rfl (.tmp 9) (.tmp 10) (.tmp 11) 88 rfl 29 29 key29 Try.underlying88 (plainElem Try.prog 29) bm m D rfl HO.out HM.out _ _ _ rfl rfl HK.out _ [] (plainElem_int Try.underlying29 HN.out) ?_; intro w1 hown1 hg1; have HT := Aside0.mk (H.out.turn (m := m + 1) (f' := fun k => if k = a then n else f k) hg1 hown1 (by intro k hk; by_cases e : k = a; (· rw [if_pos e, e]; exact atKey_put_same HO.out.isMap (by simp [WideAt.IsKeyLit]) _ _); (· rw [if_neg e]; exact (atKey_put_other (HNE.out k e) _ _).trans (HAT.out k hk)))); have HG := Aside0.mk hg1; clear hown1 hg1) | fail)
      first | go_end0 | ((try simp only [Exit.inBlock, Exit.then]); refine bodyPost_ret (results_none rfl _ _ _) rfl ?_)
      exact ⟨rfl, HT.out, HG.out⟩
set_option maxHeartbeats 8000000 in
set_option maxRecDepth 100000 in
theorem table_At.is (base g bm m : Nat) (ps : List Int) (f : Int → Int) (a : Int) (w : World) (h : TB w base g bm m ps f) (ha : (Lit.int .u32 a).wf = true) :
    Calls Try.prog 22 #[.pointer (some ⟨g, 0, none⟩), .int .u32 a] w fun r w' => r = .returned (.int .u32 (f a)) ∧ w = w' := by
  have z9 := h.cell
  obtain ⟨D, hown, hat⟩ := h.map
  have HO := Aside0.mk hown
  have HAT := Aside0.mk (hat a ha)
  have HK := Aside0.mk (keyOf_int_mk (P := Try.prog) (k := 29) Try.underlying29 ha)
  clear h ha hown hat
  go_enter Try.func22, Try.ntmps22
  go_wp2_with (first | (at_lookup; refine wpList_lookup_own_int _ rfl (.tmp 10) (.tmp 11) 88 rfl 29 29 .u32 key29 Try.underlying88 Try.underlying29 (zero29 _) bm m D rfl HO.out _ _ rfl HK.out ?_; intro c hc hw; have HC := Aside0.mk (show f a = c by have := HAT.out.symm.trans hc; injection this with this; injection this); clear hc hw) | fail)
  go_ret
  exact ⟨by rw [HC.out]; rfl, rfl⟩
end Go.Proofs.Ytmpiifjckhcbmaa.PQ

/- Rows: a store into one; a made one; a literal (words for the walks of r18's laws). -/
namespace Go.Proofs.Ytmpiifjckhcbmaa.PQ
open Go.RowKit Go.Proofs.YtmpiifjckhcbmaaW.PrintWords Go.Proofs.YtmpiifjckhcbmaaW.PrintLast Go.Proofs.YtmpiifjckhcbmaaW.PrintMore Go.Proofs.Ytmpiifjckhcbmaa.Z Go.Proofs.Ytmpiifjckhcbmaa.Pure
set_option linter.unusedVariables false
set_option linter.unusedSimpArgs false
theorem store_row {P : Program} {ops : Array Oper} {rest : List Oper} {o : Oper} {a : Act} {Q : Exit → Act → World → Prop} {W : World} (hN : o.dst = none) (hgd : o.guard = none) (t e : TypeId) (p x : Operand) (ho : o.op = .store t p x) {g j n cap base : Nat} {ok : Nat → Prop} {k : IntKind} {z : Int} {xs : List Int}
    (haddr : a.eval p = .pointer (some ⟨g, j, none⟩)) (hx : a.eval x = .int k z) (HO : Kd.R (Kd.int k) e W base ok (.slice (some ⟨g, 0, none⟩) n cap) xs) (hj : j < n) (ht : (P.info? t).map (·.size) = some 1)
    (h : ∀ w1, Kd.R (Kd.int k) e w1 base ok (.slice (some ⟨g, 0, none⟩) n cap) (xs.set j z) → W.grownBy w1 (some g) → base ≤ g → wpList P ops Q rest a w1) : wpList P ops Q (o :: rest) a W := by
  have hown := Kd.own_of_R (enc := Value.int k) (h1 := fun _ => rfl) HO
  have hlen : xs.length = n := (Kd.R_reads' HO).1.symm
  obtain ⟨h1, h2⟩ := hown
  rcases h2 with ⟨h0, _⟩ | ⟨g', cap', cur, he, hb, hh, hc, hm, hs, htk⟩
  · cases h0
  · injection he with he en ec
    injection he with he
    injection he with he
    subst he ec
    refine store_cell hN hgd t e p x ho haddr hx hh (by rw [hs]; omega) ht (fun w1 hw hg => h w1 ?_ hg hb)
    refine Kd.R_of_own (enc := Value.int k) (h1 := fun _ => rfl) ⟨by show ((xs.set j z).map (Value.int k)).length = _; rw [List.length_map]; omega, Or.inr ⟨g, cap, _, ?_, hb, hw, by rw [List.length_set]; exact hc, hm, by rw [Array.size_setIfInBounds]; exact hs, ?_⟩⟩ HO.1
    · rw [List.length_set, hlen]
    · rw [Array.toList_setIfInBounds, List.length_set, List.take_set, htk]
      show (xs.map (Value.int k)).set j (.int k z) = (xs.set j z).map (Value.int k)
      rw [List.map_set]
/-- Do in a law: the memory laid since v, the params' row made since v -/
theorem Do_law (v : World) (gm gb ga c cp ca : Nat) (bs ps al : List Int) (A : Option Addr) (n x s e : Int) (w : World) (hb : Below v.heap.size v w) (hm : PH w v.heap.size gm gb c bs) (hp : Kd.R (Kd.int .u32) 29 w v.heap.size (fun _ => True) (.slice (some ⟨ga, 0, none⟩) 9 cp) ps) (hpr : ∀ x ∈ ps, 0 ≤ x ∧ x < 4294967296) (hn : 1 ≤ n ∧ n ≤ 13) (hx : Kd.C (Kd.int .u32) w A al.length al) (har : ∀ x ∈ al, 0 ≤ x ∧ x < 4294967296) (hr : doS bs ps n (rd al 0) (rd al 1) = (x, s, e)) :
    Calls Try.prog 14 #[.pointer (some ⟨gm, 0, none⟩), .slice (some ⟨ga, 0, none⟩) 9 cp, .int .u32 n, .slice A al.length ca] w fun r w' => r = .returned (.tuple #[.int .u32 x, .int .i64 s, .int .i64 e]) ∧ Below w.heap.size w w' :=
  Do_is v.heap.size gm gb ga c cp ca bs ps al A n x s e w hm (PP_of_R hp) (Kd.R_reads' hp).1.symm hpr (Kd.R_reads' hp).2.1 (below_size hb) hn hx har hr
theorem two_rng {a b : Int} (ha : 0 ≤ a ∧ a < 4294967296) (hb : 0 ≤ b ∧ b < 4294967296) : ∀ x ∈ [a, b], 0 ≤ x ∧ x < 4294967296 := by
  intro x hx
  simp only [List.mem_cons, List.not_mem_nil, or_false] at hx
  rcases hx with rfl | rfl
  · exact ha
  · exact hb
theorem Do_two (v : World) (gm gb ga c cp ca : Nat) (bs ps : List Int) (a b : Int) (A : Option Addr) (n x s e : Int) (w : World) (hb : Below v.heap.size v w) (hm : PH w v.heap.size gm gb c bs) (hp : Kd.R (Kd.int .u32) 29 w v.heap.size (fun _ => True) (.slice (some ⟨ga, 0, none⟩) 9 cp) ps) (hpr : ∀ x ∈ ps, 0 ≤ x ∧ x < 4294967296) (hn : 1 ≤ n ∧ n ≤ 13) (hx : Kd.C (Kd.int .u32) w A 2 [a, b]) (h1 : 0 ≤ a ∧ a < 4294967296) (h2 : 0 ≤ b ∧ b < 4294967296) (hr : doS bs ps n a b = (x, s, e)) :
    Calls Try.prog 14 #[.pointer (some ⟨gm, 0, none⟩), .slice (some ⟨ga, 0, none⟩) 9 cp, .int .u32 n, .slice A 2 ca] w fun r w' => r = .returned (.tuple #[.int .u32 x, .int .i64 s, .int .i64 e]) ∧ Below w.heap.size w w' :=
  Do_law v gm gb ga c cp ca bs ps [a, b] A n x s e w hb hm hp hpr hn hx (two_rng h1 h2) hr
theorem put_law (v w : World) (l r : List Int) (u : Value) (a n x : Int) (hb : Below v.heap.size v w) (ho : Kd.R (Kd.int .u8) 5 w v.heap.size (fun _ => True) u l) (h : grottolaw18_put.f 300 l a n x = some r) :
    Calls Try.prog 17 #[u, .int .i64 a, .int .i64 n, .int .u32 x] w fun e w' => e = .returned (.tuple #[]) ∧ Kd.R (Kd.int .u8) 5 w' v.heap.size (fun _ => True) u r ∧ Below v.heap.size v w' ∧ Kept w w' (fun _ => True) :=
  (grottolaw18_put.calls 300 (fun _ => True) u l a n x r v w hb ho h).mono fun _ _ h => ⟨h.1, Kd.R_mono h.2.1 (fun _ _ => trivial), h.2.2.1, h.2.2.2⟩
end Go.Proofs.Ytmpiifjckhcbmaa.PQ

/- live: the page's examples hold (seat r18). -/
namespace Go.Proofs.Ytmpiifjckhcbmaa.PQ
open Go.RowKit Go.Proofs.YtmpiifjckhcbmaaW.PrintWords Go.Proofs.YtmpiifjckhcbmaaW.PrintLast Go.Proofs.YtmpiifjckhcbmaaW.PrintMore Go.Proofs.Ytmpiifjckhcbmaa.Z Go.Proofs.Ytmpiifjckhcbmaa.Pure
set_option linter.unusedVariables false
set_option linter.unusedSimpArgs false

def lv0 : List Int := (List.replicate 600 0).set 44 112
def lvp (l : List Int) (a n x : Int) : List Int := (grottolaw18_put.f 300 l a n x).getD []
def lv1 : List Int := lvp lv0 316 4 400
def lv2 : List Int := lvp lv1 400 4 1
def lv3 : List Int := lvp lv2 404 2 5
def lv4 : List Int := lvp lv3 406 2 2
def lv5 : List Int := lvp lv4 408 4 450
set_option maxRecDepth 100000 in
theorem lv1_is : grottolaw18_put.f 300 lv0 316 4 400 = some lv1 := by decide +kernel
set_option maxRecDepth 100000 in
theorem lv2_is : grottolaw18_put.f 300 lv1 400 4 1 = some lv2 := by decide +kernel
set_option maxRecDepth 100000 in
theorem lv3_is : grottolaw18_put.f 300 lv2 404 2 5 = some lv3 := by decide +kernel
set_option maxRecDepth 100000 in
theorem lv4_is : grottolaw18_put.f 300 lv3 406 2 2 = some lv4 := by decide +kernel
set_option maxRecDepth 100000 in
theorem lv5_is : grottolaw18_put.f 300 lv4 408 4 450 = some lv5 := by decide +kernel
theorem lv5_len : lv5.length = 600 := by decide +kernel
theorem lv5_byt : Byt lv5 := by
  have h : lv5.all (fun x => decide (0 ≤ x ∧ x < 256)) = true := by decide +kernel
  intro x hx
  exact of_decide_eq_true (List.all_eq_true.1 h x hx)
def lvP : List Int := [0, 0, 9, 0, 0, 0, 0, 0, 0]
theorem lvP_rng : ∀ x ∈ lvP, 0 ≤ x ∧ x < 4294967296 := by decide
def lvB : List Int := laidB lv5 600
set_option maxRecDepth 100000 in
theorem lvA : doS lvB lvP 2 300 5 = (404, 0, 0) := by decide +kernel
set_option maxRecDepth 100000 in
theorem lvC : doS lvB lvP 3 300 5 = (450, 0, 0) := by decide +kernel
set_option maxRecDepth 100000 in
theorem lvD : doS lvB lvP 4 300 5 = (8, 0, 0) := by decide +kernel
set_option maxRecDepth 100000 in
theorem lvE : doS lvB lvP 2 20 5 = (0, 1, 0) := by decide +kernel
theorem laid_lv (A : Option Addr) (c0 : Nat) (w : World) (hr : Kd.C (Kd.int .u8) w A 600 lv5) :
    Calls Try.prog 9 #[.slice A 600 c0] w fun e w' => ∃ g gb c h hb d : Nat, e = .returned (.tuple #[.pointer (some ⟨g, 0, none⟩), .pointer (some ⟨h, 0, none⟩)]) ∧ PH w' w.heap.size g gb c lvB ∧ RW w' w.heap.size h hb d lvB ∧ gb ≠ hb ∧ w.heap.size ≤ g ∧ w.heap.size ≤ h ∧ Below w.heap.size w w' := by
  have h := laid.is A c0 lv5 w (by rw [lv5_len]; exact hr) lv5_byt (by rw [lv5_len]; omega)
  rw [lv5_len] at h
  exact h
theorem PH.neRow {w : World} {base base' g gb c ga n cp : Nat} {bs ps : List Int} (h : PH w base g gb c bs) (hp : Kd.R (Kd.int .u32) 29 w base' (fun _ => True) (.slice (some ⟨ga, 0, none⟩) n cp) ps) : some g ≠ some ga ∧ some gb ≠ some ga := by
  obtain ⟨h0, h2', h3, h4, h5, h6, h7, x, y, z, hd⟩ := h.hd
  have a := ne_of_R hp hd (by decide)
  have ho := Kd.own_of_R (enc := Value.int .u32) (h1 := fun _ => rfl) hp
  rcases ho.2 with ⟨h0, _⟩ | ⟨g', cap, cur, he, _, hh, _, _, _, ht⟩
  · cases h0
  · injection he with he
    injection he with he
    injection he with he
    subst he
    have b := ne_of_R h.pw.row hh (by decide)
    exact ⟨by simpa using a, by simpa using fun e => b e.symm⟩
set_option maxHeartbeats 8000000 in
set_option maxRecDepth 100000 in
theorem live.is (w : World) : Calls Try.prog 15 #[] w fun e w' => e = .returned (.bool true) ∧ Below w.heap.size w w' := by
  have HB := Aside0.mk (Below.refl w.heap.size w)
  go_enter Try.func15, Try.ntmps15
  go_upto_region 2 with (first | ((with_reducible refine gate_dst (N := 18) rfl ?_); refine Kd.R_make (Kd.int .u8) _ 5 rfl (N := 18) rfl 41 _ _ rfl 600 rfl rfl Try.underlying41 (.int .u8 0) 1 info5 rfl (by decide) (by omega) 0 (ok := fun _ => True) (okp := fun _ => True) rfl (fun _ hk => hk) trivial (by omega) (by omega) (Below.refl _ _) (Nat.le_refl _) ?_; intro v1 w1 ho hb hg_ hnew_; clear hg_ hnew_; replace ho : Kd.R (Kd.int .u8) 5 w1 _ (fun _ => True) v1 (List.replicate 600 0) := ho; obtain ⟨gl, cl, he_, _⟩ := Kd.R_form ho (by rw [List.length_replicate]; omega); rw [List.length_replicate] at he_; subst he_; have HO := Aside0.mk (Kd.R_lower ho (below_size HB.out)); replace HB := zbs HB hb; clear hb ho) | fail)
  go_upto_region 3 with (first | ((with_reducible refine gate_ (.store 5 (.tmp 20) (.const (.int .u8 112))) rfl ?_); refine store_row rfl rfl 5 5 (.tmp 20) (.const (.int .u8 112)) rfl (j := 44) rfl rfl HO.out (by omega) (infoW info5) ?_; intro w2 ho hg hge; have HO0 := Aside0.mk (show Kd.R (Kd.int .u8) 5 w2 _ (fun _ => True) _ lv0 from ho); replace HB := Aside0.mk (HB.out.grown hg (below_size HB.out) (fun k_ hk_ => by injection hk_ with hk_; subst hk_; exact hge)); clear ho hg hge HO) | fail)
  go_upto_region 4 with (first | (go_at_call 17; (with_reducible refine (put_law w _ lv0 lv1 _ 316 4 400 HB.out HO0.out lv1_is).mono ?_); rintro e_ w_ ⟨rfl, ho, hb, _⟩; have HO1 := Aside0.mk ho; replace HB := Aside0.mk hb; clear ho hb HO0) | fail)
  go_upto_region 5 with (first | (go_at_call 17; (with_reducible refine (put_law w _ lv1 lv2 _ 400 4 1 HB.out HO1.out lv2_is).mono ?_); rintro e_ w_ ⟨rfl, ho, hb, _⟩; have HO2 := Aside0.mk ho; replace HB := Aside0.mk hb; clear ho hb HO1) | fail)
  go_upto_region 6 with (first | (go_at_call 17; (with_reducible refine (put_law w _ lv2 lv3 _ 404 2 5 HB.out HO2.out lv3_is).mono ?_); rintro e_ w_ ⟨rfl, ho, hb, _⟩; have HO3 := Aside0.mk ho; replace HB := Aside0.mk hb; clear ho hb HO2) | fail)
  go_upto_region 7 with (first | (go_at_call 17; (with_reducible refine (put_law w _ lv3 lv4 _ 406 2 2 HB.out HO3.out lv4_is).mono ?_); rintro e_ w_ ⟨rfl, ho, hb, _⟩; have HO4 := Aside0.mk ho; replace HB := Aside0.mk hb; clear ho hb HO3) | fail)
  go_upto_region 8 with (first | (go_at_call 17; (with_reducible refine (put_law w _ lv4 lv5 _ 408 4 450 HB.out HO4.out lv5_is).mono ?_); rintro e_ w_ ⟨rfl, ho, hb, _⟩; have HO5 := Aside0.mk ho; replace HB := Aside0.mk hb; clear ho hb HO4) | fail)
  have HR5 := Aside0.mk (Kd.R_reads' HO5.out).2.2
  go_upto_region 11 with (first | (go_at_call 9; (with_reducible refine (laid_lv _ _ _ (by rw [← lv5_len]; exact HR5.out)).mono ?_); rintro e_ w_ ⟨g, gb, c, h, hb', d, rfl, hm, _, _, _, _, hb⟩; have HM := Aside0.mk (show PH w_ w.heap.size g gb c lvB from hm.lower (below_size HB.out)); replace HB := zbs HB hb; clear hb hm) | fail)
  clear HR5 HO5
  go_upto_region 13 with (first | ((with_reducible refine gate_dst (N := 38) rfl ?_); refine Kd.R_make (Kd.int .u32) _ 29 rfl (N := 38) rfl 27 _ _ rfl 9 rfl rfl Try.underlying27 (.int .u32 0) 4 info29 rfl (by decide) (by omega) 0 (ok := fun _ => True) (okp := fun _ => True) rfl (fun _ hk => hk) trivial (by omega) (by omega) (Below.refl _ _) (Nat.le_refl _) ?_; intro v1 w1 ho hb hg_ hnew_; clear hg_ hnew_; replace ho : Kd.R (Kd.int .u32) 29 w1 _ (fun _ => True) v1 (List.replicate 9 0) := ho; obtain ⟨ga, cp, he_, _⟩ := Kd.R_form ho (by rw [List.length_replicate]; omega); rw [List.length_replicate] at he_; subst he_; have HP0 := Aside0.mk (Kd.R_lower ho (below_size HB.out)); replace HM := Aside0.mk (HM.out.below hb); replace HB := zbs HB hb; clear hb ho) | ((with_reducible refine gate_ (.store 29 (.tmp 40) (.const (.int .u32 9))) rfl ?_); refine store_row rfl rfl 29 29 (.tmp 40) (.const (.int .u32 9)) rfl (j := 2) rfl rfl HP0.out (by omega) (infoW info29) ?_; intro w2 ho hg hge; have HP := Aside0.mk (show Kd.R (Kd.int .u32) 29 w2 _ (fun _ => True) _ lvP from ho); replace HM := Aside0.mk (HM.out.other hg (HM.out.neRow HP0.out).1 (HM.out.neRow HP0.out).2); replace HB := Aside0.mk (HB.out.grown hg (below_size HB.out) (fun k_ hk_ => by injection hk_ with hk_; subst hk_; exact hge)); clear ho hg hge HP0) | fail)
  go_upto_region 14 with (first | ((with_reducible refine gate_dst (N := 44) rfl ?_); go_loud (refine Kd.R_lit (Kd.int .u32) _ 29 ?hg (N := 44) ?hd (xs := ([300, 5] : List Int)) (inner := [.int .u32 300, .int .u32 5]) (ok := fun _ => True) (okp := fun _ => True) ?hr ?hp (fun _ hk => hk) trivial (Below.refl _ _) (Nat.le_refl _) (by simp) ?_; (case hd => rfl); (case hg => rfl); (case hr => first | (go_simp; done) | (go_simp; rfl)); (case hp => exact Kd.reps_scalar (enc := Value.int .u32) ([300, 5] : List Int)); intro v3 w3 ho hb hg_ hnew_; clear hg_ hnew_; obtain ⟨A3, c3, he3, hc3, hr3⟩ := Kd.R_reads ho; replace he3 : v3 = .slice A3 2 c3 := he3; subst he3; have HX := Aside0.mk (show Kd.C (Kd.int .u32) w3 A3 2 [300, 5] from hr3); replace HM := Aside0.mk (HM.out.below hb); replace HP := Aside0.mk (Kd.R_below HP.out hb); replace HB := zbs HB hb; clear hb ho hr3 hc3)) | (go_at_call 14; go_loud ((with_reducible refine (Do_two w g gb ga c cp _ lvB lvP 300 5 A3 2 404 0 0 _ HB.out HM.out HP.out lvP_rng (by omega) HX.out (by omega) (by omega) lvA).mono ?_); rintro e_ w_ ⟨rfl, hb⟩; replace HM := Aside0.mk (HM.out.below hb); replace HP := Aside0.mk (Kd.R_below HP.out hb); replace HB := zbs HB hb; clear hb HX)) | fail)
  go_upto_region 15 with (first | ((with_reducible refine gate_dst (N := 52) rfl ?_); go_loud (refine Kd.R_lit (Kd.int .u32) _ 29 ?hg (N := 52) ?hd (xs := ([300, 5] : List Int)) (inner := [.int .u32 300, .int .u32 5]) (ok := fun _ => True) (okp := fun _ => True) ?hr ?hp (fun _ hk => hk) trivial (Below.refl _ _) (Nat.le_refl _) (by simp) ?_; (case hd => rfl); (case hg => rfl); (case hr => first | (go_simp; done) | (go_simp; rfl)); (case hp => exact Kd.reps_scalar (enc := Value.int .u32) ([300, 5] : List Int)); intro v3 w3 ho hb hg_ hnew_; clear hg_ hnew_; obtain ⟨A3, c3, he3, hc3, hr3⟩ := Kd.R_reads ho; replace he3 : v3 = .slice A3 2 c3 := he3; subst he3; have HX := Aside0.mk (show Kd.C (Kd.int .u32) w3 A3 2 [300, 5] from hr3); replace HM := Aside0.mk (HM.out.below hb); replace HP := Aside0.mk (Kd.R_below HP.out hb); replace HB := zbs HB hb; clear hb ho hr3 hc3)) | (go_at_call 14; go_loud ((with_reducible refine (Do_two w g gb ga c cp _ lvB lvP 300 5 A3 3 450 0 0 _ HB.out HM.out HP.out lvP_rng (by omega) HX.out (by omega) (by omega) lvC).mono ?_); rintro e_ w_ ⟨rfl, hb⟩; replace HM := Aside0.mk (HM.out.below hb); replace HP := Aside0.mk (Kd.R_below HP.out hb); replace HB := zbs HB hb; clear hb HX)) | fail)
  go_upto_region 16 with (first | ((with_reducible refine gate_dst (N := 60) rfl ?_); go_loud (refine Kd.R_lit (Kd.int .u32) _ 29 ?hg (N := 60) ?hd (xs := ([300, 5] : List Int)) (inner := [.int .u32 300, .int .u32 5]) (ok := fun _ => True) (okp := fun _ => True) ?hr ?hp (fun _ hk => hk) trivial (Below.refl _ _) (Nat.le_refl _) (by simp) ?_; (case hd => rfl); (case hg => rfl); (case hr => first | (go_simp; done) | (go_simp; rfl)); (case hp => exact Kd.reps_scalar (enc := Value.int .u32) ([300, 5] : List Int)); intro v3 w3 ho hb hg_ hnew_; clear hg_ hnew_; obtain ⟨A3, c3, he3, hc3, hr3⟩ := Kd.R_reads ho; replace he3 : v3 = .slice A3 2 c3 := he3; subst he3; have HX := Aside0.mk (show Kd.C (Kd.int .u32) w3 A3 2 [300, 5] from hr3); replace HM := Aside0.mk (HM.out.below hb); replace HP := Aside0.mk (Kd.R_below HP.out hb); replace HB := zbs HB hb; clear hb ho hr3 hc3)) | (go_at_call 14; go_loud ((with_reducible refine (Do_two w g gb ga c cp _ lvB lvP 300 5 A3 4 8 0 0 _ HB.out HM.out HP.out lvP_rng (by omega) HX.out (by omega) (by omega) lvD).mono ?_); rintro e_ w_ ⟨rfl, hb⟩; replace HM := Aside0.mk (HM.out.below hb); replace HP := Aside0.mk (Kd.R_below HP.out hb); replace HB := zbs HB hb; clear hb HX)) | fail)
  go_upto_region 17 with (first | ((with_reducible refine gate_dst (N := 68) rfl ?_); go_loud (refine Kd.R_lit (Kd.int .u32) _ 29 ?hg (N := 68) ?hd (xs := ([20, 5] : List Int)) (inner := [.int .u32 20, .int .u32 5]) (ok := fun _ => True) (okp := fun _ => True) ?hr ?hp (fun _ hk => hk) trivial (Below.refl _ _) (Nat.le_refl _) (by simp) ?_; (case hd => rfl); (case hg => rfl); (case hr => first | (go_simp; done) | (go_simp; rfl)); (case hp => exact Kd.reps_scalar (enc := Value.int .u32) ([20, 5] : List Int)); intro v3 w3 ho hb hg_ hnew_; clear hg_ hnew_; obtain ⟨A3, c3, he3, hc3, hr3⟩ := Kd.R_reads ho; replace he3 : v3 = .slice A3 2 c3 := he3; subst he3; have HX := Aside0.mk (show Kd.C (Kd.int .u32) w3 A3 2 [20, 5] from hr3); replace HM := Aside0.mk (HM.out.below hb); replace HP := Aside0.mk (Kd.R_below HP.out hb); replace HB := zbs HB hb; clear hb ho hr3 hc3)) | (go_at_call 14; go_loud ((with_reducible refine (Do_two w g gb ga c cp _ lvB lvP 20 5 A3 2 0 1 0 _ HB.out HM.out HP.out lvP_rng (by omega) HX.out (by omega) (by omega) lvE).mono ?_); rintro e_ w_ ⟨rfl, hb⟩; replace HM := Aside0.mk (HM.out.below hb); replace HP := Aside0.mk (Kd.R_below HP.out hb); replace HB := zbs HB hb; clear hb HX)) | fail)
  clear HM HP
  go_upto_region 19 with (first | (go_at_call 18; (with_reducible refine (table_New.is _).mono ?_); rintro e_ w_ ⟨gt, bt, rfl, ht, hb⟩; have HT := Aside0.mk (show TB w_ w.heap.size gt bt 0 (List.replicate 9 0) (fun _ => 0) from ⟨ht.blk, ht.map, ht.ln, Nat.le_trans (below_size HB.out) ht.b1, Nat.le_trans (below_size HB.out) ht.b2⟩); replace HB := zbs HB hb; clear hb ht) | (go_at_call 20; (with_reducible refine (table_Func.is w.heap.size gt bt 0 _ _ 3 40 _ HT.out (by omega) (by decide) (by decide)).mono ?_); rintro e_ w_ ⟨rfl, ht, hg⟩; replace HB := Aside0.mk (HB.out.grown hg (below_size HB.out) (fun k_ hk_ => by injection hk_ with hk_; subst hk_; exact HT.out.b2)); clear HT; have HT := Aside0.mk ht; clear ht hg) | fail)
  go_wp2_with (first | (go_at_call 13; (with_reducible refine (num_be 0 _).mono ?_); rintro e_ w_ ⟨rfl, hb⟩; replace HT := Aside0.mk (HT.out.below hb); replace HB := zbs HB hb; clear hb) | (go_at_call 22; (with_reducible refine (table_At.is w.heap.size gt bt 1 _ _ 40 _ HT.out (by decide)).mono ?_); rintro e_ w_ ⟨rfl, rfl⟩; (try rw [show funS (fun _ => 0) 3 40 40 = 3 from rfl])) | (go_at_call 23; (with_reducible refine (accel_Slip.calls 1 _ _ rfl).mono ?_); rintro e_ w_ ⟨rfl, hd⟩; replace HB := zbs HB hd.below; clear hd) | fail)
  go_ret
  exact ⟨rfl, zb HB⟩
end Go.Proofs.Ytmpiifjckhcbmaa.PQ
