/- The law FindKeys: what is looked for. -/
import Derived.Test.YtohmipmioaceeaaLA
import Derived.Test.YtohmipmioaceeaaPQx6
namespace Go.Proofs.Ytohmipmioaceeaa.PQ
set_option linter.all false
open Go.RowKit Go.Proofs.YtohmipmioaceeaaW.PrintWords Go.Proofs.YtohmipmioaceeaaW.PrintLast Go.Proofs.YtohmipmioaceeaaW.PrintMore Go.Proofs.Ytohmipmioaceeaa.Z Go.Proofs.Ytohmipmioaceeaa.Pure
set_option linter.unusedVariables false
set_option linter.unusedSimpArgs false
theorem same_f0 (l : List Int) : grottoref01_Same.f l l = some true := by
  unfold grottoref01_Same.f
  simp
theorem Same_be0 (l : List Int) (A B : Option Addr) (c d : Nat) (w : World) (h1 : Kd.C (Kd.int .u8) w A l.length l) (h2 : l.length ≤ c) (h3 : Kd.C (Kd.int .u8) w B l.length l) (h4 : l.length ≤ d) :
    Calls Try.prog 24 #[.slice A l.length c, .slice B l.length d] w fun e w' => e = .returned (.bool true) ∧ Below w.heap.size w w' :=
  (grottoref01_Same.calls A c l B d l true w h1 h2 h3 h4 (same_f0 l)).mono fun _ _ h => ⟨h.1, by first | exact h.2.below | exact h.2⟩
theorem keyS_len256 (bs : List Int) (s : Sr) (ho : s.Ok) : (keyS bs s).1.length ≤ 256 := by
  by_cases c : (keyS bs s).2 = 0
  · have h := keyS_len (key := (keyS bs s).1) ho (by rw [← c])
    have h2 := keyS_kszm c
    omega
  · unfold keyS at c ⊢
    split
    · simp
    · rename_i h1
      rw [if_neg h1] at c
      split
      · rename_i h2
        rw [if_pos h2] at c
        unfold spanS at c ⊢
        split
        · rename_i h3
          rw [if_pos h3] at c
          first | exact absurd rfl c | simp
        · first | simp | (rename_i h3; rw [if_neg h3] at c; exact absurd rfl c)
      · rename_i h2
        rw [if_neg h2] at c
        exact absurd rfl c
theorem spoil_ends : ∀ (k : Nat) (l : List Int) (x : Int), 0 ≤ x ∧ x ≤ (l.length : Int) → l.length ≤ 1048576 → (l.length : Int) - x < k → ∃ r, grottoref01_Spoil.l0 k l x = some r := by
  intro k
  induction k with
  | zero => intro l x h0 hl h; exact absurd h (by omega)
  | succ k ih =>
    intro l x h0 hl h
    unfold grottoref01_Spoil.l0
    by_cases c : x < (l.length : Int)
    · rw [if_pos c, if_pos h0.1, w64 (by omega) (by omega)]
      exact ih _ _ (by rw [List.length_set]; omega) (by simpa using hl) (by rw [List.length_set]; omega)
    · rw [if_neg c]; exact ⟨_, rfl⟩
theorem spoil_f (l : List Int) (hl : l.length ≤ 1048576) : ∃ k r, grottoref01_Spoil.f k l = some r := by
  obtain ⟨r, h⟩ := spoil_ends (l.length + 1) l 0 (by omega) hl (by omega)
  exact ⟨_, r, h⟩
/-- Spoil changes its row alone. -/
theorem Spoil_is (l : List Int) (v : Value) (w0 w : World) (hl : l.length ≤ 1048576) (hB : Below w0.heap.size w0 w) (ho : Kd.R (Kd.int .u8) 5 w w0.heap.size (fun _ => True) v l) :
    Calls Try.prog 28 #[v] w fun e w' => e = .returned (.tuple #[]) ∧ Below w0.heap.size w0 w' ∧ Kept w w' (fun k => some k = v.ownBlock) := by
  obtain ⟨k, r, h⟩ := spoil_f l hl
  exact (grottoref01_Spoil.calls k _ v l r w0 w hB (Kd.R_tight rfl ho) h).mono fun _ _ h => ⟨h.1, h.2.2.1, h.2.2.2⟩
theorem R_spoil {w w' : World} {v y : Value} {l : List Int} {b : Nat} (hy : Kd.R (Kd.int .u8) 5 w b (fun _ => True) y l) (hk : Kept w w' (fun k => some k = v.ownBlock)) (hv : ∀ k, v.ownBlock = some k → k < b) : Kd.R (Kd.int .u8) 5 w' b (fun _ => True) y l :=
  Kd.R_mono (Kd.R_kept (Kd.R_tight rfl hy) hk (fun k h1 h2 => by have a := hv k h2.symm; have b' := Kd.R_base hy k h1.symm; omega)) (fun _ _ => trivial)
set_option maxHeartbeats 8000000 in
set_option maxRecDepth 100000 in
theorem FindKeys.law (A0 : Option Addr) (c0 : Nat) (l0 : List Int) (a1_0 : Int) (a1_1 : Int) (a1_2 : Int) (a1_3 : Int) (a1_4 : Int) (a1_5 : Int) (a1_6 : Int) (a1_7 : Int) (w : World) (hr0 : Kd.C (Kd.int .u8) w A0 l0.length l0) (hc0 : l0.length ≤ c0) (hm0 : l0.length ≤ maxLen) (y0 : l0.length * 1 ≤ 140737488351232) (w0 : ∀ x ∈ l0, (Lit.int .u8 x).wf = true) (w1_0 : (Lit.int .u32 a1_0).wf = true) (w1_1 : (Lit.int .u32 a1_1).wf = true) (w1_2 : (Lit.int .u32 a1_2).wf = true) (w1_3 : (Lit.int .u32 a1_3).wf = true) (w1_4 : (Lit.int .u32 a1_4).wf = true) (w1_5 : (Lit.int .u32 a1_5).wf = true) (w1_6 : (Lit.int .u32 a1_6).wf = true) (w1_7 : (Lit.int .u32 a1_7).wf = true) :
    Calls Try.prog 10 #[.slice A0 l0.length c0, .agg #[.int .u32 a1_0, .int .u32 a1_1, .int .u32 a1_2, .int .u32 a1_3, .int .u32 a1_4, .int .u32 a1_5, .int .u32 a1_6, .int .u32 a1_7]] w fun e w' => e = .returned (.bool true) ∧ Below w.heap.size w w' := by
  have HO := Aside0.mk (show (Sr.mk a1_0 a1_1 a1_2 a1_3 a1_4 a1_5 a1_6 a1_7).Ok from ⟨wf_u32 w1_0, wf_u32 w1_1, wf_u32 w1_2, wf_u32 w1_3, wf_u32 w1_4, wf_u32 w1_5, wf_u32 w1_6, wf_u32 w1_7⟩)
  have HR := Aside0.mk hr0
  have HY := Aside0.mk (byt_of w0)
  have HB := Aside0.mk (Below.refl w.heap.size w)
  clear hr0 hc0 hm0 y0 w0 w1_0 w1_1 w1_2 w1_3 w1_4 w1_5 w1_6 w1_7
  by_cases c1 : (l0.length : Int) > 8192
  · have c1b : decide ((l0.length : Int) > 8192) = true := decide_eq_true c1
    have c1c : decide (8192 < (l0.length : Int)) = true := decide_eq_true c1
    have c1d : decide (8192 < l0.length) = true := decide_eq_true (by omega)
    clear c1
    go_enter Try.func10, Try.ntmps10
    go_wp2_with (first | ((with_reducible refine gate_dst (N := 3) rfl ?_); refine zbox (N := 3) (cs := #[.int .u32 a1_0, .int .u32 a1_1, .int .u32 a1_2, .int .u32 a1_3, .int .u32 a1_4, .int .u32 a1_5, .int .u32 a1_6, .int .u32 a1_7]) (t := 32) ?_; intro gs hg w_ hbox hb; have BK := Aside0.mk hbox; replace HB := zbs HB hb; replace HR := Aside0.mk (Kd.C_below HR.out hb); obtain ⟨z0, z1, z2, z3, z4, z5, z6, z7⟩ := c8 BK.out; clear hb hbox hg) | (go_at_call 14; (with_reducible refine (live.is _).mono ?_); rintro e w_ ⟨rfl, hb⟩; replace HB := zbs HB hb; clear hb))
    go_ret
    exact ⟨rfl, zb HB⟩
  · have c1c : decide (8192 < (l0.length : Int)) = false := decide_eq_false c1
    have c1d : decide (8192 < l0.length) = false := decide_eq_false (by omega)
    have HL := Aside0.mk (show l0.length ≤ 1048576 by omega)
    clear c1
    go_enter Try.func10, Try.ntmps10
    go_upto_region 6 with (first | ((with_reducible refine gate_dst (N := 3) rfl ?_); refine zbox (N := 3) (cs := #[.int .u32 a1_0, .int .u32 a1_1, .int .u32 a1_2, .int .u32 a1_3, .int .u32 a1_4, .int .u32 a1_5, .int .u32 a1_6, .int .u32 a1_7]) (t := 32) ?_; intro gs hg w_ hbox hb; have BK := Aside0.mk hbox; replace HB := zbs HB hb; replace HR := Aside0.mk (Kd.C_below HR.out hb); obtain ⟨z0, z1, z2, z3, z4, z5, z6, z7⟩ := c8 BK.out; clear hb hbox hg) | (go_at_call 15; (with_reducible refine (laid.is A0 c0 l0 _ HR.out HY.out HL.out).mono ?_); rintro e w_ ⟨g, gb, c, h, hb', d, rfl, hm, hw, hne, hge, hhe, hb⟩; have HM := Aside0.mk hm; have HW := Aside0.mk hw; replace BK := zkb BK hb; replace HB := zbs HB hb; clear hb hm hw hne hge hhe z0 z1 z2 z3 z4 z5 z6 z7; obtain ⟨z0, z1, z2, z3, z4, z5, z6, z7⟩ := c8 BK.out))
    clear HR HY HL
    have BKK := Aside0.mk BK.out
    go_upto_region 9 with (first | (go_at_call 22; (with_reducible refine (find_Key.is g (Sr.mk a1_0 a1_1 a1_2 a1_3 a1_4 a1_5 a1_6 a1_7) _ _ HO.out HM.out.pm).mono ?_); rintro e w1 ⟨vx, rfl, hx, hb⟩; have HK := Aside0.mk hb; have HX := Aside0.mk hx; replace BK := zkb BK hb; clear hb hx z0 z1 z2 z3 z4 z5 z6 z7; obtain ⟨z0, z1, z2, z3, z4, z5, z6, z7⟩ := c8 BK.out) | (go_at_call 27; (with_reducible refine (ref_Key.is h (Sr.mk a1_0 a1_1 a1_2 a1_3 a1_4 a1_5 a1_6 a1_7) _ _ HO.out (HW.out.below HK.out).rm).mono ?_); rintro e w2 ⟨vy, rfl, hy, hb⟩; have HX2 := Aside0.mk (Kd.R_below HX.out hb); have HL := Aside0.mk (Kd.R_lt HX.out); have HY := Aside0.mk hy; replace HK := Aside0.mk (below_step HK.out hb); replace BK := zkb BK hb; clear HX hb hy z0 z1 z2 z3 z4 z5 z6 z7; obtain ⟨z0, z1, z2, z3, z4, z5, z6, z7⟩ := c8 BK.out) | (go_at_call 28; (with_reducible refine (Spoil_is _ vx _ _ (by have := keyS_len256 (laidB l0 (min l0.length 3840)) (Sr.mk a1_0 a1_1 a1_2 a1_3 a1_4 a1_5 a1_6 a1_7) HO.out; omega) HK.out HX2.out).mono ?_); rintro e w3 ⟨rfl, hb, hk⟩; replace HY := Aside0.mk (R_spoil HY.out hk HL.out); replace HM := Aside0.mk (HM.out.below hb); replace HW := Aside0.mk (HW.out.below hb); replace BK := Aside0.mk (blk_below BKK.out hb); replace HB := Aside0.mk (below_step HB.out hb); clear hb hk HX2 HL HK BKK z0 z1 z2 z3 z4 z5 z6 z7; obtain ⟨z0, z1, z2, z3, z4, z5, z6, z7⟩ := c8 BK.out))
    go_upto_region 10 with (first | (go_at_call 22; (with_reducible refine (find_Key.is g (Sr.mk a1_0 a1_1 a1_2 a1_3 a1_4 a1_5 a1_6 a1_7) _ _ HO.out HM.out.pm).mono ?_); rintro e w1 ⟨vz, rfl, hz, hb⟩; obtain ⟨Az, cz, rfl⟩ := Kd.R_slice hz; have HZ := Aside0.mk hz; replace HY := Aside0.mk (Kd.R_below HY.out hb); obtain ⟨Ay, cy, ey⟩ := Kd.R_slice HY.out; subst ey; have HM2 := Aside0.mk (HM.out.below hb); have HW2 := Aside0.mk (HW.out.below hb); replace HB := zbs HB hb; clear hb hz HM HW BK z0 z1 z2 z3 z4 z5 z6 z7; have HM := Aside0.mk HM2.out; have HW := Aside0.mk HW2.out; clear HM2 HW2))
    go_region_held3 (fun w' => w'.cell? ⟨h, 0, none⟩ = some (.slice (some ⟨hb', 0, none⟩) (laidB l0 (min l0.length 3840)).length d)) (first | exact HW.out.cell0 | exact (HW.out.below (below_drew1 (Below.refl _ _))).cell0 | go_keep) (first | (go_at_call 24; (with_reducible refine (Same_be0 _ Az Ay cz cy _ (Kd.R_reads' (Kd.R_drew HZ.out)).2.2 (Kd.R_reads' HZ.out).2.1 (Kd.R_reads' (Kd.R_drew HY.out)).2.2 (Kd.R_reads' HY.out).2.1).mono ?_); rintro e w_ ⟨rfl, hb⟩; replace HM := Aside0.mk (HM.out.below (by first | exact hb | exact below_step (below_drew1 (Below.refl _ _)) hb)); replace HW := Aside0.mk (HW.out.below (by first | exact hb | exact below_step (below_drew1 (Below.refl _ _)) hb)); replace HB := zbs HB hb; clear hb; clear HZ HY) | (go_at_call 18; (with_reducible refine (num_be _ _).mono ?_); rintro e w_ ⟨rfl, hb⟩; replace HM := Aside0.mk (HM.out.below (by first | exact hb | exact below_step (below_drew1 (Below.refl _ _)) hb)); replace HW := Aside0.mk (HW.out.below (by first | exact hb | exact below_step (below_drew1 (Below.refl _ _)) hb)); replace HB := zbs HB hb; clear hb) | (go_at_call 29; (with_reducible refine (memory_Bytes.is g _ _ HM.out.pm).mono ?_); rintro e w_ ⟨v, rfl, hv, hb⟩; obtain ⟨A, cv, rfl⟩ := Kd.R_slice hv; have HV := Aside0.mk (Kd.R_reads' hv); clear hv; replace HM := Aside0.mk (HM.out.below (by first | exact hb | exact below_step (below_drew1 (Below.refl _ _)) hb)); replace HW := Aside0.mk (HW.out.below (by first | exact hb | exact below_step (below_drew1 (Below.refl _ _)) hb)); replace HB := zbs HB hb; clear hb) | (go_at_call 24; (with_reducible refine (Same_be _ A (some ⟨hb', 0, none⟩) cv d _ HV.out.2.2 HV.out.2.1 (Kd.R_reads' HW.out.row).2.2 (Kd.R_reads' HW.out.row).2.1 HM.out.len).mono ?_); rintro e w_ ⟨rfl, hb⟩; replace HM := Aside0.mk (HM.out.below (by first | exact hb | exact below_step (below_drew1 (Below.refl _ _)) hb)); replace HW := Aside0.mk (HW.out.below (by first | exact hb | exact below_step (below_drew1 (Below.refl _ _)) hb)); replace HB := zbs HB hb; clear hb; clear HV) | (go_at_call 14; (with_reducible refine (live.is _).mono ?_); rintro e w_ ⟨rfl, hb⟩; replace HM := Aside0.mk (HM.out.below (by first | exact hb | exact below_step (below_drew1 (Below.refl _ _)) hb)); replace HW := Aside0.mk (HW.out.below (by first | exact hb | exact below_step (below_drew1 (Below.refl _ _)) hb)); replace HB := zbs HB hb; clear hb) | fail)
    go_wp2
    go_ret
    exact ⟨rfl, zb HB⟩
end Go.Proofs.Ytohmipmioaceeaa.PQ
