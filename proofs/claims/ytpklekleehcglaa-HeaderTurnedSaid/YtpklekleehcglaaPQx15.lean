-- by a program of this claim
import Derived.Test.YtpklekleehcglaaPQx0
import Derived.Test.YtpklekleehcglaaPQx1
import Derived.Test.YtpklekleehcglaaPQx4
import Derived.Test.YtpklekleehcglaaPQx5
import Derived.Test.YtpklekleehcglaaPQx6
import Derived.Test.YtpklekleehcglaaPQx7
namespace Go.Proofs.Ytpklekleehcglaa.PQ
open Go.RowKit Go.Proofs.YtpklekleehcglaaW.PrintWords Go.Proofs.YtpklekleehcglaaW.PrintLast Go.Proofs.YtpklekleehcglaaW.PrintMore Go.Proofs.Ytpklekleehcglaa.Z
attribute [local go_sem] max2_int min2_int max_two min_two max_three min_three max_four min_four   -- for this text's walks alone
set_option linter.unusedVariables false
set_option linter.unusedSimpArgs false

attribute [local go_sem high] eqA27
/-! ### grottolaw07_HeaderTurned: function 7 -/
def grottolaw07_HeaderTurned.j0 : Nat → Int → List Int → Bool → Option (Bool)
  | 0, _, _, _ => none
  | k + 1, x2, x7, x35 => if x35 = true then ((grottolaw07_live.f k).bind fun t379 => (some t379)) else (if 0 ≤ (wrap64 (Int.tdiv x2 8)) then (if (wrap64 (Int.tdiv x2 8)) < (x7.length : Int) then (if 0 ≤ (Int.tmod x2 8) then ((header_Parse.f k (x7.set ((wrap64 (Int.tdiv x2 8)) : Int).toNat (Go.bits .xor .u8 (rd x7 (wrap64 (Int.tdiv x2 8))) (shl .u8 1 (Int.tmod x2 8))))).bind fun bt382 => (if (bt382.1 == 0 && (bt382.2.1 == 0 && (bt382.2.2.1 == 0 && (bt382.2.2.2.1 == 0 && (bt382.2.2.2.2.1 == 0 && (bt382.2.2.2.2.2.1 == 0 && (bt382.2.2.2.2.2.2.1 == 0 && (bt382.2.2.2.2.2.2.2.1 == 0)))))))) = true then ((grottolaw07_num.f bt382.2.2.2.2.2.2.2.2.1).bind fun t393 => (if t393 = 0 then (some false) else (if bt382.2.2.2.2.2.2.2.2.2 ≤ 32 then ((grottolaw07_live.f k).bind fun t394 => (some t394)) else (some false)))) else (some false))) else (none)) else (none)) else (none))
def grottolaw07_HeaderTurned.f (k : Nat) (a0_0 : Int) (a0_1 : Int) (a0_2 : Int) (a0_3 : Int) (a0_4 : Int) (a0_5 : Int) (a0_6 : Int) (a0_7 : Int) (l1 : List Int) (a2 : Int) : Option (Bool) := if (l1.length : Int) > 65536 then ((grottolaw07_live.f k).bind fun t373 => (some t373)) else ((header_Make.f k a0_0 a0_1 a0_2 a0_3 a0_4 a0_5 a0_6 a0_7 l1).bind fun bt374 => ((grottolaw07_num.f bt374.2).bind fun t378 => (if t378 = 0 then (if a2 < 0 then (grottolaw07_HeaderTurned.j0 k a2 bt374.1 true) else (grottolaw07_HeaderTurned.j0 k a2 bt374.1 (decide (a2 ≥ (wrap64 (8 * (bt374.1.length : Int))))))) else (grottolaw07_HeaderTurned.j0 k a2 bt374.1 true))))
theorem grottolaw07_HeaderTurned.mono_l : ∀ k, (∀ y0 y1 y2, LeO (grottolaw07_HeaderTurned.j0 k y0 y1 y2) (grottolaw07_HeaderTurned.j0 (k + 1) y0 y1 y2))
  | 0 => fun _ _ _ r h => by simp [grottolaw07_HeaderTurned.j0] at h
  | k + 1 => by
    have ih0 := grottolaw07_HeaderTurned.mono_l k
    · intro y0 y1 y2
      unfold grottolaw07_HeaderTurned.j0
      repeat' first
      | (with_reducible exact ih0 _ _ _)
      | (with_reducible exact grottolaw07_live.mono _)
      | (with_reducible exact header_Make.mono _ _ _ _ _ _ _ _ _ _)
      | (with_reducible exact header_Parse.mono _ _)
      | (with_reducible exact LeO.refl _)
      | (with_reducible exact LeO.none _)
      | (with_reducible refine LeO.ite ?_ ?_)
      | (with_reducible refine LeO.bind ?_ (fun _ => ?_))
      | exact ih0 _ _ _
      | exact grottolaw07_live.mono _
      | exact header_Make.mono _ _ _ _ _ _ _ _ _ _
      | exact header_Parse.mono _ _
      | exact LeO.none _
      | refine LeO.ite ?_ ?_
      | refine LeO.bind ?_ (fun _ => ?_)
theorem grottolaw07_HeaderTurned.mono : ∀ a0 a1 a2 a3 a4 a5 a6 a7 a8 a9 k, LeO (grottolaw07_HeaderTurned.f k a0 a1 a2 a3 a4 a5 a6 a7 a8 a9) (grottolaw07_HeaderTurned.f (k + 1) a0 a1 a2 a3 a4 a5 a6 a7 a8 a9) := by
  intro a0 a1 a2 a3 a4 a5 a6 a7 a8 a9 k
  have ih0 := grottolaw07_HeaderTurned.mono_l k
  unfold grottolaw07_HeaderTurned.f
  repeat' first
      | (with_reducible exact ih0 _ _ _)
      | (with_reducible exact grottolaw07_live.mono _)
      | (with_reducible exact header_Make.mono _ _ _ _ _ _ _ _ _ _)
      | (with_reducible exact header_Parse.mono _ _)
      | (with_reducible exact LeO.refl _)
      | (with_reducible exact LeO.none _)
      | (with_reducible refine LeO.ite ?_ ?_)
      | (with_reducible refine LeO.bind ?_ (fun _ => ?_))
      | exact ih0 _ _ _
      | exact grottolaw07_live.mono _
      | exact header_Make.mono _ _ _ _ _ _ _ _ _ _
      | exact header_Parse.mono _ _
      | exact LeO.none _
      | refine LeO.ite ?_ ?_
      | refine LeO.bind ?_ (fun _ => ?_)
def grottolaw07_HeaderTurned.T6 : Bool × List (List Nat × List Nat) := (true, [([], []), ([], []), ([1], [1]), ([], []), ([], []), ([4], [4]), ([3, 5], [3, 5]), ([6], [6]), ([], []), ([8], [8]), ([9], [9]), ([7, 10], [7, 10]), ([0, 2, 0, 1, 2, 3, 4, 5, 6, 7, 8, 9, 10, 11], [0, 2]), ([12, 11, 0, 1, 2, 3, 4, 5, 6, 7, 8, 9, 10, 11], [11, 12])])
def grottolaw07_HeaderTurned.B6 : List Nat := [0, 0, 2, 0, 0, 16, 56, 120, 0, 256, 768, 2040, 4095, 8191]
theorem grottolaw07_HeaderTurned.tab6 : rtab .any (opsOf Try.f7 6) = grottolaw07_HeaderTurned.T6 := by kernel_rfl
theorem grottolaw07_HeaderTurned.bits6 : waitsOk grottolaw07_HeaderTurned.T6.2 grottolaw07_HeaderTurned.B6 = true := by kernel_rfl
set_option maxHeartbeats 8000000 in
set_option maxRecDepth 100000 in
theorem grottolaw07_HeaderTurned.calls (k : Nat) (a0_0 : Int) (a0_1 : Int) (a0_2 : Int) (a0_3 : Int) (a0_4 : Int) (a0_5 : Int) (a0_6 : Int) (a0_7 : Int) (A1 : Option Addr) (c1 : Nat) (l1 : List Int) (a2 : Int) (r : Bool) (w : World) (hr1 : Kd.C (Kd.int .u8) w A1 l1.length l1) (hc1 : l1.length ≤ c1) (h : grottolaw07_HeaderTurned.f k a0_0 a0_1 a0_2 a0_3 a0_4 a0_5 a0_6 a0_7 l1 a2 = some r) (hr : r = true := by rfl) :
    Calls Try.prog 7 #[.agg #[.int .u32 a0_0, .int .u32 a0_1, .int .u32 a0_2, .int .u32 a0_3, .int .u32 a0_4, .int .u32 a0_5, .int .u32 a0_6, .int .u32 a0_7], .slice A1 l1.length c1, .int .i64 a2] w fun e w' => e = .returned (.bool r) ∧ Below w.heap.size w w' := by
  have HRT := Aside0.mk hr
  clear hr
  have hu27 := Try.underlying27
  have HR1 := Aside0.mk hr1
  have HC1 := Aside0.mk hc1
  clear hr1 hc1
  have HB := Aside0.mk (Below.refl w.heap.size w)
  have H : (if (l1.length : Int) > 65536 then ((grottolaw07_live.f k).bind fun t373 => (some t373)) else ((header_Make.f k a0_0 a0_1 a0_2 a0_3 a0_4 a0_5 a0_6 a0_7 l1).bind fun bt374 => ((grottolaw07_num.f bt374.2).bind fun t378 => (if t378 = 0 then (if a2 < 0 then (grottolaw07_HeaderTurned.j0 k a2 bt374.1 true) else (grottolaw07_HeaderTurned.j0 k a2 bt374.1 (decide (a2 ≥ (wrap64 (8 * (bt374.1.length : Int))))))) else (grottolaw07_HeaderTurned.j0 k a2 bt374.1 true))))) = some r := h
  clear h
  by_cases c4 : (l1.length : Int) > 65536
  · rw [if_pos c4] at H
    have c4b0 : decide (65536 < (l1.length : Int)) = true := decide_eq_true c4
    have c4b1 : decide (65536 < l1.length) = true := decide_eq_true (by omega)
    clear c4
    replace H := Option.bind_eq_some_iff.mp H
    obtain ⟨t373, A50, H⟩ := H
    replace H : (some t373) = some r := H
    have A5 := Aside0.mk A50
    clear A50
    obtain rfl := Option.some.inj H
    go_enter Try.func7, Try.ntmps7
    go_wp2_with (first | ((with_reducible refine gate_dst (N := 3) rfl ?_); (try (refine gate_guard (by rfl) ?_; dsimp only)); refine zbox (N := 3) (cs := #[.int .u32 a0_0, .int .u32 a0_1, .int .u32 a0_2, .int .u32 a0_3, .int .u32 a0_4, .int .u32 a0_5, .int .u32 a0_6, .int .u32 a0_7]) (t := 27) ?_; intro gb372 hg w6 hbox hb; have BK372 := Aside0.mk hbox; have GW372 := zge hg HB; have GE372 := zge hg HB; replace HB := zbs HB hb; clear hb hbox hg) | ((with_reducible refine gate_callee (f := 10) rfl ?_); refine zgo (some 15) Try.func10 #[] ?_; (with_reducible refine (grottolaw07_live.calls k  t373 _ A5.out).mono ?_); rintro e w7 ⟨rfl, hb⟩; refine ⟨_, rfl, ?_⟩; replace BK372 := zkb BK372 hb; replace HB := zbs HB hb; (try clear hb); (try clear hb2); (try clear hk); (try clear hi)))
    go_ret
    exact ⟨by first | rfl | (simp [errW_none, errW_some] <;> rfl) | (simp [*, errW_none, errW_some] <;> rfl), zb HB⟩
  · rw [if_neg c4] at H
    have c4b0 : decide (65536 < (l1.length : Int)) = false := decide_eq_false c4
    have c4b1 : decide (65536 < l1.length) = false := decide_eq_false (by omega)
    clear c4
    replace H := Option.bind_eq_some_iff.mp H
    obtain ⟨⟨t374, t377⟩, A80, H⟩ := H
    replace H : ((grottolaw07_num.f t377).bind fun t378 => (if t378 = 0 then (if a2 < 0 then (grottolaw07_HeaderTurned.j0 k a2 t374 true) else (grottolaw07_HeaderTurned.j0 k a2 t374 (decide (a2 ≥ (wrap64 (8 * (t374.length : Int))))))) else (grottolaw07_HeaderTurned.j0 k a2 t374 true))) = some r := H
    have A8 := Aside0.mk A80
    clear A80
    have HC9 := Aside0.mk H
    clear H
    go_enter Try.func7, Try.ntmps7
    go_upto_region 4 with (first | ((with_reducible refine gate_dst (N := 3) rfl ?_); (try (refine gate_guard (by rfl) ?_; dsimp only)); refine zbox (N := 3) (cs := #[.int .u32 a0_0, .int .u32 a0_1, .int .u32 a0_2, .int .u32 a0_3, .int .u32 a0_4, .int .u32 a0_5, .int .u32 a0_6, .int .u32 a0_7]) (t := 27) ?_; intro gb372 hg w10 hbox hb; have BK372 := Aside0.mk hbox; have GW372 := zge hg HB; have GE372 := zge hg HB; replace HB := zbs HB hb; clear hb hbox hg; have hcz11_0 : w10.cell? ⟨gb372, 0, none⟩ = some (.int .u32 a0_0) := (blk_cell BK372.out 0).trans rfl; have hcz11_1 : w10.cell? ⟨gb372, 1, none⟩ = some (.int .u32 a0_1) := (blk_cell BK372.out 1).trans rfl; have hcz11_2 : w10.cell? ⟨gb372, 2, none⟩ = some (.int .u32 a0_2) := (blk_cell BK372.out 2).trans rfl; have hcz11_3 : w10.cell? ⟨gb372, 3, none⟩ = some (.int .u32 a0_3) := (blk_cell BK372.out 3).trans rfl; have hcz11_4 : w10.cell? ⟨gb372, 4, none⟩ = some (.int .u32 a0_4) := (blk_cell BK372.out 4).trans rfl; have hcz11_5 : w10.cell? ⟨gb372, 5, none⟩ = some (.int .u32 a0_5) := (blk_cell BK372.out 5).trans rfl; have hcz11_6 : w10.cell? ⟨gb372, 6, none⟩ = some (.int .u32 a0_6) := (blk_cell BK372.out 6).trans rfl; have hcz11_7 : w10.cell? ⟨gb372, 7, none⟩ = some (.int .u32 a0_7) := (blk_cell BK372.out 7).trans rfl; have hfz11_0 := blk_frozen BK372.out 0; have hfz11_1 := blk_frozen BK372.out 1; have hfz11_2 := blk_frozen BK372.out 2; have hfz11_3 := blk_frozen BK372.out 3; have hfz11_4 := blk_frozen BK372.out 4; have hfz11_5 := blk_frozen BK372.out 5; have hfz11_6 := blk_frozen BK372.out 6; have hfz11_7 := blk_frozen BK372.out 7) | ((with_reducible refine gate_callee (f := 18) rfl ?_); refine zgo (some 19) Try.func18 #[.agg #[.int .u32 a0_0, .int .u32 a0_1, .int .u32 a0_2, .int .u32 a0_3, .int .u32 a0_4, .int .u32 a0_5, .int .u32 a0_6, .int .u32 a0_7], .slice A1 l1.length c1] ?_; (with_reducible refine (header_Make.calls k a0_0 a0_1 a0_2 a0_3 a0_4 a0_5 a0_6 a0_7 _ _ l1 t374 t377 _ ?side1 ?side2 A8.out).mono ?_); (case side1 => repeat (first | exact (Kd.C_below HR1.out HB.out) | (with_reducible refine Kd.C_alloc ?_ _) | (with_reducible refine Kd.C_drewN ?_ _) | (with_reducible refine Kd.C_drew ?_))); (case side2 => exact HC1.out); rintro e w12 ⟨v375, rfl, ho0, hb⟩; refine ⟨_, rfl, ?_⟩; have HO376 := Aside0.mk (Kd.R_lower ho0 (below_size (zb HB))); replace BK372 := zkb BK372 hb; replace HB := zbs HB hb; (try clear hb); (try clear hb2); (try clear hk); (try clear hi); (try clear ho0)))
    (try simp only [Act.put, List.setIfInBounds_toArray, List.set_cons_zero, List.set_cons_succ])
    go_cut [35] (fun v35 wc => ∃ (kq : Nat) (x35_8 : Bool), v35 = .bool x35_8 ∧ Aside0 (grottolaw07_HeaderTurned.j0 kq a2 t374 x35_8 = some r) ∧ Aside0 (kq ≤ k) ∧ Aside0 (Kd.R (Kd.int .u8) 5 wc w.heap.size (fun _ => True) v375 t374) ∧ Aside0 (wc.heap[gb372]? = some (.cells #[.int .u32 a0_0, .int .u32 a0_1, .int .u32 a0_2, .int .u32 a0_3, .int .u32 a0_4, .int .u32 a0_5, .int .u32 a0_6, .int .u32 a0_7] 27 (0, 0))) ∧ Aside0 (Below w.heap.size w wc))
    case first =>
      have H := HC9.out
      clear HC9
      replace H := Option.bind_eq_some_iff.mp H
      obtain ⟨t378, A130, H⟩ := H
      replace H : (if t378 = 0 then (if a2 < 0 then (grottolaw07_HeaderTurned.j0 k a2 t374 true) else (grottolaw07_HeaderTurned.j0 k a2 t374 (decide (a2 ≥ (wrap64 (8 * (t374.length : Int))))))) else (grottolaw07_HeaderTurned.j0 k a2 t374 true)) = some r := H
      have A13 := Aside0.mk A130
      clear A130
      by_cases c14 : t378 = 0
      · rw [if_pos c14] at H
        have c14b0 : (t378 == 0) = true := beq_iff_eq.mpr c14
        have c14b1 : (t378 != 0) = false := bne_eq_false_iff_eq.mpr c14
        clear c14
        (first | rw [c14b0] | (simp only [i64_w, i32_w]; rw [c14b0]) | skip)
        by_cases c15 : a2 < 0
        · rw [if_pos c15] at H
          have c15b0 : decide (a2 < 0) = true := decide_eq_true c15
          clear c15
          have H' := Aside0.mk H
          clear H
          go_wp2_with (first | ((with_reducible refine gate_callee (f := 14) rfl ?_); refine zgo (some 23) Try.func14 #[.int .i64 t377] ?_; (with_reducible refine (grottolaw07_num.calls t377 t378 _ A13.out).mono ?_); rintro e w' ⟨rfl, ⟨nd, rfl⟩⟩; refine ⟨_, rfl, ?_⟩))
          go_meet
          case rel => exact ⟨_, (true), (by first | rfl | (simp; done) | (simp [*]; done)), H', ⟨by first | omega | exact Nat.le_refl _⟩, ⟨by (with_reducible repeat (first | apply Kd.R_alloc | apply Kd.R_drewN | apply Kd.R_drew)); exact HO376.out⟩, ⟨zk BK372⟩, ⟨zb HB⟩⟩
        · rw [if_neg c15] at H
          have c15b0 : decide (a2 < 0) = false := decide_eq_false c15
          clear c15
          have H' := Aside0.mk H
          clear H
          go_wp2_with (first | ((with_reducible refine gate_callee (f := 14) rfl ?_); refine zgo (some 23) Try.func14 #[.int .i64 t377] ?_; (with_reducible refine (grottolaw07_num.calls t377 t378 _ A13.out).mono ?_); rintro e w' ⟨rfl, ⟨nd, rfl⟩⟩; refine ⟨_, rfl, ?_⟩; obtain ⟨Ao16, co16, eo16⟩ := Kd.R_slice HO376.out; subst eo16))
          go_meet
          case rel => exact ⟨_, (decide (a2 ≥ (wrap64 (8 * (t374.length : Int))))), (by first | rfl | (simp; done) | (simp [*]; done)), H', ⟨by first | omega | exact Nat.le_refl _⟩, ⟨by (with_reducible repeat (first | apply Kd.R_alloc | apply Kd.R_drewN | apply Kd.R_drew)); exact HO376.out⟩, ⟨zk BK372⟩, ⟨zb HB⟩⟩
      · rw [if_neg c14] at H
        have c14b0 : (t378 == 0) = false := beq_eq_false_iff_ne.mpr c14
        have c14b1 : (t378 != 0) = true := bne_iff_ne.mpr c14
        (first | rw [c14b0] | (simp only [i64_w, i32_w]; rw [c14b0]) | skip)
        have H' := Aside0.mk H
        clear H
        go_wp2_with (first | ((with_reducible refine gate_callee (f := 14) rfl ?_); refine zgo (some 23) Try.func14 #[.int .i64 t377] ?_; (with_reducible refine (grottolaw07_num.calls t377 t378 _ A13.out).mono ?_); rintro e w' ⟨rfl, ⟨nd, rfl⟩⟩; refine ⟨_, rfl, ?_⟩))
        go_meet
        case rel => exact ⟨_, (true), (by first | rfl | (simp; done) | (simp [*]; done)), H', ⟨by first | omega | exact Nat.le_refl _⟩, ⟨by (with_reducible repeat (first | apply Kd.R_alloc | apply Kd.R_drewN | apply Kd.R_drew)); exact HO376.out⟩, ⟨zk BK372⟩, ⟨zb HB⟩⟩
    case rest =>
      clear HC9
      try clear c1
      try clear p2
      try clear c4
      try clear c4b0
      try clear c4b1
      try clear p6
      try clear c7
      try clear c10
      try clear c14
      try clear c14b0
      try clear c14b1
      try clear c15
      try clear c15b0
      try clear hcz11_0
      try clear hcz11_1
      try clear hcz11_2
      try clear hcz11_3
      try clear hcz11_4
      try clear hcz11_5
      try clear hcz11_6
      try clear hcz11_7
      try clear hfz11_0
      try clear hfz11_1
      try clear hfz11_2
      try clear hfz11_3
      try clear hfz11_4
      try clear hfz11_5
      try clear hfz11_6
      try clear hfz11_7
      obtain ⟨kq, x35_8, rfl, HA, HJ8, HO_7, BK372, HB⟩ := hcut
      cases kq with
      | zero => exact absurd HA.out (by simp [grottolaw07_HeaderTurned.j0])
      | succ kj8 =>
        have H := HA.out
        clear HA
        simp only [grottolaw07_HeaderTurned.j0] at H
        by_cases c17 : x35_8 = true
        · subst c17
          have H1 : ((grottolaw07_live.f kj8).bind fun t379 => (some t379)) = some r := by rw [if_pos rfl] at H; exact H
          clear H
          have H := H1
          clear H1
          replace H := Option.bind_eq_some_iff.mp H
          obtain ⟨t379, A180, H⟩ := H
          replace H : (some t379) = some r := H
          have A18 := Aside0.mk A180
          clear A180
          obtain rfl := Option.some.inj H
          go_wp2_with (first | ((with_reducible refine gate_callee (f := 10) rfl ?_); refine zgo (some 36) Try.func10 #[] ?_; (with_reducible refine (grottolaw07_live.calls kj8  t379 _ A18.out).mono ?_); rintro e w19 ⟨rfl, hb⟩; refine ⟨_, rfl, ?_⟩; replace HO_7 := Aside0.mk (Kd.R_below (by (with_reducible repeat (first | apply Kd.R_alloc | apply Kd.R_drewN | apply Kd.R_drew)); exact HO_7.out) hb); replace BK372 := zkb BK372 hb; replace HB := zbs HB hb; (try clear hb); (try clear hb2); (try clear hk); (try clear hi)))
          go_ret
          exact ⟨by first | rfl | (simp [errW_none, errW_some] <;> rfl) | (simp [*, errW_none, errW_some] <;> rfl), zb HB⟩
        · replace c17 := Bool.eq_false_iff.mpr c17
          subst c17
          have H1 : (if 0 ≤ (wrap64 (Int.tdiv a2 8)) then (if (wrap64 (Int.tdiv a2 8)) < (t374.length : Int) then (if 0 ≤ (Int.tmod a2 8) then ((header_Parse.f kj8 (t374.set ((wrap64 (Int.tdiv a2 8)) : Int).toNat (Go.bits .xor .u8 (rd t374 (wrap64 (Int.tdiv a2 8))) (shl .u8 1 (Int.tmod a2 8))))).bind fun bt382 => (if (bt382.1 == 0 && (bt382.2.1 == 0 && (bt382.2.2.1 == 0 && (bt382.2.2.2.1 == 0 && (bt382.2.2.2.2.1 == 0 && (bt382.2.2.2.2.2.1 == 0 && (bt382.2.2.2.2.2.2.1 == 0 && (bt382.2.2.2.2.2.2.2.1 == 0)))))))) = true then ((grottolaw07_num.f bt382.2.2.2.2.2.2.2.2.1).bind fun t393 => (if t393 = 0 then (some false) else (if bt382.2.2.2.2.2.2.2.2.2 ≤ 32 then ((grottolaw07_live.f kj8).bind fun t394 => (some t394)) else (some false)))) else (some false))) else (none)) else (none)) else (none)) = some r := by rw [if_neg (show ¬ (false = true) by decide)] at H; exact H
          clear H
          have H := H1
          clear H1
          obtain ⟨ji20, hji20⟩ : ∃ j_ : Int, (wrap64 (Int.tdiv a2 8)) = j_ := ⟨_, rfl⟩
          replace H : (if 0 ≤ (ji20) then (if (ji20) < (t374.length : Int) then (if 0 ≤ (Int.tmod a2 8) then ((header_Parse.f kj8 (t374.set ((ji20) : Int).toNat (Go.bits .xor .u8 (rd t374 (ji20)) (shl .u8 1 (Int.tmod a2 8))))).bind fun bt382 => (if (bt382.1 == 0 && (bt382.2.1 == 0 && (bt382.2.2.1 == 0 && (bt382.2.2.2.1 == 0 && (bt382.2.2.2.2.1 == 0 && (bt382.2.2.2.2.2.1 == 0 && (bt382.2.2.2.2.2.2.1 == 0 && (bt382.2.2.2.2.2.2.2.1 == 0)))))))) = true then ((grottolaw07_num.f bt382.2.2.2.2.2.2.2.2.1).bind fun t393 => (if t393 = 0 then (some false) else (if bt382.2.2.2.2.2.2.2.2.2 ≤ 32 then ((grottolaw07_live.f kj8).bind fun t394 => (some t394)) else (some false)))) else (some false))) else (none)) else (none)) else (none)) = some r := by first | (rw [hji20] at H; exact H) | (simp only [hji20] at H ⊢; exact H)
          have hji20w : (IntKind.i64.wrap (Int.tdiv a2 8)) = ji20 := (i64_w _).trans hji20
          by_cases c21 : 0 ≤ (ji20)
          · rw [if_pos c21] at H
            have c21b0 : decide (0 ≤ (ji20)) = true := decide_eq_true c21
            clear c21
            by_cases c22 : (ji20) < (t374.length : Int)
            · rw [if_pos c22] at H
              have c22b0 : decide ((ji20) < (t374.length : Int)) = true := decide_eq_true c22
              clear c22
              obtain ⟨ji23, hji23⟩ : ∃ j_ : Int, (Int.tmod a2 8) = j_ := ⟨_, rfl⟩
              replace H : (if 0 ≤ (ji23) then ((header_Parse.f kj8 (t374.set ((ji20) : Int).toNat (Go.bits .xor .u8 (rd t374 (ji20)) (shl .u8 1 (ji23))))).bind fun bt382 => (if (bt382.1 == 0 && (bt382.2.1 == 0 && (bt382.2.2.1 == 0 && (bt382.2.2.2.1 == 0 && (bt382.2.2.2.2.1 == 0 && (bt382.2.2.2.2.2.1 == 0 && (bt382.2.2.2.2.2.2.1 == 0 && (bt382.2.2.2.2.2.2.2.1 == 0)))))))) = true then ((grottolaw07_num.f bt382.2.2.2.2.2.2.2.2.1).bind fun t393 => (if t393 = 0 then (some false) else (if bt382.2.2.2.2.2.2.2.2.2 ≤ 32 then ((grottolaw07_live.f kj8).bind fun t394 => (some t394)) else (some false)))) else (some false))) else (none)) = some r := by first | (rw [hji23] at H; exact H) | (simp only [hji23] at H ⊢; exact H)
              by_cases c24 : 0 ≤ (ji23)
              · rw [if_pos c24] at H
                have c24b0 := eq_true c24
                have c24b1 : decide (0 ≤ (ji23)) = true := decide_eq_true c24
                clear c24
                obtain ⟨ji25, hji25⟩ : ∃ j_ : Int, (shl .u8 1 (ji23)) = j_ := ⟨_, rfl⟩
                replace H : ((header_Parse.f kj8 (t374.set ((ji20) : Int).toNat (Go.bits .xor .u8 (rd t374 (ji20)) (ji25)))).bind fun bt382 => (if (bt382.1 == 0 && (bt382.2.1 == 0 && (bt382.2.2.1 == 0 && (bt382.2.2.2.1 == 0 && (bt382.2.2.2.2.1 == 0 && (bt382.2.2.2.2.2.1 == 0 && (bt382.2.2.2.2.2.2.1 == 0 && (bt382.2.2.2.2.2.2.2.1 == 0)))))))) = true then ((grottolaw07_num.f bt382.2.2.2.2.2.2.2.2.1).bind fun t393 => (if t393 = 0 then (some false) else (if bt382.2.2.2.2.2.2.2.2.2 ≤ 32 then ((grottolaw07_live.f kj8).bind fun t394 => (some t394)) else (some false)))) else (some false))) = some r := by first | (rw [hji25] at H; exact H) | (simp only [hji25] at H ⊢; exact H)
                have hji25_ : (IntKind.u8.wrap (1 * 2 ^ min (ji23).toNat 8)) = ji25 := hji25
                have hji25z : (ji23) ≤ 8 → (IntKind.u8.wrap (1 * 2 ^ (ji23).toNat)) = ji25 := shl_small hji25
                have hji25u : (IntKind.u8.wrap (2 ^ min (ji23).toNat 8)) = ji25 := by have h_ := hji25_; rw [Int.one_mul] at h_; exact h_
                have hji25v : (ji23) ≤ 8 → (IntKind.u8.wrap (2 ^ (ji23).toNat)) = ji25 := fun hle_ => by have h_ := hji25z hle_; rw [Int.one_mul] at h_; exact h_
                obtain ⟨y381, hy381⟩ : ∃ y_ : List Int, y_ = (t374.set ((ji20) : Int).toNat (Go.bits .xor .u8 (rd t374 (ji20)) (ji25))) := ⟨_, rfl⟩
                replace H : ((header_Parse.f kj8 y381).bind fun bt382 => (if (bt382.1 == 0 && (bt382.2.1 == 0 && (bt382.2.2.1 == 0 && (bt382.2.2.2.1 == 0 && (bt382.2.2.2.2.1 == 0 && (bt382.2.2.2.2.2.1 == 0 && (bt382.2.2.2.2.2.2.1 == 0 && (bt382.2.2.2.2.2.2.2.1 == 0)))))))) = true then ((grottolaw07_num.f bt382.2.2.2.2.2.2.2.2.1).bind fun t393 => (if t393 = 0 then (some false) else (if bt382.2.2.2.2.2.2.2.2.2 ≤ 32 then ((grottolaw07_live.f kj8).bind fun t394 => (some t394)) else (some false)))) else (some false))) = some r := by first | (rw [hy381]; with_reducible exact H) | (have H2_ := (Option.bind_some _ _).symm.trans H; rw [hy381]; with_reducible exact H2_) | (have H2_ := (Option.bind_some _ _).symm.trans H; with_reducible exact H2_) | with_reducible exact H | (rw [hy381]; exact H) | exact H
                have Ny381 := Aside0.mk hy381
                clear hy381
                replace H := Option.bind_eq_some_iff.mp H
                obtain ⟨⟨t382, t383, t384, t385, t386, t387, t388, t389, t390, t391⟩, A270, H⟩ := H
                replace H : (if (t382 == 0 && (t383 == 0 && (t384 == 0 && (t385 == 0 && (t386 == 0 && (t387 == 0 && (t388 == 0 && (t389 == 0)))))))) = true then ((grottolaw07_num.f t390).bind fun t393 => (if t393 = 0 then (some false) else (if t391 ≤ 32 then ((grottolaw07_live.f kj8).bind fun t394 => (some t394)) else (some false)))) else (some false)) = some r := H
                have A27 := Aside0.mk A270
                clear A270
                by_cases c28 : (t382 == 0 && (t383 == 0 && (t384 == 0 && (t385 == 0 && (t386 == 0 && (t387 == 0 && (t388 == 0 && (t389 == 0)))))))) = true
                · rw [if_pos c28] at H
                  have c28b0 : (t382 == 0 && (t383 == 0 && (t384 == 0 && (t385 == 0 && (t386 == 0 && (t387 == 0 && (t388 == 0 && (t389 == 0)))))))) = true := c28
                  (try (have c28b1 : decide (t382 = 0 && (t383 == 0 && (t384 == 0 && (t385 == 0 && (t386 == 0 && (t387 == 0 && (t388 == 0 && (t389 == 0)))))))) = true := by simpa using c28))
                  (try (have c28b2 : (t382 == 0 && (t383 == 0 && (t384 == 0 && (t385 == 0 && (t386 == 0 && (t387 == 0 && (t388 == 0 && (t389 == 0)))))))) = true := by simpa using c28))
                  clear c28
                  replace H := Option.bind_eq_some_iff.mp H
                  obtain ⟨t393, A290, H⟩ := H
                  replace H : (if t393 = 0 then (some false) else (if t391 ≤ 32 then ((grottolaw07_live.f kj8).bind fun t394 => (some t394)) else (some false))) = some r := H
                  have A29 := Aside0.mk A290
                  clear A290
                  by_cases c30 : t393 = 0
                  · rw [if_pos c30] at H
                    have c30b0 : (t393 == 0) = true := beq_iff_eq.mpr c30
                    have c30b1 : (t393 != 0) = false := bne_eq_false_iff_eq.mpr c30
                    clear c30
                    obtain rfl := Option.some.inj H
                    try go_wp2
                    replace HO_7 := Aside0.mk (Kd.R_drew HO_7.out)
                    replace BK372 := Aside0.mk (blk_drew BK372.out)
                    replace HB := Aside0.mk (below_drew1 HB.out)
                    obtain ⟨Ao32, co32, eo32⟩ := Kd.R_slice HO_7.out
                    (first | subst eo32 | (injection eo32 with f1_ f2_ f3_; have f4_ := f1_.symm; have f5_ := f3_.symm; clear f1_ f2_ f3_; subst f4_; subst f5_))
                    have p380 : 0 ≤ ((ji20) : Int) := of_decide_eq_true (by first | (with_reducible assumption) | assumption)
                    have q380 : (ji20) < (t374.length : Int) := of_decide_eq_true (by first | (with_reducible assumption) | assumption)
                    obtain ⟨ad380, e380, hx380_0⟩ := Kd.at_int (Kd.R_reads' HO_7.out).2.2 (ji20) p380 q380
                    cases e380
                    replace p380 := eq_true p380
                    replace q380 := eq_true q380
                    have p26 : 0 ≤ ((ji20) : Int) := of_decide_eq_true (by first | (with_reducible assumption) | assumption)
                    have q26 : ((ji20) : Int) < ((t374.length : Int) : Int) := of_decide_eq_true (by first | (with_reducible assumption) | assumption)
                    obtain ⟨go26, co26, eo26, gb26, gl26, cl26, HG26⟩ := Kd.R_form HO_7.out (by omega)
                    (first | cases eo26 | (injection eo26 with ea_ en_ ec_; (first | subst ea_ | (injection ea_ with ea_; subst ea_)); subst ec_; clear en_))
                    have GB26 := Aside0.mk gb26
                    have GG26 := Aside0.mk HG26
                    clear gb26 gl26 HG26
                    (first | simp only [add_plain] at hx380_0 | skip)
                    obtain ⟨hx26_0, hf26_0⟩ := Kd.R_celln 0 HO_7.out ((ji20) : Int) p26 q26
                    replace p26 := eq_true p26
                    replace q26 := eq_true q26
                    have HP33 := Kd.R_putn HO_7.out ((ji20) : Int) (Go.bits .xor .u8 (rd t374 (ji20)) (ji25))
                    rw [← Ny381.out] at HP33
                    have HQ33 := Aside0.mk HP33
                    clear HP33
                    refine start_ (n := 14) (S := fun w' => w'.cell? ⟨go26, ((ji20)).toNat, none⟩ = some (.int .u8 (rd t374 (ji20)))) (ds := [13]) #[false, false, false, false, false, false, false, false, false, false, false, false, false, false] (by kernel_rfl) rfl rfl (hx380_0) (fun hHeld => ?_); refine with_tabW grottolaw07_HeaderTurned.tab6 grottolaw07_HeaderTurned.bits6 (fun HT_ HW_ => ?_)
                    generalize wc.drew = w31 at HO_7 BK372 HB GG26 HQ33 hf26_0 hx26_0 hx380_0 hHeld ⊢
                    refine zpure_ (i := 0) (N := some 37) #[true, false, false, false, false, false, false, false, false, false, false, false, false, false] (any_of HT_.out (by kernel_rfl)) ?_
                    refine zpure_ (i := 1) (N := some 38) #[true, true, false, false, false, false, false, false, false, false, false, false, false, false] (any_of HT_.out (by kernel_rfl)) ?_
                    refine zpure_ (i := 2) (N := some 39) #[true, true, true, false, false, false, false, false, false, false, false, false, false, false] (any_of HT_.out (by kernel_rfl)) ?_
                    refine zpure_ (i := 3) (N := some 40) #[true, true, true, true, false, false, false, false, false, false, false, false, false, false] (any_of HT_.out (by kernel_rfl)) ?_
                    refine zpure_ (i := 4) (N := some 41) #[true, true, true, true, true, false, false, false, false, false, false, false, false, false] (any_of HT_.out (by kernel_rfl)) ?_
                    refine zpure_ (i := 5) (N := some 42) #[true, true, true, true, true, true, false, false, false, false, false, false, false, false] (any_of HT_.out (by kernel_rfl)) ?_
                    refine zpure_ (i := 6) (N := some 43) #[true, true, true, true, true, true, true, false, false, false, false, false, false, false] (any_of HT_.out (by kernel_rfl)) ?_
                    refine zpure_ (i := 8) (N := some 45) #[true, true, true, true, true, true, true, false, true, false, false, false, false, false] (any_of HT_.out (by kernel_rfl)) ?_
                    refine zpure_ (i := 9) (N := some 46) #[true, true, true, true, true, true, true, false, true, true, false, false, false, false] (any_of HT_.out (by kernel_rfl)) ?_
                    refine zpure_ (i := 10) (N := some 47) #[true, true, true, true, true, true, true, false, true, true, true, false, false, false] (any_of HT_.out (by kernel_rfl)) ?_
                    refine take_ (i := 7) (N := some 44) (v := ?_) (a' := ?_) #[true, true, true, true, true, true, true, true, true, true, true, false, false, false] rfl rfl (take_ofW HT_.out HW_.out (by kernel_rfl)) (fun _ _ _ h => h) (Or.inl ⟨by rfl, ?_⟩) hHeld ?_ ?_
                    rotate_left
                    · intro w' s0
                      go_simp
                      with_reducible rfl
                    rotate_left
                    · simp only [Act.put, List.setIfInBounds_toArray, List.set_cons_zero, List.set_cons_succ, i64_w, i32_w]
                      rfl
                    refine zpure_ (i := 11) (N := some 48) #[true, true, true, true, true, true, true, true, true, true, true, true, false, false] (any_of HT_.out (by kernel_rfl)) ?_
                    refine zpure_ (i := 12) (N := some 49) #[true, true, true, true, true, true, true, true, true, true, true, true, true, false] (any_of HT_.out (by kernel_rfl)) ?_
                    refine last_ (i := 13) (N := none) #[true, true, true, true, true, true, true, true, true, true, true, true, true, true] rfl rfl (one_of HT_.out (by kernel_rfl)) (by decide) (fun K hK => ?_)
                    refine skip_ (w1 := ?_) (by rfl) rfl ?_ ?_
                    rotate_left
                    · go_simp
                      rfl
                    refine hK.out _ _ ?_
                    clear hK K
                    refine done_ (done_of HT_.out (by kernel_rfl)) ?_
                    have n0_ : Aside0 (Kd.R (Kd.int .u8) 5 (w31.setCell ⟨go26, ((ji20) : Int).toNat, none⟩ (.int .u8 (Go.bits .xor .u8 (rd t374 (ji20)) (ji25)))) w.heap.size (fun _ => True) (.slice (some ⟨go26, 0, none⟩) t374.length co32) y381) := ⟨by (with_reducible repeat (first | apply Kd.R_alloc | apply Kd.R_drewN | apply Kd.R_drew)); exact HQ33.out⟩
                    have n1_ : Aside0 ((w31.setCell ⟨go26, ((ji20) : Int).toNat, none⟩ (.int .u8 (Go.bits .xor .u8 (rd t374 (ji20)) (ji25)))).heap[gb372]? = some (.cells #[.int .u32 a0_0, .int .u32 a0_1, .int .u32 a0_2, .int .u32 a0_3, .int .u32 a0_4, .int .u32 a0_5, .int .u32 a0_6, .int .u32 a0_7] 27 (0, 0))) := ⟨by (with_reducible repeat (first | refine blk_drewN ?_ _ | refine blk_drew ?_ | refine blk_alloc ?_ _)); refine blk_far ?_ (by have h_ := Kd.R_ne HO_7.out BK372.out (by decide); intro e_; exact h_ (by rw [e_]; rfl)) _; (with_reducible repeat (first | refine blk_drewN ?_ _ | refine blk_drew ?_ | refine blk_alloc ?_ _)); exact BK372.out⟩
                    have n2_ : Aside0 (Below w.heap.size w (w31.setCell ⟨go26, ((ji20) : Int).toNat, none⟩ (.int .u8 (Go.bits .xor .u8 (rd t374 (ji20)) (ji25))))) := ⟨zb HB⟩
                    (try clear HO_7)
                    (try clear BK372)
                    (try clear HB)
                    generalize (w31.setCell ⟨go26, ((ji20) : Int).toNat, none⟩ (.int .u8 (Go.bits .xor .u8 (rd t374 (ji20)) (ji25)))) = w34 at n0_ n1_ n2_ ⊢
                    have HO_7 := n0_
                    have BK372 := n1_
                    have HB := n2_
                    clear n0_ n1_ n2_
                    try go_wp2_with (first | ((with_reducible refine gate_callee (f := 12) rfl ?_); refine goesL_ (some 52) rfl rfl Try.func12 (by kernel_rfl) rfl #[.slice (some ⟨go26, 0, none⟩) y381.length co32] rfl (by (try simp only [List.map_toArray, List.map_cons, List.map_nil]); first | done | (rw [show y381.length = t374.length from (Kd.R_reads' HO_7.out).1.symm] <;> rfl) | rfl | (simp only [List.length_drop, List.length_take]; rfl)) ?_; (with_reducible refine (header_Parse.calls kj8 _ _ y381 t382 t383 t384 t385 t386 t387 t388 t389 t390 t391 _ ?side1 ?side2 A27.out).mono ?_); (case side1 => repeat (first | exact (Kd.R_reads' HO_7.out).2.2 | (with_reducible refine Kd.C_alloc ?_ _) | (with_reducible refine Kd.C_drewN ?_ _) | (with_reducible refine Kd.C_drew ?_))); (case side2 => rw [show y381.length = t374.length from (Kd.R_reads' HO_7.out).1.symm]; exact (Kd.R_reads' HO_7.out).2.1); rintro e w35 ⟨rfl, hb⟩; refine ⟨_, rfl, ?_⟩; replace HO_7 := Aside0.mk (Kd.R_below (by (with_reducible repeat (first | apply Kd.R_alloc | apply Kd.R_drewN | apply Kd.R_drew)); exact HO_7.out) hb); replace BK372 := zkb BK372 hb; replace HB := zbs HB hb; (try clear hb); (try clear hb2); (try clear hk); (try clear hi)) | ((with_reducible refine gate_dst (N := 9) rfl ?_); (try (refine gate_guard (by rfl) ?_; dsimp only)); refine zbox (N := 9) (cs := #[.int .u32 0, .int .u32 0, .int .u32 0, .int .u32 0, .int .u32 0, .int .u32 0, .int .u32 0, .int .u32 0]) (t := 27) ?_; intro gb392 hg w36 hbox hb; have BK392 := Aside0.mk hbox; have GW392 := zge hg HB; have GE392 := zge hg HB; have NB372_392 := znl hg BK372; have NB392_372 := zng hg BK372; replace HO_7 := Aside0.mk (Kd.R_below (by (with_reducible repeat (first | apply Kd.R_alloc | apply Kd.R_drewN | apply Kd.R_drew)); exact HO_7.out) hb); replace BK372 := zkb BK372 hb; replace HB := zbs HB hb; clear hb hbox hg; have hnb37 := NB392_372.out; have hnc37 := NB372_392.out; have hcz38_0 : w36.cell? ⟨gb392, 0, none⟩ = some (.int .u32 0) := (blk_cell BK392.out 0).trans rfl; have hcz38_1 : w36.cell? ⟨gb392, 1, none⟩ = some (.int .u32 0) := (blk_cell BK392.out 1).trans rfl; have hcz38_2 : w36.cell? ⟨gb392, 2, none⟩ = some (.int .u32 0) := (blk_cell BK392.out 2).trans rfl; have hcz38_3 : w36.cell? ⟨gb392, 3, none⟩ = some (.int .u32 0) := (blk_cell BK392.out 3).trans rfl; have hcz38_4 : w36.cell? ⟨gb392, 4, none⟩ = some (.int .u32 0) := (blk_cell BK392.out 4).trans rfl; have hcz38_5 : w36.cell? ⟨gb392, 5, none⟩ = some (.int .u32 0) := (blk_cell BK392.out 5).trans rfl; have hcz38_6 : w36.cell? ⟨gb392, 6, none⟩ = some (.int .u32 0) := (blk_cell BK392.out 6).trans rfl; have hcz38_7 : w36.cell? ⟨gb392, 7, none⟩ = some (.int .u32 0) := (blk_cell BK392.out 7).trans rfl; have hfz38_0 := blk_frozen BK392.out 0; have hfz38_1 := blk_frozen BK392.out 1; have hfz38_2 := blk_frozen BK392.out 2; have hfz38_3 := blk_frozen BK392.out 3; have hfz38_4 := blk_frozen BK392.out 4; have hfz38_5 := blk_frozen BK392.out 5; have hfz38_6 := blk_frozen BK392.out 6; have hfz38_7 := blk_frozen BK392.out 7) | (go_at_call 14; (with_reducible refine (grottolaw07_num.calls t390 t393 _ A29.out).mono ?_); rintro e w' ⟨rfl, ⟨nd, rfl⟩⟩))
                    go_ret
                    exact ⟨by first | rfl | (simp [errW_none, errW_some] <;> rfl) | (simp only [← hji20, ← hji23, ← hji25]; first | rfl | (simp [errW_none, errW_some] <;> rfl)) | (simp [*, errW_none, errW_some] <;> rfl), zb HB⟩
                  · rw [if_neg c30] at H
                    have c30b0 : (t393 == 0) = false := beq_eq_false_iff_ne.mpr c30
                    have c30b1 : (t393 != 0) = true := bne_iff_ne.mpr c30
                    by_cases c39 : t391 ≤ 32
                    · rw [if_pos c39] at H
                      have c39b0 : decide (t391 ≤ 32) = true := decide_eq_true c39
                      clear c39
                      replace H := Option.bind_eq_some_iff.mp H
                      obtain ⟨t394, A400, H⟩ := H
                      replace H : (some t394) = some r := H
                      have A40 := Aside0.mk A400
                      clear A400
                      obtain rfl := Option.some.inj H
                      try go_wp2
                      replace HO_7 := Aside0.mk (Kd.R_drew HO_7.out)
                      replace BK372 := Aside0.mk (blk_drew BK372.out)
                      replace HB := Aside0.mk (below_drew1 HB.out)
                      obtain ⟨Ao42, co42, eo42⟩ := Kd.R_slice HO_7.out
                      (first | subst eo42 | (injection eo42 with f1_ f2_ f3_; have f4_ := f1_.symm; have f5_ := f3_.symm; clear f1_ f2_ f3_; subst f4_; subst f5_))
                      have p380 : 0 ≤ ((ji20) : Int) := of_decide_eq_true (by first | (with_reducible assumption) | assumption)
                      have q380 : (ji20) < (t374.length : Int) := of_decide_eq_true (by first | (with_reducible assumption) | assumption)
                      obtain ⟨ad380, e380, hx380_0⟩ := Kd.at_int (Kd.R_reads' HO_7.out).2.2 (ji20) p380 q380
                      cases e380
                      replace p380 := eq_true p380
                      replace q380 := eq_true q380
                      have p26 : 0 ≤ ((ji20) : Int) := of_decide_eq_true (by first | (with_reducible assumption) | assumption)
                      have q26 : ((ji20) : Int) < ((t374.length : Int) : Int) := of_decide_eq_true (by first | (with_reducible assumption) | assumption)
                      obtain ⟨go26, co26, eo26, gb26, gl26, cl26, HG26⟩ := Kd.R_form HO_7.out (by omega)
                      (first | cases eo26 | (injection eo26 with ea_ en_ ec_; (first | subst ea_ | (injection ea_ with ea_; subst ea_)); subst ec_; clear en_))
                      have GB26 := Aside0.mk gb26
                      have GG26 := Aside0.mk HG26
                      clear gb26 gl26 HG26
                      (first | simp only [add_plain] at hx380_0 | skip)
                      obtain ⟨hx26_0, hf26_0⟩ := Kd.R_celln 0 HO_7.out ((ji20) : Int) p26 q26
                      replace p26 := eq_true p26
                      replace q26 := eq_true q26
                      have HP43 := Kd.R_putn HO_7.out ((ji20) : Int) (Go.bits .xor .u8 (rd t374 (ji20)) (ji25))
                      rw [← Ny381.out] at HP43
                      have HQ43 := Aside0.mk HP43
                      clear HP43
                      refine start_ (n := 14) (S := fun w' => w'.cell? ⟨go26, ((ji20)).toNat, none⟩ = some (.int .u8 (rd t374 (ji20)))) (ds := [13]) #[false, false, false, false, false, false, false, false, false, false, false, false, false, false] (by kernel_rfl) rfl rfl (hx380_0) (fun hHeld => ?_); refine with_tabW grottolaw07_HeaderTurned.tab6 grottolaw07_HeaderTurned.bits6 (fun HT_ HW_ => ?_)
                      generalize wc.drew = w41 at HO_7 BK372 HB GG26 HQ43 hf26_0 hx26_0 hx380_0 hHeld ⊢
                      refine zpure_ (i := 0) (N := some 37) #[true, false, false, false, false, false, false, false, false, false, false, false, false, false] (any_of HT_.out (by kernel_rfl)) ?_
                      refine zpure_ (i := 1) (N := some 38) #[true, true, false, false, false, false, false, false, false, false, false, false, false, false] (any_of HT_.out (by kernel_rfl)) ?_
                      refine zpure_ (i := 2) (N := some 39) #[true, true, true, false, false, false, false, false, false, false, false, false, false, false] (any_of HT_.out (by kernel_rfl)) ?_
                      refine zpure_ (i := 3) (N := some 40) #[true, true, true, true, false, false, false, false, false, false, false, false, false, false] (any_of HT_.out (by kernel_rfl)) ?_
                      refine zpure_ (i := 4) (N := some 41) #[true, true, true, true, true, false, false, false, false, false, false, false, false, false] (any_of HT_.out (by kernel_rfl)) ?_
                      refine zpure_ (i := 5) (N := some 42) #[true, true, true, true, true, true, false, false, false, false, false, false, false, false] (any_of HT_.out (by kernel_rfl)) ?_
                      refine zpure_ (i := 6) (N := some 43) #[true, true, true, true, true, true, true, false, false, false, false, false, false, false] (any_of HT_.out (by kernel_rfl)) ?_
                      refine zpure_ (i := 8) (N := some 45) #[true, true, true, true, true, true, true, false, true, false, false, false, false, false] (any_of HT_.out (by kernel_rfl)) ?_
                      refine zpure_ (i := 9) (N := some 46) #[true, true, true, true, true, true, true, false, true, true, false, false, false, false] (any_of HT_.out (by kernel_rfl)) ?_
                      refine zpure_ (i := 10) (N := some 47) #[true, true, true, true, true, true, true, false, true, true, true, false, false, false] (any_of HT_.out (by kernel_rfl)) ?_
                      refine take_ (i := 7) (N := some 44) (v := ?_) (a' := ?_) #[true, true, true, true, true, true, true, true, true, true, true, false, false, false] rfl rfl (take_ofW HT_.out HW_.out (by kernel_rfl)) (fun _ _ _ h => h) (Or.inl ⟨by rfl, ?_⟩) hHeld ?_ ?_
                      rotate_left
                      · intro w' s0
                        go_simp
                        with_reducible rfl
                      rotate_left
                      · simp only [Act.put, List.setIfInBounds_toArray, List.set_cons_zero, List.set_cons_succ, i64_w, i32_w]
                        rfl
                      refine zpure_ (i := 11) (N := some 48) #[true, true, true, true, true, true, true, true, true, true, true, true, false, false] (any_of HT_.out (by kernel_rfl)) ?_
                      refine zpure_ (i := 12) (N := some 49) #[true, true, true, true, true, true, true, true, true, true, true, true, true, false] (any_of HT_.out (by kernel_rfl)) ?_
                      refine last_ (i := 13) (N := none) #[true, true, true, true, true, true, true, true, true, true, true, true, true, true] rfl rfl (one_of HT_.out (by kernel_rfl)) (by decide) (fun K hK => ?_)
                      refine skip_ (w1 := ?_) (by rfl) rfl ?_ ?_
                      rotate_left
                      · go_simp
                        rfl
                      refine hK.out _ _ ?_
                      clear hK K
                      refine done_ (done_of HT_.out (by kernel_rfl)) ?_
                      have n0_ : Aside0 (Kd.R (Kd.int .u8) 5 (w41.setCell ⟨go26, ((ji20) : Int).toNat, none⟩ (.int .u8 (Go.bits .xor .u8 (rd t374 (ji20)) (ji25)))) w.heap.size (fun _ => True) (.slice (some ⟨go26, 0, none⟩) t374.length co42) y381) := ⟨by (with_reducible repeat (first | apply Kd.R_alloc | apply Kd.R_drewN | apply Kd.R_drew)); exact HQ43.out⟩
                      have n1_ : Aside0 ((w41.setCell ⟨go26, ((ji20) : Int).toNat, none⟩ (.int .u8 (Go.bits .xor .u8 (rd t374 (ji20)) (ji25)))).heap[gb372]? = some (.cells #[.int .u32 a0_0, .int .u32 a0_1, .int .u32 a0_2, .int .u32 a0_3, .int .u32 a0_4, .int .u32 a0_5, .int .u32 a0_6, .int .u32 a0_7] 27 (0, 0))) := ⟨by (with_reducible repeat (first | refine blk_drewN ?_ _ | refine blk_drew ?_ | refine blk_alloc ?_ _)); refine blk_far ?_ (by have h_ := Kd.R_ne HO_7.out BK372.out (by decide); intro e_; exact h_ (by rw [e_]; rfl)) _; (with_reducible repeat (first | refine blk_drewN ?_ _ | refine blk_drew ?_ | refine blk_alloc ?_ _)); exact BK372.out⟩
                      have n2_ : Aside0 (Below w.heap.size w (w41.setCell ⟨go26, ((ji20) : Int).toNat, none⟩ (.int .u8 (Go.bits .xor .u8 (rd t374 (ji20)) (ji25))))) := ⟨zb HB⟩
                      (try clear HO_7)
                      (try clear BK372)
                      (try clear HB)
                      generalize (w41.setCell ⟨go26, ((ji20) : Int).toNat, none⟩ (.int .u8 (Go.bits .xor .u8 (rd t374 (ji20)) (ji25)))) = w44 at n0_ n1_ n2_ ⊢
                      have HO_7 := n0_
                      have BK372 := n1_
                      have HB := n2_
                      clear n0_ n1_ n2_
                      try go_wp2_with (first | ((with_reducible refine gate_callee (f := 12) rfl ?_); refine goesL_ (some 52) rfl rfl Try.func12 (by kernel_rfl) rfl #[.slice (some ⟨go26, 0, none⟩) y381.length co42] rfl (by (try simp only [List.map_toArray, List.map_cons, List.map_nil]); first | done | (rw [show y381.length = t374.length from (Kd.R_reads' HO_7.out).1.symm] <;> rfl) | rfl | (simp only [List.length_drop, List.length_take]; rfl)) ?_; (with_reducible refine (header_Parse.calls kj8 _ _ y381 t382 t383 t384 t385 t386 t387 t388 t389 t390 t391 _ ?side1 ?side2 A27.out).mono ?_); (case side1 => repeat (first | exact (Kd.R_reads' HO_7.out).2.2 | (with_reducible refine Kd.C_alloc ?_ _) | (with_reducible refine Kd.C_drewN ?_ _) | (with_reducible refine Kd.C_drew ?_))); (case side2 => rw [show y381.length = t374.length from (Kd.R_reads' HO_7.out).1.symm]; exact (Kd.R_reads' HO_7.out).2.1); rintro e w45 ⟨rfl, hb⟩; refine ⟨_, rfl, ?_⟩; replace HO_7 := Aside0.mk (Kd.R_below (by (with_reducible repeat (first | apply Kd.R_alloc | apply Kd.R_drewN | apply Kd.R_drew)); exact HO_7.out) hb); replace BK372 := zkb BK372 hb; replace HB := zbs HB hb; (try clear hb); (try clear hb2); (try clear hk); (try clear hi)) | ((with_reducible refine gate_dst (N := 9) rfl ?_); (try (refine gate_guard (by rfl) ?_; dsimp only)); refine zbox (N := 9) (cs := #[.int .u32 0, .int .u32 0, .int .u32 0, .int .u32 0, .int .u32 0, .int .u32 0, .int .u32 0, .int .u32 0]) (t := 27) ?_; intro gb392 hg w46 hbox hb; have BK392 := Aside0.mk hbox; have GW392 := zge hg HB; have GE392 := zge hg HB; have NB372_392 := znl hg BK372; have NB392_372 := zng hg BK372; replace HO_7 := Aside0.mk (Kd.R_below (by (with_reducible repeat (first | apply Kd.R_alloc | apply Kd.R_drewN | apply Kd.R_drew)); exact HO_7.out) hb); replace BK372 := zkb BK372 hb; replace HB := zbs HB hb; clear hb hbox hg; have hnb47 := NB392_372.out; have hnc47 := NB372_392.out; have hcz48_0 : w46.cell? ⟨gb392, 0, none⟩ = some (.int .u32 0) := (blk_cell BK392.out 0).trans rfl; have hcz48_1 : w46.cell? ⟨gb392, 1, none⟩ = some (.int .u32 0) := (blk_cell BK392.out 1).trans rfl; have hcz48_2 : w46.cell? ⟨gb392, 2, none⟩ = some (.int .u32 0) := (blk_cell BK392.out 2).trans rfl; have hcz48_3 : w46.cell? ⟨gb392, 3, none⟩ = some (.int .u32 0) := (blk_cell BK392.out 3).trans rfl; have hcz48_4 : w46.cell? ⟨gb392, 4, none⟩ = some (.int .u32 0) := (blk_cell BK392.out 4).trans rfl; have hcz48_5 : w46.cell? ⟨gb392, 5, none⟩ = some (.int .u32 0) := (blk_cell BK392.out 5).trans rfl; have hcz48_6 : w46.cell? ⟨gb392, 6, none⟩ = some (.int .u32 0) := (blk_cell BK392.out 6).trans rfl; have hcz48_7 : w46.cell? ⟨gb392, 7, none⟩ = some (.int .u32 0) := (blk_cell BK392.out 7).trans rfl; have hfz48_0 := blk_frozen BK392.out 0; have hfz48_1 := blk_frozen BK392.out 1; have hfz48_2 := blk_frozen BK392.out 2; have hfz48_3 := blk_frozen BK392.out 3; have hfz48_4 := blk_frozen BK392.out 4; have hfz48_5 := blk_frozen BK392.out 5; have hfz48_6 := blk_frozen BK392.out 6; have hfz48_7 := blk_frozen BK392.out 7) | (go_at_call 14; (with_reducible refine (grottolaw07_num.calls t390 t393 _ A29.out).mono ?_); rintro e w' ⟨rfl, ⟨nd, rfl⟩⟩) | (go_at_call 10; (with_reducible refine (grottolaw07_live.calls kj8  t394 _ A40.out).mono ?_); rintro e w49 ⟨rfl, hb⟩; replace HO_7 := Aside0.mk (Kd.R_below (by (with_reducible repeat (first | apply Kd.R_alloc | apply Kd.R_drewN | apply Kd.R_drew)); exact (Kd.R_mono (Kd.R_far (p := ⟨gb392, 7, none⟩) (Kd.R_far (p := ⟨gb392, 6, none⟩) (Kd.R_far (p := ⟨gb392, 5, none⟩) (Kd.R_far (p := ⟨gb392, 4, none⟩) (Kd.R_far (p := ⟨gb392, 3, none⟩) (Kd.R_far (p := ⟨gb392, 2, none⟩) (Kd.R_far (p := ⟨gb392, 1, none⟩) (Kd.R_far (p := ⟨gb392, 0, none⟩) (Kd.R_types HO_7.out BK392.out (by decide)) (fun _ hk => hk.2) (.int .u32 t382)) (fun _ hk => hk.2) (.int .u32 t383)) (fun _ hk => hk.2) (.int .u32 t384)) (fun _ hk => hk.2) (.int .u32 t385)) (fun _ hk => hk.2) (.int .u32 t386)) (fun _ hk => hk.2) (.int .u32 t387)) (fun _ hk => hk.2) (.int .u32 t388)) (fun _ hk => hk.2) (.int .u32 t389)) (fun _ h_ => h_.1))) hb); replace BK372 := zkb BK372 hb; replace HB := zbs HB hb; replace BK392 := zkbo (o := .cells #[.int .u32 t382, .int .u32 t383, .int .u32 t384, .int .u32 t385, .int .u32 t386, .int .u32 t387, .int .u32 t388, .int .u32 t389] 27 (0, 0)) BK392 hb; (try clear hb); (try clear hb2); (try clear hk); (try clear hi)))
                      go_ret
                      exact ⟨by first | rfl | (simp [errW_none, errW_some] <;> rfl) | (simp only [← hji20, ← hji23, ← hji25]; first | rfl | (simp [errW_none, errW_some] <;> rfl)) | (simp [*, errW_none, errW_some] <;> rfl), zb HB⟩
                    · rw [if_neg c39] at H
                      exact absurd (Option.some.inj H) (by rw [HRT.out]; decide)
                · rw [if_neg c28] at H
                  exact absurd (Option.some.inj H) (by rw [HRT.out]; decide)
              · rw [if_neg c24] at H
                exact absurd H (by simp)
            · rw [if_neg c22] at H
              exact absurd H (by simp)
          · rw [if_neg c21] at H
            exact absurd H (by simp)

end Go.Proofs.Ytpklekleehcglaa.PQ
