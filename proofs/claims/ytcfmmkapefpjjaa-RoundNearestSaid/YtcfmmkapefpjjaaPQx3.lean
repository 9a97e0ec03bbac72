-- by a program of this claim
import Derived.Test.YtcfmmkapefpjjaaPQx0
import Derived.Test.YtcfmmkapefpjjaaPQx2
namespace Go.Proofs.Ytcfmmkapefpjjaa.PQ
open Go.RowKit Go.Proofs.YtcfmmkapefpjjaaW.PrintWords Go.Proofs.YtcfmmkapefpjjaaW.PrintLast Go.Proofs.YtcfmmkapefpjjaaW.PrintMore Go.Proofs.Ytcfmmkapefpjjaa.Z
attribute [local go_sem] max2_int min2_int max_two min_two max_three min_three max_four min_four   -- for this text's walks alone
set_option linter.unusedVariables false
set_option linter.unusedSimpArgs false

/-! ### round_Pack: function 10 -/
mutual
def round_Pack.j0 : Nat → Bool → Int → Int → Int → Bool → Int → Bool → Int → Int → Option (Int × Int)
  | 0, _, _, _, _, _, _, _, _, _ => none
  | k + 1, x1, x2, x3, x4, x5, x14, x43, x112000, x112001 => if x43 = true then (some (0, 1)) else (if x14 = 0 then ((round_sign.f x112000 x112001 x1).bind fun t114 => (some (t114, 0))) else ((round_bias.f x112000 x112001).bind fun t115 => (if (mx (wrap64 ((wrap64 ((wrap64 (x14 + x4)) - x112000)) - 1)) (wrap64 ((wrap64 (1 - t115)) - x112000))) ≤ x4 then (if 0 ≤ (wrap64 (x4 - (mx (wrap64 ((wrap64 ((wrap64 (x14 + x4)) - x112000)) - 1)) (wrap64 ((wrap64 (1 - t115)) - x112000))))) then (round_Pack.j1 k x1 (mx (wrap64 ((wrap64 ((wrap64 (x14 + x4)) - x112000)) - 1)) (wrap64 ((wrap64 (1 - t115)) - x112000))) (shl .u64 x3 (wrap64 (x4 - (mx (wrap64 ((wrap64 ((wrap64 (x14 + x4)) - x112000)) - 1)) (wrap64 ((wrap64 (1 - t115)) - x112000)))))) x112000 x112001) else (none)) else ((round_down.f x2 x3 (wrap64 ((mx (wrap64 ((wrap64 ((wrap64 (x14 + x4)) - x112000)) - 1)) (wrap64 ((wrap64 (1 - t115)) - x112000))) - x4))).bind fun bt116 => (if bt116.2.1 = true then (if bt116.2.2 = true then (round_Pack.j1 k x1 (mx (wrap64 ((wrap64 ((wrap64 (x14 + x4)) - x112000)) - 1)) (wrap64 ((wrap64 (1 - t115)) - x112000))) (IntKind.u64.wrap (bt116.1 + 1)) x112000 x112001) else (if x5 = true then (round_Pack.j1 k x1 (mx (wrap64 ((wrap64 ((wrap64 (x14 + x4)) - x112000)) - 1)) (wrap64 ((wrap64 (1 - t115)) - x112000))) (IntKind.u64.wrap (bt116.1 + 1)) x112000 x112001) else (if (Go.bits .and .u64 bt116.1 1) = 1 then (round_Pack.j1 k x1 (mx (wrap64 ((wrap64 ((wrap64 (x14 + x4)) - x112000)) - 1)) (wrap64 ((wrap64 (1 - t115)) - x112000))) (IntKind.u64.wrap (bt116.1 + 1)) x112000 x112001) else (round_Pack.j1 k x1 (mx (wrap64 ((wrap64 ((wrap64 (x14 + x4)) - x112000)) - 1)) (wrap64 ((wrap64 (1 - t115)) - x112000))) bt116.1 x112000 x112001)))) else (round_Pack.j1 k x1 (mx (wrap64 ((wrap64 ((wrap64 (x14 + x4)) - x112000)) - 1)) (wrap64 ((wrap64 (1 - t115)) - x112000))) bt116.1 x112000 x112001))))))
def round_Pack.j1 : Nat → Bool → Int → Int → Int → Int → Option (Int × Int)
  | 0, _, _, _, _, _ => none
  | k + 1, x1, x15, x16, x112000, x112001 => if 0 ≤ (wrap64 (x112000 + 1)) then (if (shr .u64 x16 (wrap64 (x112000 + 1))) = 0 then (round_Pack.j2 k x1 x15 x16 x112000 x112001) else (round_Pack.j2 k x1 (wrap64 (x15 + 1)) (x16 / 2) x112000 x112001)) else (none)
def round_Pack.j2 : Nat → Bool → Int → Int → Int → Int → Option (Int × Int)
  | 0, _, _, _, _, _ => none
  | k + 1, x1, x15, x16, x112000, x112001 => if 0 ≤ x112000 then (if (shr .u64 x16 x112000) = 0 then ((round_sign.f x112000 x112001 x1).bind fun t119 => (some (Go.bits .or .u64 t119 x16, 0))) else ((round_bias.f x112000 x112001).bind fun t120 => (if 0 ≤ x112001 then (if (wrap64 ((wrap64 (x15 + t120)) + x112000)) ≥ (wrap64 ((shl .i64 1 x112001) - 1)) then ((round_Inf.f x112000 x112001 x1).bind fun t121 => (some (t121, 0))) else ((round_sign.f x112000 x112001 x1).bind fun t122 => (some (Go.bits .or .u64 (Go.bits .or .u64 t122 (shl .u64 (IntKind.u64.wrap (wrap64 ((wrap64 (x15 + t120)) + x112000))) x112000)) (Go.bits .and .u64 x16 (IntKind.u64.wrap ((shl .u64 1 x112000) - 1))), 0)))) else (none)))) else (none)
end
def round_Pack.f (k : Nat) (a0_0 : Int) (a0_1 : Int) (a1 : Bool) (a2 : Int) (a3 : Int) (a4 : Int) (a5 : Bool) : Option (Int × Int) := (round_length.f k a2 a3).bind fun t112 => ((round_Check.f a0_0 a0_1).bind fun t113 => (if t113 = 0 then (if a4 < (-4096) then (round_Pack.j0 k a1 a2 a3 a4 a5 t112 true a0_0 a0_1) else (if a4 > 4096 then (round_Pack.j0 k a1 a2 a3 a4 a5 t112 true a0_0 a0_1) else (if a5 = true then (round_Pack.j0 k a1 a2 a3 a4 a5 t112 (decide (t112 < (wrap64 (a0_0 + 3)))) a0_0 a0_1) else (round_Pack.j0 k a1 a2 a3 a4 a5 t112 false a0_0 a0_1)))) else (round_Pack.j0 k a1 a2 a3 a4 a5 t112 true a0_0 a0_1)))
theorem round_Pack.mono_l : ∀ k, (∀ y0 y1 y2 y3 y4 y5 y6 y7 y8, LeO (round_Pack.j0 k y0 y1 y2 y3 y4 y5 y6 y7 y8) (round_Pack.j0 (k + 1) y0 y1 y2 y3 y4 y5 y6 y7 y8)) ∧ (∀ y0 y1 y2 y3 y4, LeO (round_Pack.j1 k y0 y1 y2 y3 y4) (round_Pack.j1 (k + 1) y0 y1 y2 y3 y4)) ∧ (∀ y0 y1 y2 y3 y4, LeO (round_Pack.j2 k y0 y1 y2 y3 y4) (round_Pack.j2 (k + 1) y0 y1 y2 y3 y4))
  | 0 => ⟨fun _ _ _ _ _ _ _ _ _ r h => by simp [round_Pack.j0] at h, fun _ _ _ _ _ r h => by simp [round_Pack.j1] at h, fun _ _ _ _ _ r h => by simp [round_Pack.j2] at h⟩
  | k + 1 => by
    obtain ⟨ih0, ih1, ih2⟩ := round_Pack.mono_l k
    refine ⟨?_, ?_, ?_⟩
    · intro y0 y1 y2 y3 y4 y5 y6 y7 y8
      unfold round_Pack.j0
      repeat' first
      | (with_reducible exact ih0 _ _ _ _ _ _ _ _ _)
      | (with_reducible exact ih1 _ _ _ _ _)
      | (with_reducible exact ih2 _ _ _ _ _)
      | (with_reducible exact round_length.mono _ _ _)
      | (with_reducible exact LeO.refl _)
      | (with_reducible exact LeO.none _)
      | (with_reducible refine LeO.ite ?_ ?_)
      | (with_reducible refine LeO.bind ?_ (fun _ => ?_))
      | exact ih0 _ _ _ _ _ _ _ _ _
      | exact ih1 _ _ _ _ _
      | exact ih2 _ _ _ _ _
      | exact round_length.mono _ _ _
      | exact LeO.none _
      | refine LeO.ite ?_ ?_
      | refine LeO.bind ?_ (fun _ => ?_)
    · intro y0 y1 y2 y3 y4
      unfold round_Pack.j1
      repeat' first
      | (with_reducible exact ih0 _ _ _ _ _ _ _ _ _)
      | (with_reducible exact ih1 _ _ _ _ _)
      | (with_reducible exact ih2 _ _ _ _ _)
      | (with_reducible exact round_length.mono _ _ _)
      | (with_reducible exact LeO.refl _)
      | (with_reducible exact LeO.none _)
      | (with_reducible refine LeO.ite ?_ ?_)
      | (with_reducible refine LeO.bind ?_ (fun _ => ?_))
      | exact ih0 _ _ _ _ _ _ _ _ _
      | exact ih1 _ _ _ _ _
      | exact ih2 _ _ _ _ _
      | exact round_length.mono _ _ _
      | exact LeO.none _
      | refine LeO.ite ?_ ?_
      | refine LeO.bind ?_ (fun _ => ?_)
    · intro y0 y1 y2 y3 y4
      unfold round_Pack.j2
      repeat' first
      | (with_reducible exact ih0 _ _ _ _ _ _ _ _ _)
      | (with_reducible exact ih1 _ _ _ _ _)
      | (with_reducible exact ih2 _ _ _ _ _)
      | (with_reducible exact round_length.mono _ _ _)
      | (with_reducible exact LeO.refl _)
      | (with_reducible exact LeO.none _)
      | (with_reducible refine LeO.ite ?_ ?_)
      | (with_reducible refine LeO.bind ?_ (fun _ => ?_))
      | exact ih0 _ _ _ _ _ _ _ _ _
      | exact ih1 _ _ _ _ _
      | exact ih2 _ _ _ _ _
      | exact round_length.mono _ _ _
      | exact LeO.none _
      | refine LeO.ite ?_ ?_
      | refine LeO.bind ?_ (fun _ => ?_)
theorem round_Pack.mono : ∀ a0 a1 a2 a3 a4 a5 a6 k, LeO (round_Pack.f k a0 a1 a2 a3 a4 a5 a6) (round_Pack.f (k + 1) a0 a1 a2 a3 a4 a5 a6) := by
  intro a0 a1 a2 a3 a4 a5 a6 k
  obtain ⟨ih0, ih1, ih2⟩ := round_Pack.mono_l k
  unfold round_Pack.f
  repeat' first
      | (with_reducible exact ih0 _ _ _ _ _ _ _ _ _)
      | (with_reducible exact ih1 _ _ _ _ _)
      | (with_reducible exact ih2 _ _ _ _ _)
      | (with_reducible exact round_length.mono _ _ _)
      | (with_reducible exact LeO.refl _)
      | (with_reducible exact LeO.none _)
      | (with_reducible refine LeO.ite ?_ ?_)
      | (with_reducible refine LeO.bind ?_ (fun _ => ?_))
      | exact ih0 _ _ _ _ _ _ _ _ _
      | exact ih1 _ _ _ _ _
      | exact ih2 _ _ _ _ _
      | exact round_length.mono _ _ _
      | exact LeO.none _
      | refine LeO.ite ?_ ?_
      | refine LeO.bind ?_ (fun _ => ?_)
def round_Pack.T6 : Bool × List (List Nat × List Nat) := (true, [([], []), ([], []), ([0, 1], [0, 1]), ([], []), ([3], [3]), ([2, 4], [2, 4]), ([5], [5]), ([], []), ([7], [7]), ([8], [8]), ([], []), ([10], [10]), ([9, 11], [9, 11]), ([6, 12], [6, 12]), ([13, 8, 0, 1, 2, 3, 4, 5, 6, 7, 8, 9, 10, 11, 12, 13], [13])])
def round_Pack.B6 : List Nat := [0, 0, 3, 0, 8, 31, 63, 0, 128, 384, 0, 1024, 3968, 8191, 16383]
theorem round_Pack.tab6 : rtab .any (opsOf Try.f10 6) = round_Pack.T6 := by kernel_rfl
theorem round_Pack.bits6 : waitsOk round_Pack.T6.2 round_Pack.B6 = true := by kernel_rfl
def round_Pack.T19 : Bool × List (List Nat × List Nat) := (true, [([], []), ([], []), ([1], [1]), ([0, 2], [0, 2]), ([], []), ([4], [4]), ([3, 5], [3, 5]), ([6, 2, 0, 1, 2, 3, 4, 5, 6], [6])])
def round_Pack.B19 : List Nat := [0, 0, 2, 7, 0, 16, 63, 127]
theorem round_Pack.tab19 : rtab .any (opsOf Try.f10 19) = round_Pack.T19 := by kernel_rfl
theorem round_Pack.bits19 : waitsOk round_Pack.T19.2 round_Pack.B19 = true := by kernel_rfl
def round_Pack.T22 : Bool × List (List Nat × List Nat) := (true, [([], []), ([], []), ([0, 1], [0, 1]), ([], []), ([3], [3]), ([], []), ([5], [5]), ([4, 6], [4, 6]), ([2, 7], [2, 7]), ([], []), ([], []), ([10], [10]), ([11], [11]), ([12], [12]), ([9, 13], [9, 13]), ([8, 14], [8, 14]), ([15, 2, 0, 1, 2, 3, 4, 5, 6, 7, 8, 9, 10, 11, 12, 13, 14, 15], [15]), ([16, 0, 1, 2, 3, 4, 5, 6, 7, 8, 9, 10, 11, 12, 13, 14, 15, 16], [])])
def round_Pack.B22 : List Nat := [0, 0, 3, 0, 8, 0, 32, 120, 255, 0, 0, 1024, 3072, 7168, 15872, 32767, 65535, 131071]
theorem round_Pack.tab22 : rtab .any (opsOf Try.f10 22) = round_Pack.T22 := by kernel_rfl
theorem round_Pack.bits22 : waitsOk round_Pack.T22.2 round_Pack.B22 = true := by kernel_rfl
set_option maxHeartbeats 8000000 in
set_option maxRecDepth 100000 in
theorem round_Pack.calls (k : Nat) (a0_0 : Int) (a0_1 : Int) (a1 : Bool) (a2 : Int) (a3 : Int) (a4 : Int) (a5 : Bool) (r1 : Int) (r2 : Int) (w : World) (h : round_Pack.f k a0_0 a0_1 a1 a2 a3 a4 a5 = some (r1, r2)) :
    Calls Try.prog 10 #[.agg #[.int .i64 a0_0, .int .i64 a0_1], .bool a1, .int .u64 a2, .int .u64 a3, .int .i64 a4, .bool a5] w fun e w' => e = .returned (.tuple #[.int .u64 r1, .int .i64 r2]) ∧ Below w.heap.size w w' := by
  have hu23 := Try.underlying23
  have HB := Aside0.mk (Below.refl w.heap.size w)
  have H : ((round_length.f k a2 a3).bind fun t112 => ((round_Check.f a0_0 a0_1).bind fun t113 => (if t113 = 0 then (if a4 < (-4096) then (round_Pack.j0 k a1 a2 a3 a4 a5 t112 true a0_0 a0_1) else (if a4 > 4096 then (round_Pack.j0 k a1 a2 a3 a4 a5 t112 true a0_0 a0_1) else (if a5 = true then (round_Pack.j0 k a1 a2 a3 a4 a5 t112 (decide (t112 < (wrap64 (a0_0 + 3)))) a0_0 a0_1) else (round_Pack.j0 k a1 a2 a3 a4 a5 t112 false a0_0 a0_1)))) else (round_Pack.j0 k a1 a2 a3 a4 a5 t112 true a0_0 a0_1)))) = some (r1, r2) := h
  clear h
  replace H := Option.bind_eq_some_iff.mp H
  obtain ⟨t112, A70, H⟩ := H
  replace H : ((round_Check.f a0_0 a0_1).bind fun t113 => (if t113 = 0 then (if a4 < (-4096) then (round_Pack.j0 k a1 a2 a3 a4 a5 t112 true a0_0 a0_1) else (if a4 > 4096 then (round_Pack.j0 k a1 a2 a3 a4 a5 t112 true a0_0 a0_1) else (if a5 = true then (round_Pack.j0 k a1 a2 a3 a4 a5 t112 (decide (t112 < (wrap64 (a0_0 + 3)))) a0_0 a0_1) else (round_Pack.j0 k a1 a2 a3 a4 a5 t112 false a0_0 a0_1)))) else (round_Pack.j0 k a1 a2 a3 a4 a5 t112 true a0_0 a0_1))) = some (r1, r2) := H
  have A7 := Aside0.mk A70
  clear A70
  have HC8 := Aside0.mk H
  clear H
  go_enter Try.func10, Try.ntmps10
  go_upto_region 2 with (first | ((with_reducible refine gate_dst (N := 6) rfl ?_); refine zbox (N := 6) (cs := #[.int .i64 a0_0, .int .i64 a0_1]) (t := 23) ?_; intro gb111 hg w9 hbox hb; have BK111 := Aside0.mk hbox; have GW111 := zge hg HB; have GE111 := zge hg HB; replace HB := zbs HB hb; clear hb hbox hg) | ((with_reducible refine gate_callee (f := 26) rfl ?_); refine zgo (some 22) Try.func26 #[.int .u64 a2, .int .u64 a3] ?_; (with_reducible refine (round_length.calls k a2 a3 t112 _ A7.out).mono ?_); rintro e w' ⟨rfl, ⟨nd, rfl⟩⟩; refine ⟨_, rfl, ?_⟩))
  (try simp only [Act.put, List.setIfInBounds_toArray, List.set_cons_zero, List.set_cons_succ])
  go_cut [43] (fun v43 wc => ∃ (kq : Nat) (x43_7 : Bool), v43 = .bool x43_7 ∧ Aside0 (round_Pack.j0 kq a1 a2 a3 a4 a5 t112 x43_7 a0_0 a0_1 = some (r1, r2)) ∧ Aside0 (kq ≤ k) ∧ Aside0 (wc.heap[gb111]? = some (.cells #[.int .i64 a0_0, .int .i64 a0_1] 23 (0, 0))) ∧ Aside0 (Below w.heap.size w wc))
  case first =>
    have H := HC8.out
    clear HC8
    replace H := Option.bind_eq_some_iff.mp H
    obtain ⟨t113, A100, H⟩ := H
    replace H : (if t113 = 0 then (if a4 < (-4096) then (round_Pack.j0 k a1 a2 a3 a4 a5 t112 true a0_0 a0_1) else (if a4 > 4096 then (round_Pack.j0 k a1 a2 a3 a4 a5 t112 true a0_0 a0_1) else (if a5 = true then (round_Pack.j0 k a1 a2 a3 a4 a5 t112 (decide (t112 < (wrap64 (a0_0 + 3)))) a0_0 a0_1) else (round_Pack.j0 k a1 a2 a3 a4 a5 t112 false a0_0 a0_1)))) else (round_Pack.j0 k a1 a2 a3 a4 a5 t112 true a0_0 a0_1)) = some (r1, r2) := H
    have A10 := Aside0.mk A100
    clear A100
    by_cases c11 : t113 = 0
    · rw [if_pos c11] at H
      have c11b0 : (t113 == 0) = true := beq_iff_eq.mpr c11
      have c11b1 : (t113 != 0) = false := bne_eq_false_iff_eq.mpr c11
      clear c11
      (first | rw [c11b0] | (simp only [i64_w, i32_w]; rw [c11b0]) | skip)
      by_cases c12 : a4 < (-4096)
      · rw [if_pos c12] at H
        have c12b0 : decide (a4 < (-4096)) = true := decide_eq_true c12
        clear c12
        have H' := Aside0.mk H
        clear H
        obtain ⟨hcz13_0, hcz13_1, hfz13_0, hfz13_1⟩ := zc2 BK111
        go_wp2_with (first | ((with_reducible refine gate_callee (f := 18) rfl ?_); refine zgo (some 24) Try.func18 #[.agg #[.int .i64 a0_0, .int .i64 a0_1]] ?_; (with_reducible refine (round_Check.calls a0_0 a0_1 t113 _ A10.out).mono ?_); rintro e w14 ⟨rfl, hb⟩; refine ⟨_, rfl, ?_⟩; replace BK111 := zkb BK111 hb; replace HB := zbs HB hb; (try clear hb); (try clear hb2); (try clear hk); (try clear hi)))
        go_meet
        case rel => exact ⟨_, (true), (by first | rfl | (simp; done) | (simp [*]; done)), H', ⟨by first | omega | exact Nat.le_refl _⟩, ⟨zk BK111⟩, ⟨zb HB⟩⟩
      · rw [if_neg c12] at H
        have c12b0 : decide (a4 < (-4096)) = false := decide_eq_false c12
        clear c12
        by_cases c15 : a4 > 4096
        · rw [if_pos c15] at H
          have c15b0 : decide (4096 < a4) = true := decide_eq_true c15
          clear c15
          have H' := Aside0.mk H
          clear H
          obtain ⟨hcz16_0, hcz16_1, hfz16_0, hfz16_1⟩ := zc2 BK111
          go_wp2_with (first | ((with_reducible refine gate_callee (f := 18) rfl ?_); refine zgo (some 24) Try.func18 #[.agg #[.int .i64 a0_0, .int .i64 a0_1]] ?_; (with_reducible refine (round_Check.calls a0_0 a0_1 t113 _ A10.out).mono ?_); rintro e w17 ⟨rfl, hb⟩; refine ⟨_, rfl, ?_⟩; replace BK111 := zkb BK111 hb; replace HB := zbs HB hb; (try clear hb); (try clear hb2); (try clear hk); (try clear hi)))
          go_meet
          case rel => exact ⟨_, (true), (by first | rfl | (simp; done) | (simp [*]; done)), H', ⟨by first | omega | exact Nat.le_refl _⟩, ⟨zk BK111⟩, ⟨zb HB⟩⟩
        · rw [if_neg c15] at H
          have c15b0 : decide (4096 < a4) = false := decide_eq_false c15
          clear c15
          by_cases c18 : a5 = true
          · subst c18
            have H1 : (round_Pack.j0 k a1 a2 a3 a4 true t112 (decide (t112 < (wrap64 (a0_0 + 3)))) a0_0 a0_1) = some (r1, r2) := by rw [if_pos rfl] at H; exact H
            clear H
            have H := H1
            clear H1
            have H' := Aside0.mk H
            clear H
            obtain ⟨hcz19_0, hcz19_1, hfz19_0, hfz19_1⟩ := zc2 BK111
            go_wp2_with (first | ((with_reducible refine gate_callee (f := 18) rfl ?_); refine zgo (some 24) Try.func18 #[.agg #[.int .i64 a0_0, .int .i64 a0_1]] ?_; (with_reducible refine (round_Check.calls a0_0 a0_1 t113 _ A10.out).mono ?_); rintro e w20 ⟨rfl, hb⟩; refine ⟨_, rfl, ?_⟩; replace BK111 := zkb BK111 hb; replace HB := zbs HB hb; (try clear hb); (try clear hb2); (try clear hk); (try clear hi); obtain ⟨hcz21_0, hcz21_1, hfz21_0, hfz21_1⟩ := zc2 BK111))
            go_meet
            case rel => exact ⟨_, (decide (t112 < (wrap64 (a0_0 + 3)))), (by first | rfl | (simp; done) | (simp [*]; done)), H', ⟨by first | omega | exact Nat.le_refl _⟩, ⟨zk BK111⟩, ⟨zb HB⟩⟩
          · replace c18 := Bool.eq_false_iff.mpr c18
            subst c18
            have H1 : (round_Pack.j0 k a1 a2 a3 a4 false t112 false a0_0 a0_1) = some (r1, r2) := by rw [if_neg (show ¬ (false = true) by decide)] at H; exact H
            clear H
            have H := H1
            clear H1
            have H' := Aside0.mk H
            clear H
            obtain ⟨hcz22_0, hcz22_1, hfz22_0, hfz22_1⟩ := zc2 BK111
            go_wp2_with (first | ((with_reducible refine gate_callee (f := 18) rfl ?_); refine zgo (some 24) Try.func18 #[.agg #[.int .i64 a0_0, .int .i64 a0_1]] ?_; (with_reducible refine (round_Check.calls a0_0 a0_1 t113 _ A10.out).mono ?_); rintro e w23 ⟨rfl, hb⟩; refine ⟨_, rfl, ?_⟩; replace BK111 := zkb BK111 hb; replace HB := zbs HB hb; (try clear hb); (try clear hb2); (try clear hk); (try clear hi)))
            go_meet
            case rel => exact ⟨_, (false), (by first | rfl | (simp; done) | (simp [*]; done)), H', ⟨by first | omega | exact Nat.le_refl _⟩, ⟨zk BK111⟩, ⟨zb HB⟩⟩
    · rw [if_neg c11] at H
      have c11b0 : (t113 == 0) = false := beq_eq_false_iff_ne.mpr c11
      have c11b1 : (t113 != 0) = true := bne_iff_ne.mpr c11
      (first | rw [c11b0] | (simp only [i64_w, i32_w]; rw [c11b0]) | skip)
      have H' := Aside0.mk H
      clear H
      obtain ⟨hcz24_0, hcz24_1, hfz24_0, hfz24_1⟩ := zc2 BK111
      go_wp2_with (first | ((with_reducible refine gate_callee (f := 18) rfl ?_); refine zgo (some 24) Try.func18 #[.agg #[.int .i64 a0_0, .int .i64 a0_1]] ?_; (with_reducible refine (round_Check.calls a0_0 a0_1 t113 _ A10.out).mono ?_); rintro e w25 ⟨rfl, hb⟩; refine ⟨_, rfl, ?_⟩; replace BK111 := zkb BK111 hb; replace HB := zbs HB hb; (try clear hb); (try clear hb2); (try clear hk); (try clear hi)))
      go_meet
      case rel => exact ⟨_, (true), (by first | rfl | (simp; done) | (simp [*]; done)), H', ⟨by first | omega | exact Nat.le_refl _⟩, ⟨zk BK111⟩, ⟨zb HB⟩⟩
  case rest =>
    clear HC8
    try clear c1
    try clear c2
    try clear p2
    try clear p6
    try clear c10
    try clear c11
    try clear c11b0
    try clear c11b1
    try clear c12
    try clear c12b0
    try clear c15
    try clear c15b0
    try clear c18
    try clear hcz13_0
    try clear hcz13_1
    try clear hcz16_0
    try clear hcz16_1
    try clear hcz19_0
    try clear hcz19_1
    try clear hcz21_0
    try clear hcz21_1
    try clear hcz22_0
    try clear hcz22_1
    try clear hcz24_0
    try clear hcz24_1
    try clear hfz13_0
    try clear hfz13_1
    try clear hfz16_0
    try clear hfz16_1
    try clear hfz19_0
    try clear hfz19_1
    try clear hfz21_0
    try clear hfz21_1
    try clear hfz22_0
    try clear hfz22_1
    try clear hfz24_0
    try clear hfz24_1
    obtain ⟨kq, x43_7, rfl, HA, HJ7, BK111, HB⟩ := hcut
    cases kq with
    | zero => exact absurd HA.out (by simp [round_Pack.j0])
    | succ kj7 =>
      have H := HA.out
      clear HA
      simp only [round_Pack.j0] at H
      by_cases c26 : x43_7 = true
      · subst c26
        have H1 : (some (0, 1)) = some (r1, r2) := by rw [if_pos rfl] at H; exact H
        clear H
        have H := H1
        clear H1
        simp only [Option.some.injEq, Prod.mk.injEq] at H
        obtain ⟨rfl, rfl⟩ := H
        go_wp2
        go_ret2
        exact ⟨by first | rfl | (simp [errW_none, errW_some] <;> rfl) | (simp [*, errW_none, errW_some] <;> rfl), zb HB⟩
      · replace c26 := Bool.eq_false_iff.mpr c26
        subst c26
        have H1 : (if t112 = 0 then ((round_sign.f a0_0 a0_1 a1).bind fun t114 => (some (t114, 0))) else ((round_bias.f a0_0 a0_1).bind fun t115 => (if (mx (wrap64 ((wrap64 ((wrap64 (t112 + a4)) - a0_0)) - 1)) (wrap64 ((wrap64 (1 - t115)) - a0_0))) ≤ a4 then (if 0 ≤ (wrap64 (a4 - (mx (wrap64 ((wrap64 ((wrap64 (t112 + a4)) - a0_0)) - 1)) (wrap64 ((wrap64 (1 - t115)) - a0_0))))) then (round_Pack.j1 kj7 a1 (mx (wrap64 ((wrap64 ((wrap64 (t112 + a4)) - a0_0)) - 1)) (wrap64 ((wrap64 (1 - t115)) - a0_0))) (shl .u64 a3 (wrap64 (a4 - (mx (wrap64 ((wrap64 ((wrap64 (t112 + a4)) - a0_0)) - 1)) (wrap64 ((wrap64 (1 - t115)) - a0_0)))))) a0_0 a0_1) else (none)) else ((round_down.f a2 a3 (wrap64 ((mx (wrap64 ((wrap64 ((wrap64 (t112 + a4)) - a0_0)) - 1)) (wrap64 ((wrap64 (1 - t115)) - a0_0))) - a4))).bind fun bt116 => (if bt116.2.1 = true then (if bt116.2.2 = true then (round_Pack.j1 kj7 a1 (mx (wrap64 ((wrap64 ((wrap64 (t112 + a4)) - a0_0)) - 1)) (wrap64 ((wrap64 (1 - t115)) - a0_0))) (IntKind.u64.wrap (bt116.1 + 1)) a0_0 a0_1) else (if a5 = true then (round_Pack.j1 kj7 a1 (mx (wrap64 ((wrap64 ((wrap64 (t112 + a4)) - a0_0)) - 1)) (wrap64 ((wrap64 (1 - t115)) - a0_0))) (IntKind.u64.wrap (bt116.1 + 1)) a0_0 a0_1) else (if (Go.bits .and .u64 bt116.1 1) = 1 then (round_Pack.j1 kj7 a1 (mx (wrap64 ((wrap64 ((wrap64 (t112 + a4)) - a0_0)) - 1)) (wrap64 ((wrap64 (1 - t115)) - a0_0))) (IntKind.u64.wrap (bt116.1 + 1)) a0_0 a0_1) else (round_Pack.j1 kj7 a1 (mx (wrap64 ((wrap64 ((wrap64 (t112 + a4)) - a0_0)) - 1)) (wrap64 ((wrap64 (1 - t115)) - a0_0))) bt116.1 a0_0 a0_1)))) else (round_Pack.j1 kj7 a1 (mx (wrap64 ((wrap64 ((wrap64 (t112 + a4)) - a0_0)) - 1)) (wrap64 ((wrap64 (1 - t115)) - a0_0))) bt116.1 a0_0 a0_1)))))) = some (r1, r2) := by rw [if_neg (show ¬ (false = true) by decide)] at H; exact H
        clear H
        have H := H1
        clear H1
        by_cases c27 : t112 = 0
        · rw [if_pos c27] at H
          have c27b0 : (t112 == 0) = true := beq_iff_eq.mpr c27
          have c27b1 : (t112 != 0) = false := bne_eq_false_iff_eq.mpr c27
          clear c27
          replace H := Option.bind_eq_some_iff.mp H
          obtain ⟨t114, A280, H⟩ := H
          replace H : (some (t114, 0)) = some (r1, r2) := H
          have A28 := Aside0.mk A280
          clear A280
          simp only [Option.some.injEq, Prod.mk.injEq] at H
          obtain ⟨rfl, rfl⟩ := H
          obtain ⟨hcz29_0, hcz29_1, hfz29_0, hfz29_1⟩ := zc2 BK111
          go_wp2_with (first | ((with_reducible refine gate_callee (f := 27) rfl ?_); refine zgo (some 48) Try.func27 #[.agg #[.int .i64 a0_0, .int .i64 a0_1], .bool a1] ?_; (with_reducible refine (round_sign.calls a0_0 a0_1 a1 t114 _ A28.out).mono ?_); rintro e w30 ⟨rfl, hb⟩; refine ⟨_, rfl, ?_⟩; replace BK111 := zkb BK111 hb; replace HB := zbs HB hb; (try clear hb); (try clear hb2); (try clear hk); (try clear hi)))
          go_ret2
          exact ⟨by first | rfl | (simp [errW_none, errW_some] <;> rfl) | (simp [*, errW_none, errW_some] <;> rfl), zb HB⟩
        · rw [if_neg c27] at H
          have c27b0 : (t112 == 0) = false := beq_eq_false_iff_ne.mpr c27
          have c27b1 : (t112 != 0) = true := bne_iff_ne.mpr c27
          replace H := Option.bind_eq_some_iff.mp H
          obtain ⟨t115, A310, H⟩ := H
          replace H : (if (mx (wrap64 ((wrap64 ((wrap64 (t112 + a4)) - a0_0)) - 1)) (wrap64 ((wrap64 (1 - t115)) - a0_0))) ≤ a4 then (if 0 ≤ (wrap64 (a4 - (mx (wrap64 ((wrap64 ((wrap64 (t112 + a4)) - a0_0)) - 1)) (wrap64 ((wrap64 (1 - t115)) - a0_0))))) then (round_Pack.j1 kj7 a1 (mx (wrap64 ((wrap64 ((wrap64 (t112 + a4)) - a0_0)) - 1)) (wrap64 ((wrap64 (1 - t115)) - a0_0))) (shl .u64 a3 (wrap64 (a4 - (mx (wrap64 ((wrap64 ((wrap64 (t112 + a4)) - a0_0)) - 1)) (wrap64 ((wrap64 (1 - t115)) - a0_0)))))) a0_0 a0_1) else (none)) else ((round_down.f a2 a3 (wrap64 ((mx (wrap64 ((wrap64 ((wrap64 (t112 + a4)) - a0_0)) - 1)) (wrap64 ((wrap64 (1 - t115)) - a0_0))) - a4))).bind fun bt116 => (if bt116.2.1 = true then (if bt116.2.2 = true then (round_Pack.j1 kj7 a1 (mx (wrap64 ((wrap64 ((wrap64 (t112 + a4)) - a0_0)) - 1)) (wrap64 ((wrap64 (1 - t115)) - a0_0))) (IntKind.u64.wrap (bt116.1 + 1)) a0_0 a0_1) else (if a5 = true then (round_Pack.j1 kj7 a1 (mx (wrap64 ((wrap64 ((wrap64 (t112 + a4)) - a0_0)) - 1)) (wrap64 ((wrap64 (1 - t115)) - a0_0))) (IntKind.u64.wrap (bt116.1 + 1)) a0_0 a0_1) else (if (Go.bits .and .u64 bt116.1 1) = 1 then (round_Pack.j1 kj7 a1 (mx (wrap64 ((wrap64 ((wrap64 (t112 + a4)) - a0_0)) - 1)) (wrap64 ((wrap64 (1 - t115)) - a0_0))) (IntKind.u64.wrap (bt116.1 + 1)) a0_0 a0_1) else (round_Pack.j1 kj7 a1 (mx (wrap64 ((wrap64 ((wrap64 (t112 + a4)) - a0_0)) - 1)) (wrap64 ((wrap64 (1 - t115)) - a0_0))) bt116.1 a0_0 a0_1)))) else (round_Pack.j1 kj7 a1 (mx (wrap64 ((wrap64 ((wrap64 (t112 + a4)) - a0_0)) - 1)) (wrap64 ((wrap64 (1 - t115)) - a0_0))) bt116.1 a0_0 a0_1)))) = some (r1, r2) := H
          have A31 := Aside0.mk A310
          clear A310
          obtain ⟨ji32, hji32⟩ : ∃ j_ : Int, (mx (wrap64 ((wrap64 ((wrap64 (t112 + a4)) - a0_0)) - 1)) (wrap64 ((wrap64 (1 - t115)) - a0_0))) = j_ := ⟨_, rfl⟩
          replace H : (if (ji32) ≤ a4 then (if 0 ≤ (wrap64 (a4 - (ji32))) then (round_Pack.j1 kj7 a1 ji32 (shl .u64 a3 (wrap64 (a4 - (ji32)))) a0_0 a0_1) else (none)) else ((round_down.f a2 a3 (wrap64 ((ji32) - a4))).bind fun bt116 => (if bt116.2.1 = true then (if bt116.2.2 = true then (round_Pack.j1 kj7 a1 ji32 (IntKind.u64.wrap (bt116.1 + 1)) a0_0 a0_1) else (if a5 = true then (round_Pack.j1 kj7 a1 ji32 (IntKind.u64.wrap (bt116.1 + 1)) a0_0 a0_1) else (if (Go.bits .and .u64 bt116.1 1) = 1 then (round_Pack.j1 kj7 a1 ji32 (IntKind.u64.wrap (bt116.1 + 1)) a0_0 a0_1) else (round_Pack.j1 kj7 a1 ji32 bt116.1 a0_0 a0_1)))) else (round_Pack.j1 kj7 a1 ji32 bt116.1 a0_0 a0_1)))) = some (r1, r2) := by first | (rw [hji32] at H; exact H) | (simp only [hji32] at H ⊢; exact H)
          (try rw [hji32] at A31)
          have hji32_ : (if (wrap64 ((wrap64 ((wrap64 (t112 + a4)) - a0_0)) - 1)) < (wrap64 ((wrap64 (1 - t115)) - a0_0)) then (wrap64 ((wrap64 (1 - t115)) - a0_0)) else (wrap64 ((wrap64 ((wrap64 (t112 + a4)) - a0_0)) - 1))) = ji32 := hji32
          have HC33 := Aside0.mk H
          clear H
          try go_wp2
          replace BK111 := Aside0.mk (blk_drew BK111.out)
          replace HB := Aside0.mk (below_drew1 HB.out)
          refine start_ (n := 15) (S := fun w' => w'.cell? ⟨gb111, 0, none⟩ = some (.int .i64 a0_0) ∧ w'.cell? ⟨gb111, 1, none⟩ = some (.int .i64 a0_1)) (ds := []) #[false, false, false, false, false, false, false, false, false, false, false, false, false, false, false] (by kernel_rfl) rfl rfl ⟨(blk_cell BK111.out 0).trans rfl, (blk_cell BK111.out 1).trans rfl⟩ (fun hHeld => ?_); refine with_tabW round_Pack.tab6 round_Pack.bits6 (fun HT_ HW_ => ?_)
          generalize wc.drew = w34 at BK111 HB hHeld ⊢
          refine zpure_ (i := 0) (N := some 49) #[true, false, false, false, false, false, false, false, false, false, false, false, false, false, false] (any_of HT_.out (by kernel_rfl)) ?_
          refine zpure_ (i := 1) (N := some 50) #[true, true, false, false, false, false, false, false, false, false, false, false, false, false, false] (any_of HT_.out (by kernel_rfl)) ?_
          refine zpure_ (i := 2) (N := some 51) #[true, true, true, false, false, false, false, false, false, false, false, false, false, false, false] (any_of HT_.out (by kernel_rfl)) ?_
          refine zpure_ (i := 3) (N := some 52) #[true, true, true, true, false, false, false, false, false, false, false, false, false, false, false] (any_of HT_.out (by kernel_rfl)) ?_
          refine zpure_ (i := 10) (N := some 59) #[true, true, true, true, false, false, false, false, false, false, true, false, false, false, false] (any_of HT_.out (by kernel_rfl)) ?_
          refine ztake_ (i := 4) (N := some 53) #[true, true, true, true, true, false, false, false, false, false, true, false, false, false, false] rfl (take_ofW HT_.out HW_.out (by kernel_rfl)) hHeld (Or.inl ⟨by rfl, by rintro w' ⟨s0, s1⟩; go_simp; with_reducible rfl⟩) ?_
          refine zpure_ (i := 5) (N := some 54) #[true, true, true, true, true, true, false, false, false, false, true, false, false, false, false] (any_of HT_.out (by kernel_rfl)) ?_
          refine zpure_ (i := 6) (N := some 55) #[true, true, true, true, true, true, true, false, false, false, true, false, false, false, false] (any_of HT_.out (by kernel_rfl)) ?_
          refine ztake_ (i := 7) (N := some 56) #[true, true, true, true, true, true, true, true, false, false, true, false, false, false, false] rfl (take_ofW HT_.out HW_.out (by kernel_rfl)) hHeld (Or.inl ⟨by rfl, by rintro w' ⟨s0, s1⟩; go_simp; with_reducible rfl⟩) ?_
          refine ztake_ (i := 11) (N := some 60) #[true, true, true, true, true, true, true, true, false, false, true, true, false, false, false] rfl (take_ofW HT_.out HW_.out (by kernel_rfl)) hHeld (Or.inl ⟨by rfl, by rintro w' ⟨s0, s1⟩; go_simp; with_reducible rfl⟩) ?_
          refine one_ (i := 8) (N := some 57) #[true, true, true, true, true, true, true, true, true, false, true, true, false, false, false] rfl rfl (one_of HT_.out (by kernel_rfl)) (by decide) (fun K hK => ?_)
          refine goes_ Try.func28 (by kernel_rfl) rfl #[.agg #[.int .i64 a0_0, .int .i64 a0_1]] (by rfl) rfl rfl (by (try simp only [List.map_toArray, List.map_cons, List.map_nil]); first | done | rfl | (simp only [List.length_drop, List.length_take]; rfl)) ?_
          with_reducible refine (round_bias.calls a0_0 a0_1 t115 _ A31.out).mono ?_
          rintro e w35 ⟨rfl, hb⟩
          refine ⟨_, rfl, ?_⟩
          replace BK111 := zkb BK111 hb
          replace HB := zbs HB hb
          (try clear hb)
          (try clear hb2)
          (try clear hk)
          (try clear hi)
          refine hK.out _ _ ⟨(blk_cell BK111.out 0).trans rfl, (blk_cell BK111.out 1).trans rfl⟩ (fun hHeld => ?_)
          clear hK K
          refine norm_ (a' := ?_) ?_ ?_
          rotate_left
          · show Act.put _ (some 57) _ = _
            simp only [Act.put, List.setIfInBounds_toArray, List.set_cons_zero, List.set_cons_succ, i64_w, i32_w]
            rfl
          refine zpure_ (i := 9) (N := some 58) #[true, true, true, true, true, true, true, true, true, true, true, true, false, false, false] (any_of HT_.out (by kernel_rfl)) ?_
          refine zpure_ (i := 12) (N := some 61) #[true, true, true, true, true, true, true, true, true, true, true, true, true, false, false] (any_of HT_.out (by kernel_rfl)) ?_
          refine zpure_ (i := 13) (N := some 62) #[true, true, true, true, true, true, true, true, true, true, true, true, true, true, false] (any_of HT_.out (by kernel_rfl)) ?_
          refine zpure_ (i := 14) (N := some 15) #[true, true, true, true, true, true, true, true, true, true, true, true, true, true, true] (any_of HT_.out (by kernel_rfl)) ?_
          refine done_ (done_of HT_.out (by kernel_rfl)) ?_
          go_upto_if 65 with (fail)
          go_cut [16] (fun v16 wc => ∃ (kq : Nat) (x16_32 : Int), v16 = .int .u64 x16_32 ∧ Aside0 (round_Pack.j1 kq a1 ji32 x16_32 a0_0 a0_1 = some (r1, r2)) ∧ Aside0 (kq ≤ kj7) ∧ Aside0 (wc.heap[gb111]? = some (.cells #[.int .i64 a0_0, .int .i64 a0_1] 23 (0, 0))) ∧ Aside0 (Below w.heap.size w wc))
          case first =>
            have H := HC33.out
            clear HC33
            by_cases c36 : (ji32) ≤ a4
            · rw [if_pos c36] at H
              have c36b0 : decide ((ji32) ≤ a4) = true := decide_eq_true c36
              clear c36
              (first | rw [c36b0] | (simp only [i64_w, i32_w]; rw [c36b0]) | skip)
              obtain ⟨ji37, hji37⟩ : ∃ j_ : Int, (wrap64 (a4 - (ji32))) = j_ := ⟨_, rfl⟩
              replace H : (if 0 ≤ (ji37) then (round_Pack.j1 kj7 a1 ji32 (shl .u64 a3 (ji37)) a0_0 a0_1) else (none)) = some (r1, r2) := by first | (rw [hji37] at H; exact H) | (simp only [hji37] at H ⊢; exact H)
              have hji37w : (IntKind.i64.wrap (a4 - (ji32))) = ji37 := (i64_w _).trans hji37
              by_cases c38 : 0 ≤ (ji37)
              · rw [if_pos c38] at H
                have c38b0 := eq_true c38
                have c38b1 : decide (0 ≤ (ji37)) = true := decide_eq_true c38
                clear c38
                obtain ⟨ji39, hji39⟩ : ∃ j_ : Int, (shl .u64 a3 (ji37)) = j_ := ⟨_, rfl⟩
                replace H : (round_Pack.j1 kj7 a1 ji32 ji39 a0_0 a0_1) = some (r1, r2) := by first | (rw [hji39] at H; exact H) | (simp only [hji39] at H ⊢; exact H)
                have hji39_ : (IntKind.u64.wrap (a3 * 2 ^ min (ji37).toNat 64)) = ji39 := hji39
                have hji39z : (ji37) ≤ 64 → (IntKind.u64.wrap (a3 * 2 ^ (ji37).toNat)) = ji39 := shl_small hji39
                have H' := Aside0.mk H
                clear H
                go_wp2
                go_meet
                case rel => exact ⟨_, (ji39), (by first | rfl | (simp; done) | (simp only [← hji39] <;> (first | rfl | simp)) | (simp [*]; done)), H', ⟨by have := HJ7.out; first | omega | exact Nat.le_refl _⟩, ⟨zk BK111⟩, ⟨zb HB⟩⟩
              · rw [if_neg c38] at H
                exact absurd H (by simp)
            · rw [if_neg c36] at H
              have c36b0 : decide ((ji32) ≤ a4) = false := decide_eq_false c36
              clear c36
              (first | rw [c36b0] | (simp only [i64_w, i32_w]; rw [c36b0]) | skip)
              replace H := Option.bind_eq_some_iff.mp H
              obtain ⟨⟨t116, t117, t118⟩, A400, H⟩ := H
              replace H : (if t117 = true then (if t118 = true then (round_Pack.j1 kj7 a1 ji32 (IntKind.u64.wrap (t116 + 1)) a0_0 a0_1) else (if a5 = true then (round_Pack.j1 kj7 a1 ji32 (IntKind.u64.wrap (t116 + 1)) a0_0 a0_1) else (if (Go.bits .and .u64 t116 1) = 1 then (round_Pack.j1 kj7 a1 ji32 (IntKind.u64.wrap (t116 + 1)) a0_0 a0_1) else (round_Pack.j1 kj7 a1 ji32 t116 a0_0 a0_1)))) else (round_Pack.j1 kj7 a1 ji32 t116 a0_0 a0_1)) = some (r1, r2) := H
              have A40 := Aside0.mk A400
              clear A400
              by_cases c41 : t117 = true
              · subst c41
                have H1 : (if t118 = true then (round_Pack.j1 kj7 a1 ji32 (IntKind.u64.wrap (t116 + 1)) a0_0 a0_1) else (if a5 = true then (round_Pack.j1 kj7 a1 ji32 (IntKind.u64.wrap (t116 + 1)) a0_0 a0_1) else (if (Go.bits .and .u64 t116 1) = 1 then (round_Pack.j1 kj7 a1 ji32 (IntKind.u64.wrap (t116 + 1)) a0_0 a0_1) else (round_Pack.j1 kj7 a1 ji32 t116 a0_0 a0_1)))) = some (r1, r2) := by rw [if_pos rfl] at H; exact H
                clear H
                have H := H1
                clear H1
                by_cases c42 : t118 = true
                · subst c42
                  have H1 : (round_Pack.j1 kj7 a1 ji32 (IntKind.u64.wrap (t116 + 1)) a0_0 a0_1) = some (r1, r2) := by rw [if_pos rfl] at H; exact H
                  clear H
                  have H := H1
                  clear H1
                  have H' := Aside0.mk H
                  clear H
                  go_wp2_with (first | ((with_reducible refine gate_callee (f := 29) rfl ?_); refine goesL_ (some 77) rfl rfl Try.func29 (by kernel_rfl) rfl #[.int .u64 a2, .int .u64 a3, .int .i64 (wrap64 ((ji32) - a4))] rfl (by (try simp only [List.map_toArray, List.map_cons, List.map_nil]); first | done | (simp only [hji32]; rfl) | rfl | (simp only [List.length_drop, List.length_take]; rfl)) ?_; (with_reducible refine (round_down.calls a2 a3 (wrap64 ((ji32) - a4)) t116 true true _ A40.out).mono ?_); rintro e w' ⟨rfl, ⟨nd, rfl⟩⟩; refine ⟨_, rfl, ?_⟩))
                  go_meet
                  case rel => exact ⟨_, (IntKind.u64.wrap (t116 + 1)), (by first | rfl | (simp; done) | (simp [*]; done)), H', ⟨by have := HJ7.out; first | omega | exact Nat.le_refl _⟩, ⟨zk BK111⟩, ⟨zb HB⟩⟩
                · replace c42 := Bool.eq_false_iff.mpr c42
                  subst c42
                  have H1 : (if a5 = true then (round_Pack.j1 kj7 a1 ji32 (IntKind.u64.wrap (t116 + 1)) a0_0 a0_1) else (if (Go.bits .and .u64 t116 1) = 1 then (round_Pack.j1 kj7 a1 ji32 (IntKind.u64.wrap (t116 + 1)) a0_0 a0_1) else (round_Pack.j1 kj7 a1 ji32 t116 a0_0 a0_1))) = some (r1, r2) := by rw [if_neg (show ¬ (false = true) by decide)] at H; exact H
                  clear H
                  have H := H1
                  clear H1
                  by_cases c43 : a5 = true
                  · subst c43
                    have H1 : (round_Pack.j1 kj7 a1 ji32 (IntKind.u64.wrap (t116 + 1)) a0_0 a0_1) = some (r1, r2) := by rw [if_pos rfl] at H; exact H
                    clear H
                    have H := H1
                    clear H1
                    have H' := Aside0.mk H
                    clear H
                    go_wp2_with (first | ((with_reducible refine gate_callee (f := 29) rfl ?_); refine goesL_ (some 77) rfl rfl Try.func29 (by kernel_rfl) rfl #[.int .u64 a2, .int .u64 a3, .int .i64 (wrap64 ((ji32) - a4))] rfl (by (try simp only [List.map_toArray, List.map_cons, List.map_nil]); first | done | (simp only [hji32]; rfl) | rfl | (simp only [List.length_drop, List.length_take]; rfl)) ?_; (with_reducible refine (round_down.calls a2 a3 (wrap64 ((ji32) - a4)) t116 true false _ A40.out).mono ?_); rintro e w' ⟨rfl, ⟨nd, rfl⟩⟩; refine ⟨_, rfl, ?_⟩))
                    go_meet
                    case rel => exact ⟨_, (IntKind.u64.wrap (t116 + 1)), (by first | rfl | (simp; done) | (simp [*]; done)), H', ⟨by have := HJ7.out; first | omega | exact Nat.le_refl _⟩, ⟨zk BK111⟩, ⟨zb HB⟩⟩
                  · replace c43 := Bool.eq_false_iff.mpr c43
                    subst c43
                    have H1 : (if (Go.bits .and .u64 t116 1) = 1 then (round_Pack.j1 kj7 a1 ji32 (IntKind.u64.wrap (t116 + 1)) a0_0 a0_1) else (round_Pack.j1 kj7 a1 ji32 t116 a0_0 a0_1)) = some (r1, r2) := by rw [if_neg (show ¬ (false = true) by decide)] at H; exact H
                    clear H
                    have H := H1
                    clear H1
                    by_cases c44 : (Go.bits .and .u64 t116 1) = 1
                    · rw [if_pos c44] at H
                      have c44b0 : ((Go.bits .and .u64 t116 1) == 1) = true := beq_iff_eq.mpr c44
                      have c44b1 : ((Go.bits .and .u64 t116 1) != 1) = false := bne_eq_false_iff_eq.mpr c44
                      clear c44
                      have H' := Aside0.mk H
                      clear H
                      go_wp2_with (first | ((with_reducible refine gate_callee (f := 29) rfl ?_); refine goesL_ (some 77) rfl rfl Try.func29 (by kernel_rfl) rfl #[.int .u64 a2, .int .u64 a3, .int .i64 (wrap64 ((ji32) - a4))] rfl (by (try simp only [List.map_toArray, List.map_cons, List.map_nil]); first | done | (simp only [hji32]; rfl) | rfl | (simp only [List.length_drop, List.length_take]; rfl)) ?_; (with_reducible refine (round_down.calls a2 a3 (wrap64 ((ji32) - a4)) t116 true false _ A40.out).mono ?_); rintro e w' ⟨rfl, ⟨nd, rfl⟩⟩; refine ⟨_, rfl, ?_⟩))
                      go_meet
                      case rel => exact ⟨_, (IntKind.u64.wrap (t116 + 1)), (by first | rfl | (simp; done) | (simp [*]; done)), H', ⟨by have := HJ7.out; first | omega | exact Nat.le_refl _⟩, ⟨zk BK111⟩, ⟨zb HB⟩⟩
                    · rw [if_neg c44] at H
                      have c44b0 : ((Go.bits .and .u64 t116 1) == 1) = false := beq_eq_false_iff_ne.mpr c44
                      have c44b1 : ((Go.bits .and .u64 t116 1) != 1) = true := bne_iff_ne.mpr c44
                      have H' := Aside0.mk H
                      clear H
                      go_wp2_with (first | ((with_reducible refine gate_callee (f := 29) rfl ?_); refine goesL_ (some 77) rfl rfl Try.func29 (by kernel_rfl) rfl #[.int .u64 a2, .int .u64 a3, .int .i64 (wrap64 ((ji32) - a4))] rfl (by (try simp only [List.map_toArray, List.map_cons, List.map_nil]); first | done | (simp only [hji32]; rfl) | rfl | (simp only [List.length_drop, List.length_take]; rfl)) ?_; (with_reducible refine (round_down.calls a2 a3 (wrap64 ((ji32) - a4)) t116 true false _ A40.out).mono ?_); rintro e w' ⟨rfl, ⟨nd, rfl⟩⟩; refine ⟨_, rfl, ?_⟩))
                      go_meet
                      case rel => exact ⟨_, (t116), (by first | rfl | (simp; done) | (simp [*]; done)), H', ⟨by have := HJ7.out; first | omega | exact Nat.le_refl _⟩, ⟨zk BK111⟩, ⟨zb HB⟩⟩
              · replace c41 := Bool.eq_false_iff.mpr c41
                subst c41
                have H1 : (round_Pack.j1 kj7 a1 ji32 t116 a0_0 a0_1) = some (r1, r2) := by rw [if_neg (show ¬ (false = true) by decide)] at H; exact H
                clear H
                have H := H1
                clear H1
                have H' := Aside0.mk H
                clear H
                go_wp2_with (first | ((with_reducible refine gate_callee (f := 29) rfl ?_); refine goesL_ (some 77) rfl rfl Try.func29 (by kernel_rfl) rfl #[.int .u64 a2, .int .u64 a3, .int .i64 (wrap64 ((ji32) - a4))] rfl (by (try simp only [List.map_toArray, List.map_cons, List.map_nil]); first | done | (simp only [hji32]; rfl) | rfl | (simp only [List.length_drop, List.length_take]; rfl)) ?_; (with_reducible refine (round_down.calls a2 a3 (wrap64 ((ji32) - a4)) t116 false t118 _ A40.out).mono ?_); rintro e w' ⟨rfl, ⟨nd, rfl⟩⟩; refine ⟨_, rfl, ?_⟩))
                go_meet
                case rel => exact ⟨_, (t116), (by first | rfl | (simp; done) | (simp [*]; done)), H', ⟨by have := HJ7.out; first | omega | exact Nat.le_refl _⟩, ⟨zk BK111⟩, ⟨zb HB⟩⟩
          case rest =>
            clear HC33
            try clear c1
            try clear c2
            try clear p2
            try clear c3
            try clear c4
            try clear p6
            try clear c10
            try clear c11
            try clear c11b0
            try clear c11b1
            try clear c12
            try clear c12b0
            try clear c15
            try clear c15b0
            try clear c18
            try clear c26
            try clear c27
            try clear c27b0
            try clear c27b1
            try clear c28
            try clear c29
            try clear c36
            try clear c36b0
            try clear c38
            try clear c38b0
            try clear c38b1
            try clear c41
            try clear c42
            try clear c43
            try clear c44
            try clear c44b0
            try clear c44b1
            try clear hcz13_0
            try clear hcz13_1
            try clear hcz16_0
            try clear hcz16_1
            try clear hcz19_0
            try clear hcz19_1
            try clear hcz21_0
            try clear hcz21_1
            try clear hcz22_0
            try clear hcz22_1
            try clear hcz24_0
            try clear hcz24_1
            try clear hcz29_0
            try clear hcz29_1
            try clear hfz13_0
            try clear hfz13_1
            try clear hfz16_0
            try clear hfz16_1
            try clear hfz19_0
            try clear hfz19_1
            try clear hfz21_0
            try clear hfz21_1
            try clear hfz22_0
            try clear hfz22_1
            try clear hfz24_0
            try clear hfz24_1
            try clear hfz29_0
            try clear hfz29_1
            try clear p2
            try clear p6
            obtain ⟨kq, x16_32, rfl, HA, HJ32, BK111, HB⟩ := hcut
            cases kq with
            | zero => exact absurd HA.out (by simp [round_Pack.j1])
            | succ kj32 =>
              have H := HA.out
              clear HA
              simp only [round_Pack.j1] at H
              obtain ⟨ji45, hji45⟩ : ∃ j_ : Int, (wrap64 (a0_0 + 1)) = j_ := ⟨_, rfl⟩
              replace H : (if 0 ≤ (ji45) then (if (shr .u64 x16_32 (ji45)) = 0 then (round_Pack.j2 kj32 a1 ji32 x16_32 a0_0 a0_1) else (round_Pack.j2 kj32 a1 (wrap64 (ji32 + 1)) (x16_32 / 2) a0_0 a0_1)) else (none)) = some (r1, r2) := by first | (rw [hji45] at H; exact H) | (simp only [hji45] at H ⊢; exact H)
              have hji45w : (IntKind.i64.wrap (a0_0 + 1)) = ji45 := (i64_w _).trans hji45
              by_cases c46 : 0 ≤ (ji45)
              · rw [if_pos c46] at H
                have c46b0 := eq_true c46
                have c46b1 : decide (0 ≤ (ji45)) = true := decide_eq_true c46
                clear c46
                obtain ⟨ji47, hji47⟩ : ∃ j_ : Int, (shr .u64 x16_32 (ji45)) = j_ := ⟨_, rfl⟩
                replace H : (if (ji47) = 0 then (round_Pack.j2 kj32 a1 ji32 x16_32 a0_0 a0_1) else (round_Pack.j2 kj32 a1 (wrap64 (ji32 + 1)) (x16_32 / 2) a0_0 a0_1)) = some (r1, r2) := by first | (rw [hji47] at H; exact H) | (simp only [hji47] at H ⊢; exact H)
                have hji47_ : (x16_32 / 2 ^ min (ji45).toNat 64) = ji47 := hji47
                have hji47z : (ji45) ≤ 64 → (x16_32 / 2 ^ (ji45).toNat) = ji47 := shr_small hji47
                have HC48 := Aside0.mk H
                clear H
                obtain ⟨hcz49_0, hcz49_1, hfz49_0, hfz49_1⟩ := zc2 BK111
                go_upto_if 100 with (fail)
                go_cut [15, 16] (fun v15 v16 wc => ∃ (kq : Nat) (x15_47 : Int) (x16_47 : Int), v15 = .int .i64 x15_47 ∧ v16 = .int .u64 x16_47 ∧ Aside0 (round_Pack.j2 kq a1 x15_47 x16_47 a0_0 a0_1 = some (r1, r2)) ∧ Aside0 (kq ≤ kj32) ∧ Aside0 (wc.heap[gb111]? = some (.cells #[.int .i64 a0_0, .int .i64 a0_1] 23 (0, 0))) ∧ Aside0 (Below w.heap.size w wc))
                case first =>
                  have H := HC48.out
                  clear HC48
                  by_cases c50 : (ji47) = 0
                  · rw [if_pos c50] at H
                    have c50b0 : ((ji47) == 0) = true := beq_iff_eq.mpr c50
                    have c50b1 : ((ji47) != 0) = false := bne_eq_false_iff_eq.mpr c50
                    clear c50
                    (first | rw [c50b0] | (simp only [i64_w, i32_w]; rw [c50b0]) | skip)
                    have H' := Aside0.mk H
                    clear H
                    go_wp2
                    go_meet
                    case rel => exact ⟨_, (ji32), (x16_32), (by first | rfl | (simp; done) | (simp only [← hji32] <;> (first | rfl | simp)) | (simp [*]; done)), (by first | rfl | (simp; done) | (simp [*]; done)), H', ⟨by have := HJ7.out; have := HJ32.out; first | omega | exact Nat.le_refl _⟩, ⟨zk BK111⟩, ⟨zb HB⟩⟩
                  · rw [if_neg c50] at H
                    have c50b0 : ((ji47) == 0) = false := beq_eq_false_iff_ne.mpr c50
                    have c50b1 : ((ji47) != 0) = true := bne_iff_ne.mpr c50
                    (first | rw [c50b0] | (simp only [i64_w, i32_w]; rw [c50b0]) | skip)
                    have H' := Aside0.mk H
                    clear H
                    go_wp2
                    go_meet
                    case rel => exact ⟨_, (wrap64 (ji32 + 1)), (x16_32 / 2), (by first | rfl | (simp; done) | (simp only [← hji32] <;> (first | rfl | simp)) | (simp [*]; done)), (by first | rfl | (simp; done) | (simp [*]; done)), H', ⟨by have := HJ7.out; have := HJ32.out; first | omega | exact Nat.le_refl _⟩, ⟨zk BK111⟩, ⟨zb HB⟩⟩
                case rest =>
                  clear HC48
                  try clear c1
                  try clear c2
                  try clear p2
                  try clear c3
                  try clear c4
                  try clear c5
                  try clear p6
                  try clear c10
                  try clear c11
                  try clear c11b0
                  try clear c11b1
                  try clear c12
                  try clear c12b0
                  try clear c15
                  try clear c15b0
                  try clear c18
                  try clear c26
                  try clear c27
                  try clear c27b0
                  try clear c27b1
                  try clear c28
                  try clear c29
                  try clear c36
                  try clear c36b0
                  try clear c38
                  try clear c38b0
                  try clear c38b1
                  try clear c41
                  try clear c42
                  try clear c43
                  try clear c44
                  try clear c44b0
                  try clear c44b1
                  try clear c46
                  try clear c46b0
                  try clear c46b1
                  try clear c50
                  try clear c50b0
                  try clear c50b1
                  try clear hcz13_0
                  try clear hcz13_1
                  try clear hcz16_0
                  try clear hcz16_1
                  try clear hcz19_0
                  try clear hcz19_1
                  try clear hcz21_0
                  try clear hcz21_1
                  try clear hcz22_0
                  try clear hcz22_1
                  try clear hcz24_0
                  try clear hcz24_1
                  try clear hcz29_0
                  try clear hcz29_1
                  try clear hcz49_0
                  try clear hcz49_1
                  try clear hfz13_0
                  try clear hfz13_1
                  try clear hfz16_0
                  try clear hfz16_1
                  try clear hfz19_0
                  try clear hfz19_1
                  try clear hfz21_0
                  try clear hfz21_1
                  try clear hfz22_0
                  try clear hfz22_1
                  try clear hfz24_0
                  try clear hfz24_1
                  try clear hfz29_0
                  try clear hfz29_1
                  try clear hfz49_0
                  try clear hfz49_1
                  try clear p2
                  try clear p6
                  obtain ⟨kq, x15_47, x16_47, rfl, rfl, HA, HJ47, BK111, HB⟩ := hcut
                  cases kq with
                  | zero => exact absurd HA.out (by simp [round_Pack.j2])
                  | succ kj47 =>
                    have H := HA.out
                    clear HA
                    simp only [round_Pack.j2] at H
                    by_cases c51 : 0 ≤ a0_0
                    · rw [if_pos c51] at H
                      have c51b0 := eq_true c51
                      have c51b1 : decide (0 ≤ a0_0) = true := decide_eq_true c51
                      clear c51
                      obtain ⟨ji52, hji52⟩ : ∃ j_ : Int, (shr .u64 x16_47 a0_0) = j_ := ⟨_, rfl⟩
                      replace H : (if (ji52) = 0 then ((round_sign.f a0_0 a0_1 a1).bind fun t119 => (some (Go.bits .or .u64 t119 x16_47, 0))) else ((round_bias.f a0_0 a0_1).bind fun t120 => (if 0 ≤ a0_1 then (if (wrap64 ((wrap64 (x15_47 + t120)) + a0_0)) ≥ (wrap64 ((shl .i64 1 a0_1) - 1)) then ((round_Inf.f a0_0 a0_1 a1).bind fun t121 => (some (t121, 0))) else ((round_sign.f a0_0 a0_1 a1).bind fun t122 => (some (Go.bits .or .u64 (Go.bits .or .u64 t122 (shl .u64 (IntKind.u64.wrap (wrap64 ((wrap64 (x15_47 + t120)) + a0_0))) a0_0)) (Go.bits .and .u64 x16_47 (IntKind.u64.wrap ((shl .u64 1 a0_0) - 1))), 0)))) else (none)))) = some (r1, r2) := by first | (rw [hji52] at H; exact H) | (simp only [hji52] at H ⊢; exact H)
                      have hji52_ : (x16_47 / 2 ^ min a0_0.toNat 64) = ji52 := hji52
                      have hji52z : a0_0 ≤ 64 → (x16_47 / 2 ^ a0_0.toNat) = ji52 := shr_small hji52
                      by_cases c53 : (ji52) = 0
                      · rw [if_pos c53] at H
                        have c53b0 : ((ji52) == 0) = true := beq_iff_eq.mpr c53
                        have c53b1 : ((ji52) != 0) = false := bne_eq_false_iff_eq.mpr c53
                        clear c53
                        replace H := Option.bind_eq_some_iff.mp H
                        obtain ⟨t119, A540, H⟩ := H
                        replace H : (some (Go.bits .or .u64 t119 x16_47, 0)) = some (r1, r2) := H
                        have A54 := Aside0.mk A540
                        clear A540
                        simp only [Option.some.injEq, Prod.mk.injEq] at H
                        obtain ⟨rfl, rfl⟩ := H
                        obtain ⟨hcz55_0, hcz55_1, hfz55_0, hfz55_1⟩ := zc2 BK111
                        go_wp2_with (first | ((with_reducible refine gate_callee (f := 27) rfl ?_); refine zgo (some 112) Try.func27 #[.agg #[.int .i64 a0_0, .int .i64 a0_1], .bool a1] ?_; (with_reducible refine (round_sign.calls a0_0 a0_1 a1 t119 _ A54.out).mono ?_); rintro e w56 ⟨rfl, hb⟩; refine ⟨_, rfl, ?_⟩; replace BK111 := zkb BK111 hb; replace HB := zbs HB hb; (try clear hb); (try clear hb2); (try clear hk); (try clear hi)))
                        go_ret2
                        exact ⟨by first | rfl | (simp [errW_none, errW_some] <;> rfl) | (simp only [← hji32, ← hji45, ← hji47, ← hji52]; first | rfl | (simp [errW_none, errW_some] <;> rfl)) | (simp [*, errW_none, errW_some] <;> rfl), zb HB⟩
                      · rw [if_neg c53] at H
                        have c53b0 : ((ji52) == 0) = false := beq_eq_false_iff_ne.mpr c53
                        have c53b1 : ((ji52) != 0) = true := bne_iff_ne.mpr c53
                        replace H := Option.bind_eq_some_iff.mp H
                        obtain ⟨t120, A570, H⟩ := H
                        replace H : (if 0 ≤ a0_1 then (if (wrap64 ((wrap64 (x15_47 + t120)) + a0_0)) ≥ (wrap64 ((shl .i64 1 a0_1) - 1)) then ((round_Inf.f a0_0 a0_1 a1).bind fun t121 => (some (t121, 0))) else ((round_sign.f a0_0 a0_1 a1).bind fun t122 => (some (Go.bits .or .u64 (Go.bits .or .u64 t122 (shl .u64 (IntKind.u64.wrap (wrap64 ((wrap64 (x15_47 + t120)) + a0_0))) a0_0)) (Go.bits .and .u64 x16_47 (IntKind.u64.wrap ((shl .u64 1 a0_0) - 1))), 0)))) else (none)) = some (r1, r2) := H
                        have A57 := Aside0.mk A570
                        clear A570
                        by_cases c58 : 0 ≤ a0_1
                        · rw [if_pos c58] at H
                          have c58b0 := eq_true c58
                          have c58b1 : decide (0 ≤ a0_1) = true := decide_eq_true c58
                          clear c58
                          obtain ⟨ji59, hji59⟩ : ∃ j_ : Int, (shl .i64 1 a0_1) = j_ := ⟨_, rfl⟩
                          replace H : (if (wrap64 ((wrap64 (x15_47 + t120)) + a0_0)) ≥ (wrap64 ((ji59) - 1)) then ((round_Inf.f a0_0 a0_1 a1).bind fun t121 => (some (t121, 0))) else ((round_sign.f a0_0 a0_1 a1).bind fun t122 => (some (Go.bits .or .u64 (Go.bits .or .u64 t122 (shl .u64 (IntKind.u64.wrap (wrap64 ((wrap64 (x15_47 + t120)) + a0_0))) a0_0)) (Go.bits .and .u64 x16_47 (IntKind.u64.wrap ((shl .u64 1 a0_0) - 1))), 0)))) = some (r1, r2) := by first | (rw [hji59] at H; exact H) | (simp only [hji59] at H ⊢; exact H)
                          (try rw [hji59] at A57)
                          have hji59_ : (IntKind.i64.wrap (1 * 2 ^ min a0_1.toNat 64)) = ji59 := hji59
                          have hji59z : a0_1 ≤ 64 → (IntKind.i64.wrap (1 * 2 ^ a0_1.toNat)) = ji59 := shl_small hji59
                          have hji59u : (IntKind.i64.wrap (2 ^ min a0_1.toNat 64)) = ji59 := by have h_ := hji59_; rw [Int.one_mul] at h_; exact h_
                          have hji59v : a0_1 ≤ 64 → (IntKind.i64.wrap (2 ^ a0_1.toNat)) = ji59 := fun hle_ => by have h_ := hji59z hle_; rw [Int.one_mul] at h_; exact h_
                          have hji59y : (wrap64 (1 * 2 ^ min a0_1.toNat 64)) = ji59 := (i64_w _).symm.trans hji59_
                          have hji59x : a0_1 ≤ 64 → (wrap64 (1 * 2 ^ a0_1.toNat)) = ji59 := fun h_ => (i64_w _).symm.trans (hji59z h_)
                          by_cases c60 : (wrap64 ((wrap64 (x15_47 + t120)) + a0_0)) ≥ (wrap64 ((ji59) - 1))
                          · rw [if_pos c60] at H
                            have c60b0 : decide ((wrap64 ((ji59) - 1)) ≤ (wrap64 ((wrap64 (x15_47 + t120)) + a0_0))) = true := decide_eq_true c60
                            clear c60
                            replace H := Option.bind_eq_some_iff.mp H
                            obtain ⟨t121, A610, H⟩ := H
                            replace H : (some (t121, 0)) = some (r1, r2) := H
                            have A61 := Aside0.mk A610
                            clear A610
                            simp only [Option.some.injEq, Prod.mk.injEq] at H
                            obtain ⟨rfl, rfl⟩ := H
                            obtain ⟨hcz62_0, hcz62_1, hfz62_0, hfz62_1⟩ := zc2 BK111
                            try go_wp2
                            replace BK111 := Aside0.mk (blk_drew BK111.out)
                            replace HB := Aside0.mk (below_drew1 HB.out)
                            refine start_ (n := 8) (S := fun w' => w'.cell? ⟨gb111, 0, none⟩ = some (.int .i64 a0_0) ∧ w'.cell? ⟨gb111, 1, none⟩ = some (.int .i64 a0_1)) (ds := []) #[false, false, false, false, false, false, false, false] (by kernel_rfl) rfl rfl ⟨(blk_cell BK111.out 0).trans rfl, (blk_cell BK111.out 1).trans rfl⟩ (fun hHeld => ?_); refine with_tabW round_Pack.tab19 round_Pack.bits19 (fun HT_ HW_ => ?_)
                            generalize wc.drew = w63 at BK111 HB hHeld ⊢
                            refine zpure_ (i := 0) (N := some 115) #[true, false, false, false, false, false, false, false] (any_of HT_.out (by kernel_rfl)) ?_
                            refine zpure_ (i := 4) (N := some 119) #[true, false, false, false, true, false, false, false] (any_of HT_.out (by kernel_rfl)) ?_
                            refine ztake_ (i := 1) (N := some 116) #[true, true, false, false, true, false, false, false] rfl (take_ofW HT_.out HW_.out (by kernel_rfl)) hHeld (Or.inl ⟨by rfl, by rintro w' ⟨s0, s1⟩; go_simp; with_reducible rfl⟩) ?_
                            refine ztake_ (i := 5) (N := some 120) #[true, true, false, false, true, true, false, false] rfl (take_ofW HT_.out HW_.out (by kernel_rfl)) hHeld (Or.inl ⟨by rfl, by rintro w' ⟨s0, s1⟩; go_simp; with_reducible rfl⟩) ?_
                            refine one_ (i := 2) (N := some 117) #[true, true, true, false, true, true, false, false] rfl rfl (one_of HT_.out (by kernel_rfl)) (by decide) (fun K hK => ?_)
                            refine goes_ Try.func28 (by kernel_rfl) rfl #[.agg #[.int .i64 a0_0, .int .i64 a0_1]] (by rfl) rfl rfl (by (try simp only [List.map_toArray, List.map_cons, List.map_nil]); first | done | rfl | (simp only [List.length_drop, List.length_take]; rfl)) ?_
                            with_reducible refine (round_bias.calls a0_0 a0_1 t120 _ A57.out).mono ?_
                            rintro e w64 ⟨rfl, hb⟩
                            refine ⟨_, rfl, ?_⟩
                            replace BK111 := zkb BK111 hb
                            replace HB := zbs HB hb
                            (try clear hb)
                            (try clear hb2)
                            (try clear hk)
                            (try clear hi)
                            refine hK.out _ _ ⟨(blk_cell BK111.out 0).trans rfl, (blk_cell BK111.out 1).trans rfl⟩ (fun hHeld => ?_)
                            clear hK K
                            refine norm_ (a' := ?_) ?_ ?_
                            rotate_left
                            · show Act.put _ (some 117) _ = _
                              simp only [Act.put, List.setIfInBounds_toArray, List.set_cons_zero, List.set_cons_succ, i64_w, i32_w]
                              rfl
                            refine zpure_ (i := 3) (N := some 118) #[true, true, true, true, true, true, false, false] (any_of HT_.out (by kernel_rfl)) ?_
                            refine zpure_ (i := 6) (N := some 121) #[true, true, true, true, true, true, true, false] (any_of HT_.out (by kernel_rfl)) ?_
                            refine zpure_ (i := 7) (N := some 19) #[true, true, true, true, true, true, true, true] (any_of HT_.out (by kernel_rfl)) ?_
                            refine done_ (done_of HT_.out (by kernel_rfl)) ?_
                            obtain ⟨hcz65_0, hcz65_1, hfz65_0, hfz65_1⟩ := zc2 BK111
                            try go_wp2_with (first | ((with_reducible refine gate_callee (f := 22) rfl ?_); refine zgo (some 130) Try.func22 #[.agg #[.int .i64 a0_0, .int .i64 a0_1], .bool a1] ?_; (with_reducible refine (round_Inf.calls a0_0 a0_1 a1 t121 _ A61.out).mono ?_); rintro e w66 ⟨rfl, hb⟩; refine ⟨_, rfl, ?_⟩; replace BK111 := zkb BK111 hb; replace HB := zbs HB hb; (try clear hb); (try clear hb2); (try clear hk); (try clear hi)))
                            go_ret2
                            exact ⟨by first | rfl | (simp [errW_none, errW_some] <;> rfl) | (simp only [← hji32, ← hji45, ← hji47, ← hji52, ← hji59]; first | rfl | (simp [errW_none, errW_some] <;> rfl)) | (simp [*, errW_none, errW_some] <;> rfl), zb HB⟩
                          · rw [if_neg c60] at H
                            have c60b0 : decide ((wrap64 ((ji59) - 1)) ≤ (wrap64 ((wrap64 (x15_47 + t120)) + a0_0))) = false := decide_eq_false c60
                            clear c60
                            replace H := Option.bind_eq_some_iff.mp H
                            obtain ⟨t122, A670, H⟩ := H
                            replace H : (some (Go.bits .or .u64 (Go.bits .or .u64 t122 (shl .u64 (IntKind.u64.wrap (wrap64 ((wrap64 (x15_47 + t120)) + a0_0))) a0_0)) (Go.bits .and .u64 x16_47 (IntKind.u64.wrap ((shl .u64 1 a0_0) - 1))), 0)) = some (r1, r2) := H
                            have A67 := Aside0.mk A670
                            clear A670
                            have c68b0 := eq_true (of_decide_eq_true (by first | (with_reducible assumption) | assumption) : 0 ≤ a0_0)
                            obtain ⟨ji69, hji69⟩ : ∃ j_ : Int, (shl .u64 (IntKind.u64.wrap (wrap64 ((wrap64 (x15_47 + t120)) + a0_0))) a0_0) = j_ := ⟨_, rfl⟩
                            replace H : (some (Go.bits .or .u64 (Go.bits .or .u64 t122 (ji69)) (Go.bits .and .u64 x16_47 (IntKind.u64.wrap ((shl .u64 1 a0_0) - 1))), 0)) = some (r1, r2) := by first | (rw [hji69] at H; exact H) | (simp only [hji69] at H ⊢; exact H)
                            (try rw [hji69] at A57)
                            (try rw [hji69] at A67)
                            have hji69_ : (IntKind.u64.wrap ((IntKind.u64.wrap (wrap64 ((wrap64 (x15_47 + t120)) + a0_0))) * 2 ^ min a0_0.toNat 64)) = ji69 := hji69
                            have hji69z : a0_0 ≤ 64 → (IntKind.u64.wrap ((IntKind.u64.wrap (wrap64 ((wrap64 (x15_47 + t120)) + a0_0))) * 2 ^ a0_0.toNat)) = ji69 := shl_small hji69
                            have c70b0 := eq_true (of_decide_eq_true (by first | (with_reducible assumption) | assumption) : 0 ≤ a0_0)
                            obtain ⟨ji71, hji71⟩ : ∃ j_ : Int, (shl .u64 1 a0_0) = j_ := ⟨_, rfl⟩
                            replace H : (some (Go.bits .or .u64 (Go.bits .or .u64 t122 (ji69)) (Go.bits .and .u64 x16_47 (IntKind.u64.wrap ((ji71) - 1))), 0)) = some (r1, r2) := by first | (rw [hji71] at H; exact H) | (simp only [hji71] at H ⊢; exact H)
                            (try rw [hji71] at A57)
                            (try rw [hji71] at A67)
                            have hji71_ : (IntKind.u64.wrap (1 * 2 ^ min a0_0.toNat 64)) = ji71 := hji71
                            have hji71z : a0_0 ≤ 64 → (IntKind.u64.wrap (1 * 2 ^ a0_0.toNat)) = ji71 := shl_small hji71
                            have hji71u : (IntKind.u64.wrap (2 ^ min a0_0.toNat 64)) = ji71 := by have h_ := hji71_; rw [Int.one_mul] at h_; exact h_
                            have hji71v : a0_0 ≤ 64 → (IntKind.u64.wrap (2 ^ a0_0.toNat)) = ji71 := fun hle_ => by have h_ := hji71z hle_; rw [Int.one_mul] at h_; exact h_
                            simp only [Option.some.injEq, Prod.mk.injEq] at H
                            obtain ⟨rfl, rfl⟩ := H
                            obtain ⟨hcz72_0, hcz72_1, hfz72_0, hfz72_1⟩ := zc2 BK111
                            try go_wp2
                            replace BK111 := Aside0.mk (blk_drew BK111.out)
                            replace HB := Aside0.mk (below_drew1 HB.out)
                            refine start_ (n := 8) (S := fun w' => w'.cell? ⟨gb111, 0, none⟩ = some (.int .i64 a0_0) ∧ w'.cell? ⟨gb111, 1, none⟩ = some (.int .i64 a0_1)) (ds := []) #[false, false, false, false, false, false, false, false] (by kernel_rfl) rfl rfl ⟨(blk_cell BK111.out 0).trans rfl, (blk_cell BK111.out 1).trans rfl⟩ (fun hHeld => ?_); refine with_tabW round_Pack.tab19 round_Pack.bits19 (fun HT_ HW_ => ?_)
                            generalize wc.drew = w73 at BK111 HB hHeld ⊢
                            refine zpure_ (i := 0) (N := some 115) #[true, false, false, false, false, false, false, false] (any_of HT_.out (by kernel_rfl)) ?_
                            refine zpure_ (i := 4) (N := some 119) #[true, false, false, false, true, false, false, false] (any_of HT_.out (by kernel_rfl)) ?_
                            refine ztake_ (i := 1) (N := some 116) #[true, true, false, false, true, false, false, false] rfl (take_ofW HT_.out HW_.out (by kernel_rfl)) hHeld (Or.inl ⟨by rfl, by rintro w' ⟨s0, s1⟩; go_simp; with_reducible rfl⟩) ?_
                            refine ztake_ (i := 5) (N := some 120) #[true, true, false, false, true, true, false, false] rfl (take_ofW HT_.out HW_.out (by kernel_rfl)) hHeld (Or.inl ⟨by rfl, by rintro w' ⟨s0, s1⟩; go_simp; with_reducible rfl⟩) ?_
                            refine one_ (i := 2) (N := some 117) #[true, true, true, false, true, true, false, false] rfl rfl (one_of HT_.out (by kernel_rfl)) (by decide) (fun K hK => ?_)
                            refine goes_ Try.func28 (by kernel_rfl) rfl #[.agg #[.int .i64 a0_0, .int .i64 a0_1]] (by rfl) rfl rfl (by (try simp only [List.map_toArray, List.map_cons, List.map_nil]); first | done | rfl | (simp only [List.length_drop, List.length_take]; rfl)) ?_
                            with_reducible refine (round_bias.calls a0_0 a0_1 t120 _ A57.out).mono ?_
                            rintro e w74 ⟨rfl, hb⟩
                            refine ⟨_, rfl, ?_⟩
                            replace BK111 := zkb BK111 hb
                            replace HB := zbs HB hb
                            (try clear hb)
                            (try clear hb2)
                            (try clear hk)
                            (try clear hi)
                            refine hK.out _ _ ⟨(blk_cell BK111.out 0).trans rfl, (blk_cell BK111.out 1).trans rfl⟩ (fun hHeld => ?_)
                            clear hK K
                            refine norm_ (a' := ?_) ?_ ?_
                            rotate_left
                            · show Act.put _ (some 117) _ = _
                              simp only [Act.put, List.setIfInBounds_toArray, List.set_cons_zero, List.set_cons_succ, i64_w, i32_w]
                              rfl
                            refine zpure_ (i := 3) (N := some 118) #[true, true, true, true, true, true, false, false] (any_of HT_.out (by kernel_rfl)) ?_
                            refine zpure_ (i := 6) (N := some 121) #[true, true, true, true, true, true, true, false] (any_of HT_.out (by kernel_rfl)) ?_
                            refine zpure_ (i := 7) (N := some 19) #[true, true, true, true, true, true, true, true] (any_of HT_.out (by kernel_rfl)) ?_
                            refine done_ (done_of HT_.out (by kernel_rfl)) ?_
                            obtain ⟨hcz75_0, hcz75_1, hfz75_0, hfz75_1⟩ := zc2 BK111
                            try go_wp2
                            replace BK111 := Aside0.mk (blk_drew BK111.out)
                            replace HB := Aside0.mk (below_drew1 HB.out)
                            refine start_ (n := 18) (S := fun w' => w'.cell? ⟨gb111, 0, none⟩ = some (.int .i64 a0_0) ∧ w'.cell? ⟨gb111, 1, none⟩ = some (.int .i64 a0_1)) (ds := []) #[false, false, false, false, false, false, false, false, false, false, false, false, false, false, false, false, false, false] (by kernel_rfl) rfl rfl ⟨(blk_cell BK111.out 0).trans rfl, (blk_cell BK111.out 1).trans rfl⟩ (fun hHeld => ?_); refine with_tabW round_Pack.tab22 round_Pack.bits22 (fun HT_ HW_ => ?_)
                            generalize w74.drew = w76 at BK111 HB hHeld ⊢
                            refine zpure_ (i := 1) (N := some 132) #[false, true, false, false, false, false, false, false, false, false, false, false, false, false, false, false, false, false] (any_of HT_.out (by kernel_rfl)) ?_
                            refine zpure_ (i := 3) (N := some 134) #[false, true, false, true, false, false, false, false, false, false, false, false, false, false, false, false, false, false] (any_of HT_.out (by kernel_rfl)) ?_
                            refine zpure_ (i := 4) (N := some 135) #[false, true, false, true, true, false, false, false, false, false, false, false, false, false, false, false, false, false] (any_of HT_.out (by kernel_rfl)) ?_
                            refine zpure_ (i := 5) (N := some 136) #[false, true, false, true, true, true, false, false, false, false, false, false, false, false, false, false, false, false] (any_of HT_.out (by kernel_rfl)) ?_
                            refine zpure_ (i := 9) (N := some 140) #[false, true, false, true, true, true, false, false, false, true, false, false, false, false, false, false, false, false] (any_of HT_.out (by kernel_rfl)) ?_
                            refine zpure_ (i := 10) (N := some 141) #[false, true, false, true, true, true, false, false, false, true, true, false, false, false, false, false, false, false] (any_of HT_.out (by kernel_rfl)) ?_
                            refine ztake_ (i := 0) (N := some 131) #[true, true, false, true, true, true, false, false, false, true, true, false, false, false, false, false, false, false] rfl (take_ofW HT_.out HW_.out (by kernel_rfl)) hHeld (Or.inl ⟨by rfl, by rintro w' ⟨s0, s1⟩; go_simp; with_reducible rfl⟩) ?_
                            refine ztake_ (i := 6) (N := some 137) #[true, true, false, true, true, true, true, false, false, true, true, false, false, false, false, false, false, false] rfl (take_ofW HT_.out HW_.out (by kernel_rfl)) hHeld (Or.inl ⟨by rfl, by rintro w' ⟨s0, s1⟩; go_simp; with_reducible rfl⟩) ?_
                            refine zpure_ (i := 7) (N := some 138) #[true, true, false, true, true, true, true, true, false, true, true, false, false, false, false, false, false, false] (any_of HT_.out (by kernel_rfl)) ?_
                            refine ztake_ (i := 11) (N := some 142) #[true, true, false, true, true, true, true, true, false, true, true, true, false, false, false, false, false, false] rfl (take_ofW HT_.out HW_.out (by kernel_rfl)) hHeld (Or.inl ⟨by rfl, by rintro w' ⟨s0, s1⟩; go_simp; with_reducible rfl⟩) ?_
                            refine zpure_ (i := 12) (N := some 143) #[true, true, false, true, true, true, true, true, false, true, true, true, true, false, false, false, false, false] (any_of HT_.out (by kernel_rfl)) ?_
                            refine zpure_ (i := 13) (N := some 144) #[true, true, false, true, true, true, true, true, false, true, true, true, true, true, false, false, false, false] (any_of HT_.out (by kernel_rfl)) ?_
                            refine zpure_ (i := 14) (N := some 145) #[true, true, false, true, true, true, true, true, false, true, true, true, true, true, true, false, false, false] (any_of HT_.out (by kernel_rfl)) ?_
                            refine one_ (i := 2) (N := some 133) #[true, true, true, true, true, true, true, true, false, true, true, true, true, true, true, false, false, false] rfl rfl (one_of HT_.out (by kernel_rfl)) (by decide) (fun K hK => ?_)
                            refine goes_ Try.func27 (by kernel_rfl) rfl #[.agg #[.int .i64 a0_0, .int .i64 a0_1], .bool a1] (by rfl) rfl rfl (by (try simp only [List.map_toArray, List.map_cons, List.map_nil]); first | done | rfl | (simp only [List.length_drop, List.length_take]; rfl)) ?_
                            with_reducible refine (round_sign.calls a0_0 a0_1 a1 t122 _ A67.out).mono ?_
                            rintro e w77 ⟨rfl, hb⟩
                            refine ⟨_, rfl, ?_⟩
                            replace BK111 := zkb BK111 hb
                            replace HB := zbs HB hb
                            (try clear hb)
                            (try clear hb2)
                            (try clear hk)
                            (try clear hi)
                            refine hK.out _ _ ⟨(blk_cell BK111.out 0).trans rfl, (blk_cell BK111.out 1).trans rfl⟩ (fun hHeld => ?_)
                            clear hK K
                            refine norm_ (a' := ?_) ?_ ?_
                            rotate_left
                            · show Act.put _ (some 133) _ = _
                              simp only [Act.put, List.setIfInBounds_toArray, List.set_cons_zero, List.set_cons_succ, i64_w, i32_w]
                              rfl
                            refine zpure_ (i := 8) (N := some 139) #[true, true, true, true, true, true, true, true, true, true, true, true, true, true, true, false, false, false] (any_of HT_.out (by kernel_rfl)) ?_
                            refine zpure_ (i := 15) (N := some 146) #[true, true, true, true, true, true, true, true, true, true, true, true, true, true, true, true, false, false] (any_of HT_.out (by kernel_rfl)) ?_
                            refine zpure_ (i := 16) (N := some 12) #[true, true, true, true, true, true, true, true, true, true, true, true, true, true, true, true, true, false] (any_of HT_.out (by kernel_rfl)) ?_
                            refine zpure_ (i := 17) (N := some 13) #[true, true, true, true, true, true, true, true, true, true, true, true, true, true, true, true, true, true] (any_of HT_.out (by kernel_rfl)) ?_
                            refine done_ (done_of HT_.out (by kernel_rfl)) ?_
                            try go_wp2
                            go_ret2
                            exact ⟨by first | rfl | (simp [errW_none, errW_some] <;> rfl) | (simp only [← hji32, ← hji45, ← hji47, ← hji52, ← hji59, ← hji69, ← hji71]; first | rfl | (simp [errW_none, errW_some] <;> rfl)) | (simp [*, errW_none, errW_some] <;> rfl), zb HB⟩
                        · rw [if_neg c58] at H
                          exact absurd H (by simp)
                    · rw [if_neg c51] at H
                      exact absurd H (by simp)
              · rw [if_neg c46] at H
                exact absurd H (by simp)

end Go.Proofs.Ytcfmmkapefpjjaa.PQ
