-- by a program of this claim
import Derived.Test.YtcfmmkapefpjjaaPQx0
import Derived.Test.YtcfmmkapefpjjaaPQx2
namespace Go.Proofs.Ytcfmmkapefpjjaa.PQ
open Go.RowKit Go.Proofs.YtcfmmkapefpjjaaW.PrintWords Go.Proofs.YtcfmmkapefpjjaaW.PrintLast Go.Proofs.YtcfmmkapefpjjaaW.PrintMore Go.Proofs.Ytcfmmkapefpjjaa.Z
attribute [local go_sem] max2_int min2_int max_two min_two max_three min_three max_four min_four   -- for this text's walks alone
set_option linter.unusedVariables false
set_option linter.unusedSimpArgs false

/-! ### round_Open: function 16 -/
mutual
def round_Open.j0 : Nat → Int → Bool → Int → Int → Option (Int × Bool × Int × Int × Int)
  | 0, _, _, _, _ => none
  | k + 1, x1, x22, x304000, x304001 => if x22 = true then (some (0, false, 0, 0, 1)) else ((round_sign.f x304000 x304001 true).bind fun t307 => (if 0 ≤ x304000 then ((round_top.f x304000 x304001).bind fun t309 => ((round_top.f x304000 x304001).bind fun t310 => ((round_top.f x304000 x304001).bind fun t311 => (if (Go.bits .and .u64 x1 t310) = t311 then (round_Open.j1 k x1 (Go.bits .and .u64 x1 (IntKind.u64.wrap ((shl .u64 1 x304000) - 1))) (shr .i64 (wrap64 (Go.bits .and .u64 x1 t309)) x304000) ((Go.bits .and .u64 x1 (IntKind.u64.wrap ((shl .u64 1 x304000) - 1))) == 0) x304000 x304001 0 ((Go.bits .and .u64 x1 t307) != 0) 0 0) else (round_Open.j1 k x1 (Go.bits .and .u64 x1 (IntKind.u64.wrap ((shl .u64 1 x304000) - 1))) (shr .i64 (wrap64 (Go.bits .and .u64 x1 t309)) x304000) false x304000 x304001 0 ((Go.bits .and .u64 x1 t307) != 0) 0 0))))) else (none)))
def round_Open.j1 : Nat → Int → Int → Int → Bool → Int → Int → Int → Bool → Int → Int → Option (Int × Bool × Int × Int × Int)
  | 0, _, _, _, _, _, _, _, _, _, _ => none
  | k + 1, x1, x7, x8, x59, x304000, x304001, x309000, x309001, x309002, x309003 => if x59 = true then (some (3, x309001, x309002, x309003, 0)) else ((round_top.f x304000 x304001).bind fun t312 => ((round_top.f x304000 x304001).bind fun t313 => (if (Go.bits .and .u64 x1 t312) = t313 then (some (4, x309001, x309002, x309003, 0)) else (if x8 = 0 then (round_Open.j2 k x7 x8 (x7 == 0) x304000 x304001 x309000 x309001 x309002 x309003) else (round_Open.j2 k x7 x8 false x304000 x304001 x309000 x309001 x309002 x309003)))))
def round_Open.j2 : Nat → Int → Int → Bool → Int → Int → Int → Bool → Int → Int → Option (Int × Bool × Int × Int × Int)
  | 0, _, _, _, _, _, _, _, _, _ => none
  | k + 1, x7, x8, x81, x304000, x304001, x309000, x309001, x309002, x309003 => if x81 = true then (some (1, x309001, x309002, x309003, 0)) else (if x8 = 0 then ((round_bias.f x304000 x304001).bind fun t314 => (some (2, x309001, wrap64 ((wrap64 (1 - t314)) - x304000), x7, 0))) else (if 0 ≤ x304000 then ((round_bias.f x304000 x304001).bind fun t315 => (some (2, x309001, wrap64 ((wrap64 (x8 - t315)) - x304000), Go.bits .or .u64 x7 (shl .u64 1 x304000), 0))) else (none)))
end
def round_Open.f (k : Nat) (a0_0 : Int) (a0_1 : Int) (a1 : Int) : Option (Int × Bool × Int × Int × Int) := (round_Check.f a0_0 a0_1).bind fun t305 => (if t305 = 0 then ((bits_Len64.f k a1).bind fun t306 => (round_Open.j0 k a1 (decide (t306 > (wrap64 ((wrap64 (1 + a0_1)) + a0_0)))) a0_0 a0_1)) else (round_Open.j0 k a1 true a0_0 a0_1))
theorem round_Open.mono_l : ∀ k, (∀ y0 y1 y2 y3, LeO (round_Open.j0 k y0 y1 y2 y3) (round_Open.j0 (k + 1) y0 y1 y2 y3)) ∧ (∀ y0 y1 y2 y3 y4 y5 y6 y7 y8 y9, LeO (round_Open.j1 k y0 y1 y2 y3 y4 y5 y6 y7 y8 y9) (round_Open.j1 (k + 1) y0 y1 y2 y3 y4 y5 y6 y7 y8 y9)) ∧ (∀ y0 y1 y2 y3 y4 y5 y6 y7 y8, LeO (round_Open.j2 k y0 y1 y2 y3 y4 y5 y6 y7 y8) (round_Open.j2 (k + 1) y0 y1 y2 y3 y4 y5 y6 y7 y8))
  | 0 => ⟨fun _ _ _ _ r h => by simp [round_Open.j0] at h, fun _ _ _ _ _ _ _ _ _ _ r h => by simp [round_Open.j1] at h, fun _ _ _ _ _ _ _ _ _ r h => by simp [round_Open.j2] at h⟩
  | k + 1 => by
    obtain ⟨ih0, ih1, ih2⟩ := round_Open.mono_l k
    refine ⟨?_, ?_, ?_⟩
    · intro y0 y1 y2 y3
      unfold round_Open.j0
      repeat' first
      | (with_reducible exact ih0 _ _ _ _)
      | (with_reducible exact ih1 _ _ _ _ _ _ _ _ _ _)
      | (with_reducible exact ih2 _ _ _ _ _ _ _ _ _)
      | (with_reducible exact bits_Len64.mono _ _)
      | (with_reducible exact LeO.refl _)
      | (with_reducible exact LeO.none _)
      | (with_reducible refine LeO.ite ?_ ?_)
      | (with_reducible refine LeO.bind ?_ (fun _ => ?_))
      | exact ih0 _ _ _ _
      | exact ih1 _ _ _ _ _ _ _ _ _ _
      | exact ih2 _ _ _ _ _ _ _ _ _
      | exact bits_Len64.mono _ _
      | exact LeO.none _
      | refine LeO.ite ?_ ?_
      | refine LeO.bind ?_ (fun _ => ?_)
    · intro y0 y1 y2 y3 y4 y5 y6 y7 y8 y9
      unfold round_Open.j1
      repeat' first
      | (with_reducible exact ih0 _ _ _ _)
      | (with_reducible exact ih1 _ _ _ _ _ _ _ _ _ _)
      | (with_reducible exact ih2 _ _ _ _ _ _ _ _ _)
      | (with_reducible exact bits_Len64.mono _ _)
      | (with_reducible exact LeO.refl _)
      | (with_reducible exact LeO.none _)
      | (with_reducible refine LeO.ite ?_ ?_)
      | (with_reducible refine LeO.bind ?_ (fun _ => ?_))
      | exact ih0 _ _ _ _
      | exact ih1 _ _ _ _ _ _ _ _ _ _
      | exact ih2 _ _ _ _ _ _ _ _ _
      | exact bits_Len64.mono _ _
      | exact LeO.none _
      | refine LeO.ite ?_ ?_
      | refine LeO.bind ?_ (fun _ => ?_)
    · intro y0 y1 y2 y3 y4 y5 y6 y7 y8
      unfold round_Open.j2
      repeat' first
      | (with_reducible exact ih0 _ _ _ _)
      | (with_reducible exact ih1 _ _ _ _ _ _ _ _ _ _)
      | (with_reducible exact ih2 _ _ _ _ _ _ _ _ _)
      | (with_reducible exact bits_Len64.mono _ _)
      | (with_reducible exact LeO.refl _)
      | (with_reducible exact LeO.none _)
      | (with_reducible refine LeO.ite ?_ ?_)
      | (with_reducible refine LeO.bind ?_ (fun _ => ?_))
      | exact ih0 _ _ _ _
      | exact ih1 _ _ _ _ _ _ _ _ _ _
      | exact ih2 _ _ _ _ _ _ _ _ _
      | exact bits_Len64.mono _ _
      | exact LeO.none _
      | refine LeO.ite ?_ ?_
      | refine LeO.bind ?_ (fun _ => ?_)
theorem round_Open.mono : ∀ a0 a1 a2 k, LeO (round_Open.f k a0 a1 a2) (round_Open.f (k + 1) a0 a1 a2) := by
  intro a0 a1 a2 k
  obtain ⟨ih0, ih1, ih2⟩ := round_Open.mono_l k
  unfold round_Open.f
  repeat' first
      | (with_reducible exact ih0 _ _ _ _)
      | (with_reducible exact ih1 _ _ _ _ _ _ _ _ _ _)
      | (with_reducible exact ih2 _ _ _ _ _ _ _ _ _)
      | (with_reducible exact bits_Len64.mono _ _)
      | (with_reducible exact LeO.refl _)
      | (with_reducible exact LeO.none _)
      | (with_reducible refine LeO.ite ?_ ?_)
      | (with_reducible refine LeO.bind ?_ (fun _ => ?_))
      | exact ih0 _ _ _ _
      | exact ih1 _ _ _ _ _ _ _ _ _ _
      | exact ih2 _ _ _ _ _ _ _ _ _
      | exact bits_Len64.mono _ _
      | exact LeO.none _
      | refine LeO.ite ?_ ?_
      | refine LeO.bind ?_ (fun _ => ?_)
def round_Open.T1 : Bool × List (List Nat × List Nat) := (true, [([], []), ([0], [0]), ([1], [1]), ([2, 1], [2]), ([3], [3]), ([4, 3, 3], [3, 4]), ([3], [3]), ([6, 3], [3, 6]), ([7, 3], [3, 7]), ([3], [3]), ([9, 3], [3, 9]), ([8, 10, 3], [3, 8, 10]), ([5, 11, 3], [3, 5, 11]), ([3, 12], [3, 12])])
def round_Open.B1 : List Nat := [0, 1, 3, 7, 15, 31, 15, 79, 207, 15, 527, 1999, 4095, 8191]
theorem round_Open.tab1 : rtab .any (opsOf Try.f16 1) = round_Open.T1 := by kernel_rfl
theorem round_Open.bits1 : waitsOk round_Open.T1.2 round_Open.B1 = true := by kernel_rfl
def round_Open.T5 : Bool × List (List Nat × List Nat) := (true, [([], []), ([], []), ([1], [1]), ([0, 2], [0, 2]), ([3], [3]), ([], []), ([5], [5]), ([4, 6], [4, 6]), ([7, 2, 0, 1, 2, 3, 4, 5, 6, 7], [7])])
def round_Open.B5 : List Nat := [0, 0, 2, 7, 15, 0, 32, 127, 255]
theorem round_Open.tab5 : rtab .any (opsOf Try.f16 5) = round_Open.T5 := by kernel_rfl
theorem round_Open.bits5 : waitsOk round_Open.T5.2 round_Open.B5 = true := by kernel_rfl
def round_Open.T6 : Bool × List (List Nat × List Nat) := (true, [([], []), ([], []), ([1], [1]), ([2], [2]), ([0, 3], [0, 3]), ([], []), ([], []), ([6], [6]), ([5, 7], [5, 7]), ([], []), ([9], [9]), ([8, 10], [8, 10]), ([], []), ([12, 7], [12]), ([0, 1, 2, 3, 4, 12, 13], []), ([14, 4, 13, 0, 1, 2, 3, 4, 12, 13], [4, 14]), ([0, 1, 2, 3, 4, 5, 6, 7, 8, 9, 10, 11, 12, 13, 14, 15], []), ([16, 11, 15, 0, 1, 2, 3, 4, 5, 6, 7, 8, 9, 10, 11, 12, 13, 14, 15], [11, 16])])
def round_Open.B6 : List Nat := [0, 0, 2, 6, 15, 0, 0, 64, 224, 0, 512, 2016, 0, 4288, 12511, 28895, 65535, 131071]
theorem round_Open.tab6 : rtab .any (opsOf Try.f16 6) = round_Open.T6 := by kernel_rfl
theorem round_Open.bits6 : waitsOk round_Open.T6.2 round_Open.B6 = true := by kernel_rfl
def round_Open.T7 : Bool × List (List Nat × List Nat) := (true, [([], []), ([], []), ([1], [1]), ([0, 2], [0, 2]), ([], []), ([4, 2], [4]), ([3, 5], [3, 5]), ([6, 5], [6]), ([7], [7]), ([8, 7], [7, 8]), ([7, 9], [7, 9]), ([10, 7], [10])])
def round_Open.B7 : List Nat := [0, 0, 2, 7, 0, 22, 63, 127, 255, 511, 1023, 2047]
theorem round_Open.tab7 : rtab .any (opsOf Try.f16 7) = round_Open.T7 := by kernel_rfl
theorem round_Open.bits7 : waitsOk round_Open.T7.2 round_Open.B7 = true := by kernel_rfl
def round_Open.T9 : Bool × List (List Nat × List Nat) := (true, [([], []), ([], []), ([1], [1]), ([0, 2], [0, 2]), ([], []), ([4, 2], [4]), ([3, 5], [3, 5]), ([6, 5], [6])])
def round_Open.B9 : List Nat := [0, 0, 2, 7, 0, 22, 63, 127]
theorem round_Open.tab9 : rtab .any (opsOf Try.f16 9) = round_Open.T9 := by kernel_rfl
theorem round_Open.bits9 : waitsOk round_Open.T9.2 round_Open.B9 = true := by kernel_rfl
def round_Open.T14 : Bool × List (List Nat × List Nat) := (true, [([], []), ([], []), ([1], [1]), ([2], [2]), ([], []), ([4], [4]), ([3, 5], [3, 5]), ([], []), ([7, 2], [7]), ([0, 7, 8], []), ([9, 0, 8, 0, 7, 8], [0, 9]), ([0, 1, 2, 3, 4, 5, 6, 7, 8, 9, 10], []), ([11, 6, 10, 0, 1, 2, 3, 4, 5, 6, 7, 8, 9, 10], [6, 11])])
def round_Open.B14 : List Nat := [0, 0, 2, 6, 0, 16, 62, 0, 134, 391, 903, 2047, 4095]
theorem round_Open.tab14 : rtab .any (opsOf Try.f16 14) = round_Open.T14 := by kernel_rfl
theorem round_Open.bits14 : waitsOk round_Open.T14.2 round_Open.B14 = true := by kernel_rfl
set_option maxHeartbeats 8000000 in
set_option maxRecDepth 100000 in
theorem round_Open.calls (k : Nat) (a0_0 : Int) (a0_1 : Int) (a1 : Int) (r1 : Int) (r2 : Bool) (r3 : Int) (r4 : Int) (r5 : Int) (w : World) (h : round_Open.f k a0_0 a0_1 a1 = some (r1, r2, r3, r4, r5)) :
    Calls Try.prog 16 #[.agg #[.int .i64 a0_0, .int .i64 a0_1], .int .u64 a1] w fun e w' => e = .returned (.tuple #[.agg #[.int .i64 r1, .bool r2, .int .i64 r3, .int .u64 r4], .int .i64 r5]) ∧ Below w.heap.size w w' := by
  have hu23 := Try.underlying23
  have hu42 := Try.underlying42
  have HB := Aside0.mk (Below.refl w.heap.size w)
  have H : ((round_Check.f a0_0 a0_1).bind fun t305 => (if t305 = 0 then ((bits_Len64.f k a1).bind fun t306 => (round_Open.j0 k a1 (decide (t306 > (wrap64 ((wrap64 (1 + a0_1)) + a0_0)))) a0_0 a0_1)) else (round_Open.j0 k a1 true a0_0 a0_1))) = some (r1, r2, r3, r4, r5) := h
  clear h
  have HC3 := Aside0.mk H
  clear H
  go_enter Try.func16, Try.ntmps16
  go_upto_region 1 with (first | ((with_reducible refine gate_dst (N := 2) rfl ?_); refine zbox (N := 2) (cs := #[.int .i64 a0_0, .int .i64 a0_1]) (t := 23) ?_; intro gb303 hg w4 hbox hb; have BK303 := Aside0.mk hbox; have GW303 := zge hg HB; have GE303 := zge hg HB; replace HB := zbs HB hb; clear hb hbox hg) | ((with_reducible refine gate_dst (N := 4) rfl ?_); refine zbox (N := 4) (cs := #[.int .i64 0, .bool false, .int .i64 0, .int .u64 0]) (t := 42) ?_; intro gb304 hg w5 hbox hb; have BK304 := Aside0.mk hbox; have GW304 := zge hg HB; have GE304 := zge hg HB; have NB303_304 := znl hg BK303; have NB304_303 := zng hg BK303; replace BK303 := zkb BK303 hb; replace HB := zbs HB hb; clear hb hbox hg))
  (try simp only [Act.put, List.setIfInBounds_toArray, List.set_cons_zero, List.set_cons_succ])
  go_cut [22] (fun v22 wc => ∃ (kq : Nat) (x22_2 : Bool), v22 = .bool x22_2 ∧ Aside0 (round_Open.j0 kq a1 x22_2 a0_0 a0_1 = some (r1, r2, r3, r4, r5)) ∧ Aside0 (kq ≤ k) ∧ Aside0 (wc.heap[gb303]? = some (.cells #[.int .i64 a0_0, .int .i64 a0_1] 23 (0, 0))) ∧ Aside0 (wc.heap[gb304]? = some (.cells #[.int .i64 0, .bool false, .int .i64 0, .int .u64 0] 42 (0, 0))) ∧ Aside0 (Below w.heap.size w wc))
  case first =>
    have H := HC3.out
    clear HC3
    replace H := Option.bind_eq_some_iff.mp H
    obtain ⟨t305, A60, H⟩ := H
    replace H : (if t305 = 0 then ((bits_Len64.f k a1).bind fun t306 => (round_Open.j0 k a1 (decide (t306 > (wrap64 ((wrap64 (1 + a0_1)) + a0_0)))) a0_0 a0_1)) else (round_Open.j0 k a1 true a0_0 a0_1)) = some (r1, r2, r3, r4, r5) := H
    have A6 := Aside0.mk A60
    clear A60
    by_cases c7 : t305 = 0
    · rw [if_pos c7] at H
      have c7b0 : (t305 == 0) = true := beq_iff_eq.mpr c7
      have c7b1 : (t305 != 0) = false := bne_eq_false_iff_eq.mpr c7
      clear c7
      (first | rw [c7b0] | (simp only [i64_w, i32_w]; rw [c7b0]) | skip)
      replace H := Option.bind_eq_some_iff.mp H
      obtain ⟨t306, A80, H⟩ := H
      replace H : (round_Open.j0 k a1 (decide (t306 > (wrap64 ((wrap64 (1 + a0_1)) + a0_0)))) a0_0 a0_1) = some (r1, r2, r3, r4, r5) := H
      have A8 := Aside0.mk A80
      clear A80
      have H' := Aside0.mk H
      clear H
      try go_wp2
      replace BK303 := Aside0.mk (blk_drew BK303.out)
      replace BK304 := Aside0.mk (blk_drew BK304.out)
      replace HB := Aside0.mk (below_drew1 HB.out)
      refine start_ (n := 14) (S := fun w' => w'.cell? ⟨gb303, 0, none⟩ = some (.int .i64 a0_0) ∧ w'.cell? ⟨gb303, 1, none⟩ = some (.int .i64 a0_1)) (ds := []) #[false, false, false, false, false, false, false, false, false, false, false, false, false, false] (by kernel_rfl) rfl rfl ⟨(blk_cell BK303.out 0).trans rfl, (blk_cell BK303.out 1).trans rfl⟩ (fun hHeld => ?_); refine with_tabW round_Open.tab1 round_Open.bits1 (fun HT_ HW_ => ?_)
      generalize w5.drew = w9 at BK303 BK304 HB hHeld ⊢
      refine ztake_ (i := 0) (N := some 9) #[true, false, false, false, false, false, false, false, false, false, false, false, false, false] rfl (take_ofW HT_.out HW_.out (by kernel_rfl)) hHeld (Or.inl ⟨by rfl, by rintro w' ⟨s0, s1⟩; go_simp; with_reducible rfl⟩) ?_
      refine one_ (i := 1) (N := some 10) #[true, true, false, false, false, false, false, false, false, false, false, false, false, false] rfl rfl (one_of HT_.out (by kernel_rfl)) (by decide) (fun K hK => ?_)
      refine goes_ Try.func18 (by kernel_rfl) rfl #[.agg #[.int .i64 a0_0, .int .i64 a0_1]] (by rfl) rfl rfl (by (try simp only [List.map_toArray, List.map_cons, List.map_nil]); first | done | rfl | (simp only [List.length_drop, List.length_take]; rfl)) ?_
      with_reducible refine (round_Check.calls a0_0 a0_1 t305 _ A6.out).mono ?_
      rintro e w10 ⟨rfl, hb⟩
      refine ⟨_, rfl, ?_⟩
      replace BK303 := zkb BK303 hb
      replace BK304 := zkb BK304 hb
      replace HB := zbs HB hb
      (try clear hb)
      (try clear hb2)
      (try clear hk)
      (try clear hi)
      refine hK.out _ _ ⟨(blk_cell BK303.out 0).trans rfl, (blk_cell BK303.out 1).trans rfl⟩ (fun hHeld => ?_)
      clear hK K
      refine norm_ (a' := ?_) ?_ ?_
      rotate_left
      · show Act.put _ (some 10) _ = _
        simp only [Act.put, List.setIfInBounds_toArray, List.set_cons_zero, List.set_cons_succ, i64_w, i32_w]
        rfl
      refine zpure_ (i := 2) (N := some 11) #[true, true, true, false, false, false, false, false, false, false, false, false, false, false] (any_of HT_.out (by kernel_rfl)) ?_
      refine zpure_ (i := 3) (N := some 12) #[true, true, true, true, false, false, false, false, false, false, false, false, false, false] (any_of HT_.out (by kernel_rfl)) ?_
      refine zpure_ (i := 4) (N := some 13) #[true, true, true, true, true, false, false, false, false, false, false, false, false, false] (any_of HT_.out (by kernel_rfl)) ?_
      refine zpure_ (i := 6) (N := some 15) #[true, true, true, true, true, false, true, false, false, false, false, false, false, false] (any_of HT_.out (by kernel_rfl)) ?_
      refine zpure_ (i := 9) (N := some 18) #[true, true, true, true, true, false, true, false, false, true, false, false, false, false] (any_of HT_.out (by kernel_rfl)) ?_
      refine ztake_ (i := 7) (N := some 16) #[true, true, true, true, true, false, true, true, false, true, false, false, false, false] rfl (take_ofW HT_.out HW_.out (by kernel_rfl)) hHeld (Or.inl ⟨by rfl, by rintro w' ⟨s0, s1⟩; go_simp; with_reducible rfl⟩) ?_
      refine zpure_ (i := 8) (N := some 17) #[true, true, true, true, true, false, true, true, true, true, false, false, false, false] (any_of HT_.out (by kernel_rfl)) ?_
      refine ztake_ (i := 10) (N := some 19) #[true, true, true, true, true, false, true, true, true, true, true, false, false, false] rfl (take_ofW HT_.out HW_.out (by kernel_rfl)) hHeld (Or.inl ⟨by rfl, by rintro w' ⟨s0, s1⟩; go_simp; with_reducible rfl⟩) ?_
      refine zpure_ (i := 11) (N := some 20) #[true, true, true, true, true, false, true, true, true, true, true, true, false, false] (any_of HT_.out (by kernel_rfl)) ?_
      refine one_ (i := 5) (N := some 14) #[true, true, true, true, true, true, true, true, true, true, true, true, false, false] rfl rfl (one_of HT_.out (by kernel_rfl)) (by decide) (fun K hK => ?_)
      refine goes_ Try.func37 (by kernel_rfl) rfl #[.int .u64 a1] (by rfl) rfl rfl (by (try simp only [List.map_toArray, List.map_cons, List.map_nil]); first | done | rfl | (simp only [List.length_drop, List.length_take]; rfl)) ?_
      with_reducible refine (bits_Len64.calls k a1 t306 _ A8.out).mono ?_
      rintro e w' ⟨rfl, ⟨nd, rfl⟩⟩
      refine ⟨_, rfl, ?_⟩
      refine hK.out _ _ ⟨(blk_cell BK303.out 0).trans rfl, (blk_cell BK303.out 1).trans rfl⟩ (fun hHeld => ?_)
      clear hK K
      refine norm_ (a' := ?_) ?_ ?_
      rotate_left
      · show Act.put _ (some 14) _ = _
        simp only [Act.put, List.setIfInBounds_toArray, List.set_cons_zero, List.set_cons_succ, i64_w, i32_w]
        rfl
      refine zpure_ (i := 12) (N := some 21) #[true, true, true, true, true, true, true, true, true, true, true, true, true, false] (any_of HT_.out (by kernel_rfl)) ?_
      refine zpure_ (i := 13) (N := some 22) #[true, true, true, true, true, true, true, true, true, true, true, true, true, true] (any_of HT_.out (by kernel_rfl)) ?_
      refine done_ (done_of HT_.out (by kernel_rfl)) ?_
      try go_wp2
      go_meet
      case rel => exact ⟨_, (decide (t306 > (wrap64 ((wrap64 (1 + a0_1)) + a0_0)))), (by first | rfl | (simp; done) | (simp [*]; done)), H', ⟨by first | omega | exact Nat.le_refl _⟩, ⟨zk BK303⟩, ⟨zk BK304⟩, ⟨zb HB⟩⟩
    · rw [if_neg c7] at H
      have c7b0 : (t305 == 0) = false := beq_eq_false_iff_ne.mpr c7
      have c7b1 : (t305 != 0) = true := bne_iff_ne.mpr c7
      (first | rw [c7b0] | (simp only [i64_w, i32_w]; rw [c7b0]) | skip)
      have H' := Aside0.mk H
      clear H
      try go_wp2
      replace BK303 := Aside0.mk (blk_drew BK303.out)
      replace BK304 := Aside0.mk (blk_drew BK304.out)
      replace HB := Aside0.mk (below_drew1 HB.out)
      refine start_ (n := 14) (S := fun w' => w'.cell? ⟨gb303, 0, none⟩ = some (.int .i64 a0_0) ∧ w'.cell? ⟨gb303, 1, none⟩ = some (.int .i64 a0_1)) (ds := []) #[false, false, false, false, false, false, false, false, false, false, false, false, false, false] (by kernel_rfl) rfl rfl ⟨(blk_cell BK303.out 0).trans rfl, (blk_cell BK303.out 1).trans rfl⟩ (fun hHeld => ?_); refine with_tabW round_Open.tab1 round_Open.bits1 (fun HT_ HW_ => ?_)
      generalize w5.drew = w11 at BK303 BK304 HB hHeld ⊢
      refine ztake_ (i := 0) (N := some 9) #[true, false, false, false, false, false, false, false, false, false, false, false, false, false] rfl (take_ofW HT_.out HW_.out (by kernel_rfl)) hHeld (Or.inl ⟨by rfl, by rintro w' ⟨s0, s1⟩; go_simp; with_reducible rfl⟩) ?_
      refine one_ (i := 1) (N := some 10) #[true, true, false, false, false, false, false, false, false, false, false, false, false, false] rfl rfl (one_of HT_.out (by kernel_rfl)) (by decide) (fun K hK => ?_)
      refine goes_ Try.func18 (by kernel_rfl) rfl #[.agg #[.int .i64 a0_0, .int .i64 a0_1]] (by rfl) rfl rfl (by (try simp only [List.map_toArray, List.map_cons, List.map_nil]); first | done | rfl | (simp only [List.length_drop, List.length_take]; rfl)) ?_
      with_reducible refine (round_Check.calls a0_0 a0_1 t305 _ A6.out).mono ?_
      rintro e w12 ⟨rfl, hb⟩
      refine ⟨_, rfl, ?_⟩
      replace BK303 := zkb BK303 hb
      replace BK304 := zkb BK304 hb
      replace HB := zbs HB hb
      (try clear hb)
      (try clear hb2)
      (try clear hk)
      (try clear hi)
      refine hK.out _ _ ⟨(blk_cell BK303.out 0).trans rfl, (blk_cell BK303.out 1).trans rfl⟩ (fun hHeld => ?_)
      clear hK K
      refine norm_ (a' := ?_) ?_ ?_
      rotate_left
      · show Act.put _ (some 10) _ = _
        simp only [Act.put, List.setIfInBounds_toArray, List.set_cons_zero, List.set_cons_succ, i64_w, i32_w]
        rfl
      refine zpure_ (i := 2) (N := some 11) #[true, true, true, false, false, false, false, false, false, false, false, false, false, false] (any_of HT_.out (by kernel_rfl)) ?_
      refine zpure_ (i := 3) (N := some 12) #[true, true, true, true, false, false, false, false, false, false, false, false, false, false] (any_of HT_.out (by kernel_rfl)) ?_
      refine pure_ (i := 4) (N := some 13) (v := undef) (a' := ?_) #[true, true, true, true, true, false, false, false, false, false, false, false, false, false] rfl rfl (any_of HT_.out (by kernel_rfl)) (fun _ _ _ h => h) (Or.inr ⟨by rfl, rfl⟩) ?_ ?_
      rotate_left
      · simp only [Act.put, List.setIfInBounds_toArray, List.set_cons_zero, List.set_cons_succ, i64_w, i32_w]
        rfl
      refine pure_ (i := 5) (N := some 14) (v := undef) (a' := ?_) #[true, true, true, true, true, true, false, false, false, false, false, false, false, false] rfl rfl (any_of HT_.out (by kernel_rfl)) (fun _ _ _ h => h) (Or.inr ⟨by rfl, rfl⟩) ?_ ?_
      rotate_left
      · simp only [Act.put, List.setIfInBounds_toArray, List.set_cons_zero, List.set_cons_succ, i64_w, i32_w]
        rfl
      refine pure_ (i := 6) (N := some 15) (v := undef) (a' := ?_) #[true, true, true, true, true, true, true, false, false, false, false, false, false, false] rfl rfl (any_of HT_.out (by kernel_rfl)) (fun _ _ _ h => h) (Or.inr ⟨by rfl, rfl⟩) ?_ ?_
      rotate_left
      · simp only [Act.put, List.setIfInBounds_toArray, List.set_cons_zero, List.set_cons_succ, i64_w, i32_w]
        rfl
      refine pure_ (i := 7) (N := some 16) (v := undef) (a' := ?_) #[true, true, true, true, true, true, true, true, false, false, false, false, false, false] rfl rfl (any_of HT_.out (by kernel_rfl)) (fun _ _ _ h => h) (Or.inr ⟨by rfl, rfl⟩) ?_ ?_
      rotate_left
      · simp only [Act.put, List.setIfInBounds_toArray, List.set_cons_zero, List.set_cons_succ, i64_w, i32_w]
        rfl
      refine pure_ (i := 8) (N := some 17) (v := undef) (a' := ?_) #[true, true, true, true, true, true, true, true, true, false, false, false, false, false] rfl rfl (any_of HT_.out (by kernel_rfl)) (fun _ _ _ h => h) (Or.inr ⟨by rfl, rfl⟩) ?_ ?_
      rotate_left
      · simp only [Act.put, List.setIfInBounds_toArray, List.set_cons_zero, List.set_cons_succ, i64_w, i32_w]
        rfl
      refine pure_ (i := 9) (N := some 18) (v := undef) (a' := ?_) #[true, true, true, true, true, true, true, true, true, true, false, false, false, false] rfl rfl (any_of HT_.out (by kernel_rfl)) (fun _ _ _ h => h) (Or.inr ⟨by rfl, rfl⟩) ?_ ?_
      rotate_left
      · simp only [Act.put, List.setIfInBounds_toArray, List.set_cons_zero, List.set_cons_succ, i64_w, i32_w]
        rfl
      refine pure_ (i := 10) (N := some 19) (v := undef) (a' := ?_) #[true, true, true, true, true, true, true, true, true, true, true, false, false, false] rfl rfl (any_of HT_.out (by kernel_rfl)) (fun _ _ _ h => h) (Or.inr ⟨by rfl, rfl⟩) ?_ ?_
      rotate_left
      · simp only [Act.put, List.setIfInBounds_toArray, List.set_cons_zero, List.set_cons_succ, i64_w, i32_w]
        rfl
      refine pure_ (i := 11) (N := some 20) (v := undef) (a' := ?_) #[true, true, true, true, true, true, true, true, true, true, true, true, false, false] rfl rfl (any_of HT_.out (by kernel_rfl)) (fun _ _ _ h => h) (Or.inr ⟨by rfl, rfl⟩) ?_ ?_
      rotate_left
      · simp only [Act.put, List.setIfInBounds_toArray, List.set_cons_zero, List.set_cons_succ, i64_w, i32_w]
        rfl
      refine pure_ (i := 12) (N := some 21) (v := undef) (a' := ?_) #[true, true, true, true, true, true, true, true, true, true, true, true, true, false] rfl rfl (any_of HT_.out (by kernel_rfl)) (fun _ _ _ h => h) (Or.inr ⟨by rfl, rfl⟩) ?_ ?_
      rotate_left
      · simp only [Act.put, List.setIfInBounds_toArray, List.set_cons_zero, List.set_cons_succ, i64_w, i32_w]
        rfl
      refine zpure_ (i := 13) (N := some 22) #[true, true, true, true, true, true, true, true, true, true, true, true, true, true] (any_of HT_.out (by kernel_rfl)) ?_
      refine done_ (done_of HT_.out (by kernel_rfl)) ?_
      try go_wp2
      go_meet
      case rel => exact ⟨_, (true), (by first | rfl | (simp; done) | (simp [*]; done)), H', ⟨by first | omega | exact Nat.le_refl _⟩, ⟨zk BK303⟩, ⟨zk BK304⟩, ⟨zb HB⟩⟩
  case rest =>
    clear HC3
    try clear c1
    try clear p2
    try clear c3
    try clear p6
    try clear c7
    try clear c7b0
    try clear c7b1
    obtain ⟨kq, x22_2, rfl, HA, HJ2, BK303, BK304, HB⟩ := hcut
    cases kq with
    | zero => exact absurd HA.out (by simp [round_Open.j0])
    | succ kj2 =>
      have H := HA.out
      clear HA
      simp only [round_Open.j0] at H
      by_cases c13 : x22_2 = true
      · subst c13
        have H1 : (some (0, false, 0, 0, 1)) = some (r1, r2, r3, r4, r5) := by rw [if_pos rfl] at H; exact H
        clear H
        have H := H1
        clear H1
        simp only [Option.some.injEq, Prod.mk.injEq] at H
        obtain ⟨rfl, rfl, rfl, rfl, rfl⟩ := H
        have hnb14 := NB304_303.out
        have hnc14 := NB303_304.out
        obtain ⟨hcz15_0, hcz15_1, hcz15_2, hcz15_3, hfz15_0, hfz15_1, hfz15_2, hfz15_3⟩ := zc4 BK304
        go_wp2
        refine bodyPost_ret (results_ct rfl _ _ gb304 42 #[.int .i64 0, .bool false, .int .i64 0, .int .u64 0] (0, 0) _ rfl (zkp BK304) Try.underlying42 rfl (by kernel_rfl)) rfl ?_
        exact ⟨by first | rfl | (simp [errW_none, errW_some] <;> rfl) | (simp [*, errW_none, errW_some] <;> rfl), zb HB⟩
      · replace c13 := Bool.eq_false_iff.mpr c13
        subst c13
        have H1 : ((round_sign.f a0_0 a0_1 true).bind fun t307 => (if 0 ≤ a0_0 then ((round_top.f a0_0 a0_1).bind fun t309 => ((round_top.f a0_0 a0_1).bind fun t310 => ((round_top.f a0_0 a0_1).bind fun t311 => (if (Go.bits .and .u64 a1 t310) = t311 then (round_Open.j1 kj2 a1 (Go.bits .and .u64 a1 (IntKind.u64.wrap ((shl .u64 1 a0_0) - 1))) (shr .i64 (wrap64 (Go.bits .and .u64 a1 t309)) a0_0) ((Go.bits .and .u64 a1 (IntKind.u64.wrap ((shl .u64 1 a0_0) - 1))) == 0) a0_0 a0_1 0 ((Go.bits .and .u64 a1 t307) != 0) 0 0) else (round_Open.j1 kj2 a1 (Go.bits .and .u64 a1 (IntKind.u64.wrap ((shl .u64 1 a0_0) - 1))) (shr .i64 (wrap64 (Go.bits .and .u64 a1 t309)) a0_0) false a0_0 a0_1 0 ((Go.bits .and .u64 a1 t307) != 0) 0 0))))) else (none))) = some (r1, r2, r3, r4, r5) := by rw [if_neg (show ¬ (false = true) by decide)] at H; exact H
        clear H
        have H := H1
        clear H1
        replace H := Option.bind_eq_some_iff.mp H
        obtain ⟨t307, A160, H⟩ := H
        replace H : (if 0 ≤ a0_0 then ((round_top.f a0_0 a0_1).bind fun t309 => ((round_top.f a0_0 a0_1).bind fun t310 => ((round_top.f a0_0 a0_1).bind fun t311 => (if (Go.bits .and .u64 a1 t310) = t311 then (round_Open.j1 kj2 a1 (Go.bits .and .u64 a1 (IntKind.u64.wrap ((shl .u64 1 a0_0) - 1))) (shr .i64 (wrap64 (Go.bits .and .u64 a1 t309)) a0_0) ((Go.bits .and .u64 a1 (IntKind.u64.wrap ((shl .u64 1 a0_0) - 1))) == 0) a0_0 a0_1 0 ((Go.bits .and .u64 a1 t307) != 0) 0 0) else (round_Open.j1 kj2 a1 (Go.bits .and .u64 a1 (IntKind.u64.wrap ((shl .u64 1 a0_0) - 1))) (shr .i64 (wrap64 (Go.bits .and .u64 a1 t309)) a0_0) false a0_0 a0_1 0 ((Go.bits .and .u64 a1 t307) != 0) 0 0))))) else (none)) = some (r1, r2, r3, r4, r5) := H
        have A16 := Aside0.mk A160
        clear A160
        by_cases c17 : 0 ≤ a0_0
        · rw [if_pos c17] at H
          have c17b0 := eq_true c17
          have c17b1 : decide (0 ≤ a0_0) = true := decide_eq_true c17
          clear c17
          obtain ⟨ji18, hji18⟩ : ∃ j_ : Int, (shl .u64 1 a0_0) = j_ := ⟨_, rfl⟩
          replace H : ((round_top.f a0_0 a0_1).bind fun t309 => ((round_top.f a0_0 a0_1).bind fun t310 => ((round_top.f a0_0 a0_1).bind fun t311 => (if (Go.bits .and .u64 a1 t310) = t311 then (round_Open.j1 kj2 a1 (Go.bits .and .u64 a1 (IntKind.u64.wrap ((ji18) - 1))) (shr .i64 (wrap64 (Go.bits .and .u64 a1 t309)) a0_0) ((Go.bits .and .u64 a1 (IntKind.u64.wrap ((ji18) - 1))) == 0) a0_0 a0_1 0 ((Go.bits .and .u64 a1 t307) != 0) 0 0) else (round_Open.j1 kj2 a1 (Go.bits .and .u64 a1 (IntKind.u64.wrap ((ji18) - 1))) (shr .i64 (wrap64 (Go.bits .and .u64 a1 t309)) a0_0) false a0_0 a0_1 0 ((Go.bits .and .u64 a1 t307) != 0) 0 0))))) = some (r1, r2, r3, r4, r5) := by first | (rw [hji18] at H; exact H) | (simp only [hji18] at H ⊢; exact H)
          (try rw [hji18] at A16)
          have hji18_ : (IntKind.u64.wrap (1 * 2 ^ min a0_0.toNat 64)) = ji18 := hji18
          have hji18z : a0_0 ≤ 64 → (IntKind.u64.wrap (1 * 2 ^ a0_0.toNat)) = ji18 := shl_small hji18
          have hji18u : (IntKind.u64.wrap (2 ^ min a0_0.toNat 64)) = ji18 := by have h_ := hji18_; rw [Int.one_mul] at h_; exact h_
          have hji18v : a0_0 ≤ 64 → (IntKind.u64.wrap (2 ^ a0_0.toNat)) = ji18 := fun hle_ => by have h_ := hji18z hle_; rw [Int.one_mul] at h_; exact h_
          replace H := Option.bind_eq_some_iff.mp H
          obtain ⟨t309, A190, H⟩ := H
          replace H : ((round_top.f a0_0 a0_1).bind fun t310 => ((round_top.f a0_0 a0_1).bind fun t311 => (if (Go.bits .and .u64 a1 t310) = t311 then (round_Open.j1 kj2 a1 (Go.bits .and .u64 a1 (IntKind.u64.wrap ((ji18) - 1))) (shr .i64 (wrap64 (Go.bits .and .u64 a1 t309)) a0_0) ((Go.bits .and .u64 a1 (IntKind.u64.wrap ((ji18) - 1))) == 0) a0_0 a0_1 0 ((Go.bits .and .u64 a1 t307) != 0) 0 0) else (round_Open.j1 kj2 a1 (Go.bits .and .u64 a1 (IntKind.u64.wrap ((ji18) - 1))) (shr .i64 (wrap64 (Go.bits .and .u64 a1 t309)) a0_0) false a0_0 a0_1 0 ((Go.bits .and .u64 a1 t307) != 0) 0 0)))) = some (r1, r2, r3, r4, r5) := H
          have A19 := Aside0.mk A190
          clear A190
          have c20b0 := eq_true (of_decide_eq_true (by first | (with_reducible assumption) | assumption) : 0 ≤ a0_0)
          obtain ⟨ji21, hji21⟩ : ∃ j_ : Int, (shr .i64 (wrap64 (Go.bits .and .u64 a1 t309)) a0_0) = j_ := ⟨_, rfl⟩
          replace H : ((round_top.f a0_0 a0_1).bind fun t310 => ((round_top.f a0_0 a0_1).bind fun t311 => (if (Go.bits .and .u64 a1 t310) = t311 then (round_Open.j1 kj2 a1 (Go.bits .and .u64 a1 (IntKind.u64.wrap ((ji18) - 1))) ji21 ((Go.bits .and .u64 a1 (IntKind.u64.wrap ((ji18) - 1))) == 0) a0_0 a0_1 0 ((Go.bits .and .u64 a1 t307) != 0) 0 0) else (round_Open.j1 kj2 a1 (Go.bits .and .u64 a1 (IntKind.u64.wrap ((ji18) - 1))) ji21 false a0_0 a0_1 0 ((Go.bits .and .u64 a1 t307) != 0) 0 0)))) = some (r1, r2, r3, r4, r5) := by first | (rw [hji21] at H; exact H) | (simp only [hji21] at H ⊢; exact H)
          (try rw [hji21] at A16)
          (try rw [hji21] at A19)
          have hji21_ : ((wrap64 (Go.bits .and .u64 a1 t309)) / 2 ^ min a0_0.toNat 64) = ji21 := hji21
          have hji21z : a0_0 ≤ 64 → ((wrap64 (Go.bits .and .u64 a1 t309)) / 2 ^ a0_0.toNat) = ji21 := shr_small hji21
          have HC22 := Aside0.mk H
          clear H
          have hnb23 := NB303_304.out
          have hnc23 := NB304_303.out
          obtain ⟨hcz24_0, hcz24_1, hfz24_0, hfz24_1⟩ := zc2 BK303
          try go_wp2_with (first | ((with_reducible refine gate_callee (f := 27) rfl ?_); refine zgo (some 26) Try.func27 #[.agg #[.int .i64 a0_0, .int .i64 a0_1], .bool true] ?_; (with_reducible refine (round_sign.calls a0_0 a0_1 true t307 _ A16.out).mono ?_); rintro e w25 ⟨rfl, hb⟩; refine ⟨_, rfl, ?_⟩; replace BK303 := zkb BK303 hb; replace BK304 := zkb BK304 hb; replace HB := zbs HB hb; (try clear hb); (try clear hb2); (try clear hk); (try clear hi)) | ((with_reducible refine gate_dst (N := 6) rfl ?_); refine zbox (N := 6) (cs := #[.int .i64 0, .bool false, .int .i64 0, .int .u64 0]) (t := 42) ?_; intro gb308 hg w26 hbox hb; have BK308 := Aside0.mk hbox; have GW308 := zge hg HB; have GE308 := zge hg HB; have NB303_308 := znl hg BK303; have NB308_303 := zng hg BK303; have NB304_308 := znl hg BK304; have NB308_304 := zng hg BK304; replace BK303 := zkb BK303 hb; replace BK304 := zkb BK304 hb; replace HB := zbs HB hb; clear hb hbox hg; have hnb27 := NB308_303.out; have hnc27 := NB303_308.out; have hnb28 := NB308_304.out; have hnc28 := NB304_308.out; obtain ⟨hcz29_0, hcz29_1, hcz29_2, hcz29_3, hfz29_0, hfz29_1, hfz29_2, hfz29_3⟩ := zc4 BK308; obtain ⟨hcz30_0, hcz30_1, hfz30_0, hfz30_1⟩ := zc2 BK303))
          have n0_ : Aside0 (((((w26.setCell ⟨gb308, 0, none⟩ (.int .i64 0)).setCell ⟨gb308, 1, none⟩ (.bool ((Go.bits .and .u64 a1 t307) != 0))).setCell ⟨gb308, 2, none⟩ (.int .i64 0)).setCell ⟨gb308, 3, none⟩ (.int .u64 0)).heap[gb303]? = some (.cells #[.int .i64 a0_0, .int .i64 a0_1] 23 (0, 0))) := ⟨zk BK303⟩
          have n1_ : Aside0 (((((w26.setCell ⟨gb308, 0, none⟩ (.int .i64 0)).setCell ⟨gb308, 1, none⟩ (.bool ((Go.bits .and .u64 a1 t307) != 0))).setCell ⟨gb308, 2, none⟩ (.int .i64 0)).setCell ⟨gb308, 3, none⟩ (.int .u64 0)).heap[gb304]? = some (.cells #[.int .i64 0, .bool false, .int .i64 0, .int .u64 0] 42 (0, 0))) := ⟨zk BK304⟩
          have n2_ : Aside0 (((((w26.setCell ⟨gb308, 0, none⟩ (.int .i64 0)).setCell ⟨gb308, 1, none⟩ (.bool ((Go.bits .and .u64 a1 t307) != 0))).setCell ⟨gb308, 2, none⟩ (.int .i64 0)).setCell ⟨gb308, 3, none⟩ (.int .u64 0)).heap[gb308]? = some (.cells #[.int .i64 0, .bool ((Go.bits .and .u64 a1 t307) != 0), .int .i64 0, .int .u64 0] 42 (0, 0))) := ⟨zkp BK308⟩
          have n3_ : Aside0 (Below w.heap.size w ((((w26.setCell ⟨gb308, 0, none⟩ (.int .i64 0)).setCell ⟨gb308, 1, none⟩ (.bool ((Go.bits .and .u64 a1 t307) != 0))).setCell ⟨gb308, 2, none⟩ (.int .i64 0)).setCell ⟨gb308, 3, none⟩ (.int .u64 0))) := ⟨zb HB⟩
          (try clear BK303)
          (try clear BK304)
          (try clear BK308)
          (try clear HB)
          generalize ((((w26.setCell ⟨gb308, 0, none⟩ (.int .i64 0)).setCell ⟨gb308, 1, none⟩ (.bool ((Go.bits .and .u64 a1 t307) != 0))).setCell ⟨gb308, 2, none⟩ (.int .i64 0)).setCell ⟨gb308, 3, none⟩ (.int .u64 0)) = w31 at n0_ n1_ n2_ n3_ ⊢
          have BK303 := n0_
          have BK304 := n1_
          have BK308 := n2_
          have HB := n3_
          clear n0_ n1_ n2_ n3_
          replace BK303 := Aside0.mk (blk_drew BK303.out)
          replace BK304 := Aside0.mk (blk_drew BK304.out)
          replace BK308 := Aside0.mk (blk_drew BK308.out)
          replace HB := Aside0.mk (below_drew1 HB.out)
          refine start_ (n := 9) (S := fun w' => w'.cell? ⟨gb303, 0, none⟩ = some (.int .i64 a0_0) ∧ w'.cell? ⟨gb303, 1, none⟩ = some (.int .i64 a0_1)) (ds := []) #[false, false, false, false, false, false, false, false, false] (by kernel_rfl) rfl rfl ⟨(blk_cell BK303.out 0).trans rfl, (blk_cell BK303.out 1).trans rfl⟩ (fun hHeld => ?_); refine with_tabW round_Open.tab5 round_Open.bits5 (fun HT_ HW_ => ?_)
          generalize w31.drew = w32 at BK303 BK304 BK308 HB hHeld ⊢
          refine zpure_ (i := 0) (N := some 36) #[true, false, false, false, false, false, false, false, false] (any_of HT_.out (by kernel_rfl)) ?_
          refine zpure_ (i := 5) (N := some 41) #[true, false, false, false, false, true, false, false, false] (any_of HT_.out (by kernel_rfl)) ?_
          refine ztake_ (i := 1) (N := some 37) #[true, true, false, false, false, true, false, false, false] rfl (take_ofW HT_.out HW_.out (by kernel_rfl)) hHeld (Or.inl ⟨by rfl, by rintro w' ⟨s0, s1⟩; go_simp; with_reducible rfl⟩) ?_
          refine ztake_ (i := 6) (N := some 42) #[true, true, false, false, false, true, true, false, false] rfl (take_ofW HT_.out HW_.out (by kernel_rfl)) hHeld (Or.inl ⟨by rfl, by rintro w' ⟨s0, s1⟩; go_simp; with_reducible rfl⟩) ?_
          refine one_ (i := 2) (N := some 38) #[true, true, true, false, false, true, true, false, false] rfl rfl (one_of HT_.out (by kernel_rfl)) (by decide) (fun K hK => ?_)
          refine goes_ Try.func38 (by kernel_rfl) rfl #[.agg #[.int .i64 a0_0, .int .i64 a0_1]] (by rfl) rfl rfl (by (try simp only [List.map_toArray, List.map_cons, List.map_nil]); first | done | rfl | (simp only [List.length_drop, List.length_take]; rfl)) ?_
          with_reducible refine (round_top.calls a0_0 a0_1 t309 _ A19.out).mono ?_
          rintro e w33 ⟨rfl, hb⟩
          refine ⟨_, rfl, ?_⟩
          replace BK303 := zkb BK303 hb
          replace BK304 := zkb BK304 hb
          replace BK308 := zkb BK308 hb
          replace HB := zbs HB hb
          (try clear hb)
          (try clear hb2)
          (try clear hk)
          (try clear hi)
          refine hK.out _ _ ⟨(blk_cell BK303.out 0).trans rfl, (blk_cell BK303.out 1).trans rfl⟩ (fun hHeld => ?_)
          clear hK K
          refine norm_ (a' := ?_) ?_ ?_
          rotate_left
          · show Act.put _ (some 38) _ = _
            simp only [Act.put, List.setIfInBounds_toArray, List.set_cons_zero, List.set_cons_succ, i64_w, i32_w]
            rfl
          refine zpure_ (i := 3) (N := some 39) #[true, true, true, true, false, true, true, false, false] (any_of HT_.out (by kernel_rfl)) ?_
          refine zpure_ (i := 4) (N := some 40) #[true, true, true, true, true, true, true, false, false] (any_of HT_.out (by kernel_rfl)) ?_
          refine zpure_ (i := 7) (N := some 43) #[true, true, true, true, true, true, true, true, false] (any_of HT_.out (by kernel_rfl)) ?_
          refine zpure_ (i := 8) (N := some 8) #[true, true, true, true, true, true, true, true, true] (any_of HT_.out (by kernel_rfl)) ?_
          refine done_ (done_of HT_.out (by kernel_rfl)) ?_
          go_upto_region 7 with (fail)
          go_cut [59] (fun v59 wc => ∃ (kq : Nat) (x59_21 : Bool), v59 = .bool x59_21 ∧ Aside0 (round_Open.j1 kq a1 (Go.bits .and .u64 a1 (IntKind.u64.wrap ((ji18) - 1))) ji21 x59_21 a0_0 a0_1 0 ((Go.bits .and .u64 a1 t307) != 0) 0 0 = some (r1, r2, r3, r4, r5)) ∧ Aside0 (kq ≤ kj2) ∧ Aside0 (wc.heap[gb303]? = some (.cells #[.int .i64 a0_0, .int .i64 a0_1] 23 (0, 0))) ∧ Aside0 (wc.heap[gb304]? = some (.cells #[.int .i64 0, .bool false, .int .i64 0, .int .u64 0] 42 (0, 0))) ∧ Aside0 (wc.heap[gb308]? = some (.cells #[.int .i64 0, .bool ((Go.bits .and .u64 a1 t307) != 0), .int .i64 0, .int .u64 0] 42 (0, 0))) ∧ Aside0 (Below w.heap.size w wc))
          case first =>
            have H := HC22.out
            clear HC22
            replace H := Option.bind_eq_some_iff.mp H
            obtain ⟨t310, A340, H⟩ := H
            replace H : ((round_top.f a0_0 a0_1).bind fun t311 => (if (Go.bits .and .u64 a1 t310) = t311 then (round_Open.j1 kj2 a1 (Go.bits .and .u64 a1 (IntKind.u64.wrap ((ji18) - 1))) ji21 ((Go.bits .and .u64 a1 (IntKind.u64.wrap ((ji18) - 1))) == 0) a0_0 a0_1 0 ((Go.bits .and .u64 a1 t307) != 0) 0 0) else (round_Open.j1 kj2 a1 (Go.bits .and .u64 a1 (IntKind.u64.wrap ((ji18) - 1))) ji21 false a0_0 a0_1 0 ((Go.bits .and .u64 a1 t307) != 0) 0 0))) = some (r1, r2, r3, r4, r5) := H
            have A34 := Aside0.mk A340
            clear A340
            replace H := Option.bind_eq_some_iff.mp H
            obtain ⟨t311, A350, H⟩ := H
            replace H : (if (Go.bits .and .u64 a1 t310) = t311 then (round_Open.j1 kj2 a1 (Go.bits .and .u64 a1 (IntKind.u64.wrap ((ji18) - 1))) ji21 ((Go.bits .and .u64 a1 (IntKind.u64.wrap ((ji18) - 1))) == 0) a0_0 a0_1 0 ((Go.bits .and .u64 a1 t307) != 0) 0 0) else (round_Open.j1 kj2 a1 (Go.bits .and .u64 a1 (IntKind.u64.wrap ((ji18) - 1))) ji21 false a0_0 a0_1 0 ((Go.bits .and .u64 a1 t307) != 0) 0 0)) = some (r1, r2, r3, r4, r5) := H
            have A35 := Aside0.mk A350
            clear A350
            by_cases c36 : (Go.bits .and .u64 a1 t310) = t311
            · rw [if_pos c36] at H
              have c36b0 : ((Go.bits .and .u64 a1 t310) == t311) = true := beq_iff_eq.mpr c36
              have c36b1 : ((Go.bits .and .u64 a1 t310) != t311) = false := bne_eq_false_iff_eq.mpr c36
              clear c36
              (first | rw [c36b0] | (simp only [i64_w, i32_w]; rw [c36b0]) | skip)
              have H' := Aside0.mk H
              clear H
              try go_wp2
              replace BK303 := Aside0.mk (blk_drew BK303.out)
              replace BK304 := Aside0.mk (blk_drew BK304.out)
              replace BK308 := Aside0.mk (blk_drew BK308.out)
              replace HB := Aside0.mk (below_drew1 HB.out)
              refine start_ (n := 12) (S := fun w' => w'.cell? ⟨gb303, 0, none⟩ = some (.int .i64 a0_0) ∧ w'.cell? ⟨gb303, 1, none⟩ = some (.int .i64 a0_1)) (ds := []) #[false, false, false, false, false, false, false, false, false, false, false, false] (by kernel_rfl) rfl rfl ⟨(blk_cell BK303.out 0).trans rfl, (blk_cell BK303.out 1).trans rfl⟩ (fun hHeld => ?_); refine with_tabW round_Open.tab7 round_Open.bits7 (fun HT_ HW_ => ?_)
              generalize w33.drew = w37 at BK303 BK304 BK308 HB hHeld ⊢
              refine zpure_ (i := 0) (N := some 60) #[true, false, false, false, false, false, false, false, false, false, false, false] (any_of HT_.out (by kernel_rfl)) ?_
              refine ztake_ (i := 1) (N := some 61) #[true, true, false, false, false, false, false, false, false, false, false, false] rfl (take_ofW HT_.out HW_.out (by kernel_rfl)) hHeld (Or.inl ⟨by rfl, by rintro w' ⟨s0, s1⟩; go_simp; with_reducible rfl⟩) ?_
              refine ztake_ (i := 4) (N := some 64) #[true, true, false, false, true, false, false, false, false, false, false, false] rfl (take_ofW HT_.out HW_.out (by kernel_rfl)) hHeld (Or.inl ⟨by rfl, by rintro w' ⟨s0, s1⟩; go_simp; with_reducible rfl⟩) ?_
              refine one_ (i := 2) (N := some 62) #[true, true, true, false, true, false, false, false, false, false, false, false] rfl rfl (one_of HT_.out (by kernel_rfl)) (by decide) (fun K hK => ?_)
              refine goes_ Try.func38 (by kernel_rfl) rfl #[.agg #[.int .i64 a0_0, .int .i64 a0_1]] (by rfl) rfl rfl (by (try simp only [List.map_toArray, List.map_cons, List.map_nil]); first | done | rfl | (simp only [List.length_drop, List.length_take]; rfl)) ?_
              with_reducible refine (round_top.calls a0_0 a0_1 t310 _ A34.out).mono ?_
              rintro e w38 ⟨rfl, hb⟩
              refine ⟨_, rfl, ?_⟩
              replace BK303 := zkb BK303 hb
              replace BK304 := zkb BK304 hb
              replace BK308 := zkb BK308 hb
              replace HB := zbs HB hb
              (try clear hb)
              (try clear hb2)
              (try clear hk)
              (try clear hi)
              refine hK.out _ _ ⟨(blk_cell BK303.out 0).trans rfl, (blk_cell BK303.out 1).trans rfl⟩ (fun hHeld => ?_)
              clear hK K
              refine norm_ (a' := ?_) ?_ ?_
              rotate_left
              · show Act.put _ (some 62) _ = _
                simp only [Act.put, List.setIfInBounds_toArray, List.set_cons_zero, List.set_cons_succ, i64_w, i32_w]
                rfl
              refine zpure_ (i := 3) (N := some 63) #[true, true, true, true, true, false, false, false, false, false, false, false] (any_of HT_.out (by kernel_rfl)) ?_
              refine one_ (i := 5) (N := some 65) #[true, true, true, true, true, true, false, false, false, false, false, false] rfl rfl (one_of HT_.out (by kernel_rfl)) (by decide) (fun K hK => ?_)
              refine goes_ Try.func38 (by kernel_rfl) rfl #[.agg #[.int .i64 a0_0, .int .i64 a0_1]] (by rfl) rfl rfl (by (try simp only [List.map_toArray, List.map_cons, List.map_nil]); first | done | rfl | (simp only [List.length_drop, List.length_take]; rfl)) ?_
              with_reducible refine (round_top.calls a0_0 a0_1 t311 _ A35.out).mono ?_
              rintro e w39 ⟨rfl, hb⟩
              refine ⟨_, rfl, ?_⟩
              replace BK303 := zkb BK303 hb
              replace BK304 := zkb BK304 hb
              replace BK308 := zkb BK308 hb
              replace HB := zbs HB hb
              (try clear hb)
              (try clear hb2)
              (try clear hk)
              (try clear hi)
              refine hK.out _ _ ⟨(blk_cell BK303.out 0).trans rfl, (blk_cell BK303.out 1).trans rfl⟩ (fun hHeld => ?_)
              clear hK K
              refine norm_ (a' := ?_) ?_ ?_
              rotate_left
              · show Act.put _ (some 65) _ = _
                simp only [Act.put, List.setIfInBounds_toArray, List.set_cons_zero, List.set_cons_succ, i64_w, i32_w]
                rfl
              refine zpure_ (i := 6) (N := some 66) #[true, true, true, true, true, true, true, false, false, false, false, false] (any_of HT_.out (by kernel_rfl)) ?_
              refine zpure_ (i := 7) (N := some 67) #[true, true, true, true, true, true, true, true, false, false, false, false] (any_of HT_.out (by kernel_rfl)) ?_
              refine zpure_ (i := 8) (N := some 68) #[true, true, true, true, true, true, true, true, true, false, false, false] (any_of HT_.out (by kernel_rfl)) ?_
              refine zpure_ (i := 9) (N := some 69) #[true, true, true, true, true, true, true, true, true, true, false, false] (any_of HT_.out (by kernel_rfl)) ?_
              refine zpure_ (i := 10) (N := some 70) #[true, true, true, true, true, true, true, true, true, true, true, false] (any_of HT_.out (by kernel_rfl)) ?_
              refine zpure_ (i := 11) (N := some 59) #[true, true, true, true, true, true, true, true, true, true, true, true] (any_of HT_.out (by kernel_rfl)) ?_
              refine done_ (done_of HT_.out (by kernel_rfl)) ?_
              try go_wp2
              go_meet
              case rel => exact ⟨_, (((Go.bits .and .u64 a1 (IntKind.u64.wrap ((ji18) - 1))) == 0)), (by first | rfl | (simp; done) | (simp only [← hji18] <;> (first | rfl | simp)) | (simp [*]; done)), H', ⟨by have := HJ2.out; first | omega | exact Nat.le_refl _⟩, ⟨zk BK303⟩, ⟨zk BK304⟩, ⟨zk BK308⟩, ⟨zb HB⟩⟩
            · rw [if_neg c36] at H
              have c36b0 : ((Go.bits .and .u64 a1 t310) == t311) = false := beq_eq_false_iff_ne.mpr c36
              have c36b1 : ((Go.bits .and .u64 a1 t310) != t311) = true := bne_iff_ne.mpr c36
              (first | rw [c36b0] | (simp only [i64_w, i32_w]; rw [c36b0]) | skip)
              have H' := Aside0.mk H
              clear H
              try go_wp2
              replace BK303 := Aside0.mk (blk_drew BK303.out)
              replace BK304 := Aside0.mk (blk_drew BK304.out)
              replace BK308 := Aside0.mk (blk_drew BK308.out)
              replace HB := Aside0.mk (below_drew1 HB.out)
              refine start_ (n := 12) (S := fun w' => w'.cell? ⟨gb303, 0, none⟩ = some (.int .i64 a0_0) ∧ w'.cell? ⟨gb303, 1, none⟩ = some (.int .i64 a0_1)) (ds := []) #[false, false, false, false, false, false, false, false, false, false, false, false] (by kernel_rfl) rfl rfl ⟨(blk_cell BK303.out 0).trans rfl, (blk_cell BK303.out 1).trans rfl⟩ (fun hHeld => ?_); refine with_tabW round_Open.tab7 round_Open.bits7 (fun HT_ HW_ => ?_)
              generalize w33.drew = w40 at BK303 BK304 BK308 HB hHeld ⊢
              refine zpure_ (i := 0) (N := some 60) #[true, false, false, false, false, false, false, false, false, false, false, false] (any_of HT_.out (by kernel_rfl)) ?_
              refine ztake_ (i := 1) (N := some 61) #[true, true, false, false, false, false, false, false, false, false, false, false] rfl (take_ofW HT_.out HW_.out (by kernel_rfl)) hHeld (Or.inl ⟨by rfl, by rintro w' ⟨s0, s1⟩; go_simp; with_reducible rfl⟩) ?_
              refine ztake_ (i := 4) (N := some 64) #[true, true, false, false, true, false, false, false, false, false, false, false] rfl (take_ofW HT_.out HW_.out (by kernel_rfl)) hHeld (Or.inl ⟨by rfl, by rintro w' ⟨s0, s1⟩; go_simp; with_reducible rfl⟩) ?_
              refine one_ (i := 2) (N := some 62) #[true, true, true, false, true, false, false, false, false, false, false, false] rfl rfl (one_of HT_.out (by kernel_rfl)) (by decide) (fun K hK => ?_)
              refine goes_ Try.func38 (by kernel_rfl) rfl #[.agg #[.int .i64 a0_0, .int .i64 a0_1]] (by rfl) rfl rfl (by (try simp only [List.map_toArray, List.map_cons, List.map_nil]); first | done | rfl | (simp only [List.length_drop, List.length_take]; rfl)) ?_
              with_reducible refine (round_top.calls a0_0 a0_1 t310 _ A34.out).mono ?_
              rintro e w41 ⟨rfl, hb⟩
              refine ⟨_, rfl, ?_⟩
              replace BK303 := zkb BK303 hb
              replace BK304 := zkb BK304 hb
              replace BK308 := zkb BK308 hb
              replace HB := zbs HB hb
              (try clear hb)
              (try clear hb2)
              (try clear hk)
              (try clear hi)
              refine hK.out _ _ ⟨(blk_cell BK303.out 0).trans rfl, (blk_cell BK303.out 1).trans rfl⟩ (fun hHeld => ?_)
              clear hK K
              refine norm_ (a' := ?_) ?_ ?_
              rotate_left
              · show Act.put _ (some 62) _ = _
                simp only [Act.put, List.setIfInBounds_toArray, List.set_cons_zero, List.set_cons_succ, i64_w, i32_w]
                rfl
              refine zpure_ (i := 3) (N := some 63) #[true, true, true, true, true, false, false, false, false, false, false, false] (any_of HT_.out (by kernel_rfl)) ?_
              refine one_ (i := 5) (N := some 65) #[true, true, true, true, true, true, false, false, false, false, false, false] rfl rfl (one_of HT_.out (by kernel_rfl)) (by decide) (fun K hK => ?_)
              refine goes_ Try.func38 (by kernel_rfl) rfl #[.agg #[.int .i64 a0_0, .int .i64 a0_1]] (by rfl) rfl rfl (by (try simp only [List.map_toArray, List.map_cons, List.map_nil]); first | done | rfl | (simp only [List.length_drop, List.length_take]; rfl)) ?_
              with_reducible refine (round_top.calls a0_0 a0_1 t311 _ A35.out).mono ?_
              rintro e w42 ⟨rfl, hb⟩
              refine ⟨_, rfl, ?_⟩
              replace BK303 := zkb BK303 hb
              replace BK304 := zkb BK304 hb
              replace BK308 := zkb BK308 hb
              replace HB := zbs HB hb
              (try clear hb)
              (try clear hb2)
              (try clear hk)
              (try clear hi)
              refine hK.out _ _ ⟨(blk_cell BK303.out 0).trans rfl, (blk_cell BK303.out 1).trans rfl⟩ (fun hHeld => ?_)
              clear hK K
              refine norm_ (a' := ?_) ?_ ?_
              rotate_left
              · show Act.put _ (some 65) _ = _
                simp only [Act.put, List.setIfInBounds_toArray, List.set_cons_zero, List.set_cons_succ, i64_w, i32_w]
                rfl
              refine zpure_ (i := 6) (N := some 66) #[true, true, true, true, true, true, true, false, false, false, false, false] (any_of HT_.out (by kernel_rfl)) ?_
              refine zpure_ (i := 7) (N := some 67) #[true, true, true, true, true, true, true, true, false, false, false, false] (any_of HT_.out (by kernel_rfl)) ?_
              refine pure_ (i := 8) (N := some 68) (v := undef) (a' := ?_) #[true, true, true, true, true, true, true, true, true, false, false, false] rfl rfl (any_of HT_.out (by kernel_rfl)) (fun _ _ _ h => h) (Or.inr ⟨by rfl, rfl⟩) ?_ ?_
              rotate_left
              · simp only [Act.put, List.setIfInBounds_toArray, List.set_cons_zero, List.set_cons_succ, i64_w, i32_w]
                rfl
              refine pure_ (i := 9) (N := some 69) (v := undef) (a' := ?_) #[true, true, true, true, true, true, true, true, true, true, false, false] rfl rfl (any_of HT_.out (by kernel_rfl)) (fun _ _ _ h => h) (Or.inr ⟨by rfl, rfl⟩) ?_ ?_
              rotate_left
              · simp only [Act.put, List.setIfInBounds_toArray, List.set_cons_zero, List.set_cons_succ, i64_w, i32_w]
                rfl
              refine zpure_ (i := 10) (N := some 70) #[true, true, true, true, true, true, true, true, true, true, true, false] (any_of HT_.out (by kernel_rfl)) ?_
              refine zpure_ (i := 11) (N := some 59) #[true, true, true, true, true, true, true, true, true, true, true, true] (any_of HT_.out (by kernel_rfl)) ?_
              refine done_ (done_of HT_.out (by kernel_rfl)) ?_
              try go_wp2
              go_meet
              case rel => exact ⟨_, (false), (by first | rfl | (simp; done) | (simp [*]; done)), H', ⟨by have := HJ2.out; first | omega | exact Nat.le_refl _⟩, ⟨zk BK303⟩, ⟨zk BK304⟩, ⟨zk BK308⟩, ⟨zb HB⟩⟩
          case rest =>
            clear HC22
            try clear c1
            try clear c2
            try clear p2
            try clear c3
            try clear p6
            try clear c7
            try clear c7b0
            try clear c7b1
            try clear c13
            try clear c14
            try clear c17
            try clear c17b0
            try clear c17b1
            try clear c20
            try clear c20b0
            try clear c23
            try clear c27
            try clear c28
            try clear c36
            try clear c36b0
            try clear c36b1
            try clear c38
            try clear hcz15_0
            try clear hcz15_1
            try clear hcz15_2
            try clear hcz15_3
            try clear hcz24_0
            try clear hcz24_1
            try clear hcz29_0
            try clear hcz29_1
            try clear hcz29_2
            try clear hcz29_3
            try clear hcz30_0
            try clear hcz30_1
            try clear hfz15_0
            try clear hfz15_1
            try clear hfz15_2
            try clear hfz15_3
            try clear hfz24_0
            try clear hfz24_1
            try clear hfz29_0
            try clear hfz29_1
            try clear hfz29_2
            try clear hfz29_3
            try clear hfz30_0
            try clear hfz30_1
            try clear p2
            try clear p6
            obtain ⟨kq, x59_21, rfl, HA, HJ21, BK303, BK304, BK308, HB⟩ := hcut
            cases kq with
            | zero => exact absurd HA.out (by simp [round_Open.j1])
            | succ kj21 =>
              have H := HA.out
              clear HA
              simp only [round_Open.j1] at H
              by_cases c43 : x59_21 = true
              · subst c43
                have H1 : (some (3, ((Go.bits .and .u64 a1 t307) != 0), 0, 0, 0)) = some (r1, r2, r3, r4, r5) := by rw [if_pos rfl] at H; exact H
                clear H
                have H := H1
                clear H1
                simp only [Option.some.injEq, Prod.mk.injEq] at H
                obtain ⟨rfl, rfl, rfl, rfl, rfl⟩ := H
                have hnb44 := NB308_303.out
                have hnc44 := NB303_308.out
                have hnb45 := NB308_304.out
                have hnc45 := NB304_308.out
                obtain ⟨hcz46_0, hcz46_1, hcz46_2, hcz46_3, hfz46_0, hfz46_1, hfz46_2, hfz46_3⟩ := zc4 BK308
                have hnb47 := NB304_303.out
                have hnc47 := NB303_304.out
                obtain ⟨hcz48_0, hcz48_1, hcz48_2, hcz48_3, hfz48_0, hfz48_1, hfz48_2, hfz48_3⟩ := zc4 BK304
                go_wp2
                refine bodyPost_ret (results_ct rfl _ _ gb304 42 #[.int .i64 3, .bool ((Go.bits .and .u64 a1 t307) != 0), .int .i64 0, .int .u64 0] (0, 0) _ rfl (zkp BK304) Try.underlying42 rfl (by kernel_rfl)) rfl ?_
                exact ⟨by first | rfl | (simp [errW_none, errW_some] <;> rfl) | (simp only [← hji18, ← hji21]; first | rfl | (simp [errW_none, errW_some] <;> rfl)) | (simp [*, errW_none, errW_some] <;> rfl), zb HB⟩
              · replace c43 := Bool.eq_false_iff.mpr c43
                subst c43
                have H1 : ((round_top.f a0_0 a0_1).bind fun t312 => ((round_top.f a0_0 a0_1).bind fun t313 => (if (Go.bits .and .u64 a1 t312) = t313 then (some (4, ((Go.bits .and .u64 a1 t307) != 0), 0, 0, 0)) else (if ji21 = 0 then (round_Open.j2 kj21 (Go.bits .and .u64 a1 (IntKind.u64.wrap ((ji18) - 1))) ji21 ((Go.bits .and .u64 a1 (IntKind.u64.wrap ((ji18) - 1))) == 0) a0_0 a0_1 0 ((Go.bits .and .u64 a1 t307) != 0) 0 0) else (round_Open.j2 kj21 (Go.bits .and .u64 a1 (IntKind.u64.wrap ((ji18) - 1))) ji21 false a0_0 a0_1 0 ((Go.bits .and .u64 a1 t307) != 0) 0 0))))) = some (r1, r2, r3, r4, r5) := by rw [if_neg (show ¬ (false = true) by decide)] at H; exact H
                clear H
                have H := H1
                clear H1
                replace H := Option.bind_eq_some_iff.mp H
                obtain ⟨t312, A490, H⟩ := H
                replace H : ((round_top.f a0_0 a0_1).bind fun t313 => (if (Go.bits .and .u64 a1 t312) = t313 then (some (4, ((Go.bits .and .u64 a1 t307) != 0), 0, 0, 0)) else (if ji21 = 0 then (round_Open.j2 kj21 (Go.bits .and .u64 a1 (IntKind.u64.wrap ((ji18) - 1))) ji21 ((Go.bits .and .u64 a1 (IntKind.u64.wrap ((ji18) - 1))) == 0) a0_0 a0_1 0 ((Go.bits .and .u64 a1 t307) != 0) 0 0) else (round_Open.j2 kj21 (Go.bits .and .u64 a1 (IntKind.u64.wrap ((ji18) - 1))) ji21 false a0_0 a0_1 0 ((Go.bits .and .u64 a1 t307) != 0) 0 0)))) = some (r1, r2, r3, r4, r5) := H
                have A49 := Aside0.mk A490
                clear A490
                replace H := Option.bind_eq_some_iff.mp H
                obtain ⟨t313, A500, H⟩ := H
                replace H : (if (Go.bits .and .u64 a1 t312) = t313 then (some (4, ((Go.bits .and .u64 a1 t307) != 0), 0, 0, 0)) else (if ji21 = 0 then (round_Open.j2 kj21 (Go.bits .and .u64 a1 (IntKind.u64.wrap ((ji18) - 1))) ji21 ((Go.bits .and .u64 a1 (IntKind.u64.wrap ((ji18) - 1))) == 0) a0_0 a0_1 0 ((Go.bits .and .u64 a1 t307) != 0) 0 0) else (round_Open.j2 kj21 (Go.bits .and .u64 a1 (IntKind.u64.wrap ((ji18) - 1))) ji21 false a0_0 a0_1 0 ((Go.bits .and .u64 a1 t307) != 0) 0 0))) = some (r1, r2, r3, r4, r5) := H
                have A50 := Aside0.mk A500
                clear A500
                by_cases c51 : (Go.bits .and .u64 a1 t312) = t313
                · rw [if_pos c51] at H
                  have c51b0 : ((Go.bits .and .u64 a1 t312) == t313) = true := beq_iff_eq.mpr c51
                  have c51b1 : ((Go.bits .and .u64 a1 t312) != t313) = false := bne_eq_false_iff_eq.mpr c51
                  clear c51
                  simp only [Option.some.injEq, Prod.mk.injEq] at H
                  obtain ⟨rfl, rfl, rfl, rfl, rfl⟩ := H
                  try go_wp2
                  replace BK303 := Aside0.mk (blk_drew BK303.out)
                  replace BK304 := Aside0.mk (blk_drew BK304.out)
                  replace BK308 := Aside0.mk (blk_drew BK308.out)
                  replace HB := Aside0.mk (below_drew1 HB.out)
                  refine start_ (n := 8) (S := fun w' => w'.cell? ⟨gb303, 0, none⟩ = some (.int .i64 a0_0) ∧ w'.cell? ⟨gb303, 1, none⟩ = some (.int .i64 a0_1)) (ds := []) #[false, false, false, false, false, false, false, false] (by kernel_rfl) rfl rfl ⟨(blk_cell BK303.out 0).trans rfl, (blk_cell BK303.out 1).trans rfl⟩ (fun hHeld => ?_); refine with_tabW round_Open.tab9 round_Open.bits9 (fun HT_ HW_ => ?_)
                  generalize wc.drew = w52 at BK303 BK304 BK308 HB hHeld ⊢
                  refine zpure_ (i := 0) (N := some 73) #[true, false, false, false, false, false, false, false] (any_of HT_.out (by kernel_rfl)) ?_
                  refine ztake_ (i := 1) (N := some 74) #[true, true, false, false, false, false, false, false] rfl (take_ofW HT_.out HW_.out (by kernel_rfl)) hHeld (Or.inl ⟨by rfl, by rintro w' ⟨s0, s1⟩; go_simp; with_reducible rfl⟩) ?_
                  refine ztake_ (i := 4) (N := some 77) #[true, true, false, false, true, false, false, false] rfl (take_ofW HT_.out HW_.out (by kernel_rfl)) hHeld (Or.inl ⟨by rfl, by rintro w' ⟨s0, s1⟩; go_simp; with_reducible rfl⟩) ?_
                  refine one_ (i := 2) (N := some 75) #[true, true, true, false, true, false, false, false] rfl rfl (one_of HT_.out (by kernel_rfl)) (by decide) (fun K hK => ?_)
                  refine goes_ Try.func38 (by kernel_rfl) rfl #[.agg #[.int .i64 a0_0, .int .i64 a0_1]] (by rfl) rfl rfl (by (try simp only [List.map_toArray, List.map_cons, List.map_nil]); first | done | rfl | (simp only [List.length_drop, List.length_take]; rfl)) ?_
                  with_reducible refine (round_top.calls a0_0 a0_1 t312 _ A49.out).mono ?_
                  rintro e w53 ⟨rfl, hb⟩
                  refine ⟨_, rfl, ?_⟩
                  replace BK303 := zkb BK303 hb
                  replace BK304 := zkb BK304 hb
                  replace BK308 := zkb BK308 hb
                  replace HB := zbs HB hb
                  (try clear hb)
                  (try clear hb2)
                  (try clear hk)
                  (try clear hi)
                  refine hK.out _ _ ⟨(blk_cell BK303.out 0).trans rfl, (blk_cell BK303.out 1).trans rfl⟩ (fun hHeld => ?_)
                  clear hK K
                  refine norm_ (a' := ?_) ?_ ?_
                  rotate_left
                  · show Act.put _ (some 75) _ = _
                    simp only [Act.put, List.setIfInBounds_toArray, List.set_cons_zero, List.set_cons_succ, i64_w, i32_w]
                    rfl
                  refine zpure_ (i := 3) (N := some 76) #[true, true, true, true, true, false, false, false] (any_of HT_.out (by kernel_rfl)) ?_
                  refine one_ (i := 5) (N := some 78) #[true, true, true, true, true, true, false, false] rfl rfl (one_of HT_.out (by kernel_rfl)) (by decide) (fun K hK => ?_)
                  refine goes_ Try.func38 (by kernel_rfl) rfl #[.agg #[.int .i64 a0_0, .int .i64 a0_1]] (by rfl) rfl rfl (by (try simp only [List.map_toArray, List.map_cons, List.map_nil]); first | done | rfl | (simp only [List.length_drop, List.length_take]; rfl)) ?_
                  with_reducible refine (round_top.calls a0_0 a0_1 t313 _ A50.out).mono ?_
                  rintro e w54 ⟨rfl, hb⟩
                  refine ⟨_, rfl, ?_⟩
                  replace BK303 := zkb BK303 hb
                  replace BK304 := zkb BK304 hb
                  replace BK308 := zkb BK308 hb
                  replace HB := zbs HB hb
                  (try clear hb)
                  (try clear hb2)
                  (try clear hk)
                  (try clear hi)
                  refine hK.out _ _ ⟨(blk_cell BK303.out 0).trans rfl, (blk_cell BK303.out 1).trans rfl⟩ (fun hHeld => ?_)
                  clear hK K
                  refine norm_ (a' := ?_) ?_ ?_
                  rotate_left
                  · show Act.put _ (some 78) _ = _
                    simp only [Act.put, List.setIfInBounds_toArray, List.set_cons_zero, List.set_cons_succ, i64_w, i32_w]
                    rfl
                  refine zpure_ (i := 6) (N := some 79) #[true, true, true, true, true, true, true, false] (any_of HT_.out (by kernel_rfl)) ?_
                  refine zpure_ (i := 7) (N := some 72) #[true, true, true, true, true, true, true, true] (any_of HT_.out (by kernel_rfl)) ?_
                  refine done_ (done_of HT_.out (by kernel_rfl)) ?_
                  have hnb55 := NB308_303.out
                  have hnc55 := NB303_308.out
                  have hnb56 := NB308_304.out
                  have hnc56 := NB304_308.out
                  obtain ⟨hcz57_0, hcz57_1, hcz57_2, hcz57_3, hfz57_0, hfz57_1, hfz57_2, hfz57_3⟩ := zc4 BK308
                  have hnb58 := NB304_303.out
                  have hnc58 := NB303_304.out
                  obtain ⟨hcz59_0, hcz59_1, hcz59_2, hcz59_3, hfz59_0, hfz59_1, hfz59_2, hfz59_3⟩ := zc4 BK304
                  try go_wp2
                  refine bodyPost_ret (results_ct rfl _ _ gb304 42 #[.int .i64 4, .bool ((Go.bits .and .u64 a1 t307) != 0), .int .i64 0, .int .u64 0] (0, 0) _ rfl (zkp BK304) Try.underlying42 rfl (by kernel_rfl)) rfl ?_
                  exact ⟨by first | rfl | (simp [errW_none, errW_some] <;> rfl) | (simp only [← hji18, ← hji21]; first | rfl | (simp [errW_none, errW_some] <;> rfl)) | (simp [*, errW_none, errW_some] <;> rfl), zb HB⟩
                · rw [if_neg c51] at H
                  have c51b0 : ((Go.bits .and .u64 a1 t312) == t313) = false := beq_eq_false_iff_ne.mpr c51
                  have c51b1 : ((Go.bits .and .u64 a1 t312) != t313) = true := bne_iff_ne.mpr c51
                  have HC60 := Aside0.mk H
                  clear H
                  try go_wp2
                  replace BK303 := Aside0.mk (blk_drew BK303.out)
                  replace BK304 := Aside0.mk (blk_drew BK304.out)
                  replace BK308 := Aside0.mk (blk_drew BK308.out)
                  replace HB := Aside0.mk (below_drew1 HB.out)
                  refine start_ (n := 8) (S := fun w' => w'.cell? ⟨gb303, 0, none⟩ = some (.int .i64 a0_0) ∧ w'.cell? ⟨gb303, 1, none⟩ = some (.int .i64 a0_1)) (ds := []) #[false, false, false, false, false, false, false, false] (by kernel_rfl) rfl rfl ⟨(blk_cell BK303.out 0).trans rfl, (blk_cell BK303.out 1).trans rfl⟩ (fun hHeld => ?_); refine with_tabW round_Open.tab9 round_Open.bits9 (fun HT_ HW_ => ?_)
                  generalize wc.drew = w61 at BK303 BK304 BK308 HB hHeld ⊢
                  refine zpure_ (i := 0) (N := some 73) #[true, false, false, false, false, false, false, false] (any_of HT_.out (by kernel_rfl)) ?_
                  refine ztake_ (i := 1) (N := some 74) #[true, true, false, false, false, false, false, false] rfl (take_ofW HT_.out HW_.out (by kernel_rfl)) hHeld (Or.inl ⟨by rfl, by rintro w' ⟨s0, s1⟩; go_simp; with_reducible rfl⟩) ?_
                  refine ztake_ (i := 4) (N := some 77) #[true, true, false, false, true, false, false, false] rfl (take_ofW HT_.out HW_.out (by kernel_rfl)) hHeld (Or.inl ⟨by rfl, by rintro w' ⟨s0, s1⟩; go_simp; with_reducible rfl⟩) ?_
                  refine one_ (i := 2) (N := some 75) #[true, true, true, false, true, false, false, false] rfl rfl (one_of HT_.out (by kernel_rfl)) (by decide) (fun K hK => ?_)
                  refine goes_ Try.func38 (by kernel_rfl) rfl #[.agg #[.int .i64 a0_0, .int .i64 a0_1]] (by rfl) rfl rfl (by (try simp only [List.map_toArray, List.map_cons, List.map_nil]); first | done | rfl | (simp only [List.length_drop, List.length_take]; rfl)) ?_
                  with_reducible refine (round_top.calls a0_0 a0_1 t312 _ A49.out).mono ?_
                  rintro e w62 ⟨rfl, hb⟩
                  refine ⟨_, rfl, ?_⟩
                  replace BK303 := zkb BK303 hb
                  replace BK304 := zkb BK304 hb
                  replace BK308 := zkb BK308 hb
                  replace HB := zbs HB hb
                  (try clear hb)
                  (try clear hb2)
                  (try clear hk)
                  (try clear hi)
                  refine hK.out _ _ ⟨(blk_cell BK303.out 0).trans rfl, (blk_cell BK303.out 1).trans rfl⟩ (fun hHeld => ?_)
                  clear hK K
                  refine norm_ (a' := ?_) ?_ ?_
                  rotate_left
                  · show Act.put _ (some 75) _ = _
                    simp only [Act.put, List.setIfInBounds_toArray, List.set_cons_zero, List.set_cons_succ, i64_w, i32_w]
                    rfl
                  refine zpure_ (i := 3) (N := some 76) #[true, true, true, true, true, false, false, false] (any_of HT_.out (by kernel_rfl)) ?_
                  refine one_ (i := 5) (N := some 78) #[true, true, true, true, true, true, false, false] rfl rfl (one_of HT_.out (by kernel_rfl)) (by decide) (fun K hK => ?_)
                  refine goes_ Try.func38 (by kernel_rfl) rfl #[.agg #[.int .i64 a0_0, .int .i64 a0_1]] (by rfl) rfl rfl (by (try simp only [List.map_toArray, List.map_cons, List.map_nil]); first | done | rfl | (simp only [List.length_drop, List.length_take]; rfl)) ?_
                  with_reducible refine (round_top.calls a0_0 a0_1 t313 _ A50.out).mono ?_
                  rintro e w63 ⟨rfl, hb⟩
                  refine ⟨_, rfl, ?_⟩
                  replace BK303 := zkb BK303 hb
                  replace BK304 := zkb BK304 hb
                  replace BK308 := zkb BK308 hb
                  replace HB := zbs HB hb
                  (try clear hb)
                  (try clear hb2)
                  (try clear hk)
                  (try clear hi)
                  refine hK.out _ _ ⟨(blk_cell BK303.out 0).trans rfl, (blk_cell BK303.out 1).trans rfl⟩ (fun hHeld => ?_)
                  clear hK K
                  refine norm_ (a' := ?_) ?_ ?_
                  rotate_left
                  · show Act.put _ (some 78) _ = _
                    simp only [Act.put, List.setIfInBounds_toArray, List.set_cons_zero, List.set_cons_succ, i64_w, i32_w]
                    rfl
                  refine zpure_ (i := 6) (N := some 79) #[true, true, true, true, true, true, true, false] (any_of HT_.out (by kernel_rfl)) ?_
                  refine zpure_ (i := 7) (N := some 72) #[true, true, true, true, true, true, true, true] (any_of HT_.out (by kernel_rfl)) ?_
                  refine done_ (done_of HT_.out (by kernel_rfl)) ?_
                  go_upto_region 11 with (fail)
                  go_cut [81] (fun v81 wc => ∃ (kq : Nat) (x81_59 : Bool), v81 = .bool x81_59 ∧ Aside0 (round_Open.j2 kq (Go.bits .and .u64 a1 (IntKind.u64.wrap ((ji18) - 1))) ji21 x81_59 a0_0 a0_1 0 ((Go.bits .and .u64 a1 t307) != 0) 0 0 = some (r1, r2, r3, r4, r5)) ∧ Aside0 (kq ≤ kj21) ∧ Aside0 (wc.heap[gb303]? = some (.cells #[.int .i64 a0_0, .int .i64 a0_1] 23 (0, 0))) ∧ Aside0 (wc.heap[gb304]? = some (.cells #[.int .i64 0, .bool false, .int .i64 0, .int .u64 0] 42 (0, 0))) ∧ Aside0 (wc.heap[gb308]? = some (.cells #[.int .i64 0, .bool ((Go.bits .and .u64 a1 t307) != 0), .int .i64 0, .int .u64 0] 42 (0, 0))) ∧ Aside0 (Below w.heap.size w wc))
                  case first =>
                    have H := HC60.out
                    clear HC60
                    by_cases c64 : ji21 = 0
                    · rw [if_pos c64] at H
                      have c64b0 : (ji21 == 0) = true := beq_iff_eq.mpr c64
                      have c64b1 : (ji21 != 0) = false := bne_eq_false_iff_eq.mpr c64
                      clear c64
                      (first | rw [c64b0] | (simp only [i64_w, i32_w]; rw [c64b0]) | skip)
                      have H' := Aside0.mk H
                      clear H
                      go_wp2
                      go_meet
                      case rel => exact ⟨_, (((Go.bits .and .u64 a1 (IntKind.u64.wrap ((ji18) - 1))) == 0)), (by first | rfl | (simp; done) | (simp only [← hji18] <;> (first | rfl | simp)) | (simp [*]; done)), H', ⟨by have := HJ2.out; have := HJ21.out; first | omega | exact Nat.le_refl _⟩, ⟨zk BK303⟩, ⟨zk BK304⟩, ⟨zk BK308⟩, ⟨zb HB⟩⟩
                    · rw [if_neg c64] at H
                      have c64b0 : (ji21 == 0) = false := beq_eq_false_iff_ne.mpr c64
                      have c64b1 : (ji21 != 0) = true := bne_iff_ne.mpr c64
                      (first | rw [c64b0] | (simp only [i64_w, i32_w]; rw [c64b0]) | skip)
                      have H' := Aside0.mk H
                      clear H
                      go_wp2
                      go_meet
                      case rel => exact ⟨_, (false), (by first | rfl | (simp; done) | (simp [*]; done)), H', ⟨by have := HJ2.out; have := HJ21.out; first | omega | exact Nat.le_refl _⟩, ⟨zk BK303⟩, ⟨zk BK304⟩, ⟨zk BK308⟩, ⟨zb HB⟩⟩
                  case rest =>
                    clear HC60
                    try clear c1
                    try clear c2
                    try clear p2
                    try clear c3
                    try clear c4
                    try clear c5
                    try clear c6
                    try clear p6
                    try clear c7
                    try clear c7b0
                    try clear c7b1
                    try clear c13
                    try clear c14
                    try clear c17
                    try clear c17b0
                    try clear c17b1
                    try clear c20
                    try clear c20b0
                    try clear c23
                    try clear c27
                    try clear c28
                    try clear c36
                    try clear c36b0
                    try clear c36b1
                    try clear c38
                    try clear c43
                    try clear c44
                    try clear c45
                    try clear c47
                    try clear c51
                    try clear c51b0
                    try clear c51b1
                    try clear c55
                    try clear c56
                    try clear c58
                    try clear c64
                    try clear c64b0
                    try clear c64b1
                    try clear hcz15_0
                    try clear hcz15_1
                    try clear hcz15_2
                    try clear hcz15_3
                    try clear hcz24_0
                    try clear hcz24_1
                    try clear hcz29_0
                    try clear hcz29_1
                    try clear hcz29_2
                    try clear hcz29_3
                    try clear hcz30_0
                    try clear hcz30_1
                    try clear hcz46_0
                    try clear hcz46_1
                    try clear hcz46_2
                    try clear hcz46_3
                    try clear hcz48_0
                    try clear hcz48_1
                    try clear hcz48_2
                    try clear hcz48_3
                    try clear hcz57_0
                    try clear hcz57_1
                    try clear hcz57_2
                    try clear hcz57_3
                    try clear hcz59_0
                    try clear hcz59_1
                    try clear hcz59_2
                    try clear hcz59_3
                    try clear hfz15_0
                    try clear hfz15_1
                    try clear hfz15_2
                    try clear hfz15_3
                    try clear hfz24_0
                    try clear hfz24_1
                    try clear hfz29_0
                    try clear hfz29_1
                    try clear hfz29_2
                    try clear hfz29_3
                    try clear hfz30_0
                    try clear hfz30_1
                    try clear hfz46_0
                    try clear hfz46_1
                    try clear hfz46_2
                    try clear hfz46_3
                    try clear hfz48_0
                    try clear hfz48_1
                    try clear hfz48_2
                    try clear hfz48_3
                    try clear hfz57_0
                    try clear hfz57_1
                    try clear hfz57_2
                    try clear hfz57_3
                    try clear hfz59_0
                    try clear hfz59_1
                    try clear hfz59_2
                    try clear hfz59_3
                    try clear p2
                    try clear p6
                    obtain ⟨kq, x81_59, rfl, HA, HJ59, BK303, BK304, BK308, HB⟩ := hcut
                    cases kq with
                    | zero => exact absurd HA.out (by simp [round_Open.j2])
                    | succ kj59 =>
                      have H := HA.out
                      clear HA
                      simp only [round_Open.j2] at H
                      by_cases c65 : x81_59 = true
                      · subst c65
                        have H1 : (some (1, ((Go.bits .and .u64 a1 t307) != 0), 0, 0, 0)) = some (r1, r2, r3, r4, r5) := by rw [if_pos rfl] at H; exact H
                        clear H
                        have H := H1
                        clear H1
                        simp only [Option.some.injEq, Prod.mk.injEq] at H
                        obtain ⟨rfl, rfl, rfl, rfl, rfl⟩ := H
                        have hnb66 := NB308_303.out
                        have hnc66 := NB303_308.out
                        have hnb67 := NB308_304.out
                        have hnc67 := NB304_308.out
                        obtain ⟨hcz68_0, hcz68_1, hcz68_2, hcz68_3, hfz68_0, hfz68_1, hfz68_2, hfz68_3⟩ := zc4 BK308
                        have hnb69 := NB304_303.out
                        have hnc69 := NB303_304.out
                        obtain ⟨hcz70_0, hcz70_1, hcz70_2, hcz70_3, hfz70_0, hfz70_1, hfz70_2, hfz70_3⟩ := zc4 BK304
                        go_wp2
                        refine bodyPost_ret (results_ct rfl _ _ gb304 42 #[.int .i64 1, .bool ((Go.bits .and .u64 a1 t307) != 0), .int .i64 0, .int .u64 0] (0, 0) _ rfl (zkp BK304) Try.underlying42 rfl (by kernel_rfl)) rfl ?_
                        exact ⟨by first | rfl | (simp [errW_none, errW_some] <;> rfl) | (simp only [← hji18, ← hji21]; first | rfl | (simp [errW_none, errW_some] <;> rfl)) | (simp [*, errW_none, errW_some] <;> rfl), zb HB⟩
                      · replace c65 := Bool.eq_false_iff.mpr c65
                        subst c65
                        have H1 : (if ji21 = 0 then ((round_bias.f a0_0 a0_1).bind fun t314 => (some (2, ((Go.bits .and .u64 a1 t307) != 0), wrap64 ((wrap64 (1 - t314)) - a0_0), (Go.bits .and .u64 a1 (IntKind.u64.wrap ((ji18) - 1))), 0))) else (if 0 ≤ a0_0 then ((round_bias.f a0_0 a0_1).bind fun t315 => (some (2, ((Go.bits .and .u64 a1 t307) != 0), wrap64 ((wrap64 (ji21 - t315)) - a0_0), Go.bits .or .u64 (Go.bits .and .u64 a1 (IntKind.u64.wrap ((ji18) - 1))) (shl .u64 1 a0_0), 0))) else (none))) = some (r1, r2, r3, r4, r5) := by rw [if_neg (show ¬ (false = true) by decide)] at H; exact H
                        clear H
                        have H := H1
                        clear H1
                        by_cases c71 : ji21 = 0
                        · rw [if_pos c71] at H
                          have c71b0 : (ji21 == 0) = true := beq_iff_eq.mpr c71
                          have c71b1 : (ji21 != 0) = false := bne_eq_false_iff_eq.mpr c71
                          clear c71
                          replace H := Option.bind_eq_some_iff.mp H
                          obtain ⟨t314, A720, H⟩ := H
                          replace H : (some (2, ((Go.bits .and .u64 a1 t307) != 0), wrap64 ((wrap64 (1 - t314)) - a0_0), (Go.bits .and .u64 a1 (IntKind.u64.wrap ((ji18) - 1))), 0)) = some (r1, r2, r3, r4, r5) := H
                          have A72 := Aside0.mk A720
                          clear A720
                          simp only [Option.some.injEq, Prod.mk.injEq] at H
                          obtain ⟨rfl, rfl, rfl, rfl, rfl⟩ := H
                          try go_wp2
                          replace BK303 := Aside0.mk (blk_drew BK303.out)
                          replace BK304 := Aside0.mk (blk_drew BK304.out)
                          replace BK308 := Aside0.mk (blk_drew BK308.out)
                          replace HB := Aside0.mk (below_drew1 HB.out)
                          refine start_ (n := 13) (S := fun w' => w'.cell? ⟨gb303, 0, none⟩ = some (.int .i64 a0_0) ∧ w'.cell? ⟨gb303, 1, none⟩ = some (.int .i64 a0_1)) (ds := []) #[false, false, false, false, false, false, false, false, false, false, false, false, false] (by kernel_rfl) rfl rfl ⟨(blk_cell BK303.out 0).trans rfl, (blk_cell BK303.out 1).trans rfl⟩ (fun hHeld => ?_); refine with_tabW round_Open.tab14 round_Open.bits14 (fun HT_ HW_ => ?_)
                          generalize wc.drew = w73 at BK303 BK304 BK308 HB hHeld ⊢
                          refine zpure_ (i := 0) (N := some 92) #[true, false, false, false, false, false, false, false, false, false, false, false, false] (any_of HT_.out (by kernel_rfl)) ?_
                          refine zpure_ (i := 4) (N := some 96) #[true, false, false, false, true, false, false, false, false, false, false, false, false] (any_of HT_.out (by kernel_rfl)) ?_
                          refine zpure_ (i := 7) (N := some 99) #[true, false, false, false, true, false, false, true, false, false, false, false, false] (any_of HT_.out (by kernel_rfl)) ?_
                          refine ztake_ (i := 1) (N := some 93) #[true, true, false, false, true, false, false, true, false, false, false, false, false] rfl (take_ofW HT_.out HW_.out (by kernel_rfl)) hHeld (Or.inl ⟨by rfl, by rintro w' ⟨s0, s1⟩; go_simp; with_reducible rfl⟩) ?_
                          refine ztake_ (i := 5) (N := some 97) #[true, true, false, false, true, true, false, true, false, false, false, false, false] rfl (take_ofW HT_.out HW_.out (by kernel_rfl)) hHeld (Or.inl ⟨by rfl, by rintro w' ⟨s0, s1⟩; go_simp; with_reducible rfl⟩) ?_
                          refine one_ (i := 2) (N := some 94) #[true, true, true, false, true, true, false, true, false, false, false, false, false] rfl rfl (one_of HT_.out (by kernel_rfl)) (by decide) (fun K hK => ?_)
                          refine goes_ Try.func28 (by kernel_rfl) rfl #[.agg #[.int .i64 a0_0, .int .i64 a0_1]] (by rfl) rfl rfl (by (try simp only [List.map_toArray, List.map_cons, List.map_nil]); first | done | rfl | (simp only [List.length_drop, List.length_take]; rfl)) ?_
                          with_reducible refine (round_bias.calls a0_0 a0_1 t314 _ A72.out).mono ?_
                          rintro e w74 ⟨rfl, hb⟩
                          refine ⟨_, rfl, ?_⟩
                          replace BK303 := zkb BK303 hb
                          replace BK304 := zkb BK304 hb
                          replace BK308 := zkb BK308 hb
                          replace HB := zbs HB hb
                          (try clear hb)
                          (try clear hb2)
                          (try clear hk)
                          (try clear hi)
                          refine hK.out _ _ ⟨(blk_cell BK303.out 0).trans rfl, (blk_cell BK303.out 1).trans rfl⟩ (fun hHeld => ?_)
                          clear hK K
                          refine norm_ (a' := ?_) ?_ ?_
                          rotate_left
                          · show Act.put _ (some 94) _ = _
                            simp only [Act.put, List.setIfInBounds_toArray, List.set_cons_zero, List.set_cons_succ, i64_w, i32_w]
                            rfl
                          refine zpure_ (i := 3) (N := some 95) #[true, true, true, true, true, true, false, true, false, false, false, false, false] (any_of HT_.out (by kernel_rfl)) ?_
                          refine zpure_ (i := 6) (N := some 98) #[true, true, true, true, true, true, true, true, false, false, false, false, false] (any_of HT_.out (by kernel_rfl)) ?_
                          refine one_ (i := 8) (N := none) #[true, true, true, true, true, true, true, true, true, false, false, false, false] rfl rfl (one_of HT_.out (by kernel_rfl)) (by decide) (fun K hK => ?_)
                          have hs75 : w74.cell? ⟨gb308, 0, none⟩ = some (.int .i64 0) := (blk_cell BK308.out 0).trans rfl
                          have hfs75 := blk_frozen BK308.out 0
                          have hns75_0 := NB303_308.out
                          have hns75_1 := NB304_308.out
                          have hms75_0 := NB308_303.out
                          have hms75_1 := NB308_304.out
                          refine skip_ (w1 := ?_) (by rfl) rfl ?_ ?_
                          rotate_left
                          · go_simp
                            rfl
                          refine hK.out _ _ ⟨((cell_far (p := ⟨gb308, _, none⟩) NB303_308.out _).trans (hHeld.1)), ((cell_far (p := ⟨gb308, _, none⟩) NB303_308.out _).trans (hHeld.2))⟩ (fun hHeld => ?_)
                          clear hK K
                          refine zpure_ (i := 9) (N := some 100) #[true, true, true, true, true, true, true, true, true, true, false, false, false] (any_of HT_.out (by kernel_rfl)) ?_
                          refine one_ (i := 10) (N := none) #[true, true, true, true, true, true, true, true, true, true, true, false, false] rfl rfl (one_of HT_.out (by kernel_rfl)) (by decide) (fun K hK => ?_)
                          have hs76 : w74.cell? ⟨gb308, 3, none⟩ = some (.int .u64 0) := (blk_cell BK308.out 3).trans rfl
                          have hfs76 := blk_frozen BK308.out 3
                          have hns76_0 := NB303_308.out
                          have hns76_1 := NB304_308.out
                          have hms76_0 := NB308_303.out
                          have hms76_1 := NB308_304.out
                          refine skip_ (w1 := ?_) (by rfl) rfl ?_ ?_
                          rotate_left
                          · go_simp
                            rfl
                          refine hK.out _ _ ⟨((cell_far (p := ⟨gb308, _, none⟩) NB303_308.out _).trans (hHeld.1)), ((cell_far (p := ⟨gb308, _, none⟩) NB303_308.out _).trans (hHeld.2))⟩ (fun hHeld => ?_)
                          clear hK K
                          refine zpure_ (i := 11) (N := some 101) #[true, true, true, true, true, true, true, true, true, true, true, true, false] (any_of HT_.out (by kernel_rfl)) ?_
                          refine one_ (i := 12) (N := none) #[true, true, true, true, true, true, true, true, true, true, true, true, true] rfl rfl (one_of HT_.out (by kernel_rfl)) (by decide) (fun K hK => ?_)
                          have hs77 : w74.cell? ⟨gb308, 2, none⟩ = some (.int .i64 0) := (blk_cell BK308.out 2).trans rfl
                          have hfs77 := blk_frozen BK308.out 2
                          have hns77_0 := NB303_308.out
                          have hns77_1 := NB304_308.out
                          have hms77_0 := NB308_303.out
                          have hms77_1 := NB308_304.out
                          refine skip_ (w1 := ?_) (by rfl) rfl ?_ ?_
                          rotate_left
                          · go_simp
                            rfl
                          refine hK.out _ _ ⟨((cell_far (p := ⟨gb308, _, none⟩) NB303_308.out _).trans (hHeld.1)), ((cell_far (p := ⟨gb308, _, none⟩) NB303_308.out _).trans (hHeld.2))⟩ (fun hHeld => ?_)
                          clear hK K
                          refine done_ (done_of HT_.out (by kernel_rfl)) ?_
                          have hnb78 := NB308_303.out
                          have hnc78 := NB303_308.out
                          have hnb79 := NB308_304.out
                          have hnc79 := NB304_308.out
                          obtain ⟨hcz80_0, hcz80_1, hcz80_2, hcz80_3, hfz80_0, hfz80_1, hfz80_2, hfz80_3⟩ := zc4 BK308
                          have hnb81 := NB304_303.out
                          have hnc81 := NB303_304.out
                          obtain ⟨hcz82_0, hcz82_1, hcz82_2, hcz82_3, hfz82_0, hfz82_1, hfz82_2, hfz82_3⟩ := zc4 BK304
                          try go_wp2
                          refine bodyPost_ret (results_ct rfl _ _ gb304 42 #[.int .i64 2, .bool ((Go.bits .and .u64 a1 t307) != 0), .int .i64 (wrap64 ((wrap64 (1 - t314)) - a0_0)), .int .u64 (Go.bits .and .u64 a1 (IntKind.u64.wrap ((ji18) - 1)))] (0, 0) _ rfl (zkp BK304) Try.underlying42 rfl (by kernel_rfl)) rfl ?_
                          exact ⟨by first | rfl | (simp [errW_none, errW_some] <;> rfl) | (simp only [← hji18, ← hji21]; first | rfl | (simp [errW_none, errW_some] <;> rfl)) | (simp [*, errW_none, errW_some] <;> rfl), zb HB⟩
                        · rw [if_neg c71] at H
                          have c71b0 : (ji21 == 0) = false := beq_eq_false_iff_ne.mpr c71
                          have c71b1 : (ji21 != 0) = true := bne_iff_ne.mpr c71
                          by_cases c83 : 0 ≤ a0_0
                          · rw [if_pos c83] at H
                            have c83b0 := eq_true c83
                            have c83b1 : decide (0 ≤ a0_0) = true := decide_eq_true c83
                            clear c83
                            replace H : ((round_bias.f a0_0 a0_1).bind fun t315 => (some (2, ((Go.bits .and .u64 a1 t307) != 0), wrap64 ((wrap64 (ji21 - t315)) - a0_0), Go.bits .or .u64 (Go.bits .and .u64 a1 (IntKind.u64.wrap ((ji18) - 1))) (ji18), 0))) = some (r1, r2, r3, r4, r5) := by first | (rw [hji18] at H; exact H) | (simp only [hji18] at H ⊢; exact H)
                            replace H := Option.bind_eq_some_iff.mp H
                            obtain ⟨t315, A850, H⟩ := H
                            replace H : (some (2, ((Go.bits .and .u64 a1 t307) != 0), wrap64 ((wrap64 (ji21 - t315)) - a0_0), Go.bits .or .u64 (Go.bits .and .u64 a1 (IntKind.u64.wrap ((ji18) - 1))) (ji18), 0)) = some (r1, r2, r3, r4, r5) := H
                            have A85 := Aside0.mk A850
                            clear A850
                            simp only [Option.some.injEq, Prod.mk.injEq] at H
                            obtain ⟨rfl, rfl, rfl, rfl, rfl⟩ := H
                            try go_wp2
                            replace BK303 := Aside0.mk (blk_drew BK303.out)
                            replace BK304 := Aside0.mk (blk_drew BK304.out)
                            replace BK308 := Aside0.mk (blk_drew BK308.out)
                            replace HB := Aside0.mk (below_drew1 HB.out)
                            refine start_ (n := 18) (S := fun w' => w'.cell? ⟨gb303, 0, none⟩ = some (.int .i64 a0_0) ∧ w'.cell? ⟨gb303, 1, none⟩ = some (.int .i64 a0_1)) (ds := []) #[false, false, false, false, false, false, false, false, false, false, false, false, false, false, false, false, false, false] (by kernel_rfl) rfl rfl ⟨(blk_cell BK303.out 0).trans rfl, (blk_cell BK303.out 1).trans rfl⟩ (fun hHeld => ?_); refine with_tabW round_Open.tab6 round_Open.bits6 (fun HT_ HW_ => ?_)
                            generalize wc.drew = w86 at BK303 BK304 BK308 HB hHeld ⊢
                            refine zpure_ (i := 0) (N := some 44) #[true, false, false, false, false, false, false, false, false, false, false, false, false, false, false, false, false, false] (any_of HT_.out (by kernel_rfl)) ?_
                            refine zpure_ (i := 1) (N := some 45) #[true, true, false, false, false, false, false, false, false, false, false, false, false, false, false, false, false, false] (any_of HT_.out (by kernel_rfl)) ?_
                            refine zpure_ (i := 5) (N := some 49) #[true, true, false, false, false, true, false, false, false, false, false, false, false, false, false, false, false, false] (any_of HT_.out (by kernel_rfl)) ?_
                            refine zpure_ (i := 9) (N := some 53) #[true, true, false, false, false, true, false, false, false, true, false, false, false, false, false, false, false, false] (any_of HT_.out (by kernel_rfl)) ?_
                            refine zpure_ (i := 12) (N := some 56) #[true, true, false, false, false, true, false, false, false, true, false, false, true, false, false, false, false, false] (any_of HT_.out (by kernel_rfl)) ?_
                            refine ztake_ (i := 2) (N := some 46) #[true, true, true, false, false, true, false, false, false, true, false, false, true, false, false, false, false, false] rfl (take_ofW HT_.out HW_.out (by kernel_rfl)) hHeld (Or.inl ⟨by rfl, by rintro w' ⟨s0, s1⟩; go_simp; with_reducible rfl⟩) ?_
                            refine zpure_ (i := 3) (N := some 47) #[true, true, true, true, false, true, false, false, false, true, false, false, true, false, false, false, false, false] (any_of HT_.out (by kernel_rfl)) ?_
                            refine zpure_ (i := 4) (N := some 48) #[true, true, true, true, true, true, false, false, false, true, false, false, true, false, false, false, false, false] (any_of HT_.out (by kernel_rfl)) ?_
                            refine ztake_ (i := 6) (N := some 50) #[true, true, true, true, true, true, true, false, false, true, false, false, true, false, false, false, false, false] rfl (take_ofW HT_.out HW_.out (by kernel_rfl)) hHeld (Or.inl ⟨by rfl, by rintro w' ⟨s0, s1⟩; go_simp; with_reducible rfl⟩) ?_
                            refine ztake_ (i := 10) (N := some 54) #[true, true, true, true, true, true, true, false, false, true, true, false, true, false, false, false, false, false] rfl (take_ofW HT_.out HW_.out (by kernel_rfl)) hHeld (Or.inl ⟨by rfl, by rintro w' ⟨s0, s1⟩; go_simp; with_reducible rfl⟩) ?_
                            refine one_ (i := 7) (N := some 51) #[true, true, true, true, true, true, true, true, false, true, true, false, true, false, false, false, false, false] rfl rfl (one_of HT_.out (by kernel_rfl)) (by decide) (fun K hK => ?_)
                            refine goes_ Try.func28 (by kernel_rfl) rfl #[.agg #[.int .i64 a0_0, .int .i64 a0_1]] (by rfl) rfl rfl (by (try simp only [List.map_toArray, List.map_cons, List.map_nil]); first | done | rfl | (simp only [List.length_drop, List.length_take]; rfl)) ?_
                            with_reducible refine (round_bias.calls a0_0 a0_1 t315 _ A85.out).mono ?_
                            rintro e w87 ⟨rfl, hb⟩
                            refine ⟨_, rfl, ?_⟩
                            replace BK303 := zkb BK303 hb
                            replace BK304 := zkb BK304 hb
                            replace BK308 := zkb BK308 hb
                            replace HB := zbs HB hb
                            (try clear hb)
                            (try clear hb2)
                            (try clear hk)
                            (try clear hi)
                            refine hK.out _ _ ⟨(blk_cell BK303.out 0).trans rfl, (blk_cell BK303.out 1).trans rfl⟩ (fun hHeld => ?_)
                            clear hK K
                            refine norm_ (a' := ?_) ?_ ?_
                            rotate_left
                            · show Act.put _ (some 51) _ = _
                              simp only [Act.put, List.setIfInBounds_toArray, List.set_cons_zero, List.set_cons_succ, i64_w, i32_w]
                              rfl
                            refine zpure_ (i := 8) (N := some 52) #[true, true, true, true, true, true, true, true, true, true, true, false, true, false, false, false, false, false] (any_of HT_.out (by kernel_rfl)) ?_
                            refine zpure_ (i := 11) (N := some 55) #[true, true, true, true, true, true, true, true, true, true, true, true, true, false, false, false, false, false] (any_of HT_.out (by kernel_rfl)) ?_
                            refine one_ (i := 13) (N := none) #[true, true, true, true, true, true, true, true, true, true, true, true, true, true, false, false, false, false] rfl rfl (one_of HT_.out (by kernel_rfl)) (by decide) (fun K hK => ?_)
                            have hs88 : w87.cell? ⟨gb308, 0, none⟩ = some (.int .i64 0) := (blk_cell BK308.out 0).trans rfl
                            have hfs88 := blk_frozen BK308.out 0
                            have hns88_0 := NB303_308.out
                            have hns88_1 := NB304_308.out
                            have hms88_0 := NB308_303.out
                            have hms88_1 := NB308_304.out
                            refine skip_ (w1 := ?_) (by rfl) rfl ?_ ?_
                            rotate_left
                            · go_simp
                              rfl
                            refine hK.out _ _ ⟨((cell_far (p := ⟨gb308, _, none⟩) NB303_308.out _).trans (hHeld.1)), ((cell_far (p := ⟨gb308, _, none⟩) NB303_308.out _).trans (hHeld.2))⟩ (fun hHeld => ?_)
                            clear hK K
                            refine zpure_ (i := 14) (N := some 57) #[true, true, true, true, true, true, true, true, true, true, true, true, true, true, true, false, false, false] (any_of HT_.out (by kernel_rfl)) ?_
                            refine one_ (i := 15) (N := none) #[true, true, true, true, true, true, true, true, true, true, true, true, true, true, true, true, false, false] rfl rfl (one_of HT_.out (by kernel_rfl)) (by decide) (fun K hK => ?_)
                            have hs89 : w87.cell? ⟨gb308, 3, none⟩ = some (.int .u64 0) := (blk_cell BK308.out 3).trans rfl
                            have hfs89 := blk_frozen BK308.out 3
                            have hns89_0 := NB303_308.out
                            have hns89_1 := NB304_308.out
                            have hms89_0 := NB308_303.out
                            have hms89_1 := NB308_304.out
                            refine skip_ (w1 := ?_) (by rfl) rfl ?_ ?_
                            rotate_left
                            · go_simp
                              rfl
                            refine hK.out _ _ ⟨((cell_far (p := ⟨gb308, _, none⟩) NB303_308.out _).trans (hHeld.1)), ((cell_far (p := ⟨gb308, _, none⟩) NB303_308.out _).trans (hHeld.2))⟩ (fun hHeld => ?_)
                            clear hK K
                            refine zpure_ (i := 16) (N := some 58) #[true, true, true, true, true, true, true, true, true, true, true, true, true, true, true, true, true, false] (any_of HT_.out (by kernel_rfl)) ?_
                            refine one_ (i := 17) (N := none) #[true, true, true, true, true, true, true, true, true, true, true, true, true, true, true, true, true, true] rfl rfl (one_of HT_.out (by kernel_rfl)) (by decide) (fun K hK => ?_)
                            have hs90 : w87.cell? ⟨gb308, 2, none⟩ = some (.int .i64 0) := (blk_cell BK308.out 2).trans rfl
                            have hfs90 := blk_frozen BK308.out 2
                            have hns90_0 := NB303_308.out
                            have hns90_1 := NB304_308.out
                            have hms90_0 := NB308_303.out
                            have hms90_1 := NB308_304.out
                            refine skip_ (w1 := ?_) (by rfl) rfl ?_ ?_
                            rotate_left
                            · go_simp
                              rfl
                            refine hK.out _ _ ⟨((cell_far (p := ⟨gb308, _, none⟩) NB303_308.out _).trans (hHeld.1)), ((cell_far (p := ⟨gb308, _, none⟩) NB303_308.out _).trans (hHeld.2))⟩ (fun hHeld => ?_)
                            clear hK K
                            refine done_ (done_of HT_.out (by kernel_rfl)) ?_
                            have hnb91 := NB308_303.out
                            have hnc91 := NB303_308.out
                            have hnb92 := NB308_304.out
                            have hnc92 := NB304_308.out
                            obtain ⟨hcz93_0, hcz93_1, hcz93_2, hcz93_3, hfz93_0, hfz93_1, hfz93_2, hfz93_3⟩ := zc4 BK308
                            have hnb94 := NB304_303.out
                            have hnc94 := NB303_304.out
                            obtain ⟨hcz95_0, hcz95_1, hcz95_2, hcz95_3, hfz95_0, hfz95_1, hfz95_2, hfz95_3⟩ := zc4 BK304
                            try go_wp2
                            refine bodyPost_ret (results_ct rfl _ _ gb304 42 #[.int .i64 2, .bool ((Go.bits .and .u64 a1 t307) != 0), .int .i64 (wrap64 ((wrap64 (ji21 - t315)) - a0_0)), .int .u64 (Go.bits .or .u64 (Go.bits .and .u64 a1 (IntKind.u64.wrap ((ji18) - 1))) (ji18))] (0, 0) _ rfl (zkp BK304) Try.underlying42 rfl (by kernel_rfl)) rfl ?_
                            exact ⟨by first | rfl | (simp [errW_none, errW_some] <;> rfl) | (simp only [← hji18, ← hji21, ← hji18]; first | rfl | (simp [errW_none, errW_some] <;> rfl)) | (simp [*, errW_none, errW_some] <;> rfl), zb HB⟩
                          · rw [if_neg c83] at H
                            exact absurd H (by simp)
        · rw [if_neg c17] at H
          exact absurd H (by simp)

end Go.Proofs.Ytcfmmkapefpjjaa.PQ
