-- by a program of this claim
import Derived.Test.YtcfmmkapefpjjaaPQx0
import Derived.Test.YtcfmmkapefpjjaaPQx6
import Derived.Test.YtcfmmkapefpjjaaPQx8
namespace Go.Proofs.Ytcfmmkapefpjjaa.PQ
open Go.RowKit Go.Proofs.YtcfmmkapefpjjaaW.PrintWords Go.Proofs.YtcfmmkapefpjjaaW.PrintLast Go.Proofs.YtcfmmkapefpjjaaW.PrintMore Go.Proofs.Ytcfmmkapefpjjaa.Z
attribute [local go_sem] max2_int min2_int max_two min_two max_three min_three max_four min_four   -- for this text's walks alone
set_option linter.unusedVariables false
set_option linter.unusedSimpArgs false

/-! ### grottoref02_Pack: function 11 -/
mutual
def grottoref02_Pack.j0 : Nat → Bool → Int → Int → Int → Bool → Bool → Int → Int → Option (Int × Int)
  | 0, _, _, _, _, _, _, _, _ => none
  | k + 1, x1, x2, x3, x4, x5, x25, x272000, x272001 => if x25 = true then (some (0, 1)) else ((grottoref02_NatOf.f k x2).bind fun t273 => ((grottoref02_Up.f k t273 64).bind fun t276 => ((grottoref02_NatOf.f k x3).bind fun t279 => ((grottoref02_Plus.f k t276 t279).bind fun t282 => (if x5 = true then ((grottoref02_Bits.f k t282).bind fun t285 => (grottoref02_Pack.j1 k x1 x4 x5 t282 (decide (t285 < (wrap64 (x272000 + 3)))) x272000 x272001)) else (grottoref02_Pack.j1 k x1 x4 x5 t282 false x272000 x272001))))))
def grottoref02_Pack.j1 : Nat → Bool → Int → Bool → List Int → Bool → Int → Int → Option (Int × Int)
  | 0, _, _, _, _, _, _, _ => none
  | k + 1, x1, x4, x5, x14, x40, x272000, x272001 => if x40 = true then (some (0, 1)) else ((grottoref02_Up.f k x14 1).bind fun t286 => (if x5 = true then ((grottoref02_Plus.f k t286 (([1] : List Int))).bind fun t292 => ((grottoref02_Near.f k x272000 x272001 x1 t292 (([1] : List Int)) (wrap64 (x4 - 1))).bind fun t298 => (some (t298, 0)))) else ((grottoref02_Near.f k x272000 x272001 x1 t286 (([1] : List Int)) (wrap64 (x4 - 1))).bind fun t302 => (some (t302, 0)))))
end
def grottoref02_Pack.f (k : Nat) (a0_0 : Int) (a0_1 : Int) (a1 : Bool) (a2 : Int) (a3 : Int) (a4 : Int) (a5 : Bool) : Option (Int × Int) := (grottoref02_Check.f a0_0 a0_1).bind fun t272 => (if t272 = 0 then (if a4 < (-4096) then (grottoref02_Pack.j0 k a1 a2 a3 a4 a5 true a0_0 a0_1) else (grottoref02_Pack.j0 k a1 a2 a3 a4 a5 (decide (a4 > 4096)) a0_0 a0_1)) else (grottoref02_Pack.j0 k a1 a2 a3 a4 a5 true a0_0 a0_1))
theorem grottoref02_Pack.mono_l : ∀ k, (∀ y0 y1 y2 y3 y4 y5 y6 y7, LeO (grottoref02_Pack.j0 k y0 y1 y2 y3 y4 y5 y6 y7) (grottoref02_Pack.j0 (k + 1) y0 y1 y2 y3 y4 y5 y6 y7)) ∧ (∀ y0 y1 y2 y3 y4 y5 y6, LeO (grottoref02_Pack.j1 k y0 y1 y2 y3 y4 y5 y6) (grottoref02_Pack.j1 (k + 1) y0 y1 y2 y3 y4 y5 y6))
  | 0 => ⟨fun _ _ _ _ _ _ _ _ r h => by simp [grottoref02_Pack.j0] at h, fun _ _ _ _ _ _ _ r h => by simp [grottoref02_Pack.j1] at h⟩
  | k + 1 => by
    obtain ⟨ih0, ih1⟩ := grottoref02_Pack.mono_l k
    refine ⟨?_, ?_⟩
    · intro y0 y1 y2 y3 y4 y5 y6 y7
      unfold grottoref02_Pack.j0
      repeat' first
      | (with_reducible exact ih0 _ _ _ _ _ _ _ _)
      | (with_reducible exact ih1 _ _ _ _ _ _ _)
      | (with_reducible exact grottoref02_Bits.mono _ _)
      | (with_reducible exact grottoref02_NatOf.mono _ _)
      | (with_reducible exact grottoref02_Near.mono _ _ _ _ _ _ _)
      | (with_reducible exact grottoref02_Plus.mono _ _ _)
      | (with_reducible exact grottoref02_Up.mono _ _ _)
      | (with_reducible exact LeO.refl _)
      | (with_reducible exact LeO.none _)
      | (with_reducible refine LeO.ite ?_ ?_)
      | (with_reducible refine LeO.bind ?_ (fun _ => ?_))
      | exact ih0 _ _ _ _ _ _ _ _
      | exact ih1 _ _ _ _ _ _ _
      | exact grottoref02_Bits.mono _ _
      | exact grottoref02_NatOf.mono _ _
      | exact grottoref02_Near.mono _ _ _ _ _ _ _
      | exact grottoref02_Plus.mono _ _ _
      | exact grottoref02_Up.mono _ _ _
      | exact LeO.none _
      | refine LeO.ite ?_ ?_
      | refine LeO.bind ?_ (fun _ => ?_)
    · intro y0 y1 y2 y3 y4 y5 y6
      unfold grottoref02_Pack.j1
      repeat' first
      | (with_reducible exact ih0 _ _ _ _ _ _ _ _)
      | (with_reducible exact ih1 _ _ _ _ _ _ _)
      | (with_reducible exact grottoref02_Bits.mono _ _)
      | (with_reducible exact grottoref02_NatOf.mono _ _)
      | (with_reducible exact grottoref02_Near.mono _ _ _ _ _ _ _)
      | (with_reducible exact grottoref02_Plus.mono _ _ _)
      | (with_reducible exact grottoref02_Up.mono _ _ _)
      | (with_reducible exact LeO.refl _)
      | (with_reducible exact LeO.none _)
      | (with_reducible refine LeO.ite ?_ ?_)
      | (with_reducible refine LeO.bind ?_ (fun _ => ?_))
      | exact ih0 _ _ _ _ _ _ _ _
      | exact ih1 _ _ _ _ _ _ _
      | exact grottoref02_Bits.mono _ _
      | exact grottoref02_NatOf.mono _ _
      | exact grottoref02_Near.mono _ _ _ _ _ _ _
      | exact grottoref02_Plus.mono _ _ _
      | exact grottoref02_Up.mono _ _ _
      | exact LeO.none _
      | refine LeO.ite ?_ ?_
      | refine LeO.bind ?_ (fun _ => ?_)
theorem grottoref02_Pack.mono : ∀ a0 a1 a2 a3 a4 a5 a6 k, LeO (grottoref02_Pack.f k a0 a1 a2 a3 a4 a5 a6) (grottoref02_Pack.f (k + 1) a0 a1 a2 a3 a4 a5 a6) := by
  intro a0 a1 a2 a3 a4 a5 a6 k
  obtain ⟨ih0, ih1⟩ := grottoref02_Pack.mono_l k
  unfold grottoref02_Pack.f
  repeat' first
      | (with_reducible exact ih0 _ _ _ _ _ _ _ _)
      | (with_reducible exact ih1 _ _ _ _ _ _ _)
      | (with_reducible exact grottoref02_Bits.mono _ _)
      | (with_reducible exact grottoref02_NatOf.mono _ _)
      | (with_reducible exact grottoref02_Near.mono _ _ _ _ _ _ _)
      | (with_reducible exact grottoref02_Plus.mono _ _ _)
      | (with_reducible exact grottoref02_Up.mono _ _ _)
      | (with_reducible exact LeO.refl _)
      | (with_reducible exact LeO.none _)
      | (with_reducible refine LeO.ite ?_ ?_)
      | (with_reducible refine LeO.bind ?_ (fun _ => ?_))
      | exact ih0 _ _ _ _ _ _ _ _
      | exact ih1 _ _ _ _ _ _ _
      | exact grottoref02_Bits.mono _ _
      | exact grottoref02_NatOf.mono _ _
      | exact grottoref02_Near.mono _ _ _ _ _ _ _
      | exact grottoref02_Plus.mono _ _ _
      | exact grottoref02_Up.mono _ _ _
      | exact LeO.none _
      | refine LeO.ite ?_ ?_
      | refine LeO.bind ?_ (fun _ => ?_)
def grottoref02_Pack.T4 : Bool × List (List Nat × List Nat) := (true, [([], []), ([0], [0]), ([1], [1]), ([2, 1, 1], [1, 2]), ([1], [1]), ([4, 1], [1, 4]), ([5, 1], [1, 5]), ([3, 6, 1], [1, 3, 6]), ([1, 7], [1, 7])])
def grottoref02_Pack.B4 : List Nat := [0, 1, 3, 7, 3, 19, 51, 127, 255]
theorem grottoref02_Pack.tab4 : rtab .any (opsOf Try.f11 4) = grottoref02_Pack.T4 := by kernel_rfl
theorem grottoref02_Pack.bits4 : waitsOk grottoref02_Pack.T4.2 grottoref02_Pack.B4 = true := by kernel_rfl
set_option maxHeartbeats 8000000 in
set_option maxRecDepth 100000 in
theorem grottoref02_Pack.calls (k : Nat) (a0_0 : Int) (a0_1 : Int) (a1 : Bool) (a2 : Int) (a3 : Int) (a4 : Int) (a5 : Bool) (r1 : Int) (r2 : Int) (w : World) (h : grottoref02_Pack.f k a0_0 a0_1 a1 a2 a3 a4 a5 = some (r1, r2)) :
    Calls Try.prog 11 #[.agg #[.int .i64 a0_0, .int .i64 a0_1], .bool a1, .int .u64 a2, .int .u64 a3, .int .i64 a4, .bool a5] w fun e w' => e = .returned (.tuple #[.int .u64 r1, .int .i64 r2]) ∧ Below w.heap.size w w' := by
  have hu23 := Try.underlying23
  have HB := Aside0.mk (Below.refl w.heap.size w)
  have H : ((grottoref02_Check.f a0_0 a0_1).bind fun t272 => (if t272 = 0 then (if a4 < (-4096) then (grottoref02_Pack.j0 k a1 a2 a3 a4 a5 true a0_0 a0_1) else (grottoref02_Pack.j0 k a1 a2 a3 a4 a5 (decide (a4 > 4096)) a0_0 a0_1)) else (grottoref02_Pack.j0 k a1 a2 a3 a4 a5 true a0_0 a0_1))) = some (r1, r2) := h
  clear h
  have HC7 := Aside0.mk H
  clear H
  go_enter Try.func11, Try.ntmps11
  go_upto_region 1 with (first | ((with_reducible refine gate_dst (N := 6) rfl ?_); refine zbox (N := 6) (cs := #[.int .i64 a0_0, .int .i64 a0_1]) (t := 23) ?_; intro gb271 hg w8 hbox hb; have BK271 := Aside0.mk hbox; have GW271 := zge hg HB; have GE271 := zge hg HB; replace HB := zbs HB hb; clear hb hbox hg))
  (try simp only [Act.put, List.setIfInBounds_toArray, List.set_cons_zero, List.set_cons_succ])
  go_cut [25] (fun v25 wc => ∃ (kq : Nat) (x25_6 : Bool), v25 = .bool x25_6 ∧ Aside0 (grottoref02_Pack.j0 kq a1 a2 a3 a4 a5 x25_6 a0_0 a0_1 = some (r1, r2)) ∧ Aside0 (kq ≤ k) ∧ Aside0 (wc.heap[gb271]? = some (.cells #[.int .i64 a0_0, .int .i64 a0_1] 23 (0, 0))) ∧ Aside0 (Below w.heap.size w wc))
  case first =>
    have H := HC7.out
    clear HC7
    replace H := Option.bind_eq_some_iff.mp H
    obtain ⟨t272, A90, H⟩ := H
    replace H : (if t272 = 0 then (if a4 < (-4096) then (grottoref02_Pack.j0 k a1 a2 a3 a4 a5 true a0_0 a0_1) else (grottoref02_Pack.j0 k a1 a2 a3 a4 a5 (decide (a4 > 4096)) a0_0 a0_1)) else (grottoref02_Pack.j0 k a1 a2 a3 a4 a5 true a0_0 a0_1)) = some (r1, r2) := H
    have A9 := Aside0.mk A90
    clear A90
    by_cases c10 : t272 = 0
    · rw [if_pos c10] at H
      have c10b0 : (t272 == 0) = true := beq_iff_eq.mpr c10
      have c10b1 : (t272 != 0) = false := bne_eq_false_iff_eq.mpr c10
      clear c10
      (first | rw [c10b0] | (simp only [i64_w, i32_w]; rw [c10b0]) | skip)
      by_cases c11 : a4 < (-4096)
      · rw [if_pos c11] at H
        have c11b0 : decide (a4 < (-4096)) = true := decide_eq_true c11
        clear c11
        have H' := Aside0.mk H
        clear H
        obtain ⟨hcz12_0, hcz12_1, hfz12_0, hfz12_1⟩ := zc2 BK271
        go_wp2_with (first | ((with_reducible refine gate_callee (f := 19) rfl ?_); refine zgo (some 16) Try.func19 #[.agg #[.int .i64 a0_0, .int .i64 a0_1]] ?_; (with_reducible refine (grottoref02_Check.calls a0_0 a0_1 t272 _ A9.out).mono ?_); rintro e w13 ⟨rfl, hb⟩; refine ⟨_, rfl, ?_⟩; replace BK271 := zkb BK271 hb; replace HB := zbs HB hb; (try clear hb); (try clear hb2); (try clear hk); (try clear hi)))
        go_meet
        case rel => exact ⟨_, (true), (by first | rfl | (simp; done) | (simp [*]; done)), H', ⟨by first | omega | exact Nat.le_refl _⟩, ⟨zk BK271⟩, ⟨zb HB⟩⟩
      · rw [if_neg c11] at H
        have c11b0 : decide (a4 < (-4096)) = false := decide_eq_false c11
        clear c11
        have H' := Aside0.mk H
        clear H
        obtain ⟨hcz14_0, hcz14_1, hfz14_0, hfz14_1⟩ := zc2 BK271
        go_wp2_with (first | ((with_reducible refine gate_callee (f := 19) rfl ?_); refine zgo (some 16) Try.func19 #[.agg #[.int .i64 a0_0, .int .i64 a0_1]] ?_; (with_reducible refine (grottoref02_Check.calls a0_0 a0_1 t272 _ A9.out).mono ?_); rintro e w15 ⟨rfl, hb⟩; refine ⟨_, rfl, ?_⟩; replace BK271 := zkb BK271 hb; replace HB := zbs HB hb; (try clear hb); (try clear hb2); (try clear hk); (try clear hi)))
        go_meet
        case rel => exact ⟨_, (decide (a4 > 4096)), (by first | rfl | (simp; done) | (simp [*]; done)), H', ⟨by first | omega | exact Nat.le_refl _⟩, ⟨zk BK271⟩, ⟨zb HB⟩⟩
    · rw [if_neg c10] at H
      have c10b0 : (t272 == 0) = false := beq_eq_false_iff_ne.mpr c10
      have c10b1 : (t272 != 0) = true := bne_iff_ne.mpr c10
      (first | rw [c10b0] | (simp only [i64_w, i32_w]; rw [c10b0]) | skip)
      have H' := Aside0.mk H
      clear H
      obtain ⟨hcz16_0, hcz16_1, hfz16_0, hfz16_1⟩ := zc2 BK271
      go_wp2_with (first | ((with_reducible refine gate_callee (f := 19) rfl ?_); refine zgo (some 16) Try.func19 #[.agg #[.int .i64 a0_0, .int .i64 a0_1]] ?_; (with_reducible refine (grottoref02_Check.calls a0_0 a0_1 t272 _ A9.out).mono ?_); rintro e w17 ⟨rfl, hb⟩; refine ⟨_, rfl, ?_⟩; replace BK271 := zkb BK271 hb; replace HB := zbs HB hb; (try clear hb); (try clear hb2); (try clear hk); (try clear hi)))
      go_meet
      case rel => exact ⟨_, (true), (by first | rfl | (simp; done) | (simp [*]; done)), H', ⟨by first | omega | exact Nat.le_refl _⟩, ⟨zk BK271⟩, ⟨zb HB⟩⟩
  case rest =>
    clear HC7
    try clear c1
    try clear p2
    try clear c10
    try clear c10b0
    try clear c10b1
    try clear c11
    try clear c11b0
    try clear hcz12_0
    try clear hcz12_1
    try clear hcz14_0
    try clear hcz14_1
    try clear hcz16_0
    try clear hcz16_1
    try clear hfz12_0
    try clear hfz12_1
    try clear hfz14_0
    try clear hfz14_1
    try clear hfz16_0
    try clear hfz16_1
    obtain ⟨kq, x25_6, rfl, HA, HJ6, BK271, HB⟩ := hcut
    cases kq with
    | zero => exact absurd HA.out (by simp [grottoref02_Pack.j0])
    | succ kj6 =>
      have H := HA.out
      clear HA
      simp only [grottoref02_Pack.j0] at H
      by_cases c18 : x25_6 = true
      · subst c18
        have H1 : (some (0, 1)) = some (r1, r2) := by rw [if_pos rfl] at H; exact H
        clear H
        have H := H1
        clear H1
        simp only [Option.some.injEq, Prod.mk.injEq] at H
        obtain ⟨rfl, rfl⟩ := H
        go_wp2
        go_ret2
        exact ⟨by first | rfl | (simp [errW_none, errW_some] <;> rfl) | (simp [*, errW_none, errW_some] <;> rfl), zb HB⟩
      · replace c18 := Bool.eq_false_iff.mpr c18
        subst c18
        have H1 : ((grottoref02_NatOf.f kj6 a2).bind fun t273 => ((grottoref02_Up.f kj6 t273 64).bind fun t276 => ((grottoref02_NatOf.f kj6 a3).bind fun t279 => ((grottoref02_Plus.f kj6 t276 t279).bind fun t282 => (if a5 = true then ((grottoref02_Bits.f kj6 t282).bind fun t285 => (grottoref02_Pack.j1 kj6 a1 a4 a5 t282 (decide (t285 < (wrap64 (a0_0 + 3)))) a0_0 a0_1)) else (grottoref02_Pack.j1 kj6 a1 a4 a5 t282 false a0_0 a0_1)))))) = some (r1, r2) := by rw [if_neg (show ¬ (false = true) by decide)] at H; exact H
        clear H
        have H := H1
        clear H1
        replace H := Option.bind_eq_some_iff.mp H
        obtain ⟨t273, A190, H⟩ := H
        replace H : ((grottoref02_Up.f kj6 t273 64).bind fun t276 => ((grottoref02_NatOf.f kj6 a3).bind fun t279 => ((grottoref02_Plus.f kj6 t276 t279).bind fun t282 => (if a5 = true then ((grottoref02_Bits.f kj6 t282).bind fun t285 => (grottoref02_Pack.j1 kj6 a1 a4 a5 t282 (decide (t285 < (wrap64 (a0_0 + 3)))) a0_0 a0_1)) else (grottoref02_Pack.j1 kj6 a1 a4 a5 t282 false a0_0 a0_1))))) = some (r1, r2) := H
        have A19 := Aside0.mk A190
        clear A190
        replace H := Option.bind_eq_some_iff.mp H
        obtain ⟨t276, A200, H⟩ := H
        replace H : ((grottoref02_NatOf.f kj6 a3).bind fun t279 => ((grottoref02_Plus.f kj6 t276 t279).bind fun t282 => (if a5 = true then ((grottoref02_Bits.f kj6 t282).bind fun t285 => (grottoref02_Pack.j1 kj6 a1 a4 a5 t282 (decide (t285 < (wrap64 (a0_0 + 3)))) a0_0 a0_1)) else (grottoref02_Pack.j1 kj6 a1 a4 a5 t282 false a0_0 a0_1)))) = some (r1, r2) := H
        have A20 := Aside0.mk A200
        clear A200
        replace H := Option.bind_eq_some_iff.mp H
        obtain ⟨t279, A210, H⟩ := H
        replace H : ((grottoref02_Plus.f kj6 t276 t279).bind fun t282 => (if a5 = true then ((grottoref02_Bits.f kj6 t282).bind fun t285 => (grottoref02_Pack.j1 kj6 a1 a4 a5 t282 (decide (t285 < (wrap64 (a0_0 + 3)))) a0_0 a0_1)) else (grottoref02_Pack.j1 kj6 a1 a4 a5 t282 false a0_0 a0_1))) = some (r1, r2) := H
        have A21 := Aside0.mk A210
        clear A210
        replace H := Option.bind_eq_some_iff.mp H
        obtain ⟨t282, A220, H⟩ := H
        replace H : (if a5 = true then ((grottoref02_Bits.f kj6 t282).bind fun t285 => (grottoref02_Pack.j1 kj6 a1 a4 a5 t282 (decide (t285 < (wrap64 (a0_0 + 3)))) a0_0 a0_1)) else (grottoref02_Pack.j1 kj6 a1 a4 a5 t282 false a0_0 a0_1)) = some (r1, r2) := H
        have A22 := Aside0.mk A220
        clear A220
        have HC23 := Aside0.mk H
        clear H
        go_upto_region 4 with (first | ((with_reducible refine gate_callee (f := 32) rfl ?_); refine zgo (some 27) Try.func32 #[.int .u64 a2] ?_; (with_reducible refine (grottoref02_NatOf.calls kj6 a2 t273 _ A19.out).mono ?_); rintro e w24 ⟨v274, rfl, ho0, hb⟩; refine ⟨_, rfl, ?_⟩; have HO275 := Aside0.mk (Kd.R_lower ho0 (below_size (zb HB))); replace BK271 := zkb BK271 hb; replace HB := zbs HB hb; (try clear hb); (try clear hb2); (try clear hk); (try clear hi); (try clear ho0); obtain ⟨Ao25, co25, eo25⟩ := Kd.R_slice HO275.out; subst eo25) | ((with_reducible refine gate_callee (f := 31) rfl ?_); refine zgo (some 28) Try.func31 #[.slice Ao25 t273.length co25, .int .i64 64] ?_; (with_reducible refine (grottoref02_Up.calls kj6 _ _ t273 64 t276 _ ?side1 ?side2 A20.out).mono ?_); (case side1 => repeat (first | exact (Kd.R_reads' HO275.out).2.2 | (with_reducible refine Kd.C_alloc ?_ _) | (with_reducible refine Kd.C_drewN ?_ _) | (with_reducible refine Kd.C_drew ?_))); (case side2 => exact (Kd.R_reads' HO275.out).2.1); rintro e w26 ⟨v277, rfl, ho0, hb⟩; refine ⟨_, rfl, ?_⟩; have HO278 := Aside0.mk (Kd.V_lower (Kd.V_mono (ok' := fun k_ => some k_ ≠ (.slice Ao25 t273.length co25 : Value).ownBlock ∧ k_ ≠ gb271) ho0 (fun k_ hk_ => ⟨(Kd.fresh' (Kd.R_lt (by (with_reducible repeat (first | apply Kd.R_alloc | apply Kd.R_drewN | apply Kd.R_drew)); exact HO275.out)) k_ hk_), (Kd.freshB (g := gb271) (o := .cells #[.int .i64 a0_0, .int .i64 a0_1] 23 (0, 0)) (zk BK271) k_ hk_)⟩)) (below_size (zb HB))); replace HO275 := Aside0.mk (Kd.R_below (by (with_reducible repeat (first | apply Kd.R_alloc | apply Kd.R_drewN | apply Kd.R_drew)); exact HO275.out) hb); replace BK271 := zkb BK271 hb; replace HB := zbs HB hb; (try clear hb); (try clear hb2); (try clear hk); (try clear hi); (try clear ho0)) | ((with_reducible refine gate_callee (f := 32) rfl ?_); refine zgo (some 30) Try.func32 #[.int .u64 a3] ?_; (with_reducible refine (grottoref02_NatOf.calls kj6 a3 t279 _ A21.out).mono ?_); rintro e w27 ⟨v280, rfl, ho0, hb⟩; refine ⟨_, rfl, ?_⟩; have HO281 := Aside0.mk (Kd.R_lower (Kd.R_new' ho0 (Kd.R_lt (by (with_reducible repeat (first | apply Kd.R_alloc | apply Kd.R_drewN | apply Kd.R_drew)); exact HO275.out))) (below_size (zb HB))); replace HO275 := Aside0.mk (Kd.R_elder' (by (with_reducible repeat (first | apply Kd.R_alloc | apply Kd.R_drewN | apply Kd.R_drew)); exact HO275.out) (Kd.R_base ho0) hb); replace HO278 := Aside0.mk (Kd.V_elder' (by (with_reducible repeat (first | apply Kd.V_alloc | apply Kd.V_drewN | apply Kd.V_drew)); exact HO278.out) (Kd.R_base ho0) hb); replace BK271 := zkb BK271 hb; replace HB := zbs HB hb; (try clear hb); (try clear hb2); (try clear hk); (try clear hi); (try clear ho0); obtain ⟨Ao28, co28, eo28⟩ := Kd.V_slice HO278.out; subst eo28; obtain ⟨Ao29, co29, eo29⟩ := Kd.R_slice HO281.out; subst eo29) | ((with_reducible refine gate_callee (f := 30) rfl ?_); refine zgo (some 31) Try.func30 #[.slice Ao28 t276.length co28, .slice Ao29 t279.length co29] ?_; (with_reducible refine (grottoref02_Plus.calls kj6 _ _ t276 _ _ t279 t282 _ ?side1 ?side2 ?side3 ?side4 A22.out).mono ?_); (case side1 => repeat (first | exact (Kd.V_reads' HO278.out).2.2 | (with_reducible refine Kd.C_alloc ?_ _) | (with_reducible refine Kd.C_drewN ?_ _) | (with_reducible refine Kd.C_drew ?_))); (case side2 => exact (Kd.V_reads' HO278.out).2.1); (case side3 => repeat (first | exact (Kd.R_reads' HO281.out).2.2 | (with_reducible refine Kd.C_alloc ?_ _) | (with_reducible refine Kd.C_drewN ?_ _) | (with_reducible refine Kd.C_drew ?_))); (case side4 => exact (Kd.R_reads' HO281.out).2.1); rintro e w30 ⟨v283, rfl, ho0, hb⟩; refine ⟨_, rfl, ?_⟩; have HO284 := Aside0.mk (Kd.V_lower (Kd.V_mono (ok' := fun k_ => some k_ ≠ (.slice Ao25 t273.length co25 : Value).ownBlock ∧ some k_ ≠ (.slice Ao29 t279.length co29 : Value).ownBlock ∧ k_ ≠ gb271) ho0 (fun k_ hk_ => ⟨(Kd.fresh' (Kd.R_lt (by (with_reducible repeat (first | apply Kd.R_alloc | apply Kd.R_drewN | apply Kd.R_drew)); exact HO275.out)) k_ hk_), (Kd.fresh' (Kd.R_lt (by (with_reducible repeat (first | apply Kd.R_alloc | apply Kd.R_drewN | apply Kd.R_drew)); exact HO281.out)) k_ hk_), (Kd.freshB (g := gb271) (o := .cells #[.int .i64 a0_0, .int .i64 a0_1] 23 (0, 0)) (zk BK271) k_ hk_)⟩)) (below_size (zb HB))); replace HO275 := Aside0.mk (Kd.R_below (by (with_reducible repeat (first | apply Kd.R_alloc | apply Kd.R_drewN | apply Kd.R_drew)); exact HO275.out) hb); replace HO278 := Aside0.mk (Kd.V_below (by (with_reducible repeat (first | apply Kd.V_alloc | apply Kd.V_drewN | apply Kd.V_drew)); exact HO278.out) hb); replace HO281 := Aside0.mk (Kd.R_below (by (with_reducible repeat (first | apply Kd.R_alloc | apply Kd.R_drewN | apply Kd.R_drew)); exact HO281.out) hb); replace BK271 := zkb BK271 hb; replace HB := zbs HB hb; (try clear hb); (try clear hb2); (try clear hk); (try clear hi); (try clear ho0)))
        (try simp only [Act.put, List.setIfInBounds_toArray, List.set_cons_zero, List.set_cons_succ])
        go_cut [40] (fun v40 wc => ∃ (kq : Nat) (x40_22 : Bool), v40 = .bool x40_22 ∧ Aside0 (grottoref02_Pack.j1 kq a1 a4 a5 t282 x40_22 a0_0 a0_1 = some (r1, r2)) ∧ Aside0 (kq ≤ kj6) ∧ Aside0 (Kd.V (Kd.int .i64) 3 wc w.heap.size (fun k_ => k_ ≠ gb271) v283 t282) ∧ Aside0 (wc.heap[gb271]? = some (.cells #[.int .i64 a0_0, .int .i64 a0_1] 23 (0, 0))) ∧ Aside0 (Below w.heap.size w wc))
        case first =>
          have H := HC23.out
          clear HC23
          by_cases c31 : a5 = true
          · subst c31
            have H1 : ((grottoref02_Bits.f kj6 t282).bind fun t285 => (grottoref02_Pack.j1 kj6 a1 a4 true t282 (decide (t285 < (wrap64 (a0_0 + 3)))) a0_0 a0_1)) = some (r1, r2) := by rw [if_pos rfl] at H; exact H
            clear H
            have H := H1
            clear H1
            replace H := Option.bind_eq_some_iff.mp H
            obtain ⟨t285, A320, H⟩ := H
            replace H : (grottoref02_Pack.j1 kj6 a1 a4 true t282 (decide (t285 < (wrap64 (a0_0 + 3)))) a0_0 a0_1) = some (r1, r2) := H
            have A32 := Aside0.mk A320
            clear A320
            have H' := Aside0.mk H
            clear H
            try go_wp2
            replace HO275 := Aside0.mk (Kd.R_drew HO275.out)
            replace HO278 := Aside0.mk (Kd.V_drew HO278.out)
            replace HO281 := Aside0.mk (Kd.R_drew HO281.out)
            replace HO284 := Aside0.mk (Kd.V_drew HO284.out)
            replace BK271 := Aside0.mk (blk_drew BK271.out)
            replace HB := Aside0.mk (below_drew1 HB.out)
            obtain ⟨Ao34, co34, eo34⟩ := Kd.V_slice HO284.out
            (first | subst eo34 | (injection eo34 with f1_ f2_ f3_; have f4_ := f1_.symm; have f5_ := f3_.symm; clear f1_ f2_ f3_; subst f4_; subst f5_))
            refine start_ (n := 9) (S := fun w' => w'.cell? ⟨gb271, 0, none⟩ = some (.int .i64 a0_0) ∧ w'.cell? ⟨gb271, 1, none⟩ = some (.int .i64 a0_1)) (ds := []) #[false, false, false, false, false, false, false, false, false] (by kernel_rfl) rfl rfl ⟨(blk_cell BK271.out 0).trans rfl, (blk_cell BK271.out 1).trans rfl⟩ (fun hHeld => ?_); refine with_tabW grottoref02_Pack.tab4 grottoref02_Pack.bits4 (fun HT_ HW_ => ?_)
            generalize w30.drew = w33 at HO275 HO278 HO281 HO284 BK271 HB hHeld ⊢
            refine zpure_ (i := 0) (N := some 32) #[true, false, false, false, false, false, false, false, false] (any_of HT_.out (by kernel_rfl)) ?_
            refine zpure_ (i := 1) (N := some 33) #[true, true, false, false, false, false, false, false, false] (any_of HT_.out (by kernel_rfl)) ?_
            refine zpure_ (i := 2) (N := some 34) #[true, true, true, false, false, false, false, false, false] (any_of HT_.out (by kernel_rfl)) ?_
            refine zpure_ (i := 4) (N := some 36) #[true, true, true, false, true, false, false, false, false] (any_of HT_.out (by kernel_rfl)) ?_
            refine ztake_ (i := 5) (N := some 37) #[true, true, true, false, true, true, false, false, false] rfl (take_ofW HT_.out HW_.out (by kernel_rfl)) hHeld (Or.inl ⟨by rfl, by rintro w' ⟨s0, s1⟩; go_simp; with_reducible rfl⟩) ?_
            refine zpure_ (i := 6) (N := some 38) #[true, true, true, false, true, true, true, false, false] (any_of HT_.out (by kernel_rfl)) ?_
            refine one_ (i := 3) (N := some 35) #[true, true, true, true, true, true, true, false, false] rfl rfl (one_of HT_.out (by kernel_rfl)) (by decide) (fun K hK => ?_)
            refine goes_ Try.func33 (by kernel_rfl) rfl #[.slice Ao34 t282.length co34] (by rfl) rfl rfl (by (try simp only [List.map_toArray, List.map_cons, List.map_nil]); first | done | rfl | (simp only [List.length_drop, List.length_take]; rfl)) ?_
            with_reducible refine (grottoref02_Bits.calls kj6 _ _ t282 t285 _ ?side1 ?side2 A32.out).mono ?_
            (case side1 => repeat (first | exact (Kd.V_reads' HO284.out).2.2 | (with_reducible refine Kd.C_alloc ?_ _) | (with_reducible refine Kd.C_drewN ?_ _) | (with_reducible refine Kd.C_drew ?_)))
            (case side2 => exact (Kd.V_reads' HO284.out).2.1)
            rintro e w35 ⟨rfl, hb⟩
            refine ⟨_, rfl, ?_⟩
            replace HO275 := Aside0.mk (Kd.R_below (by (with_reducible repeat (first | apply Kd.R_alloc | apply Kd.R_drewN | apply Kd.R_drew)); exact HO275.out) hb)
            replace HO278 := Aside0.mk (Kd.V_below (by (with_reducible repeat (first | apply Kd.V_alloc | apply Kd.V_drewN | apply Kd.V_drew)); exact HO278.out) hb)
            replace HO281 := Aside0.mk (Kd.R_below (by (with_reducible repeat (first | apply Kd.R_alloc | apply Kd.R_drewN | apply Kd.R_drew)); exact HO281.out) hb)
            replace HO284 := Aside0.mk (Kd.V_below (by (with_reducible repeat (first | apply Kd.V_alloc | apply Kd.V_drewN | apply Kd.V_drew)); exact HO284.out) hb)
            replace BK271 := zkb BK271 hb
            replace HB := zbs HB hb
            (try clear hb)
            (try clear hb2)
            (try clear hk)
            (try clear hi)
            refine hK.out _ _ ⟨(blk_cell BK271.out 0).trans rfl, (blk_cell BK271.out 1).trans rfl⟩ (fun hHeld => ?_)
            clear hK K
            refine norm_ (a' := ?_) ?_ ?_
            rotate_left
            · show Act.put _ (some 35) _ = _
              simp only [Act.put, List.setIfInBounds_toArray, List.set_cons_zero, List.set_cons_succ, i64_w, i32_w]
              rfl
            refine zpure_ (i := 7) (N := some 39) #[true, true, true, true, true, true, true, true, false] (any_of HT_.out (by kernel_rfl)) ?_
            refine zpure_ (i := 8) (N := some 40) #[true, true, true, true, true, true, true, true, true] (any_of HT_.out (by kernel_rfl)) ?_
            refine done_ (done_of HT_.out (by kernel_rfl)) ?_
            try go_wp2
            go_meet
            case rel => exact ⟨_, (decide (t285 < (wrap64 (a0_0 + 3)))), (by first | rfl | (simp; done) | (simp [*]; done)), H', ⟨by have := HJ6.out; first | omega | exact Nat.le_refl _⟩, ⟨by (with_reducible repeat (first | apply Kd.V_alloc | apply Kd.V_drewN | apply Kd.V_drew)); exact Kd.V_mono HO284.out (fun _ hk => hk.2.2)⟩, ⟨zk BK271⟩, ⟨zb HB⟩⟩
          · replace c31 := Bool.eq_false_iff.mpr c31
            subst c31
            have H1 : (grottoref02_Pack.j1 kj6 a1 a4 false t282 false a0_0 a0_1) = some (r1, r2) := by rw [if_neg (show ¬ (false = true) by decide)] at H; exact H
            clear H
            have H := H1
            clear H1
            have H' := Aside0.mk H
            clear H
            try go_wp2
            replace HO275 := Aside0.mk (Kd.R_drew HO275.out)
            replace HO278 := Aside0.mk (Kd.V_drew HO278.out)
            replace HO281 := Aside0.mk (Kd.R_drew HO281.out)
            replace HO284 := Aside0.mk (Kd.V_drew HO284.out)
            replace BK271 := Aside0.mk (blk_drew BK271.out)
            replace HB := Aside0.mk (below_drew1 HB.out)
            refine start_ (n := 9) (S := fun w' => True) (ds := []) #[false, false, false, false, false, false, false, false, false] (by kernel_rfl) rfl rfl trivial (fun hHeld => ?_); refine with_tabW grottoref02_Pack.tab4 grottoref02_Pack.bits4 (fun HT_ HW_ => ?_)
            generalize w30.drew = w36 at HO275 HO278 HO281 HO284 BK271 HB hHeld ⊢
            refine zpure_ (i := 0) (N := some 32) #[true, false, false, false, false, false, false, false, false] (any_of HT_.out (by kernel_rfl)) ?_
            refine zpure_ (i := 1) (N := some 33) #[true, true, false, false, false, false, false, false, false] (any_of HT_.out (by kernel_rfl)) ?_
            refine pure_ (i := 2) (N := some 34) (v := undef) (a' := ?_) #[true, true, true, false, false, false, false, false, false] rfl rfl (any_of HT_.out (by kernel_rfl)) (fun _ _ _ h => h) (Or.inr ⟨by rfl, rfl⟩) ?_ ?_
            rotate_left
            · simp only [Act.put, List.setIfInBounds_toArray, List.set_cons_zero, List.set_cons_succ, i64_w, i32_w]
              rfl
            refine pure_ (i := 3) (N := some 35) (v := undef) (a' := ?_) #[true, true, true, true, false, false, false, false, false] rfl rfl (any_of HT_.out (by kernel_rfl)) (fun _ _ _ h => h) (Or.inr ⟨by rfl, rfl⟩) ?_ ?_
            rotate_left
            · simp only [Act.put, List.setIfInBounds_toArray, List.set_cons_zero, List.set_cons_succ, i64_w, i32_w]
              rfl
            refine pure_ (i := 4) (N := some 36) (v := undef) (a' := ?_) #[true, true, true, true, true, false, false, false, false] rfl rfl (any_of HT_.out (by kernel_rfl)) (fun _ _ _ h => h) (Or.inr ⟨by rfl, rfl⟩) ?_ ?_
            rotate_left
            · simp only [Act.put, List.setIfInBounds_toArray, List.set_cons_zero, List.set_cons_succ, i64_w, i32_w]
              rfl
            refine pure_ (i := 5) (N := some 37) (v := undef) (a' := ?_) #[true, true, true, true, true, true, false, false, false] rfl rfl (any_of HT_.out (by kernel_rfl)) (fun _ _ _ h => h) (Or.inr ⟨by rfl, rfl⟩) ?_ ?_
            rotate_left
            · simp only [Act.put, List.setIfInBounds_toArray, List.set_cons_zero, List.set_cons_succ, i64_w, i32_w]
              rfl
            refine pure_ (i := 6) (N := some 38) (v := undef) (a' := ?_) #[true, true, true, true, true, true, true, false, false] rfl rfl (any_of HT_.out (by kernel_rfl)) (fun _ _ _ h => h) (Or.inr ⟨by rfl, rfl⟩) ?_ ?_
            rotate_left
            · simp only [Act.put, List.setIfInBounds_toArray, List.set_cons_zero, List.set_cons_succ, i64_w, i32_w]
              rfl
            refine pure_ (i := 7) (N := some 39) (v := undef) (a' := ?_) #[true, true, true, true, true, true, true, true, false] rfl rfl (any_of HT_.out (by kernel_rfl)) (fun _ _ _ h => h) (Or.inr ⟨by rfl, rfl⟩) ?_ ?_
            rotate_left
            · simp only [Act.put, List.setIfInBounds_toArray, List.set_cons_zero, List.set_cons_succ, i64_w, i32_w]
              rfl
            refine zpure_ (i := 8) (N := some 40) #[true, true, true, true, true, true, true, true, true] (any_of HT_.out (by kernel_rfl)) ?_
            refine done_ (done_of HT_.out (by kernel_rfl)) ?_
            try go_wp2
            go_meet
            case rel => exact ⟨_, (false), (by first | rfl | (simp; done) | (simp [*]; done)), H', ⟨by have := HJ6.out; first | omega | exact Nat.le_refl _⟩, ⟨by (with_reducible repeat (first | apply Kd.V_alloc | apply Kd.V_drewN | apply Kd.V_drew)); exact Kd.V_mono HO284.out (fun _ hk => hk.2.2)⟩, ⟨zk BK271⟩, ⟨zb HB⟩⟩
        case rest =>
          clear HC23
          try clear c1
          try clear p2
          try clear c3
          try clear p6
          try clear c10
          try clear c10b0
          try clear c10b1
          try clear c11
          try clear c11b0
          try clear c18
          try clear c19
          try clear c30
          try clear c31
          try clear c32
          try clear c33
          try clear hcz12_0
          try clear hcz12_1
          try clear hcz14_0
          try clear hcz14_1
          try clear hcz16_0
          try clear hcz16_1
          try clear hfz12_0
          try clear hfz12_1
          try clear hfz14_0
          try clear hfz14_1
          try clear hfz16_0
          try clear hfz16_1
          try clear p2
          obtain ⟨kq, x40_22, rfl, HA, HJ22, HO_14, BK271, HB⟩ := hcut
          cases kq with
          | zero => exact absurd HA.out (by simp [grottoref02_Pack.j1])
          | succ kj22 =>
            have H := HA.out
            clear HA
            simp only [grottoref02_Pack.j1] at H
            by_cases c37 : x40_22 = true
            · subst c37
              have H1 : (some (0, 1)) = some (r1, r2) := by rw [if_pos rfl] at H; exact H
              clear H
              have H := H1
              clear H1
              simp only [Option.some.injEq, Prod.mk.injEq] at H
              obtain ⟨rfl, rfl⟩ := H
              go_wp2
              go_ret2
              exact ⟨by first | rfl | (simp [errW_none, errW_some] <;> rfl) | (simp [*, errW_none, errW_some] <;> rfl), zb HB⟩
            · replace c37 := Bool.eq_false_iff.mpr c37
              subst c37
              have H1 : ((grottoref02_Up.f kj22 t282 1).bind fun t286 => (if a5 = true then ((grottoref02_Plus.f kj22 t286 (([1] : List Int))).bind fun t292 => ((grottoref02_Near.f kj22 a0_0 a0_1 a1 t292 (([1] : List Int)) (wrap64 (a4 - 1))).bind fun t298 => (some (t298, 0)))) else ((grottoref02_Near.f kj22 a0_0 a0_1 a1 t286 (([1] : List Int)) (wrap64 (a4 - 1))).bind fun t302 => (some (t302, 0))))) = some (r1, r2) := by rw [if_neg (show ¬ (false = true) by decide)] at H; exact H
              clear H
              have H := H1
              clear H1
              replace H := Option.bind_eq_some_iff.mp H
              obtain ⟨t286, A380, H⟩ := H
              replace H : (if a5 = true then ((grottoref02_Plus.f kj22 t286 (([1] : List Int))).bind fun t292 => ((grottoref02_Near.f kj22 a0_0 a0_1 a1 t292 (([1] : List Int)) (wrap64 (a4 - 1))).bind fun t298 => (some (t298, 0)))) else ((grottoref02_Near.f kj22 a0_0 a0_1 a1 t286 (([1] : List Int)) (wrap64 (a4 - 1))).bind fun t302 => (some (t302, 0)))) = some (r1, r2) := H
              have A38 := Aside0.mk A380
              clear A380
              by_cases c39 : a5 = true
              · subst c39
                have H1 : ((grottoref02_Plus.f kj22 t286 (([1] : List Int))).bind fun t292 => ((grottoref02_Near.f kj22 a0_0 a0_1 a1 t292 (([1] : List Int)) (wrap64 (a4 - 1))).bind fun t298 => (some (t298, 0)))) = some (r1, r2) := by rw [if_pos rfl] at H; exact H
                clear H
                have H := H1
                clear H1
                obtain ⟨y289, hy289⟩ : ∃ y_ : List Int, y_ = (([1] : List Int)) := ⟨_, rfl⟩
                replace H : ((grottoref02_Plus.f kj22 t286 y289).bind fun t292 => ((grottoref02_Near.f kj22 a0_0 a0_1 a1 t292 (([1] : List Int)) (wrap64 (a4 - 1))).bind fun t298 => (some (t298, 0)))) = some (r1, r2) := by first | (rw [hy289]; with_reducible exact H) | (have H2_ := (Option.bind_some _ _).symm.trans H; rw [hy289]; with_reducible exact H2_) | (have H2_ := (Option.bind_some _ _).symm.trans H; with_reducible exact H2_) | with_reducible exact H | (rw [hy289]; exact H) | exact H
                have Ny289 := Aside0.mk hy289
                clear hy289
                replace H := Option.bind_eq_some_iff.mp H
                obtain ⟨t292, A400, H⟩ := H
                replace H : ((grottoref02_Near.f kj22 a0_0 a0_1 a1 t292 (([1] : List Int)) (wrap64 (a4 - 1))).bind fun t298 => (some (t298, 0))) = some (r1, r2) := H
                have A40 := Aside0.mk A400
                clear A400
                obtain ⟨y295, hy295⟩ : ∃ y_ : List Int, y_ = (([1] : List Int)) := ⟨_, rfl⟩
                replace H : ((grottoref02_Near.f kj22 a0_0 a0_1 a1 t292 y295 (wrap64 (a4 - 1))).bind fun t298 => (some (t298, 0))) = some (r1, r2) := by first | (rw [hy295]; with_reducible exact H) | (have H2_ := (Option.bind_some _ _).symm.trans H; rw [hy295]; with_reducible exact H2_) | (have H2_ := (Option.bind_some _ _).symm.trans H; with_reducible exact H2_) | with_reducible exact H | (rw [hy295]; exact H) | exact H
                have Ny295 := Aside0.mk hy295
                clear hy295
                replace H := Option.bind_eq_some_iff.mp H
                obtain ⟨t298, A410, H⟩ := H
                replace H : (some (t298, 0)) = some (r1, r2) := H
                have A41 := Aside0.mk A410
                clear A410
                simp only [Option.some.injEq, Prod.mk.injEq] at H
                obtain ⟨rfl, rfl⟩ := H
                obtain ⟨Ao42, co42, eo42⟩ := Kd.V_slice HO_14.out
                subst eo42
                go_wp2_with (first | ((with_reducible refine gate_callee (f := 31) rfl ?_); refine zgo (some 42) Try.func31 #[.slice Ao42 t282.length co42, .int .i64 1] ?_; (with_reducible refine (grottoref02_Up.calls kj22 _ _ t282 1 t286 _ ?side1 ?side2 A38.out).mono ?_); (case side1 => repeat (first | exact (Kd.V_reads' HO_14.out).2.2 | (with_reducible refine Kd.C_alloc ?_ _) | (with_reducible refine Kd.C_drewN ?_ _) | (with_reducible refine Kd.C_drew ?_))); (case side2 => exact (Kd.V_reads' HO_14.out).2.1); rintro e w43 ⟨v287, rfl, ho0, hb⟩; refine ⟨_, rfl, ?_⟩; have HO288 := Aside0.mk (Kd.V_lower (Kd.V_mono (ok' := fun k_ => k_ ≠ gb271) ho0 (fun k_ hk_ => (Kd.freshB (g := gb271) (o := .cells #[.int .i64 a0_0, .int .i64 a0_1] 23 (0, 0)) (zk BK271) k_ hk_))) (below_size (zb HB))); replace HO_14 := Aside0.mk (Kd.V_below (by (with_reducible repeat (first | apply Kd.V_alloc | apply Kd.V_drewN | apply Kd.V_drew)); exact HO_14.out) hb); replace BK271 := zkb BK271 hb; replace HB := zbs HB hb; (try clear hb); (try clear hb2); (try clear hk); (try clear hi); (try clear ho0)) | ((with_reducible refine gate_dst (N := 45) rfl ?_); refine Kd.R_lit (Kd.int .i64) _ 3 ?hg (N := 45) ?hd (xs := ([1] : List Int)) (inner := [.int .i64 1]) (ok := fun _ => True) (okp := fun _ => True) ?hr ?hp (fun _ hk => hk) trivial (Below.refl _ _) (Nat.le_refl _) (by simp) ?_; (case hd => rfl); (case hg => rfl); (case hr => first | (go_simp; done) | (go_simp; rfl)); (case hp => exact (Reps.one (show Kd.M (Kd.int .i64) _ _ _ 1 [.int .i64 1] from rfl) (Reps.none _ _))); intro v290 w44 ho45 hb hg_ hnew_; clear hg_ hnew_; (first | rw [← Ny289.out] at ho45 | (simp only [Int.reduceToNat] at ho45; rw [← Ny289.out] at ho45)); have HO291 := Aside0.mk (Kd.R_lower ho45 (below_size (zb HB))); replace HO_14 := Aside0.mk (Kd.V_elder' (by (with_reducible repeat (first | apply Kd.V_alloc | apply Kd.V_drewN | apply Kd.V_drew)); exact HO_14.out) (Kd.R_base ho45) hb); replace HO288 := Aside0.mk (Kd.V_elder' (by (with_reducible repeat (first | apply Kd.V_alloc | apply Kd.V_drewN | apply Kd.V_drew)); exact HO288.out) (Kd.R_base ho45) hb); replace BK271 := zkb BK271 hb; replace HB := zbs HB hb; clear hb ho45; obtain ⟨Ao46, co46, eo46⟩ := Kd.V_slice HO288.out; subst eo46; obtain ⟨Ao47, co47, eo47⟩ := Kd.R_slice HO291.out; subst eo47) | ((with_reducible refine gate_callee (f := 30) rfl ?_); refine zgo (some 46) Try.func30 #[.slice Ao46 t286.length co46, .slice Ao47 y289.length co47] ?_; (with_reducible refine (grottoref02_Plus.calls kj22 _ _ t286 _ _ y289 t292 _ ?side1 ?side2 ?side3 ?side4 A40.out).mono ?_); (case side1 => repeat (first | exact (Kd.V_reads' HO288.out).2.2 | (with_reducible refine Kd.C_alloc ?_ _) | (with_reducible refine Kd.C_drewN ?_ _) | (with_reducible refine Kd.C_drew ?_))); (case side2 => exact (Kd.V_reads' HO288.out).2.1); (case side3 => repeat (first | exact (Kd.R_reads' HO291.out).2.2 | (with_reducible refine Kd.C_alloc ?_ _) | (with_reducible refine Kd.C_drewN ?_ _) | (with_reducible refine Kd.C_drew ?_))); (case side4 => exact (Kd.R_reads' HO291.out).2.1); rintro e w48 ⟨v293, rfl, ho0, hb⟩; refine ⟨_, rfl, ?_⟩; have HO294 := Aside0.mk (Kd.V_lower (Kd.V_mono (ok' := fun k_ => some k_ ≠ (.slice Ao47 y289.length co47 : Value).ownBlock ∧ k_ ≠ gb271) ho0 (fun k_ hk_ => ⟨(Kd.fresh' (Kd.R_lt (by (with_reducible repeat (first | apply Kd.R_alloc | apply Kd.R_drewN | apply Kd.R_drew)); exact HO291.out)) k_ hk_), (Kd.freshB (g := gb271) (o := .cells #[.int .i64 a0_0, .int .i64 a0_1] 23 (0, 0)) (zk BK271) k_ hk_)⟩)) (below_size (zb HB))); replace HO_14 := Aside0.mk (Kd.V_below (by (with_reducible repeat (first | apply Kd.V_alloc | apply Kd.V_drewN | apply Kd.V_drew)); exact HO_14.out) hb); replace HO288 := Aside0.mk (Kd.V_below (by (with_reducible repeat (first | apply Kd.V_alloc | apply Kd.V_drewN | apply Kd.V_drew)); exact HO288.out) hb); replace HO291 := Aside0.mk (Kd.R_below (by (with_reducible repeat (first | apply Kd.R_alloc | apply Kd.R_drewN | apply Kd.R_drew)); exact HO291.out) hb); replace BK271 := zkb BK271 hb; replace HB := zbs HB hb; (try clear hb); (try clear hb2); (try clear hk); (try clear hi); (try clear ho0); obtain ⟨hcz49_0, hcz49_1, hfz49_0, hfz49_1⟩ := zc2 BK271) | ((with_reducible refine gate_dst (N := 50) rfl ?_); refine Kd.R_lit (Kd.int .i64) _ 3 ?hg (N := 50) ?hd (xs := ([1] : List Int)) (inner := [.int .i64 1]) (ok := fun _ => True) (okp := fun _ => True) ?hr ?hp (fun _ hk => hk) trivial (Below.refl _ _) (Nat.le_refl _) (by simp) ?_; (case hd => rfl); (case hg => rfl); (case hr => first | (go_simp; done) | (go_simp; rfl)); (case hp => exact (Reps.one (show Kd.M (Kd.int .i64) _ _ _ 1 [.int .i64 1] from rfl) (Reps.none _ _))); intro v296 w50 ho51 hb hg_ hnew_; clear hg_ hnew_; (first | rw [← Ny295.out] at ho51 | (simp only [Int.reduceToNat] at ho51; rw [← Ny295.out] at ho51)); have HO297 := Aside0.mk (Kd.R_lower (Kd.R_new' ho51 (Kd.R_lt (by (with_reducible repeat (first | apply Kd.R_alloc | apply Kd.R_drewN | apply Kd.R_drew)); exact HO291.out))) (below_size (zb HB))); replace HO_14 := Aside0.mk (Kd.V_elder' (by (with_reducible repeat (first | apply Kd.V_alloc | apply Kd.V_drewN | apply Kd.V_drew)); exact HO_14.out) (Kd.R_base ho51) hb); replace HO288 := Aside0.mk (Kd.V_elder' (by (with_reducible repeat (first | apply Kd.V_alloc | apply Kd.V_drewN | apply Kd.V_drew)); exact HO288.out) (Kd.R_base ho51) hb); replace HO291 := Aside0.mk (Kd.R_elder' (by (with_reducible repeat (first | apply Kd.R_alloc | apply Kd.R_drewN | apply Kd.R_drew)); exact HO291.out) (Kd.R_base ho51) hb); replace HO294 := Aside0.mk (Kd.V_elder' (by (with_reducible repeat (first | apply Kd.V_alloc | apply Kd.V_drewN | apply Kd.V_drew)); exact HO294.out) (Kd.R_base ho51) hb); replace BK271 := zkb BK271 hb; replace HB := zbs HB hb; clear hb ho51; obtain ⟨Ao52, co52, eo52⟩ := Kd.V_slice HO294.out; subst eo52; obtain ⟨Ao53, co53, eo53⟩ := Kd.R_slice HO297.out; subst eo53) | ((with_reducible refine gate_callee (f := 34) rfl ?_); refine zgo (some 53) Try.func34 #[.agg #[.int .i64 a0_0, .int .i64 a0_1], .bool a1, .slice Ao52 t292.length co52, .slice Ao53 y295.length co53, .int .i64 (wrap64 (a4 - 1))] ?_; (with_reducible refine (grottoref02_Near.calls kj22 a0_0 a0_1 a1 (fun k_ => ((some k_ ≠ (.slice Ao47 y289.length co47 : Value).ownBlock ∧ k_ ≠ gb271) ∧ some k_ ≠ (.slice Ao53 y295.length co53 : Value).ownBlock)) _ _ t292 (fun k_ => some k_ = (.slice Ao53 y295.length co53 : Value).ownBlock) _ _ y295 (wrap64 (a4 - 1)) t298 _ ?side1 ?side2 A41.out).mono ?_); (case side1 => exact HO294.out); (case side2 => exact Kd.R_V (Kd.R_tight rfl (Kd.R_types (HO297.out) BK271.out (by decide)))); rintro e w54 ⟨rfl, hb⟩; refine ⟨_, rfl, ?_⟩; replace HO_14 := Aside0.mk (Kd.V_below (by (with_reducible repeat (first | apply Kd.V_alloc | apply Kd.V_drewN | apply Kd.V_drew)); exact HO_14.out) hb); replace HO288 := Aside0.mk (Kd.V_below (by (with_reducible repeat (first | apply Kd.V_alloc | apply Kd.V_drewN | apply Kd.V_drew)); exact HO288.out) hb); replace HO291 := Aside0.mk (Kd.R_below (by (with_reducible repeat (first | apply Kd.R_alloc | apply Kd.R_drewN | apply Kd.R_drew)); exact HO291.out) hb); replace HO294 := Aside0.mk (Kd.V_below (by (with_reducible repeat (first | apply Kd.V_alloc | apply Kd.V_drewN | apply Kd.V_drew)); exact HO294.out) hb); replace HO297 := Aside0.mk (Kd.R_below (by (with_reducible repeat (first | apply Kd.R_alloc | apply Kd.R_drewN | apply Kd.R_drew)); exact HO297.out) hb); replace BK271 := zkb BK271 hb; replace HB := zbs HB hb; (try clear hb); (try clear hb2); (try clear hk); (try clear hi)))
                go_ret2
                exact ⟨by first | rfl | (simp [errW_none, errW_some] <;> rfl) | (simp [*, errW_none, errW_some] <;> rfl), zb HB⟩
              · replace c39 := Bool.eq_false_iff.mpr c39
                subst c39
                have H1 : ((grottoref02_Near.f kj22 a0_0 a0_1 a1 t286 (([1] : List Int)) (wrap64 (a4 - 1))).bind fun t302 => (some (t302, 0))) = some (r1, r2) := by rw [if_neg (show ¬ (false = true) by decide)] at H; exact H
                clear H
                have H := H1
                clear H1
                obtain ⟨y299, hy299⟩ : ∃ y_ : List Int, y_ = (([1] : List Int)) := ⟨_, rfl⟩
                replace H : ((grottoref02_Near.f kj22 a0_0 a0_1 a1 t286 y299 (wrap64 (a4 - 1))).bind fun t302 => (some (t302, 0))) = some (r1, r2) := by first | (rw [hy299]; with_reducible exact H) | (have H2_ := (Option.bind_some _ _).symm.trans H; rw [hy299]; with_reducible exact H2_) | (have H2_ := (Option.bind_some _ _).symm.trans H; with_reducible exact H2_) | with_reducible exact H | (rw [hy299]; exact H) | exact H
                have Ny299 := Aside0.mk hy299
                clear hy299
                replace H := Option.bind_eq_some_iff.mp H
                obtain ⟨t302, A550, H⟩ := H
                replace H : (some (t302, 0)) = some (r1, r2) := H
                have A55 := Aside0.mk A550
                clear A550
                simp only [Option.some.injEq, Prod.mk.injEq] at H
                obtain ⟨rfl, rfl⟩ := H
                obtain ⟨Ao56, co56, eo56⟩ := Kd.V_slice HO_14.out
                subst eo56
                go_wp2_with (first | ((with_reducible refine gate_callee (f := 31) rfl ?_); refine zgo (some 42) Try.func31 #[.slice Ao56 t282.length co56, .int .i64 1] ?_; (with_reducible refine (grottoref02_Up.calls kj22 _ _ t282 1 t286 _ ?side1 ?side2 A38.out).mono ?_); (case side1 => repeat (first | exact (Kd.V_reads' HO_14.out).2.2 | (with_reducible refine Kd.C_alloc ?_ _) | (with_reducible refine Kd.C_drewN ?_ _) | (with_reducible refine Kd.C_drew ?_))); (case side2 => exact (Kd.V_reads' HO_14.out).2.1); rintro e w57 ⟨v287, rfl, ho0, hb⟩; refine ⟨_, rfl, ?_⟩; have HO288 := Aside0.mk (Kd.V_lower (Kd.V_mono (ok' := fun k_ => k_ ≠ gb271) ho0 (fun k_ hk_ => (Kd.freshB (g := gb271) (o := .cells #[.int .i64 a0_0, .int .i64 a0_1] 23 (0, 0)) (zk BK271) k_ hk_))) (below_size (zb HB))); replace HO_14 := Aside0.mk (Kd.V_below (by (with_reducible repeat (first | apply Kd.V_alloc | apply Kd.V_drewN | apply Kd.V_drew)); exact HO_14.out) hb); replace BK271 := zkb BK271 hb; replace HB := zbs HB hb; (try clear hb); (try clear hb2); (try clear hk); (try clear hi); (try clear ho0); obtain ⟨hcz58_0, hcz58_1, hfz58_0, hfz58_1⟩ := zc2 BK271) | ((with_reducible refine gate_dst (N := 50) rfl ?_); refine Kd.R_lit (Kd.int .i64) _ 3 ?hg (N := 50) ?hd (xs := ([1] : List Int)) (inner := [.int .i64 1]) (ok := fun _ => True) (okp := fun _ => True) ?hr ?hp (fun _ hk => hk) trivial (Below.refl _ _) (Nat.le_refl _) (by simp) ?_; (case hd => rfl); (case hg => rfl); (case hr => first | (go_simp; done) | (go_simp; rfl)); (case hp => exact (Reps.one (show Kd.M (Kd.int .i64) _ _ _ 1 [.int .i64 1] from rfl) (Reps.none _ _))); intro v300 w59 ho60 hb hg_ hnew_; clear hg_ hnew_; (first | rw [← Ny299.out] at ho60 | (simp only [Int.reduceToNat] at ho60; rw [← Ny299.out] at ho60)); have HO301 := Aside0.mk (Kd.R_lower ho60 (below_size (zb HB))); replace HO_14 := Aside0.mk (Kd.V_elder' (by (with_reducible repeat (first | apply Kd.V_alloc | apply Kd.V_drewN | apply Kd.V_drew)); exact HO_14.out) (Kd.R_base ho60) hb); replace HO288 := Aside0.mk (Kd.V_elder' (by (with_reducible repeat (first | apply Kd.V_alloc | apply Kd.V_drewN | apply Kd.V_drew)); exact HO288.out) (Kd.R_base ho60) hb); replace BK271 := zkb BK271 hb; replace HB := zbs HB hb; clear hb ho60; obtain ⟨Ao61, co61, eo61⟩ := Kd.V_slice HO288.out; subst eo61; obtain ⟨Ao62, co62, eo62⟩ := Kd.R_slice HO301.out; subst eo62) | ((with_reducible refine gate_callee (f := 34) rfl ?_); refine zgo (some 53) Try.func34 #[.agg #[.int .i64 a0_0, .int .i64 a0_1], .bool a1, .slice Ao61 t286.length co61, .slice Ao62 y299.length co62, .int .i64 (wrap64 (a4 - 1))] ?_; (with_reducible refine (grottoref02_Near.calls kj22 a0_0 a0_1 a1 (fun k_ => (k_ ≠ gb271 ∧ some k_ ≠ (.slice Ao62 y299.length co62 : Value).ownBlock)) _ _ t286 (fun k_ => some k_ = (.slice Ao62 y299.length co62 : Value).ownBlock) _ _ y299 (wrap64 (a4 - 1)) t302 _ ?side1 ?side2 A55.out).mono ?_); (case side1 => exact HO288.out); (case side2 => exact Kd.R_V (Kd.R_tight rfl (Kd.R_types (HO301.out) BK271.out (by decide)))); rintro e w63 ⟨rfl, hb⟩; refine ⟨_, rfl, ?_⟩; replace HO_14 := Aside0.mk (Kd.V_below (by (with_reducible repeat (first | apply Kd.V_alloc | apply Kd.V_drewN | apply Kd.V_drew)); exact HO_14.out) hb); replace HO288 := Aside0.mk (Kd.V_below (by (with_reducible repeat (first | apply Kd.V_alloc | apply Kd.V_drewN | apply Kd.V_drew)); exact HO288.out) hb); replace HO301 := Aside0.mk (Kd.R_below (by (with_reducible repeat (first | apply Kd.R_alloc | apply Kd.R_drewN | apply Kd.R_drew)); exact HO301.out) hb); replace BK271 := zkb BK271 hb; replace HB := zbs HB hb; (try clear hb); (try clear hb2); (try clear hk); (try clear hi)))
                go_ret2
                exact ⟨by first | rfl | (simp [errW_none, errW_some] <;> rfl) | (simp [*, errW_none, errW_some] <;> rfl), zb HB⟩

end Go.Proofs.Ytcfmmkapefpjjaa.PQ
