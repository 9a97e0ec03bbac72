-- by a program of this claim
import Derived.Test.YtcfmmkapefpjjaaPQx0
import Derived.Test.YtcfmmkapefpjjaaPQx3
import Derived.Test.YtcfmmkapefpjjaaPQx11
namespace Go.Proofs.Ytcfmmkapefpjjaa.PQ
open Go.RowKit Go.Proofs.YtcfmmkapefpjjaaW.PrintWords Go.Proofs.YtcfmmkapefpjjaaW.PrintLast Go.Proofs.YtcfmmkapefpjjaaW.PrintMore Go.Proofs.Ytcfmmkapefpjjaa.Z
attribute [local go_sem] max2_int min2_int max_two min_two max_three min_three max_four min_four   -- for this text's walks alone
set_option linter.unusedVariables false
set_option linter.unusedSimpArgs false

/-! ### grottolaw02_RoundOrder: function 5 -/
def grottolaw02_RoundOrder.j0 : Nat → Int → Int → Int → Int → Bool → Int → Int → Option (Bool)
  | 0, _, _, _, _, _, _, _ => none
  | k + 1, x9, x10, x11, x13, x49, x361000, x361001 => if x49 = true then (some false) else ((grottolaw02_num.f x10).bind fun t367 => (if t367 = 0 then (if x9 ≤ x11 then (if 0 ≤ (wrap64 (x361000 + x361001)) then (if x13 = (IntKind.u64.wrap (x9 + (shl .u64 1 (wrap64 (x361000 + x361001))))) then ((grottolaw02_live.f k).bind fun t368 => (some t368)) else (some false)) else (none)) else (some false)) else (if x9 = 0 then (if x11 = 0 then (if x13 = 0 then ((grottolaw02_num.f x10).bind fun t369 => (if t369 = 1 then ((grottolaw02_live.f k).bind fun t370 => (some t370)) else (some false))) else (some false)) else (some false)) else (some false))))
def grottolaw02_RoundOrder.f (k : Nat) (a0_0 : Int) (a0_1 : Int) (a1 : Int) (a2 : Int) (a3 : Int) : Option (Bool) := (round_Pack.f k a0_0 a0_1 false 0 (mn a1 a2) a3 false).bind fun bt361 => ((round_Pack.f k a0_0 a0_1 false 0 (mx a1 a2) a3 false).bind fun bt363 => ((round_Pack.f k a0_0 a0_1 true 0 (mn a1 a2) a3 false).bind fun bt365 => (if bt361.2 = bt363.2 then (grottolaw02_RoundOrder.j0 k bt361.1 bt361.2 bt363.1 bt365.1 (bt361.2 != bt365.2) a0_0 a0_1) else (grottolaw02_RoundOrder.j0 k bt361.1 bt361.2 bt363.1 bt365.1 true a0_0 a0_1))))
theorem grottolaw02_RoundOrder.mono_l : ∀ k, (∀ y0 y1 y2 y3 y4 y5 y6, LeO (grottolaw02_RoundOrder.j0 k y0 y1 y2 y3 y4 y5 y6) (grottolaw02_RoundOrder.j0 (k + 1) y0 y1 y2 y3 y4 y5 y6))
  | 0 => fun _ _ _ _ _ _ _ r h => by simp [grottolaw02_RoundOrder.j0] at h
  | k + 1 => by
    have ih0 := grottolaw02_RoundOrder.mono_l k
    · intro y0 y1 y2 y3 y4 y5 y6
      unfold grottolaw02_RoundOrder.j0
      repeat' first
      | (with_reducible exact ih0 _ _ _ _ _ _ _)
      | (with_reducible exact grottolaw02_live.mono _)
      | (with_reducible exact round_Pack.mono _ _ _ _ _ _ _ _)
      | (with_reducible exact LeO.refl _)
      | (with_reducible exact LeO.none _)
      | (with_reducible refine LeO.ite ?_ ?_)
      | (with_reducible refine LeO.bind ?_ (fun _ => ?_))
      | exact ih0 _ _ _ _ _ _ _
      | exact grottolaw02_live.mono _
      | exact round_Pack.mono _ _ _ _ _ _ _ _
      | exact LeO.none _
      | refine LeO.ite ?_ ?_
      | refine LeO.bind ?_ (fun _ => ?_)
theorem grottolaw02_RoundOrder.mono : ∀ a0 a1 a2 a3 a4 k, LeO (grottolaw02_RoundOrder.f k a0 a1 a2 a3 a4) (grottolaw02_RoundOrder.f (k + 1) a0 a1 a2 a3 a4) := by
  intro a0 a1 a2 a3 a4 k
  have ih0 := grottolaw02_RoundOrder.mono_l k
  unfold grottolaw02_RoundOrder.f
  repeat' first
      | (with_reducible exact ih0 _ _ _ _ _ _ _)
      | (with_reducible exact grottolaw02_live.mono _)
      | (with_reducible exact round_Pack.mono _ _ _ _ _ _ _ _)
      | (with_reducible exact LeO.refl _)
      | (with_reducible exact LeO.none _)
      | (with_reducible refine LeO.ite ?_ ?_)
      | (with_reducible refine LeO.bind ?_ (fun _ => ?_))
      | exact ih0 _ _ _ _ _ _ _
      | exact grottolaw02_live.mono _
      | exact round_Pack.mono _ _ _ _ _ _ _ _
      | exact LeO.none _
      | refine LeO.ite ?_ ?_
      | refine LeO.bind ?_ (fun _ => ?_)
set_option maxHeartbeats 8000000 in
set_option maxRecDepth 100000 in
theorem grottolaw02_RoundOrder.calls (k : Nat) (a0_0 : Int) (a0_1 : Int) (a1 : Int) (a2 : Int) (a3 : Int) (r : Bool) (w : World) (h : grottolaw02_RoundOrder.f k a0_0 a0_1 a1 a2 a3 = some r) :
    Calls Try.prog 5 #[.agg #[.int .i64 a0_0, .int .i64 a0_1], .int .u64 a1, .int .u64 a2, .int .i64 a3] w fun e w' => e = .returned (.bool r) ∧ Below w.heap.size w w' := by
  have hu23 := Try.underlying23
  have HB := Aside0.mk (Below.refl w.heap.size w)
  have H : ((round_Pack.f k a0_0 a0_1 false 0 (mn a1 a2) a3 false).bind fun bt361 => ((round_Pack.f k a0_0 a0_1 false 0 (mx a1 a2) a3 false).bind fun bt363 => ((round_Pack.f k a0_0 a0_1 true 0 (mn a1 a2) a3 false).bind fun bt365 => (if bt361.2 = bt363.2 then (grottolaw02_RoundOrder.j0 k bt361.1 bt361.2 bt363.1 bt365.1 (bt361.2 != bt365.2) a0_0 a0_1) else (grottolaw02_RoundOrder.j0 k bt361.1 bt361.2 bt363.1 bt365.1 true a0_0 a0_1))))) = some r := h
  clear h
  obtain ⟨ji5, hji5⟩ : ∃ j_ : Int, (mn a1 a2) = j_ := ⟨_, rfl⟩
  replace H : ((round_Pack.f k a0_0 a0_1 false 0 (ji5) a3 false).bind fun bt361 => ((round_Pack.f k a0_0 a0_1 false 0 (mx a1 a2) a3 false).bind fun bt363 => ((round_Pack.f k a0_0 a0_1 true 0 (ji5) a3 false).bind fun bt365 => (if bt361.2 = bt363.2 then (grottolaw02_RoundOrder.j0 k bt361.1 bt361.2 bt363.1 bt365.1 (bt361.2 != bt365.2) a0_0 a0_1) else (grottolaw02_RoundOrder.j0 k bt361.1 bt361.2 bt363.1 bt365.1 true a0_0 a0_1))))) = some r := by first | (rw [hji5] at H; exact H) | (simp only [hji5] at H ⊢; exact H)
  have hji5_ : (if a2 < a1 then a2 else a1) = ji5 := hji5
  replace H := Option.bind_eq_some_iff.mp H
  obtain ⟨⟨t361, t362⟩, A60, H⟩ := H
  replace H : ((round_Pack.f k a0_0 a0_1 false 0 (mx a1 a2) a3 false).bind fun bt363 => ((round_Pack.f k a0_0 a0_1 true 0 (ji5) a3 false).bind fun bt365 => (if t362 = bt363.2 then (grottolaw02_RoundOrder.j0 k t361 t362 bt363.1 bt365.1 (t362 != bt365.2) a0_0 a0_1) else (grottolaw02_RoundOrder.j0 k t361 t362 bt363.1 bt365.1 true a0_0 a0_1)))) = some r := H
  have A6 := Aside0.mk A60
  clear A60
  obtain ⟨ji7, hji7⟩ : ∃ j_ : Int, (mx a1 a2) = j_ := ⟨_, rfl⟩
  replace H : ((round_Pack.f k a0_0 a0_1 false 0 (ji7) a3 false).bind fun bt363 => ((round_Pack.f k a0_0 a0_1 true 0 (ji5) a3 false).bind fun bt365 => (if t362 = bt363.2 then (grottolaw02_RoundOrder.j0 k t361 t362 bt363.1 bt365.1 (t362 != bt365.2) a0_0 a0_1) else (grottolaw02_RoundOrder.j0 k t361 t362 bt363.1 bt365.1 true a0_0 a0_1)))) = some r := by first | (rw [hji7] at H; exact H) | (simp only [hji7] at H ⊢; exact H)
  (try rw [hji7] at A6)
  have hji7_ : (if a1 < a2 then a2 else a1) = ji7 := hji7
  replace H := Option.bind_eq_some_iff.mp H
  obtain ⟨⟨t363, t364⟩, A80, H⟩ := H
  replace H : ((round_Pack.f k a0_0 a0_1 true 0 (ji5) a3 false).bind fun bt365 => (if t362 = t364 then (grottolaw02_RoundOrder.j0 k t361 t362 t363 bt365.1 (t362 != bt365.2) a0_0 a0_1) else (grottolaw02_RoundOrder.j0 k t361 t362 t363 bt365.1 true a0_0 a0_1))) = some r := H
  have A8 := Aside0.mk A80
  clear A80
  replace H := Option.bind_eq_some_iff.mp H
  obtain ⟨⟨t365, t366⟩, A100, H⟩ := H
  replace H : (if t362 = t364 then (grottolaw02_RoundOrder.j0 k t361 t362 t363 t365 (t362 != t366) a0_0 a0_1) else (grottolaw02_RoundOrder.j0 k t361 t362 t363 t365 true a0_0 a0_1)) = some r := H
  have A10 := Aside0.mk A100
  clear A100
  have HC11 := Aside0.mk H
  clear H
  go_enter Try.func5, Try.ntmps5
  go_upto_region 4 with (first | ((with_reducible refine gate_dst (N := 4) rfl ?_); refine zbox (N := 4) (cs := #[.int .i64 a0_0, .int .i64 a0_1]) (t := 23) ?_; intro gb360 hg w12 hbox hb; have BK360 := Aside0.mk hbox; have GW360 := zge hg HB; have GE360 := zge hg HB; replace HB := zbs HB hb; clear hb hbox hg; obtain ⟨hcz13_0, hcz13_1, hfz13_0, hfz13_1⟩ := zc2 BK360) | ((with_reducible refine gate_callee (f := 10) rfl ?_); refine goesL_ (some 21) rfl rfl Try.func10 (by kernel_rfl) rfl #[.agg #[.int .i64 a0_0, .int .i64 a0_1], .bool false, .int .u64 0, .int .u64 ji5, .int .i64 a3, .bool false] rfl (by (try simp only [List.map_toArray, List.map_cons, List.map_nil]); first | done | (simp only [hji5]; rfl) | rfl | (simp only [List.length_drop, List.length_take]; rfl)) ?_; (with_reducible refine (round_Pack.calls k a0_0 a0_1 false 0 ji5 a3 false t361 t362 _ A6.out).mono ?_); rintro e w14 ⟨rfl, hb⟩; refine ⟨_, rfl, ?_⟩; replace BK360 := zkb BK360 hb; replace HB := zbs HB hb; (try clear hb); (try clear hb2); (try clear hk); (try clear hi); obtain ⟨hcz15_0, hcz15_1, hfz15_0, hfz15_1⟩ := zc2 BK360) | ((with_reducible refine gate_callee (f := 10) rfl ?_); refine goesL_ (some 30) rfl rfl Try.func10 (by kernel_rfl) rfl #[.agg #[.int .i64 a0_0, .int .i64 a0_1], .bool false, .int .u64 0, .int .u64 ji7, .int .i64 a3, .bool false] rfl (by (try simp only [List.map_toArray, List.map_cons, List.map_nil]); first | done | (simp only [hji7]; rfl) | rfl | (simp only [List.length_drop, List.length_take]; rfl)) ?_; (with_reducible refine (round_Pack.calls k a0_0 a0_1 false 0 ji7 a3 false t363 t364 _ A8.out).mono ?_); rintro e w16 ⟨rfl, hb⟩; refine ⟨_, rfl, ?_⟩; replace BK360 := zkb BK360 hb; replace HB := zbs HB hb; (try clear hb); (try clear hb2); (try clear hk); (try clear hi); obtain ⟨hcz17_0, hcz17_1, hfz17_0, hfz17_1⟩ := zc2 BK360) | ((with_reducible refine gate_callee (f := 10) rfl ?_); refine goesL_ (some 39) rfl rfl Try.func10 (by kernel_rfl) rfl #[.agg #[.int .i64 a0_0, .int .i64 a0_1], .bool true, .int .u64 0, .int .u64 ji5, .int .i64 a3, .bool false] rfl (by (try simp only [List.map_toArray, List.map_cons, List.map_nil]); first | done | (simp only [hji5]; rfl) | rfl | (simp only [List.length_drop, List.length_take]; rfl)) ?_; (with_reducible refine (round_Pack.calls k a0_0 a0_1 true 0 ji5 a3 false t365 t366 _ A10.out).mono ?_); rintro e w18 ⟨rfl, hb⟩; refine ⟨_, rfl, ?_⟩; replace BK360 := zkb BK360 hb; replace HB := zbs HB hb; (try clear hb); (try clear hb2); (try clear hk); (try clear hi)))
  (try simp only [Act.put, List.setIfInBounds_toArray, List.set_cons_zero, List.set_cons_succ])
  go_cut [49] (fun v49 wc => ∃ (kq : Nat) (x49_10 : Bool), v49 = .bool x49_10 ∧ Aside0 (grottolaw02_RoundOrder.j0 kq t361 t362 t363 t365 x49_10 a0_0 a0_1 = some r) ∧ Aside0 (kq ≤ k) ∧ Aside0 (wc.heap[gb360]? = some (.cells #[.int .i64 a0_0, .int .i64 a0_1] 23 (0, 0))) ∧ Aside0 (Below w.heap.size w wc))
  case first =>
    have H := HC11.out
    clear HC11
    by_cases c19 : t362 = t364
    · rw [if_pos c19] at H
      have c19b0 : (t362 == t364) = true := beq_iff_eq.mpr c19
      have c19b1 : (t362 != t364) = false := bne_eq_false_iff_eq.mpr c19
      clear c19
      (first | rw [c19b0] | (simp only [i64_w, i32_w]; rw [c19b0]) | skip)
      have H' := Aside0.mk H
      clear H
      go_wp2
      go_meet
      case rel => exact ⟨_, ((t362 != t366)), (by first | rfl | (simp; done) | (simp [*]; done)), H', ⟨by first | omega | exact Nat.le_refl _⟩, ⟨zk BK360⟩, ⟨zb HB⟩⟩
    · rw [if_neg c19] at H
      have c19b0 : (t362 == t364) = false := beq_eq_false_iff_ne.mpr c19
      have c19b1 : (t362 != t364) = true := bne_iff_ne.mpr c19
      (first | rw [c19b0] | (simp only [i64_w, i32_w]; rw [c19b0]) | skip)
      have H' := Aside0.mk H
      clear H
      go_wp2
      go_meet
      case rel => exact ⟨_, (true), (by first | rfl | (simp; done) | (simp [*]; done)), H', ⟨by first | omega | exact Nat.le_refl _⟩, ⟨zk BK360⟩, ⟨zb HB⟩⟩
  case rest =>
    clear HC11
    try clear c1
    try clear p2
    try clear c5
    try clear c9
    try clear c9b0
    try clear c10
    try clear c19
    try clear c19b0
    try clear c19b1
    try clear hcz13_0
    try clear hcz13_1
    try clear hcz15_0
    try clear hcz15_1
    try clear hcz17_0
    try clear hcz17_1
    try clear hfz13_0
    try clear hfz13_1
    try clear hfz15_0
    try clear hfz15_1
    try clear hfz17_0
    try clear hfz17_1
    obtain ⟨kq, x49_10, rfl, HA, HJ10, BK360, HB⟩ := hcut
    cases kq with
    | zero => exact absurd HA.out (by simp [grottolaw02_RoundOrder.j0])
    | succ kj10 =>
      have H := HA.out
      clear HA
      simp only [grottolaw02_RoundOrder.j0] at H
      by_cases c20 : x49_10 = true
      · subst c20
        have H1 : (some false) = some r := by rw [if_pos rfl] at H; exact H
        clear H
        have H := H1
        clear H1
        obtain rfl := Option.some.inj H
        go_wp2
        go_ret
        exact ⟨by first | rfl | (simp [errW_none, errW_some] <;> rfl) | (simp only [← hji5, ← hji7]; first | rfl | (simp [errW_none, errW_some] <;> rfl)) | (simp [*, errW_none, errW_some] <;> rfl), zb HB⟩
      · replace c20 := Bool.eq_false_iff.mpr c20
        subst c20
        have H1 : ((grottolaw02_num.f t362).bind fun t367 => (if t367 = 0 then (if t361 ≤ t363 then (if 0 ≤ (wrap64 (a0_0 + a0_1)) then (if t365 = (IntKind.u64.wrap (t361 + (shl .u64 1 (wrap64 (a0_0 + a0_1))))) then ((grottolaw02_live.f kj10).bind fun t368 => (some t368)) else (some false)) else (none)) else (some false)) else (if t361 = 0 then (if t363 = 0 then (if t365 = 0 then ((grottolaw02_num.f t362).bind fun t369 => (if t369 = 1 then ((grottolaw02_live.f kj10).bind fun t370 => (some t370)) else (some false))) else (some false)) else (some false)) else (some false)))) = some r := by rw [if_neg (show ¬ (false = true) by decide)] at H; exact H
        clear H
        have H := H1
        clear H1
        replace H := Option.bind_eq_some_iff.mp H
        obtain ⟨t367, A210, H⟩ := H
        replace H : (if t367 = 0 then (if t361 ≤ t363 then (if 0 ≤ (wrap64 (a0_0 + a0_1)) then (if t365 = (IntKind.u64.wrap (t361 + (shl .u64 1 (wrap64 (a0_0 + a0_1))))) then ((grottolaw02_live.f kj10).bind fun t368 => (some t368)) else (some false)) else (none)) else (some false)) else (if t361 = 0 then (if t363 = 0 then (if t365 = 0 then ((grottolaw02_num.f t362).bind fun t369 => (if t369 = 1 then ((grottolaw02_live.f kj10).bind fun t370 => (some t370)) else (some false))) else (some false)) else (some false)) else (some false))) = some r := H
        have A21 := Aside0.mk A210
        clear A210
        by_cases c22 : t367 = 0
        · rw [if_pos c22] at H
          have c22b0 : (t367 == 0) = true := beq_iff_eq.mpr c22
          have c22b1 : (t367 != 0) = false := bne_eq_false_iff_eq.mpr c22
          clear c22
          by_cases c23 : t361 ≤ t363
          · rw [if_pos c23] at H
            have c23b0 : decide (t361 ≤ t363) = true := decide_eq_true c23
            clear c23
            obtain ⟨ji24, hji24⟩ : ∃ j_ : Int, (wrap64 (a0_0 + a0_1)) = j_ := ⟨_, rfl⟩
            replace H : (if 0 ≤ (ji24) then (if t365 = (IntKind.u64.wrap (t361 + (shl .u64 1 (ji24)))) then ((grottolaw02_live.f kj10).bind fun t368 => (some t368)) else (some false)) else (none)) = some r := by first | (rw [hji24] at H; exact H) | (simp only [hji24] at H ⊢; exact H)
            (try rw [hji24] at A21)
            have hji24w : (IntKind.i64.wrap (a0_0 + a0_1)) = ji24 := (i64_w _).trans hji24
            by_cases c25 : 0 ≤ (ji24)
            · rw [if_pos c25] at H
              have c25b0 := eq_true c25
              have c25b1 : decide (0 ≤ (ji24)) = true := decide_eq_true c25
              clear c25
              obtain ⟨ji26, hji26⟩ : ∃ j_ : Int, (shl .u64 1 (ji24)) = j_ := ⟨_, rfl⟩
              replace H : (if t365 = (IntKind.u64.wrap (t361 + (ji26))) then ((grottolaw02_live.f kj10).bind fun t368 => (some t368)) else (some false)) = some r := by first | (rw [hji26] at H; exact H) | (simp only [hji26] at H ⊢; exact H)
              (try rw [hji26] at A21)
              have hji26_ : (IntKind.u64.wrap (1 * 2 ^ min (ji24).toNat 64)) = ji26 := hji26
              have hji26z : (ji24) ≤ 64 → (IntKind.u64.wrap (1 * 2 ^ (ji24).toNat)) = ji26 := shl_small hji26
              have hji26u : (IntKind.u64.wrap (2 ^ min (ji24).toNat 64)) = ji26 := by have h_ := hji26_; rw [Int.one_mul] at h_; exact h_
              have hji26v : (ji24) ≤ 64 → (IntKind.u64.wrap (2 ^ (ji24).toNat)) = ji26 := fun hle_ => by have h_ := hji26z hle_; rw [Int.one_mul] at h_; exact h_
              by_cases c27 : t365 = (IntKind.u64.wrap (t361 + (ji26)))
              · rw [if_pos c27] at H
                have c27b0 : (t365 == (IntKind.u64.wrap (t361 + (ji26)))) = true := beq_iff_eq.mpr c27
                have c27b1 : (t365 != (IntKind.u64.wrap (t361 + (ji26)))) = false := bne_eq_false_iff_eq.mpr c27
                clear c27
                replace H := Option.bind_eq_some_iff.mp H
                obtain ⟨t368, A280, H⟩ := H
                replace H : (some t368) = some r := H
                have A28 := Aside0.mk A280
                clear A280
                obtain rfl := Option.some.inj H
                go_wp2_with (first | ((with_reducible refine gate_callee (f := 12) rfl ?_); refine zgo (some 51) Try.func12 #[.int .i64 t362] ?_; (with_reducible refine (grottolaw02_num.calls t362 t367 _ A21.out).mono ?_); rintro e w' ⟨rfl, ⟨nd, rfl⟩⟩; refine ⟨_, rfl, ?_⟩; obtain ⟨hcz29_0, hcz29_1, hfz29_0, hfz29_1⟩ := zc2 BK360) | (go_at_call 13; (with_reducible refine (grottolaw02_live.calls kj10  t368 _ A28.out).mono ?_); rintro e w30 ⟨rfl, hb⟩; replace BK360 := zkb BK360 hb; replace HB := zbs HB hb; (try clear hb); (try clear hb2); (try clear hk); (try clear hi)))
                go_ret
                exact ⟨by first | rfl | (simp [errW_none, errW_some] <;> rfl) | (simp only [← hji5, ← hji7, ← hji24, ← hji26]; first | rfl | (simp [errW_none, errW_some] <;> rfl)) | (simp [*, errW_none, errW_some] <;> rfl), zb HB⟩
              · rw [if_neg c27] at H
                have c27b0 : (t365 == (IntKind.u64.wrap (t361 + (ji26)))) = false := beq_eq_false_iff_ne.mpr c27
                have c27b1 : (t365 != (IntKind.u64.wrap (t361 + (ji26)))) = true := bne_iff_ne.mpr c27
                obtain rfl := Option.some.inj H
                go_wp2_with (first | ((with_reducible refine gate_callee (f := 12) rfl ?_); refine zgo (some 51) Try.func12 #[.int .i64 t362] ?_; (with_reducible refine (grottolaw02_num.calls t362 t367 _ A21.out).mono ?_); rintro e w' ⟨rfl, ⟨nd, rfl⟩⟩; refine ⟨_, rfl, ?_⟩; obtain ⟨hcz31_0, hcz31_1, hfz31_0, hfz31_1⟩ := zc2 BK360))
                go_ret
                exact ⟨by first | rfl | (simp [errW_none, errW_some] <;> rfl) | (simp only [← hji5, ← hji7, ← hji24, ← hji26]; first | rfl | (simp [errW_none, errW_some] <;> rfl)) | (simp [*, errW_none, errW_some] <;> rfl), zb HB⟩
            · rw [if_neg c25] at H
              exact absurd H (by simp)
          · rw [if_neg c23] at H
            have c23b0 : decide (t361 ≤ t363) = false := decide_eq_false c23
            clear c23
            obtain rfl := Option.some.inj H
            go_wp2_with (first | ((with_reducible refine gate_callee (f := 12) rfl ?_); refine zgo (some 51) Try.func12 #[.int .i64 t362] ?_; (with_reducible refine (grottolaw02_num.calls t362 t367 _ A21.out).mono ?_); rintro e w' ⟨rfl, ⟨nd, rfl⟩⟩; refine ⟨_, rfl, ?_⟩))
            go_ret
            exact ⟨by first | rfl | (simp [errW_none, errW_some] <;> rfl) | (simp only [← hji5, ← hji7]; first | rfl | (simp [errW_none, errW_some] <;> rfl)) | (simp [*, errW_none, errW_some] <;> rfl), zb HB⟩
        · rw [if_neg c22] at H
          have c22b0 : (t367 == 0) = false := beq_eq_false_iff_ne.mpr c22
          have c22b1 : (t367 != 0) = true := bne_iff_ne.mpr c22
          by_cases c32 : t361 = 0
          · rw [if_pos c32] at H
            have c32b0 : (t361 == 0) = true := beq_iff_eq.mpr c32
            have c32b1 : (t361 != 0) = false := bne_eq_false_iff_eq.mpr c32
            clear c32
            by_cases c33 : t363 = 0
            · rw [if_pos c33] at H
              have c33b0 : (t363 == 0) = true := beq_iff_eq.mpr c33
              have c33b1 : (t363 != 0) = false := bne_eq_false_iff_eq.mpr c33
              clear c33
              by_cases c34 : t365 = 0
              · rw [if_pos c34] at H
                have c34b0 : (t365 == 0) = true := beq_iff_eq.mpr c34
                have c34b1 : (t365 != 0) = false := bne_eq_false_iff_eq.mpr c34
                clear c34
                replace H := Option.bind_eq_some_iff.mp H
                obtain ⟨t369, A350, H⟩ := H
                replace H : (if t369 = 1 then ((grottolaw02_live.f kj10).bind fun t370 => (some t370)) else (some false)) = some r := H
                have A35 := Aside0.mk A350
                clear A350
                by_cases c36 : t369 = 1
                · rw [if_pos c36] at H
                  have c36b0 : (t369 == 1) = true := beq_iff_eq.mpr c36
                  have c36b1 : (t369 != 1) = false := bne_eq_false_iff_eq.mpr c36
                  clear c36
                  replace H := Option.bind_eq_some_iff.mp H
                  obtain ⟨t370, A370, H⟩ := H
                  replace H : (some t370) = some r := H
                  have A37 := Aside0.mk A370
                  clear A370
                  obtain rfl := Option.some.inj H
                  go_wp2_with (first | ((with_reducible refine gate_callee (f := 12) rfl ?_); refine zgo (some 51) Try.func12 #[.int .i64 t362] ?_; (with_reducible refine (grottolaw02_num.calls t362 t367 _ A21.out).mono ?_); rintro e w' ⟨rfl, ⟨nd, rfl⟩⟩; refine ⟨_, rfl, ?_⟩) | (go_at_call 12; (with_reducible refine (grottolaw02_num.calls t362 t369 _ A35.out).mono ?_); rintro e w' ⟨rfl, ⟨nd, rfl⟩⟩) | (go_at_call 13; (with_reducible refine (grottolaw02_live.calls kj10  t370 _ A37.out).mono ?_); rintro e w38 ⟨rfl, hb⟩; replace BK360 := zkb BK360 hb; replace HB := zbs HB hb; (try clear hb); (try clear hb2); (try clear hk); (try clear hi)))
                  go_ret
                  exact ⟨by first | rfl | (simp [errW_none, errW_some] <;> rfl) | (simp only [← hji5, ← hji7]; first | rfl | (simp [errW_none, errW_some] <;> rfl)) | (simp [*, errW_none, errW_some] <;> rfl), zb HB⟩
                · rw [if_neg c36] at H
                  have c36b0 : (t369 == 1) = false := beq_eq_false_iff_ne.mpr c36
                  have c36b1 : (t369 != 1) = true := bne_iff_ne.mpr c36
                  obtain rfl := Option.some.inj H
                  go_wp2_with (first | ((with_reducible refine gate_callee (f := 12) rfl ?_); refine zgo (some 51) Try.func12 #[.int .i64 t362] ?_; (with_reducible refine (grottolaw02_num.calls t362 t367 _ A21.out).mono ?_); rintro e w' ⟨rfl, ⟨nd, rfl⟩⟩; refine ⟨_, rfl, ?_⟩) | (go_at_call 12; (with_reducible refine (grottolaw02_num.calls t362 t369 _ A35.out).mono ?_); rintro e w' ⟨rfl, ⟨nd, rfl⟩⟩))
                  go_ret
                  exact ⟨by first | rfl | (simp [errW_none, errW_some] <;> rfl) | (simp only [← hji5, ← hji7]; first | rfl | (simp [errW_none, errW_some] <;> rfl)) | (simp [*, errW_none, errW_some] <;> rfl), zb HB⟩
              · rw [if_neg c34] at H
                have c34b0 : (t365 == 0) = false := beq_eq_false_iff_ne.mpr c34
                have c34b1 : (t365 != 0) = true := bne_iff_ne.mpr c34
                obtain rfl := Option.some.inj H
                go_wp2_with (first | ((with_reducible refine gate_callee (f := 12) rfl ?_); refine zgo (some 51) Try.func12 #[.int .i64 t362] ?_; (with_reducible refine (grottolaw02_num.calls t362 t367 _ A21.out).mono ?_); rintro e w' ⟨rfl, ⟨nd, rfl⟩⟩; refine ⟨_, rfl, ?_⟩))
                go_ret
                exact ⟨by first | rfl | (simp [errW_none, errW_some] <;> rfl) | (simp only [← hji5, ← hji7]; first | rfl | (simp [errW_none, errW_some] <;> rfl)) | (simp [*, errW_none, errW_some] <;> rfl), zb HB⟩
            · rw [if_neg c33] at H
              have c33b0 : (t363 == 0) = false := beq_eq_false_iff_ne.mpr c33
              have c33b1 : (t363 != 0) = true := bne_iff_ne.mpr c33
              obtain rfl := Option.some.inj H
              go_wp2_with (first | ((with_reducible refine gate_callee (f := 12) rfl ?_); refine zgo (some 51) Try.func12 #[.int .i64 t362] ?_; (with_reducible refine (grottolaw02_num.calls t362 t367 _ A21.out).mono ?_); rintro e w' ⟨rfl, ⟨nd, rfl⟩⟩; refine ⟨_, rfl, ?_⟩))
              go_ret
              exact ⟨by first | rfl | (simp [errW_none, errW_some] <;> rfl) | (simp only [← hji5, ← hji7]; first | rfl | (simp [errW_none, errW_some] <;> rfl)) | (simp [*, errW_none, errW_some] <;> rfl), zb HB⟩
          · rw [if_neg c32] at H
            have c32b0 : (t361 == 0) = false := beq_eq_false_iff_ne.mpr c32
            have c32b1 : (t361 != 0) = true := bne_iff_ne.mpr c32
            obtain rfl := Option.some.inj H
            go_wp2_with (first | ((with_reducible refine gate_callee (f := 12) rfl ?_); refine zgo (some 51) Try.func12 #[.int .i64 t362] ?_; (with_reducible refine (grottolaw02_num.calls t362 t367 _ A21.out).mono ?_); rintro e w' ⟨rfl, ⟨nd, rfl⟩⟩; refine ⟨_, rfl, ?_⟩))
            go_ret
            exact ⟨by first | rfl | (simp [errW_none, errW_some] <;> rfl) | (simp only [← hji5, ← hji7]; first | rfl | (simp [errW_none, errW_some] <;> rfl)) | (simp [*, errW_none, errW_some] <;> rfl), zb HB⟩

end Go.Proofs.Ytcfmmkapefpjjaa.PQ
