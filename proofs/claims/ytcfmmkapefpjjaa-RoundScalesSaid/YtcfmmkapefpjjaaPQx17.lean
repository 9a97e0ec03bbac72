-- by a program of this claim
import Derived.Test.YtcfmmkapefpjjaaPQx0
import Derived.Test.YtcfmmkapefpjjaaPQx3
import Derived.Test.YtcfmmkapefpjjaaPQx11
namespace Go.Proofs.Ytcfmmkapefpjjaa.PQ
open Go.RowKit Go.Proofs.YtcfmmkapefpjjaaW.PrintWords Go.Proofs.YtcfmmkapefpjjaaW.PrintLast Go.Proofs.YtcfmmkapefpjjaaW.PrintMore Go.Proofs.Ytcfmmkapefpjjaa.Z
attribute [local go_sem] max2_int min2_int max_two min_two max_three min_three max_four min_four   -- for this text's walks alone
set_option linter.unusedVariables false
set_option linter.unusedSimpArgs false

/-! ### grottolaw02_RoundScales: function 6 -/
def grottolaw02_RoundScales.j0 : Nat → Int → Int → Int → Bool → Int → Int → Option (Bool)
  | 0, _, _, _, _, _, _ => none
  | k + 1, x1, x2, x3, x27, x372000, x372001 => if x27 = true then ((grottolaw02_live.f k).bind fun t372 => (some t372)) else ((round_Pack.f k x372000 x372001 true 0 x1 x2 false).bind fun bt373 => (if x3 > 0 then (if 0 ≤ (wrap64 (64 - x3)) then (if 0 ≤ x3 then ((round_Pack.f k x372000 x372001 true (shr .u64 x1 (wrap64 (64 - x3))) (shl .u64 x1 x3) (wrap64 (x2 - x3)) false).bind fun bt375 => (if bt373.1 = bt375.1 then (if bt373.2 = bt375.2 then ((grottolaw02_live.f k).bind fun t377 => (some t377)) else (some false)) else (some false))) else (none)) else (none)) else (if 0 ≤ x3 then ((round_Pack.f k x372000 x372001 true 0 (shl .u64 x1 x3) (wrap64 (x2 - x3)) false).bind fun bt378 => (if bt373.1 = bt378.1 then (if bt373.2 = bt378.2 then ((grottolaw02_live.f k).bind fun t380 => (some t380)) else (some false)) else (some false))) else (none))))
def grottolaw02_RoundScales.f (k : Nat) (a0_0 : Int) (a0_1 : Int) (a1 : Int) (a2 : Int) (a3 : Int) : Option (Bool) := if a3 < 0 then (grottolaw02_RoundScales.j0 k a1 a2 a3 true a0_0 a0_1) else (if a3 > 63 then (grottolaw02_RoundScales.j0 k a1 a2 a3 true a0_0 a0_1) else (if a2 < (-4032) then (grottolaw02_RoundScales.j0 k a1 a2 a3 true a0_0 a0_1) else (grottolaw02_RoundScales.j0 k a1 a2 a3 (decide (a2 > 4096)) a0_0 a0_1)))
theorem grottolaw02_RoundScales.mono_l : ∀ k, (∀ y0 y1 y2 y3 y4 y5, LeO (grottolaw02_RoundScales.j0 k y0 y1 y2 y3 y4 y5) (grottolaw02_RoundScales.j0 (k + 1) y0 y1 y2 y3 y4 y5))
  | 0 => fun _ _ _ _ _ _ r h => by simp [grottolaw02_RoundScales.j0] at h
  | k + 1 => by
    have ih0 := grottolaw02_RoundScales.mono_l k
    · intro y0 y1 y2 y3 y4 y5
      unfold grottolaw02_RoundScales.j0
      repeat' first
      | (with_reducible exact ih0 _ _ _ _ _ _)
      | (with_reducible exact grottolaw02_live.mono _)
      | (with_reducible exact round_Pack.mono _ _ _ _ _ _ _ _)
      | (with_reducible exact LeO.refl _)
      | (with_reducible exact LeO.none _)
      | (with_reducible refine LeO.ite ?_ ?_)
      | (with_reducible refine LeO.bind ?_ (fun _ => ?_))
      | exact ih0 _ _ _ _ _ _
      | exact grottolaw02_live.mono _
      | exact round_Pack.mono _ _ _ _ _ _ _ _
      | exact LeO.none _
      | refine LeO.ite ?_ ?_
      | refine LeO.bind ?_ (fun _ => ?_)
theorem grottolaw02_RoundScales.mono : ∀ a0 a1 a2 a3 a4 k, LeO (grottolaw02_RoundScales.f k a0 a1 a2 a3 a4) (grottolaw02_RoundScales.f (k + 1) a0 a1 a2 a3 a4) := by
  intro a0 a1 a2 a3 a4 k
  have ih0 := grottolaw02_RoundScales.mono_l k
  unfold grottolaw02_RoundScales.f
  repeat' first
      | (with_reducible exact ih0 _ _ _ _ _ _)
      | (with_reducible exact grottolaw02_live.mono _)
      | (with_reducible exact round_Pack.mono _ _ _ _ _ _ _ _)
      | (with_reducible exact LeO.refl _)
      | (with_reducible exact LeO.none _)
      | (with_reducible refine LeO.ite ?_ ?_)
      | (with_reducible refine LeO.bind ?_ (fun _ => ?_))
      | exact ih0 _ _ _ _ _ _
      | exact grottolaw02_live.mono _
      | exact round_Pack.mono _ _ _ _ _ _ _ _
      | exact LeO.none _
      | refine LeO.ite ?_ ?_
      | refine LeO.bind ?_ (fun _ => ?_)
def grottolaw02_RoundScales.T7 : Bool × List (List Nat × List Nat) := (true, [([], []), ([], []), ([], []), ([], []), ([2, 3], [2, 3]), ([], []), ([], []), ([5, 6], [5, 6]), ([0, 1, 4, 7], [0, 1, 4, 7]), ([8], [8]), ([9], [9]), ([9], [9]), ([10, 8, 0, 1, 2, 3, 4, 5, 6, 7, 8, 9, 10], [10]), ([11, 12, 0, 1, 2, 3, 4, 5, 6, 7, 8, 9, 10, 11, 12], [11])])
def grottolaw02_RoundScales.B7 : List Nat := [0, 0, 0, 0, 12, 0, 0, 96, 255, 511, 1023, 1023, 2047, 8191]
theorem grottolaw02_RoundScales.tab7 : rtab .any (opsOf Try.f6 7) = grottolaw02_RoundScales.T7 := by kernel_rfl
theorem grottolaw02_RoundScales.bits7 : waitsOk grottolaw02_RoundScales.T7.2 grottolaw02_RoundScales.B7 = true := by kernel_rfl
set_option maxHeartbeats 8000000 in
set_option maxRecDepth 100000 in
theorem grottolaw02_RoundScales.calls (k : Nat) (a0_0 : Int) (a0_1 : Int) (a1 : Int) (a2 : Int) (a3 : Int) (r : Bool) (w : World) (h : grottolaw02_RoundScales.f k a0_0 a0_1 a1 a2 a3 = some r) :
    Calls Try.prog 6 #[.agg #[.int .i64 a0_0, .int .i64 a0_1], .int .u64 a1, .int .i64 a2, .int .i64 a3] w fun e w' => e = .returned (.bool r) ∧ Below w.heap.size w w' := by
  have hu23 := Try.underlying23
  have HB := Aside0.mk (Below.refl w.heap.size w)
  have H : (if a3 < 0 then (grottolaw02_RoundScales.j0 k a1 a2 a3 true a0_0 a0_1) else (if a3 > 63 then (grottolaw02_RoundScales.j0 k a1 a2 a3 true a0_0 a0_1) else (if a2 < (-4032) then (grottolaw02_RoundScales.j0 k a1 a2 a3 true a0_0 a0_1) else (grottolaw02_RoundScales.j0 k a1 a2 a3 (decide (a2 > 4096)) a0_0 a0_1)))) = some r := h
  clear h
  have HC5 := Aside0.mk H
  clear H
  go_enter Try.func6, Try.ntmps6
  go_upto_region 1 with (first | ((with_reducible refine gate_dst (N := 4) rfl ?_); refine zbox (N := 4) (cs := #[.int .i64 a0_0, .int .i64 a0_1]) (t := 23) ?_; intro gb371 hg w6 hbox hb; have BK371 := Aside0.mk hbox; have GW371 := zge hg HB; have GE371 := zge hg HB; replace HB := zbs HB hb; clear hb hbox hg))
  (try simp only [Act.put, List.setIfInBounds_toArray, List.set_cons_zero, List.set_cons_succ])
  go_cut [27] (fun v27 wc => ∃ (kq : Nat) (x27_4 : Bool), v27 = .bool x27_4 ∧ Aside0 (grottolaw02_RoundScales.j0 kq a1 a2 a3 x27_4 a0_0 a0_1 = some r) ∧ Aside0 (kq ≤ k) ∧ Aside0 (wc.heap[gb371]? = some (.cells #[.int .i64 a0_0, .int .i64 a0_1] 23 (0, 0))) ∧ Aside0 (Below w.heap.size w wc))
  case first =>
    have H := HC5.out
    clear HC5
    by_cases c7 : a3 < 0
    · rw [if_pos c7] at H
      have c7b0 : decide (a3 < 0) = true := decide_eq_true c7
      clear c7
      (first | rw [c7b0] | (simp only [i64_w, i32_w]; rw [c7b0]) | skip)
      have H' := Aside0.mk H
      clear H
      go_wp2
      go_meet
      case rel => exact ⟨_, (true), (by first | rfl | (simp; done) | (simp [*]; done)), H', ⟨by first | omega | exact Nat.le_refl _⟩, ⟨zk BK371⟩, ⟨zb HB⟩⟩
    · rw [if_neg c7] at H
      have c7b0 : decide (a3 < 0) = false := decide_eq_false c7
      clear c7
      (first | rw [c7b0] | (simp only [i64_w, i32_w]; rw [c7b0]) | skip)
      by_cases c8 : a3 > 63
      · rw [if_pos c8] at H
        have c8b0 : decide (63 < a3) = true := decide_eq_true c8
        clear c8
        have H' := Aside0.mk H
        clear H
        go_wp2
        go_meet
        case rel => exact ⟨_, (true), (by first | rfl | (simp; done) | (simp [*]; done)), H', ⟨by first | omega | exact Nat.le_refl _⟩, ⟨zk BK371⟩, ⟨zb HB⟩⟩
      · rw [if_neg c8] at H
        have c8b0 : decide (63 < a3) = false := decide_eq_false c8
        clear c8
        by_cases c9 : a2 < (-4032)
        · rw [if_pos c9] at H
          have c9b0 : decide (a2 < (-4032)) = true := decide_eq_true c9
          clear c9
          have H' := Aside0.mk H
          clear H
          go_wp2
          go_meet
          case rel => exact ⟨_, (true), (by first | rfl | (simp; done) | (simp [*]; done)), H', ⟨by first | omega | exact Nat.le_refl _⟩, ⟨zk BK371⟩, ⟨zb HB⟩⟩
        · rw [if_neg c9] at H
          have c9b0 : decide (a2 < (-4032)) = false := decide_eq_false c9
          clear c9
          have H' := Aside0.mk H
          clear H
          go_wp2
          go_meet
          case rel => exact ⟨_, (decide (a2 > 4096)), (by first | rfl | (simp; done) | (simp [*]; done)), H', ⟨by first | omega | exact Nat.le_refl _⟩, ⟨zk BK371⟩, ⟨zb HB⟩⟩
  case rest =>
    clear HC5
    try clear p2
    try clear c6
    try clear c7
    try clear c7b0
    try clear c8
    try clear c8b0
    try clear c9
    try clear c9b0
    obtain ⟨kq, x27_4, rfl, HA, HJ4, BK371, HB⟩ := hcut
    cases kq with
    | zero => exact absurd HA.out (by simp [grottolaw02_RoundScales.j0])
    | succ kj4 =>
      have H := HA.out
      clear HA
      simp only [grottolaw02_RoundScales.j0] at H
      by_cases c10 : x27_4 = true
      · subst c10
        have H1 : ((grottolaw02_live.f kj4).bind fun t372 => (some t372)) = some r := by rw [if_pos rfl] at H; exact H
        clear H
        have H := H1
        clear H1
        replace H := Option.bind_eq_some_iff.mp H
        obtain ⟨t372, A110, H⟩ := H
        replace H : (some t372) = some r := H
        have A11 := Aside0.mk A110
        clear A110
        obtain rfl := Option.some.inj H
        go_wp2_with (first | ((with_reducible refine gate_callee (f := 13) rfl ?_); refine zgo (some 28) Try.func13 #[] ?_; (with_reducible refine (grottolaw02_live.calls kj4  t372 _ A11.out).mono ?_); rintro e w12 ⟨rfl, hb⟩; refine ⟨_, rfl, ?_⟩; replace BK371 := zkb BK371 hb; replace HB := zbs HB hb; (try clear hb); (try clear hb2); (try clear hk); (try clear hi)))
        go_ret
        exact ⟨by first | rfl | (simp [errW_none, errW_some] <;> rfl) | (simp [*, errW_none, errW_some] <;> rfl), zb HB⟩
      · replace c10 := Bool.eq_false_iff.mpr c10
        subst c10
        have H1 : ((round_Pack.f kj4 a0_0 a0_1 true 0 a1 a2 false).bind fun bt373 => (if a3 > 0 then (if 0 ≤ (wrap64 (64 - a3)) then (if 0 ≤ a3 then ((round_Pack.f kj4 a0_0 a0_1 true (shr .u64 a1 (wrap64 (64 - a3))) (shl .u64 a1 a3) (wrap64 (a2 - a3)) false).bind fun bt375 => (if bt373.1 = bt375.1 then (if bt373.2 = bt375.2 then ((grottolaw02_live.f kj4).bind fun t377 => (some t377)) else (some false)) else (some false))) else (none)) else (none)) else (if 0 ≤ a3 then ((round_Pack.f kj4 a0_0 a0_1 true 0 (shl .u64 a1 a3) (wrap64 (a2 - a3)) false).bind fun bt378 => (if bt373.1 = bt378.1 then (if bt373.2 = bt378.2 then ((grottolaw02_live.f kj4).bind fun t380 => (some t380)) else (some false)) else (some false))) else (none)))) = some r := by rw [if_neg (show ¬ (false = true) by decide)] at H; exact H
        clear H
        have H := H1
        clear H1
        replace H := Option.bind_eq_some_iff.mp H
        obtain ⟨⟨t373, t374⟩, A130, H⟩ := H
        replace H : (if a3 > 0 then (if 0 ≤ (wrap64 (64 - a3)) then (if 0 ≤ a3 then ((round_Pack.f kj4 a0_0 a0_1 true (shr .u64 a1 (wrap64 (64 - a3))) (shl .u64 a1 a3) (wrap64 (a2 - a3)) false).bind fun bt375 => (if t373 = bt375.1 then (if t374 = bt375.2 then ((grottolaw02_live.f kj4).bind fun t377 => (some t377)) else (some false)) else (some false))) else (none)) else (none)) else (if 0 ≤ a3 then ((round_Pack.f kj4 a0_0 a0_1 true 0 (shl .u64 a1 a3) (wrap64 (a2 - a3)) false).bind fun bt378 => (if t373 = bt378.1 then (if t374 = bt378.2 then ((grottolaw02_live.f kj4).bind fun t380 => (some t380)) else (some false)) else (some false))) else (none))) = some r := H
        have A13 := Aside0.mk A130
        clear A130
        by_cases c14 : a3 > 0
        · rw [if_pos c14] at H
          have c14b0 : decide (0 < a3) = true := decide_eq_true c14
          clear c14
          obtain ⟨ji15, hji15⟩ : ∃ j_ : Int, (wrap64 (64 - a3)) = j_ := ⟨_, rfl⟩
          replace H : (if 0 ≤ (ji15) then (if 0 ≤ a3 then ((round_Pack.f kj4 a0_0 a0_1 true (shr .u64 a1 (ji15)) (shl .u64 a1 a3) (wrap64 (a2 - a3)) false).bind fun bt375 => (if t373 = bt375.1 then (if t374 = bt375.2 then ((grottolaw02_live.f kj4).bind fun t377 => (some t377)) else (some false)) else (some false))) else (none)) else (none)) = some r := by first | (rw [hji15] at H; exact H) | (simp only [hji15] at H ⊢; exact H)
          (try rw [hji15] at A13)
          have hji15w : (IntKind.i64.wrap (64 - a3)) = ji15 := (i64_w _).trans hji15
          by_cases c16 : 0 ≤ (ji15)
          · rw [if_pos c16] at H
            have c16b0 := eq_true c16
            have c16b1 : decide (0 ≤ (ji15)) = true := decide_eq_true c16
            clear c16
            obtain ⟨ji17, hji17⟩ : ∃ j_ : Int, (shr .u64 a1 (ji15)) = j_ := ⟨_, rfl⟩
            replace H : (if 0 ≤ a3 then ((round_Pack.f kj4 a0_0 a0_1 true (ji17) (shl .u64 a1 a3) (wrap64 (a2 - a3)) false).bind fun bt375 => (if t373 = bt375.1 then (if t374 = bt375.2 then ((grottolaw02_live.f kj4).bind fun t377 => (some t377)) else (some false)) else (some false))) else (none)) = some r := by first | (rw [hji17] at H; exact H) | (simp only [hji17] at H ⊢; exact H)
            (try rw [hji17] at A13)
            have hji17_ : (a1 / 2 ^ min (ji15).toNat 64) = ji17 := hji17
            have hji17z : (ji15) ≤ 64 → (a1 / 2 ^ (ji15).toNat) = ji17 := shr_small hji17
            by_cases c18 : 0 ≤ a3
            · rw [if_pos c18] at H
              have c18b0 := eq_true c18
              have c18b1 : decide (0 ≤ a3) = true := decide_eq_true c18
              clear c18
              obtain ⟨ji19, hji19⟩ : ∃ j_ : Int, (shl .u64 a1 a3) = j_ := ⟨_, rfl⟩
              replace H : ((round_Pack.f kj4 a0_0 a0_1 true (ji17) (ji19) (wrap64 (a2 - a3)) false).bind fun bt375 => (if t373 = bt375.1 then (if t374 = bt375.2 then ((grottolaw02_live.f kj4).bind fun t377 => (some t377)) else (some false)) else (some false))) = some r := by first | (rw [hji19] at H; exact H) | (simp only [hji19] at H ⊢; exact H)
              (try rw [hji19] at A13)
              have hji19_ : (IntKind.u64.wrap (a1 * 2 ^ min a3.toNat 64)) = ji19 := hji19
              have hji19z : a3 ≤ 64 → (IntKind.u64.wrap (a1 * 2 ^ a3.toNat)) = ji19 := shl_small hji19
              replace H := Option.bind_eq_some_iff.mp H
              obtain ⟨⟨t375, t376⟩, A200, H⟩ := H
              replace H : (if t373 = t375 then (if t374 = t376 then ((grottolaw02_live.f kj4).bind fun t377 => (some t377)) else (some false)) else (some false)) = some r := H
              have A20 := Aside0.mk A200
              clear A200
              by_cases c21 : t373 = t375
              · rw [if_pos c21] at H
                have c21b0 : (t373 == t375) = true := beq_iff_eq.mpr c21
                have c21b1 : (t373 != t375) = false := bne_eq_false_iff_eq.mpr c21
                clear c21
                by_cases c22 : t374 = t376
                · rw [if_pos c22] at H
                  have c22b0 : (t374 == t376) = true := beq_iff_eq.mpr c22
                  have c22b1 : (t374 != t376) = false := bne_eq_false_iff_eq.mpr c22
                  clear c22
                  replace H := Option.bind_eq_some_iff.mp H
                  obtain ⟨t377, A230, H⟩ := H
                  replace H : (some t377) = some r := H
                  have A23 := Aside0.mk A230
                  clear A230
                  obtain rfl := Option.some.inj H
                  obtain ⟨hcz24_0, hcz24_1, hfz24_0, hfz24_1⟩ := zc2 BK371
                  try go_wp2_with (first | ((with_reducible refine gate_callee (f := 10) rfl ?_); refine zgo (some 33) Try.func10 #[.agg #[.int .i64 a0_0, .int .i64 a0_1], .bool true, .int .u64 0, .int .u64 a1, .int .i64 a2, .bool false] ?_; (with_reducible refine (round_Pack.calls kj4 a0_0 a0_1 true 0 a1 a2 false t373 t374 _ A13.out).mono ?_); rintro e w25 ⟨rfl, hb⟩; refine ⟨_, rfl, ?_⟩; replace BK371 := zkb BK371 hb; replace HB := zbs HB hb; (try clear hb); (try clear hb2); (try clear hk); (try clear hi)))
                  replace BK371 := Aside0.mk (blk_drew BK371.out)
                  replace HB := Aside0.mk (below_drew1 HB.out)
                  refine start_ (n := 14) (S := fun w' => w'.cell? ⟨gb371, 0, none⟩ = some (.int .i64 a0_0) ∧ w'.cell? ⟨gb371, 1, none⟩ = some (.int .i64 a0_1)) (ds := []) #[false, false, false, false, false, false, false, false, false, false, false, false, false, false] (by kernel_rfl) rfl rfl ⟨(blk_cell BK371.out 0).trans rfl, (blk_cell BK371.out 1).trans rfl⟩ (fun hHeld => ?_); refine with_tabW grottolaw02_RoundScales.tab7 grottolaw02_RoundScales.bits7 (fun HT_ HW_ => ?_)
                  generalize w25.drew = w26 at BK371 HB hHeld ⊢
                  refine zpure_ (i := 1) (N := some 44) #[false, true, false, false, false, false, false, false, false, false, false, false, false, false] (any_of HT_.out (by kernel_rfl)) ?_
                  refine zpure_ (i := 2) (N := some 45) #[false, true, true, false, false, false, false, false, false, false, false, false, false, false] (any_of HT_.out (by kernel_rfl)) ?_
                  refine zpure_ (i := 3) (N := some 46) #[false, true, true, true, false, false, false, false, false, false, false, false, false, false] (any_of HT_.out (by kernel_rfl)) ?_
                  refine zpure_ (i := 4) (N := some 47) #[false, true, true, true, true, false, false, false, false, false, false, false, false, false] (any_of HT_.out (by kernel_rfl)) ?_
                  refine zpure_ (i := 5) (N := some 48) #[false, true, true, true, true, true, false, false, false, false, false, false, false, false] (any_of HT_.out (by kernel_rfl)) ?_
                  refine zpure_ (i := 6) (N := some 49) #[false, true, true, true, true, true, true, false, false, false, false, false, false, false] (any_of HT_.out (by kernel_rfl)) ?_
                  refine zpure_ (i := 7) (N := some 50) #[false, true, true, true, true, true, true, true, false, false, false, false, false, false] (any_of HT_.out (by kernel_rfl)) ?_
                  refine ztake_ (i := 0) (N := some 43) #[true, true, true, true, true, true, true, true, false, false, false, false, false, false] rfl (take_ofW HT_.out HW_.out (by kernel_rfl)) hHeld (Or.inl ⟨by rfl, by rintro w' ⟨s0, s1⟩; go_simp; with_reducible rfl⟩) ?_
                  refine one_ (i := 8) (N := some 51) #[true, true, true, true, true, true, true, true, true, false, false, false, false, false] rfl rfl (one_of HT_.out (by kernel_rfl)) (by decide) (fun K hK => ?_)
                  refine goes_ Try.func10 (by kernel_rfl) rfl #[.agg #[.int .i64 a0_0, .int .i64 a0_1], .bool true, .int .u64 ji17, .int .u64 ji19, .int .i64 (wrap64 (a2 - a3)), .bool false] (by rfl) rfl rfl (by (try simp only [List.map_toArray, List.map_cons, List.map_nil]); first | done | (simp only [hji17, hji19]; rfl) | rfl | (simp only [List.length_drop, List.length_take]; rfl)) ?_
                  with_reducible refine (round_Pack.calls kj4 a0_0 a0_1 true ji17 ji19 (wrap64 (a2 - a3)) false t375 t376 _ A20.out).mono ?_
                  rintro e w27 ⟨rfl, hb⟩
                  refine ⟨_, rfl, ?_⟩
                  replace BK371 := zkb BK371 hb
                  replace HB := zbs HB hb
                  (try clear hb)
                  (try clear hb2)
                  (try clear hk)
                  (try clear hi)
                  refine hK.out _ _ ⟨(blk_cell BK371.out 0).trans rfl, (blk_cell BK371.out 1).trans rfl⟩ (fun hHeld => ?_)
                  clear hK K
                  refine norm_ (a' := ?_) ?_ ?_
                  rotate_left
                  · show Act.put _ (some 51) _ = _
                    simp only [Act.put, List.setIfInBounds_toArray, List.set_cons_zero, List.set_cons_succ, i64_w, i32_w]
                    rfl
                  refine zpure_ (i := 9) (N := some 42) #[true, true, true, true, true, true, true, true, true, true, false, false, false, false] (any_of HT_.out (by kernel_rfl)) ?_
                  refine zpure_ (i := 10) (N := some 52) #[true, true, true, true, true, true, true, true, true, true, true, false, false, false] (any_of HT_.out (by kernel_rfl)) ?_
                  refine zpure_ (i := 11) (N := some 53) #[true, true, true, true, true, true, true, true, true, true, true, true, false, false] (any_of HT_.out (by kernel_rfl)) ?_
                  refine zpure_ (i := 12) (N := some 12) #[true, true, true, true, true, true, true, true, true, true, true, true, true, false] (any_of HT_.out (by kernel_rfl)) ?_
                  refine zpure_ (i := 13) (N := some 13) #[true, true, true, true, true, true, true, true, true, true, true, true, true, true] (any_of HT_.out (by kernel_rfl)) ?_
                  refine done_ (done_of HT_.out (by kernel_rfl)) ?_
                  try go_wp2_with (first | (go_at_call 13; (with_reducible refine (grottolaw02_live.calls kj4  t377 _ A23.out).mono ?_); rintro e w28 ⟨rfl, hb⟩; replace BK371 := zkb BK371 hb; replace HB := zbs HB hb; (try clear hb); (try clear hb2); (try clear hk); (try clear hi)))
                  go_ret
                  exact ⟨by first | rfl | (simp [errW_none, errW_some] <;> rfl) | (simp only [← hji15, ← hji17, ← hji19]; first | rfl | (simp [errW_none, errW_some] <;> rfl)) | (simp [*, errW_none, errW_some] <;> rfl), zb HB⟩
                · rw [if_neg c22] at H
                  have c22b0 : (t374 == t376) = false := beq_eq_false_iff_ne.mpr c22
                  have c22b1 : (t374 != t376) = true := bne_iff_ne.mpr c22
                  obtain rfl := Option.some.inj H
                  obtain ⟨hcz29_0, hcz29_1, hfz29_0, hfz29_1⟩ := zc2 BK371
                  try go_wp2_with (first | ((with_reducible refine gate_callee (f := 10) rfl ?_); refine zgo (some 33) Try.func10 #[.agg #[.int .i64 a0_0, .int .i64 a0_1], .bool true, .int .u64 0, .int .u64 a1, .int .i64 a2, .bool false] ?_; (with_reducible refine (round_Pack.calls kj4 a0_0 a0_1 true 0 a1 a2 false t373 t374 _ A13.out).mono ?_); rintro e w30 ⟨rfl, hb⟩; refine ⟨_, rfl, ?_⟩; replace BK371 := zkb BK371 hb; replace HB := zbs HB hb; (try clear hb); (try clear hb2); (try clear hk); (try clear hi)))
                  replace BK371 := Aside0.mk (blk_drew BK371.out)
                  replace HB := Aside0.mk (below_drew1 HB.out)
                  refine start_ (n := 14) (S := fun w' => w'.cell? ⟨gb371, 0, none⟩ = some (.int .i64 a0_0) ∧ w'.cell? ⟨gb371, 1, none⟩ = some (.int .i64 a0_1)) (ds := []) #[false, false, false, false, false, false, false, false, false, false, false, false, false, false] (by kernel_rfl) rfl rfl ⟨(blk_cell BK371.out 0).trans rfl, (blk_cell BK371.out 1).trans rfl⟩ (fun hHeld => ?_); refine with_tabW grottolaw02_RoundScales.tab7 grottolaw02_RoundScales.bits7 (fun HT_ HW_ => ?_)
                  generalize w30.drew = w31 at BK371 HB hHeld ⊢
                  refine zpure_ (i := 1) (N := some 44) #[false, true, false, false, false, false, false, false, false, false, false, false, false, false] (any_of HT_.out (by kernel_rfl)) ?_
                  refine zpure_ (i := 2) (N := some 45) #[false, true, true, false, false, false, false, false, false, false, false, false, false, false] (any_of HT_.out (by kernel_rfl)) ?_
                  refine zpure_ (i := 3) (N := some 46) #[false, true, true, true, false, false, false, false, false, false, false, false, false, false] (any_of HT_.out (by kernel_rfl)) ?_
                  refine zpure_ (i := 4) (N := some 47) #[false, true, true, true, true, false, false, false, false, false, false, false, false, false] (any_of HT_.out (by kernel_rfl)) ?_
                  refine zpure_ (i := 5) (N := some 48) #[false, true, true, true, true, true, false, false, false, false, false, false, false, false] (any_of HT_.out (by kernel_rfl)) ?_
                  refine zpure_ (i := 6) (N := some 49) #[false, true, true, true, true, true, true, false, false, false, false, false, false, false] (any_of HT_.out (by kernel_rfl)) ?_
                  refine zpure_ (i := 7) (N := some 50) #[false, true, true, true, true, true, true, true, false, false, false, false, false, false] (any_of HT_.out (by kernel_rfl)) ?_
                  refine ztake_ (i := 0) (N := some 43) #[true, true, true, true, true, true, true, true, false, false, false, false, false, false] rfl (take_ofW HT_.out HW_.out (by kernel_rfl)) hHeld (Or.inl ⟨by rfl, by rintro w' ⟨s0, s1⟩; go_simp; with_reducible rfl⟩) ?_
                  refine one_ (i := 8) (N := some 51) #[true, true, true, true, true, true, true, true, true, false, false, false, false, false] rfl rfl (one_of HT_.out (by kernel_rfl)) (by decide) (fun K hK => ?_)
                  refine goes_ Try.func10 (by kernel_rfl) rfl #[.agg #[.int .i64 a0_0, .int .i64 a0_1], .bool true, .int .u64 ji17, .int .u64 ji19, .int .i64 (wrap64 (a2 - a3)), .bool false] (by rfl) rfl rfl (by (try simp only [List.map_toArray, List.map_cons, List.map_nil]); first | done | (simp only [hji17, hji19]; rfl) | rfl | (simp only [List.length_drop, List.length_take]; rfl)) ?_
                  with_reducible refine (round_Pack.calls kj4 a0_0 a0_1 true ji17 ji19 (wrap64 (a2 - a3)) false t375 t376 _ A20.out).mono ?_
                  rintro e w32 ⟨rfl, hb⟩
                  refine ⟨_, rfl, ?_⟩
                  replace BK371 := zkb BK371 hb
                  replace HB := zbs HB hb
                  (try clear hb)
                  (try clear hb2)
                  (try clear hk)
                  (try clear hi)
                  refine hK.out _ _ ⟨(blk_cell BK371.out 0).trans rfl, (blk_cell BK371.out 1).trans rfl⟩ (fun hHeld => ?_)
                  clear hK K
                  refine norm_ (a' := ?_) ?_ ?_
                  rotate_left
                  · show Act.put _ (some 51) _ = _
                    simp only [Act.put, List.setIfInBounds_toArray, List.set_cons_zero, List.set_cons_succ, i64_w, i32_w]
                    rfl
                  refine zpure_ (i := 9) (N := some 42) #[true, true, true, true, true, true, true, true, true, true, false, false, false, false] (any_of HT_.out (by kernel_rfl)) ?_
                  refine zpure_ (i := 10) (N := some 52) #[true, true, true, true, true, true, true, true, true, true, true, false, false, false] (any_of HT_.out (by kernel_rfl)) ?_
                  refine zpure_ (i := 11) (N := some 53) #[true, true, true, true, true, true, true, true, true, true, true, true, false, false] (any_of HT_.out (by kernel_rfl)) ?_
                  refine zpure_ (i := 12) (N := some 12) #[true, true, true, true, true, true, true, true, true, true, true, true, true, false] (any_of HT_.out (by kernel_rfl)) ?_
                  refine zpure_ (i := 13) (N := some 13) #[true, true, true, true, true, true, true, true, true, true, true, true, true, true] (any_of HT_.out (by kernel_rfl)) ?_
                  refine done_ (done_of HT_.out (by kernel_rfl)) ?_
                  try go_wp2
                  go_ret
                  exact ⟨by first | rfl | (simp [errW_none, errW_some] <;> rfl) | (simp only [← hji15, ← hji17, ← hji19]; first | rfl | (simp [errW_none, errW_some] <;> rfl)) | (simp [*, errW_none, errW_some] <;> rfl), zb HB⟩
              · rw [if_neg c21] at H
                have c21b0 : (t373 == t375) = false := beq_eq_false_iff_ne.mpr c21
                have c21b1 : (t373 != t375) = true := bne_iff_ne.mpr c21
                obtain rfl := Option.some.inj H
                obtain ⟨hcz33_0, hcz33_1, hfz33_0, hfz33_1⟩ := zc2 BK371
                try go_wp2_with (first | ((with_reducible refine gate_callee (f := 10) rfl ?_); refine zgo (some 33) Try.func10 #[.agg #[.int .i64 a0_0, .int .i64 a0_1], .bool true, .int .u64 0, .int .u64 a1, .int .i64 a2, .bool false] ?_; (with_reducible refine (round_Pack.calls kj4 a0_0 a0_1 true 0 a1 a2 false t373 t374 _ A13.out).mono ?_); rintro e w34 ⟨rfl, hb⟩; refine ⟨_, rfl, ?_⟩; replace BK371 := zkb BK371 hb; replace HB := zbs HB hb; (try clear hb); (try clear hb2); (try clear hk); (try clear hi)))
                replace BK371 := Aside0.mk (blk_drew BK371.out)
                replace HB := Aside0.mk (below_drew1 HB.out)
                refine start_ (n := 14) (S := fun w' => w'.cell? ⟨gb371, 0, none⟩ = some (.int .i64 a0_0) ∧ w'.cell? ⟨gb371, 1, none⟩ = some (.int .i64 a0_1)) (ds := []) #[false, false, false, false, false, false, false, false, false, false, false, false, false, false] (by kernel_rfl) rfl rfl ⟨(blk_cell BK371.out 0).trans rfl, (blk_cell BK371.out 1).trans rfl⟩ (fun hHeld => ?_); refine with_tabW grottolaw02_RoundScales.tab7 grottolaw02_RoundScales.bits7 (fun HT_ HW_ => ?_)
                generalize w34.drew = w35 at BK371 HB hHeld ⊢
                refine zpure_ (i := 1) (N := some 44) #[false, true, false, false, false, false, false, false, false, false, false, false, false, false] (any_of HT_.out (by kernel_rfl)) ?_
                refine zpure_ (i := 2) (N := some 45) #[false, true, true, false, false, false, false, false, false, false, false, false, false, false] (any_of HT_.out (by kernel_rfl)) ?_
                refine zpure_ (i := 3) (N := some 46) #[false, true, true, true, false, false, false, false, false, false, false, false, false, false] (any_of HT_.out (by kernel_rfl)) ?_
                refine zpure_ (i := 4) (N := some 47) #[false, true, true, true, true, false, false, false, false, false, false, false, false, false] (any_of HT_.out (by kernel_rfl)) ?_
                refine zpure_ (i := 5) (N := some 48) #[false, true, true, true, true, true, false, false, false, false, false, false, false, false] (any_of HT_.out (by kernel_rfl)) ?_
                refine zpure_ (i := 6) (N := some 49) #[false, true, true, true, true, true, true, false, false, false, false, false, false, false] (any_of HT_.out (by kernel_rfl)) ?_
                refine zpure_ (i := 7) (N := some 50) #[false, true, true, true, true, true, true, true, false, false, false, false, false, false] (any_of HT_.out (by kernel_rfl)) ?_
                refine ztake_ (i := 0) (N := some 43) #[true, true, true, true, true, true, true, true, false, false, false, false, false, false] rfl (take_ofW HT_.out HW_.out (by kernel_rfl)) hHeld (Or.inl ⟨by rfl, by rintro w' ⟨s0, s1⟩; go_simp; with_reducible rfl⟩) ?_
                refine one_ (i := 8) (N := some 51) #[true, true, true, true, true, true, true, true, true, false, false, false, false, false] rfl rfl (one_of HT_.out (by kernel_rfl)) (by decide) (fun K hK => ?_)
                refine goes_ Try.func10 (by kernel_rfl) rfl #[.agg #[.int .i64 a0_0, .int .i64 a0_1], .bool true, .int .u64 ji17, .int .u64 ji19, .int .i64 (wrap64 (a2 - a3)), .bool false] (by rfl) rfl rfl (by (try simp only [List.map_toArray, List.map_cons, List.map_nil]); first | done | (simp only [hji17, hji19]; rfl) | rfl | (simp only [List.length_drop, List.length_take]; rfl)) ?_
                with_reducible refine (round_Pack.calls kj4 a0_0 a0_1 true ji17 ji19 (wrap64 (a2 - a3)) false t375 t376 _ A20.out).mono ?_
                rintro e w36 ⟨rfl, hb⟩
                refine ⟨_, rfl, ?_⟩
                replace BK371 := zkb BK371 hb
                replace HB := zbs HB hb
                (try clear hb)
                (try clear hb2)
                (try clear hk)
                (try clear hi)
                refine hK.out _ _ ⟨(blk_cell BK371.out 0).trans rfl, (blk_cell BK371.out 1).trans rfl⟩ (fun hHeld => ?_)
                clear hK K
                refine norm_ (a' := ?_) ?_ ?_
                rotate_left
                · show Act.put _ (some 51) _ = _
                  simp only [Act.put, List.setIfInBounds_toArray, List.set_cons_zero, List.set_cons_succ, i64_w, i32_w]
                  rfl
                refine zpure_ (i := 9) (N := some 42) #[true, true, true, true, true, true, true, true, true, true, false, false, false, false] (any_of HT_.out (by kernel_rfl)) ?_
                refine zpure_ (i := 10) (N := some 52) #[true, true, true, true, true, true, true, true, true, true, true, false, false, false] (any_of HT_.out (by kernel_rfl)) ?_
                refine zpure_ (i := 11) (N := some 53) #[true, true, true, true, true, true, true, true, true, true, true, true, false, false] (any_of HT_.out (by kernel_rfl)) ?_
                refine zpure_ (i := 12) (N := some 12) #[true, true, true, true, true, true, true, true, true, true, true, true, true, false] (any_of HT_.out (by kernel_rfl)) ?_
                refine zpure_ (i := 13) (N := some 13) #[true, true, true, true, true, true, true, true, true, true, true, true, true, true] (any_of HT_.out (by kernel_rfl)) ?_
                refine done_ (done_of HT_.out (by kernel_rfl)) ?_
                try go_wp2
                go_ret
                exact ⟨by first | rfl | (simp [errW_none, errW_some] <;> rfl) | (simp only [← hji15, ← hji17, ← hji19]; first | rfl | (simp [errW_none, errW_some] <;> rfl)) | (simp [*, errW_none, errW_some] <;> rfl), zb HB⟩
            · rw [if_neg c18] at H
              exact absurd H (by simp)
          · rw [if_neg c16] at H
            exact absurd H (by simp)
        · rw [if_neg c14] at H
          have c14b0 : decide (0 < a3) = false := decide_eq_false c14
          clear c14
          by_cases c37 : 0 ≤ a3
          · rw [if_pos c37] at H
            have c37b0 := eq_true c37
            have c37b1 : decide (0 ≤ a3) = true := decide_eq_true c37
            clear c37
            obtain ⟨ji38, hji38⟩ : ∃ j_ : Int, (shl .u64 a1 a3) = j_ := ⟨_, rfl⟩
            replace H : ((round_Pack.f kj4 a0_0 a0_1 true 0 (ji38) (wrap64 (a2 - a3)) false).bind fun bt378 => (if t373 = bt378.1 then (if t374 = bt378.2 then ((grottolaw02_live.f kj4).bind fun t380 => (some t380)) else (some false)) else (some false))) = some r := by first | (rw [hji38] at H; exact H) | (simp only [hji38] at H ⊢; exact H)
            (try rw [hji38] at A13)
            have hji38_ : (IntKind.u64.wrap (a1 * 2 ^ min a3.toNat 64)) = ji38 := hji38
            have hji38z : a3 ≤ 64 → (IntKind.u64.wrap (a1 * 2 ^ a3.toNat)) = ji38 := shl_small hji38
            replace H := Option.bind_eq_some_iff.mp H
            obtain ⟨⟨t378, t379⟩, A390, H⟩ := H
            replace H : (if t373 = t378 then (if t374 = t379 then ((grottolaw02_live.f kj4).bind fun t380 => (some t380)) else (some false)) else (some false)) = some r := H
            have A39 := Aside0.mk A390
            clear A390
            by_cases c40 : t373 = t378
            · rw [if_pos c40] at H
              have c40b0 : (t373 == t378) = true := beq_iff_eq.mpr c40
              have c40b1 : (t373 != t378) = false := bne_eq_false_iff_eq.mpr c40
              clear c40
              by_cases c41 : t374 = t379
              · rw [if_pos c41] at H
                have c41b0 : (t374 == t379) = true := beq_iff_eq.mpr c41
                have c41b1 : (t374 != t379) = false := bne_eq_false_iff_eq.mpr c41
                clear c41
                replace H := Option.bind_eq_some_iff.mp H
                obtain ⟨t380, A420, H⟩ := H
                replace H : (some t380) = some r := H
                have A42 := Aside0.mk A420
                clear A420
                obtain rfl := Option.some.inj H
                obtain ⟨hcz43_0, hcz43_1, hfz43_0, hfz43_1⟩ := zc2 BK371
                try go_wp2_with (first | ((with_reducible refine gate_callee (f := 10) rfl ?_); refine zgo (some 33) Try.func10 #[.agg #[.int .i64 a0_0, .int .i64 a0_1], .bool true, .int .u64 0, .int .u64 a1, .int .i64 a2, .bool false] ?_; (with_reducible refine (round_Pack.calls kj4 a0_0 a0_1 true 0 a1 a2 false t373 t374 _ A13.out).mono ?_); rintro e w44 ⟨rfl, hb⟩; refine ⟨_, rfl, ?_⟩; replace BK371 := zkb BK371 hb; replace HB := zbs HB hb; (try clear hb); (try clear hb2); (try clear hk); (try clear hi)))
                replace BK371 := Aside0.mk (blk_drew BK371.out)
                replace HB := Aside0.mk (below_drew1 HB.out)
                refine start_ (n := 14) (S := fun w' => w'.cell? ⟨gb371, 0, none⟩ = some (.int .i64 a0_0) ∧ w'.cell? ⟨gb371, 1, none⟩ = some (.int .i64 a0_1)) (ds := []) #[false, false, false, false, false, false, false, false, false, false, false, false, false, false] (by kernel_rfl) rfl rfl ⟨(blk_cell BK371.out 0).trans rfl, (blk_cell BK371.out 1).trans rfl⟩ (fun hHeld => ?_); refine with_tabW grottolaw02_RoundScales.tab7 grottolaw02_RoundScales.bits7 (fun HT_ HW_ => ?_)
                generalize w44.drew = w45 at BK371 HB hHeld ⊢
                refine zpure_ (i := 1) (N := some 44) #[false, true, false, false, false, false, false, false, false, false, false, false, false, false] (any_of HT_.out (by kernel_rfl)) ?_
                refine zpure_ (i := 2) (N := some 45) #[false, true, true, false, false, false, false, false, false, false, false, false, false, false] (any_of HT_.out (by kernel_rfl)) ?_
                refine zpure_ (i := 3) (N := some 46) #[false, true, true, true, false, false, false, false, false, false, false, false, false, false] (any_of HT_.out (by kernel_rfl)) ?_
                refine zpure_ (i := 4) (N := some 47) #[false, true, true, true, true, false, false, false, false, false, false, false, false, false] (any_of HT_.out (by kernel_rfl)) ?_
                refine zpure_ (i := 5) (N := some 48) #[false, true, true, true, true, true, false, false, false, false, false, false, false, false] (any_of HT_.out (by kernel_rfl)) ?_
                refine zpure_ (i := 6) (N := some 49) #[false, true, true, true, true, true, true, false, false, false, false, false, false, false] (any_of HT_.out (by kernel_rfl)) ?_
                refine zpure_ (i := 7) (N := some 50) #[false, true, true, true, true, true, true, true, false, false, false, false, false, false] (any_of HT_.out (by kernel_rfl)) ?_
                refine ztake_ (i := 0) (N := some 43) #[true, true, true, true, true, true, true, true, false, false, false, false, false, false] rfl (take_ofW HT_.out HW_.out (by kernel_rfl)) hHeld (Or.inl ⟨by rfl, by rintro w' ⟨s0, s1⟩; go_simp; with_reducible rfl⟩) ?_
                refine one_ (i := 8) (N := some 51) #[true, true, true, true, true, true, true, true, true, false, false, false, false, false] rfl rfl (one_of HT_.out (by kernel_rfl)) (by decide) (fun K hK => ?_)
                refine goes_ Try.func10 (by kernel_rfl) rfl #[.agg #[.int .i64 a0_0, .int .i64 a0_1], .bool true, .int .u64 0, .int .u64 ji38, .int .i64 (wrap64 (a2 - a3)), .bool false] (by rfl) rfl rfl (by (try simp only [List.map_toArray, List.map_cons, List.map_nil]); first | done | (simp only [hji38]; rfl) | rfl | (simp only [List.length_drop, List.length_take]; rfl)) ?_
                with_reducible refine (round_Pack.calls kj4 a0_0 a0_1 true 0 ji38 (wrap64 (a2 - a3)) false t378 t379 _ A39.out).mono ?_
                rintro e w46 ⟨rfl, hb⟩
                refine ⟨_, rfl, ?_⟩
                replace BK371 := zkb BK371 hb
                replace HB := zbs HB hb
                (try clear hb)
                (try clear hb2)
                (try clear hk)
                (try clear hi)
                refine hK.out _ _ ⟨(blk_cell BK371.out 0).trans rfl, (blk_cell BK371.out 1).trans rfl⟩ (fun hHeld => ?_)
                clear hK K
                refine norm_ (a' := ?_) ?_ ?_
                rotate_left
                · show Act.put _ (some 51) _ = _
                  simp only [Act.put, List.setIfInBounds_toArray, List.set_cons_zero, List.set_cons_succ, i64_w, i32_w]
                  rfl
                refine zpure_ (i := 9) (N := some 42) #[true, true, true, true, true, true, true, true, true, true, false, false, false, false] (any_of HT_.out (by kernel_rfl)) ?_
                refine zpure_ (i := 10) (N := some 52) #[true, true, true, true, true, true, true, true, true, true, true, false, false, false] (any_of HT_.out (by kernel_rfl)) ?_
                refine zpure_ (i := 11) (N := some 53) #[true, true, true, true, true, true, true, true, true, true, true, true, false, false] (any_of HT_.out (by kernel_rfl)) ?_
                refine zpure_ (i := 12) (N := some 12) #[true, true, true, true, true, true, true, true, true, true, true, true, true, false] (any_of HT_.out (by kernel_rfl)) ?_
                refine zpure_ (i := 13) (N := some 13) #[true, true, true, true, true, true, true, true, true, true, true, true, true, true] (any_of HT_.out (by kernel_rfl)) ?_
                refine done_ (done_of HT_.out (by kernel_rfl)) ?_
                try go_wp2_with (first | (go_at_call 13; (with_reducible refine (grottolaw02_live.calls kj4  t380 _ A42.out).mono ?_); rintro e w47 ⟨rfl, hb⟩; replace BK371 := zkb BK371 hb; replace HB := zbs HB hb; (try clear hb); (try clear hb2); (try clear hk); (try clear hi)))
                go_ret
                exact ⟨by first | rfl | (simp [errW_none, errW_some] <;> rfl) | (simp only [← hji38]; first | rfl | (simp [errW_none, errW_some] <;> rfl)) | (simp [*, errW_none, errW_some] <;> rfl), zb HB⟩
              · rw [if_neg c41] at H
                have c41b0 : (t374 == t379) = false := beq_eq_false_iff_ne.mpr c41
                have c41b1 : (t374 != t379) = true := bne_iff_ne.mpr c41
                obtain rfl := Option.some.inj H
                obtain ⟨hcz48_0, hcz48_1, hfz48_0, hfz48_1⟩ := zc2 BK371
                try go_wp2_with (first | ((with_reducible refine gate_callee (f := 10) rfl ?_); refine zgo (some 33) Try.func10 #[.agg #[.int .i64 a0_0, .int .i64 a0_1], .bool true, .int .u64 0, .int .u64 a1, .int .i64 a2, .bool false] ?_; (with_reducible refine (round_Pack.calls kj4 a0_0 a0_1 true 0 a1 a2 false t373 t374 _ A13.out).mono ?_); rintro e w49 ⟨rfl, hb⟩; refine ⟨_, rfl, ?_⟩; replace BK371 := zkb BK371 hb; replace HB := zbs HB hb; (try clear hb); (try clear hb2); (try clear hk); (try clear hi)))
                replace BK371 := Aside0.mk (blk_drew BK371.out)
                replace HB := Aside0.mk (below_drew1 HB.out)
                refine start_ (n := 14) (S := fun w' => w'.cell? ⟨gb371, 0, none⟩ = some (.int .i64 a0_0) ∧ w'.cell? ⟨gb371, 1, none⟩ = some (.int .i64 a0_1)) (ds := []) #[false, false, false, false, false, false, false, false, false, false, false, false, false, false] (by kernel_rfl) rfl rfl ⟨(blk_cell BK371.out 0).trans rfl, (blk_cell BK371.out 1).trans rfl⟩ (fun hHeld => ?_); refine with_tabW grottolaw02_RoundScales.tab7 grottolaw02_RoundScales.bits7 (fun HT_ HW_ => ?_)
                generalize w49.drew = w50 at BK371 HB hHeld ⊢
                refine zpure_ (i := 1) (N := some 44) #[false, true, false, false, false, false, false, false, false, false, false, false, false, false] (any_of HT_.out (by kernel_rfl)) ?_
                refine zpure_ (i := 2) (N := some 45) #[false, true, true, false, false, false, false, false, false, false, false, false, false, false] (any_of HT_.out (by kernel_rfl)) ?_
                refine zpure_ (i := 3) (N := some 46) #[false, true, true, true, false, false, false, false, false, false, false, false, false, false] (any_of HT_.out (by kernel_rfl)) ?_
                refine zpure_ (i := 4) (N := some 47) #[false, true, true, true, true, false, false, false, false, false, false, false, false, false] (any_of HT_.out (by kernel_rfl)) ?_
                refine zpure_ (i := 5) (N := some 48) #[false, true, true, true, true, true, false, false, false, false, false, false, false, false] (any_of HT_.out (by kernel_rfl)) ?_
                refine zpure_ (i := 6) (N := some 49) #[false, true, true, true, true, true, true, false, false, false, false, false, false, false] (any_of HT_.out (by kernel_rfl)) ?_
                refine zpure_ (i := 7) (N := some 50) #[false, true, true, true, true, true, true, true, false, false, false, false, false, false] (any_of HT_.out (by kernel_rfl)) ?_
                refine ztake_ (i := 0) (N := some 43) #[true, true, true, true, true, true, true, true, false, false, false, false, false, false] rfl (take_ofW HT_.out HW_.out (by kernel_rfl)) hHeld (Or.inl ⟨by rfl, by rintro w' ⟨s0, s1⟩; go_simp; with_reducible rfl⟩) ?_
                refine one_ (i := 8) (N := some 51) #[true, true, true, true, true, true, true, true, true, false, false, false, false, false] rfl rfl (one_of HT_.out (by kernel_rfl)) (by decide) (fun K hK => ?_)
                refine goes_ Try.func10 (by kernel_rfl) rfl #[.agg #[.int .i64 a0_0, .int .i64 a0_1], .bool true, .int .u64 0, .int .u64 ji38, .int .i64 (wrap64 (a2 - a3)), .bool false] (by rfl) rfl rfl (by (try simp only [List.map_toArray, List.map_cons, List.map_nil]); first | done | (simp only [hji38]; rfl) | rfl | (simp only [List.length_drop, List.length_take]; rfl)) ?_
                with_reducible refine (round_Pack.calls kj4 a0_0 a0_1 true 0 ji38 (wrap64 (a2 - a3)) false t378 t379 _ A39.out).mono ?_
                rintro e w51 ⟨rfl, hb⟩
                refine ⟨_, rfl, ?_⟩
                replace BK371 := zkb BK371 hb
                replace HB := zbs HB hb
                (try clear hb)
                (try clear hb2)
                (try clear hk)
                (try clear hi)
                refine hK.out _ _ ⟨(blk_cell BK371.out 0).trans rfl, (blk_cell BK371.out 1).trans rfl⟩ (fun hHeld => ?_)
                clear hK K
                refine norm_ (a' := ?_) ?_ ?_
                rotate_left
                · show Act.put _ (some 51) _ = _
                  simp only [Act.put, List.setIfInBounds_toArray, List.set_cons_zero, List.set_cons_succ, i64_w, i32_w]
                  rfl
                refine zpure_ (i := 9) (N := some 42) #[true, true, true, true, true, true, true, true, true, true, false, false, false, false] (any_of HT_.out (by kernel_rfl)) ?_
                refine zpure_ (i := 10) (N := some 52) #[true, true, true, true, true, true, true, true, true, true, true, false, false, false] (any_of HT_.out (by kernel_rfl)) ?_
                refine zpure_ (i := 11) (N := some 53) #[true, true, true, true, true, true, true, true, true, true, true, true, false, false] (any_of HT_.out (by kernel_rfl)) ?_
                refine zpure_ (i := 12) (N := some 12) #[true, true, true, true, true, true, true, true, true, true, true, true, true, false] (any_of HT_.out (by kernel_rfl)) ?_
                refine zpure_ (i := 13) (N := some 13) #[true, true, true, true, true, true, true, true, true, true, true, true, true, true] (any_of HT_.out (by kernel_rfl)) ?_
                refine done_ (done_of HT_.out (by kernel_rfl)) ?_
                try go_wp2
                go_ret
                exact ⟨by first | rfl | (simp [errW_none, errW_some] <;> rfl) | (simp only [← hji38]; first | rfl | (simp [errW_none, errW_some] <;> rfl)) | (simp [*, errW_none, errW_some] <;> rfl), zb HB⟩
            · rw [if_neg c40] at H
              have c40b0 : (t373 == t378) = false := beq_eq_false_iff_ne.mpr c40
              have c40b1 : (t373 != t378) = true := bne_iff_ne.mpr c40
              obtain rfl := Option.some.inj H
              obtain ⟨hcz52_0, hcz52_1, hfz52_0, hfz52_1⟩ := zc2 BK371
              try go_wp2_with (first | ((with_reducible refine gate_callee (f := 10) rfl ?_); refine zgo (some 33) Try.func10 #[.agg #[.int .i64 a0_0, .int .i64 a0_1], .bool true, .int .u64 0, .int .u64 a1, .int .i64 a2, .bool false] ?_; (with_reducible refine (round_Pack.calls kj4 a0_0 a0_1 true 0 a1 a2 false t373 t374 _ A13.out).mono ?_); rintro e w53 ⟨rfl, hb⟩; refine ⟨_, rfl, ?_⟩; replace BK371 := zkb BK371 hb; replace HB := zbs HB hb; (try clear hb); (try clear hb2); (try clear hk); (try clear hi)))
              replace BK371 := Aside0.mk (blk_drew BK371.out)
              replace HB := Aside0.mk (below_drew1 HB.out)
              refine start_ (n := 14) (S := fun w' => w'.cell? ⟨gb371, 0, none⟩ = some (.int .i64 a0_0) ∧ w'.cell? ⟨gb371, 1, none⟩ = some (.int .i64 a0_1)) (ds := []) #[false, false, false, false, false, false, false, false, false, false, false, false, false, false] (by kernel_rfl) rfl rfl ⟨(blk_cell BK371.out 0).trans rfl, (blk_cell BK371.out 1).trans rfl⟩ (fun hHeld => ?_); refine with_tabW grottolaw02_RoundScales.tab7 grottolaw02_RoundScales.bits7 (fun HT_ HW_ => ?_)
              generalize w53.drew = w54 at BK371 HB hHeld ⊢
              refine zpure_ (i := 1) (N := some 44) #[false, true, false, false, false, false, false, false, false, false, false, false, false, false] (any_of HT_.out (by kernel_rfl)) ?_
              refine zpure_ (i := 2) (N := some 45) #[false, true, true, false, false, false, false, false, false, false, false, false, false, false] (any_of HT_.out (by kernel_rfl)) ?_
              refine zpure_ (i := 3) (N := some 46) #[false, true, true, true, false, false, false, false, false, false, false, false, false, false] (any_of HT_.out (by kernel_rfl)) ?_
              refine zpure_ (i := 4) (N := some 47) #[false, true, true, true, true, false, false, false, false, false, false, false, false, false] (any_of HT_.out (by kernel_rfl)) ?_
              refine zpure_ (i := 5) (N := some 48) #[false, true, true, true, true, true, false, false, false, false, false, false, false, false] (any_of HT_.out (by kernel_rfl)) ?_
              refine zpure_ (i := 6) (N := some 49) #[false, true, true, true, true, true, true, false, false, false, false, false, false, false] (any_of HT_.out (by kernel_rfl)) ?_
              refine zpure_ (i := 7) (N := some 50) #[false, true, true, true, true, true, true, true, false, false, false, false, false, false] (any_of HT_.out (by kernel_rfl)) ?_
              refine ztake_ (i := 0) (N := some 43) #[true, true, true, true, true, true, true, true, false, false, false, false, false, false] rfl (take_ofW HT_.out HW_.out (by kernel_rfl)) hHeld (Or.inl ⟨by rfl, by rintro w' ⟨s0, s1⟩; go_simp; with_reducible rfl⟩) ?_
              refine one_ (i := 8) (N := some 51) #[true, true, true, true, true, true, true, true, true, false, false, false, false, false] rfl rfl (one_of HT_.out (by kernel_rfl)) (by decide) (fun K hK => ?_)
              refine goes_ Try.func10 (by kernel_rfl) rfl #[.agg #[.int .i64 a0_0, .int .i64 a0_1], .bool true, .int .u64 0, .int .u64 ji38, .int .i64 (wrap64 (a2 - a3)), .bool false] (by rfl) rfl rfl (by (try simp only [List.map_toArray, List.map_cons, List.map_nil]); first | done | (simp only [hji38]; rfl) | rfl | (simp only [List.length_drop, List.length_take]; rfl)) ?_
              with_reducible refine (round_Pack.calls kj4 a0_0 a0_1 true 0 ji38 (wrap64 (a2 - a3)) false t378 t379 _ A39.out).mono ?_
              rintro e w55 ⟨rfl, hb⟩
              refine ⟨_, rfl, ?_⟩
              replace BK371 := zkb BK371 hb
              replace HB := zbs HB hb
              (try clear hb)
              (try clear hb2)
              (try clear hk)
              (try clear hi)
              refine hK.out _ _ ⟨(blk_cell BK371.out 0).trans rfl, (blk_cell BK371.out 1).trans rfl⟩ (fun hHeld => ?_)
              clear hK K
              refine norm_ (a' := ?_) ?_ ?_
              rotate_left
              · show Act.put _ (some 51) _ = _
                simp only [Act.put, List.setIfInBounds_toArray, List.set_cons_zero, List.set_cons_succ, i64_w, i32_w]
                rfl
              refine zpure_ (i := 9) (N := some 42) #[true, true, true, true, true, true, true, true, true, true, false, false, false, false] (any_of HT_.out (by kernel_rfl)) ?_
              refine zpure_ (i := 10) (N := some 52) #[true, true, true, true, true, true, true, true, true, true, true, false, false, false] (any_of HT_.out (by kernel_rfl)) ?_
              refine zpure_ (i := 11) (N := some 53) #[true, true, true, true, true, true, true, true, true, true, true, true, false, false] (any_of HT_.out (by kernel_rfl)) ?_
              refine zpure_ (i := 12) (N := some 12) #[true, true, true, true, true, true, true, true, true, true, true, true, true, false] (any_of HT_.out (by kernel_rfl)) ?_
              refine zpure_ (i := 13) (N := some 13) #[true, true, true, true, true, true, true, true, true, true, true, true, true, true] (any_of HT_.out (by kernel_rfl)) ?_
              refine done_ (done_of HT_.out (by kernel_rfl)) ?_
              try go_wp2
              go_ret
              exact ⟨by first | rfl | (simp [errW_none, errW_some] <;> rfl) | (simp only [← hji38]; first | rfl | (simp [errW_none, errW_some] <;> rfl)) | (simp [*, errW_none, errW_some] <;> rfl), zb HB⟩
          · rw [if_neg c37] at H
            exact absurd H (by simp)

end Go.Proofs.Ytcfmmkapefpjjaa.PQ
