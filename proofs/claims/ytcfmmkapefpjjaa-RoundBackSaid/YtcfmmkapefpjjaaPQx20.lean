-- by a program of this claim
import Derived.Test.YtcfmmkapefpjjaaPQx0
import Derived.Test.YtcfmmkapefpjjaaPQx1
import Derived.Test.YtcfmmkapefpjjaaPQx2
import Derived.Test.YtcfmmkapefpjjaaPQx3
import Derived.Test.YtcfmmkapefpjjaaPQx4
import Derived.Test.YtcfmmkapefpjjaaPQx5
import Derived.Test.YtcfmmkapefpjjaaPQx11
namespace Go.Proofs.Ytcfmmkapefpjjaa.PQ
open Go.RowKit Go.Proofs.YtcfmmkapefpjjaaW.PrintWords Go.Proofs.YtcfmmkapefpjjaaW.PrintLast Go.Proofs.YtcfmmkapefpjjaaW.PrintMore Go.Proofs.Ytcfmmkapefpjjaa.Z
attribute [local go_sem] max2_int min2_int max_two min_two max_three min_three max_four min_four   -- for this text's walks alone
set_option linter.unusedVariables false
set_option linter.unusedSimpArgs false

attribute [local go_sem high] eqA42
/-! ### grottolaw02_RoundBack: function 9 -/
def grottolaw02_RoundBack.f (k : Nat) (a0_0 : Int) (a0_1 : Int) (a1 : Int) : Option (Bool) := (round_Open.f k a0_0 a0_1 a1).bind fun bt452 => ((grottolaw02_num.f bt452.2.2.2.2).bind fun t458 => (if t458 = 0 then (if bt452.1 = 1 then ((round_Zero.f a0_0 a0_1 bt452.2.1).bind fun t461 => (if a1 = t461 then ((grottolaw02_live.f k).bind fun t462 => (some t462)) else (some false))) else (if bt452.1 = 3 then ((round_Inf.f a0_0 a0_1 bt452.2.1).bind fun t463 => (if a1 = t463 then ((grottolaw02_live.f k).bind fun t464 => (some t464)) else (some false))) else (if bt452.1 = 4 then ((round_NaN.f a0_0 a0_1).bind fun t465 => ((round_Open.f k a0_0 a0_1 t465).bind fun bt466 => ((grottolaw02_num.f bt466.2.2.2.2).bind fun t472 => (if t472 = 0 then (if bt466.1 = 4 then (if bt466.2.1 = true then (some false) else ((grottolaw02_live.f k).bind fun t473 => (some t473))) else (some false)) else (some false))))) else (if bt452.1 = 2 then ((round_Pack.f k a0_0 a0_1 bt452.2.1 0 bt452.2.2.2.1 bt452.2.2.1 false).bind fun bt474 => ((grottolaw02_num.f bt474.2).bind fun t476 => (if t476 = 0 then (if a1 = bt474.1 then (if bt452.2.2.2.1 > 0 then ((grottolaw02_live.f k).bind fun t477 => (some t477)) else (some false)) else (some false)) else (some false)))) else (some false))))) else (if (bt452.1 == 0 && (!bt452.2.1 && (bt452.2.2.1 == 0 && (bt452.2.2.2.1 == 0)))) = true then ((grottolaw02_num.f bt452.2.2.2.2).bind fun t459 => (if t459 = 1 then ((grottolaw02_live.f k).bind fun t460 => (some t460)) else (some false))) else (some false))))
theorem grottolaw02_RoundBack.mono : ∀ a0 a1 a2 k, LeO (grottolaw02_RoundBack.f k a0 a1 a2) (grottolaw02_RoundBack.f (k + 1) a0 a1 a2) := by
  intro a0 a1 a2 k
  unfold grottolaw02_RoundBack.f
  repeat' first
      | (with_reducible exact grottolaw02_live.mono _)
      | (with_reducible exact round_Open.mono _ _ _ _)
      | (with_reducible exact round_Pack.mono _ _ _ _ _ _ _ _)
      | (with_reducible exact LeO.refl _)
      | (with_reducible exact LeO.none _)
      | (with_reducible refine LeO.ite ?_ ?_)
      | (with_reducible refine LeO.bind ?_ (fun _ => ?_))
      | exact grottolaw02_live.mono _
      | exact round_Open.mono _ _ _ _
      | exact round_Pack.mono _ _ _ _ _ _ _ _
      | exact LeO.none _
      | refine LeO.ite ?_ ?_
      | refine LeO.bind ?_ (fun _ => ?_)
def grottolaw02_RoundBack.T10 : Bool × List (List Nat × List Nat) := (true, [([], []), ([], []), ([1], [1]), ([0, 2, 2], [0, 2]), ([3], [3]), ([4], [4]), ([4], [4]), ([], []), ([7, 5, 3, 0, 1, 2, 3, 4, 5, 7], [5, 7]), ([6, 8, 0, 1, 2, 3, 4, 5, 6, 7, 8], [6])])
def grottolaw02_RoundBack.B10 : List Nat := [0, 0, 2, 7, 15, 31, 31, 0, 191, 511]
theorem grottolaw02_RoundBack.tab10 : rtab .any (opsOf Try.f9 10) = grottolaw02_RoundBack.T10 := by kernel_rfl
theorem grottolaw02_RoundBack.bits10 : waitsOk grottolaw02_RoundBack.T10.2 grottolaw02_RoundBack.B10 = true := by kernel_rfl
set_option maxHeartbeats 8000000 in
set_option maxRecDepth 100000 in
theorem grottolaw02_RoundBack.calls (k : Nat) (a0_0 : Int) (a0_1 : Int) (a1 : Int) (r : Bool) (w : World) (h : grottolaw02_RoundBack.f k a0_0 a0_1 a1 = some r) :
    Calls Try.prog 9 #[.agg #[.int .i64 a0_0, .int .i64 a0_1], .int .u64 a1] w fun e w' => e = .returned (.bool r) ∧ Below w.heap.size w w' := by
  have hu23 := Try.underlying23
  have hu42 := Try.underlying42
  have HB := Aside0.mk (Below.refl w.heap.size w)
  have H : ((round_Open.f k a0_0 a0_1 a1).bind fun bt452 => ((grottolaw02_num.f bt452.2.2.2.2).bind fun t458 => (if t458 = 0 then (if bt452.1 = 1 then ((round_Zero.f a0_0 a0_1 bt452.2.1).bind fun t461 => (if a1 = t461 then ((grottolaw02_live.f k).bind fun t462 => (some t462)) else (some false))) else (if bt452.1 = 3 then ((round_Inf.f a0_0 a0_1 bt452.2.1).bind fun t463 => (if a1 = t463 then ((grottolaw02_live.f k).bind fun t464 => (some t464)) else (some false))) else (if bt452.1 = 4 then ((round_NaN.f a0_0 a0_1).bind fun t465 => ((round_Open.f k a0_0 a0_1 t465).bind fun bt466 => ((grottolaw02_num.f bt466.2.2.2.2).bind fun t472 => (if t472 = 0 then (if bt466.1 = 4 then (if bt466.2.1 = true then (some false) else ((grottolaw02_live.f k).bind fun t473 => (some t473))) else (some false)) else (some false))))) else (if bt452.1 = 2 then ((round_Pack.f k a0_0 a0_1 bt452.2.1 0 bt452.2.2.2.1 bt452.2.2.1 false).bind fun bt474 => ((grottolaw02_num.f bt474.2).bind fun t476 => (if t476 = 0 then (if a1 = bt474.1 then (if bt452.2.2.2.1 > 0 then ((grottolaw02_live.f k).bind fun t477 => (some t477)) else (some false)) else (some false)) else (some false)))) else (some false))))) else (if (bt452.1 == 0 && (!bt452.2.1 && (bt452.2.2.1 == 0 && (bt452.2.2.2.1 == 0)))) = true then ((grottolaw02_num.f bt452.2.2.2.2).bind fun t459 => (if t459 = 1 then ((grottolaw02_live.f k).bind fun t460 => (some t460)) else (some false))) else (some false))))) = some r := h
  clear h
  replace H := Option.bind_eq_some_iff.mp H
  obtain ⟨⟨t452, t453, t454, t455, t456⟩, A30, H⟩ := H
  replace H : ((grottolaw02_num.f t456).bind fun t458 => (if t458 = 0 then (if t452 = 1 then ((round_Zero.f a0_0 a0_1 t453).bind fun t461 => (if a1 = t461 then ((grottolaw02_live.f k).bind fun t462 => (some t462)) else (some false))) else (if t452 = 3 then ((round_Inf.f a0_0 a0_1 t453).bind fun t463 => (if a1 = t463 then ((grottolaw02_live.f k).bind fun t464 => (some t464)) else (some false))) else (if t452 = 4 then ((round_NaN.f a0_0 a0_1).bind fun t465 => ((round_Open.f k a0_0 a0_1 t465).bind fun bt466 => ((grottolaw02_num.f bt466.2.2.2.2).bind fun t472 => (if t472 = 0 then (if bt466.1 = 4 then (if bt466.2.1 = true then (some false) else ((grottolaw02_live.f k).bind fun t473 => (some t473))) else (some false)) else (some false))))) else (if t452 = 2 then ((round_Pack.f k a0_0 a0_1 t453 0 t455 t454 false).bind fun bt474 => ((grottolaw02_num.f bt474.2).bind fun t476 => (if t476 = 0 then (if a1 = bt474.1 then (if t455 > 0 then ((grottolaw02_live.f k).bind fun t477 => (some t477)) else (some false)) else (some false)) else (some false)))) else (some false))))) else (if (t452 == 0 && (!t453 && (t454 == 0 && (t455 == 0)))) = true then ((grottolaw02_num.f t456).bind fun t459 => (if t459 = 1 then ((grottolaw02_live.f k).bind fun t460 => (some t460)) else (some false))) else (some false)))) = some r := H
  have A3 := Aside0.mk A30
  clear A30
  replace H := Option.bind_eq_some_iff.mp H
  obtain ⟨t458, A40, H⟩ := H
  replace H : (if t458 = 0 then (if t452 = 1 then ((round_Zero.f a0_0 a0_1 t453).bind fun t461 => (if a1 = t461 then ((grottolaw02_live.f k).bind fun t462 => (some t462)) else (some false))) else (if t452 = 3 then ((round_Inf.f a0_0 a0_1 t453).bind fun t463 => (if a1 = t463 then ((grottolaw02_live.f k).bind fun t464 => (some t464)) else (some false))) else (if t452 = 4 then ((round_NaN.f a0_0 a0_1).bind fun t465 => ((round_Open.f k a0_0 a0_1 t465).bind fun bt466 => ((grottolaw02_num.f bt466.2.2.2.2).bind fun t472 => (if t472 = 0 then (if bt466.1 = 4 then (if bt466.2.1 = true then (some false) else ((grottolaw02_live.f k).bind fun t473 => (some t473))) else (some false)) else (some false))))) else (if t452 = 2 then ((round_Pack.f k a0_0 a0_1 t453 0 t455 t454 false).bind fun bt474 => ((grottolaw02_num.f bt474.2).bind fun t476 => (if t476 = 0 then (if a1 = bt474.1 then (if t455 > 0 then ((grottolaw02_live.f k).bind fun t477 => (some t477)) else (some false)) else (some false)) else (some false)))) else (some false))))) else (if (t452 == 0 && (!t453 && (t454 == 0 && (t455 == 0)))) = true then ((grottolaw02_num.f t456).bind fun t459 => (if t459 = 1 then ((grottolaw02_live.f k).bind fun t460 => (some t460)) else (some false))) else (some false))) = some r := H
  have A4 := Aside0.mk A40
  clear A40
  by_cases c5 : t458 = 0
  · rw [if_pos c5] at H
    have c5b0 : (t458 == 0) = true := beq_iff_eq.mpr c5
    have c5b1 : (t458 != 0) = false := bne_eq_false_iff_eq.mpr c5
    clear c5
    by_cases c6 : t452 = 1
    · rw [if_pos c6] at H
      have c6b0 : (t452 == 1) = true := beq_iff_eq.mpr c6
      have c6b1 : (t452 != 1) = false := bne_eq_false_iff_eq.mpr c6
      clear c6
      replace H := Option.bind_eq_some_iff.mp H
      obtain ⟨t461, A70, H⟩ := H
      replace H : (if a1 = t461 then ((grottolaw02_live.f k).bind fun t462 => (some t462)) else (some false)) = some r := H
      have A7 := Aside0.mk A70
      clear A70
      by_cases c8 : a1 = t461
      · rw [if_pos c8] at H
        have c8b0 : (a1 == t461) = true := beq_iff_eq.mpr c8
        have c8b1 : (a1 != t461) = false := bne_eq_false_iff_eq.mpr c8
        clear c8
        replace H := Option.bind_eq_some_iff.mp H
        obtain ⟨t462, A90, H⟩ := H
        replace H : (some t462) = some r := H
        have A9 := Aside0.mk A90
        clear A90
        obtain rfl := Option.some.inj H
        go_enter Try.func9, Try.ntmps9
        go_wp2_with (first | ((with_reducible refine gate_dst (N := 2) rfl ?_); refine zbox (N := 2) (cs := #[.int .i64 a0_0, .int .i64 a0_1]) (t := 23) ?_; intro gb451 hg w10 hbox hb; have BK451 := Aside0.mk hbox; have GW451 := zge hg HB; have GE451 := zge hg HB; replace HB := zbs HB hb; clear hb hbox hg; obtain ⟨hcz11_0, hcz11_1, hfz11_0, hfz11_1⟩ := zc2 BK451) | ((with_reducible refine gate_callee (f := 16) rfl ?_); refine zgo (some 14) Try.func16 #[.agg #[.int .i64 a0_0, .int .i64 a0_1], .int .u64 a1] ?_; (with_reducible refine (round_Open.calls k a0_0 a0_1 a1 t452 t453 t454 t455 t456 _ A3.out).mono ?_); rintro e w12 ⟨rfl, hb⟩; refine ⟨_, rfl, ?_⟩; replace BK451 := zkb BK451 hb; replace HB := zbs HB hb; (try clear hb); (try clear hb2); (try clear hk); (try clear hi)) | ((with_reducible refine gate_dst (N := 5) rfl ?_); refine zbox (N := 5) (cs := #[.int .i64 0, .bool false, .int .i64 0, .int .u64 0]) (t := 42) ?_; intro gb457 hg w13 hbox hb; have BK457 := Aside0.mk hbox; have GW457 := zge hg HB; have GE457 := zge hg HB; have NB451_457 := znl hg BK451; have NB457_451 := zng hg BK451; replace BK451 := zkb BK451 hb; replace HB := zbs HB hb; clear hb hbox hg; have hnb14 := NB457_451.out; have hnc14 := NB451_457.out; obtain ⟨hcz15_0, hcz15_1, hcz15_2, hcz15_3, hfz15_0, hfz15_1, hfz15_2, hfz15_3⟩ := zc4 BK457) | ((with_reducible refine gate_callee (f := 12) rfl ?_); refine zgo (some 18) Try.func12 #[.int .i64 t456] ?_; (with_reducible refine (grottolaw02_num.calls t456 t458 _ A4.out).mono ?_); rintro e w' ⟨rfl, ⟨nd, rfl⟩⟩; refine ⟨_, rfl, ?_⟩; obtain ⟨hcz16_0, hcz16_1, hfz16_0, hfz16_1⟩ := zc2 BK451) | ((with_reducible refine gate_callee (f := 24) rfl ?_); refine zgo (some 39) Try.func24 #[.agg #[.int .i64 a0_0, .int .i64 a0_1], .bool t453] ?_; (with_reducible refine (round_Zero.calls a0_0 a0_1 t453 t461 _ A7.out).mono ?_); rintro e w17 ⟨rfl, hb⟩; refine ⟨_, rfl, ?_⟩; replace BK451 := zkb BK451 hb; replace BK457 := zkbo (o := .cells #[.int .i64 t452, .bool t453, .int .i64 t454, .int .u64 t455] 42 (0, 0)) BK457 hb; replace HB := zbs HB hb; (try clear hb); (try clear hb2); (try clear hk); (try clear hi)) | (go_at_call 13; (with_reducible refine (grottolaw02_live.calls k  t462 _ A9.out).mono ?_); rintro e w18 ⟨rfl, hb⟩; replace BK451 := zkb BK451 hb; replace BK457 := zkb BK457 hb; replace HB := zbs HB hb; (try clear hb); (try clear hb2); (try clear hk); (try clear hi)))
        go_ret
        exact ⟨by first | rfl | (simp [errW_none, errW_some] <;> rfl) | (simp [*, errW_none, errW_some] <;> rfl), zb HB⟩
      · rw [if_neg c8] at H
        have c8b0 : (a1 == t461) = false := beq_eq_false_iff_ne.mpr c8
        have c8b1 : (a1 != t461) = true := bne_iff_ne.mpr c8
        obtain rfl := Option.some.inj H
        go_enter Try.func9, Try.ntmps9
        go_wp2_with (first | ((with_reducible refine gate_dst (N := 2) rfl ?_); refine zbox (N := 2) (cs := #[.int .i64 a0_0, .int .i64 a0_1]) (t := 23) ?_; intro gb451 hg w19 hbox hb; have BK451 := Aside0.mk hbox; have GW451 := zge hg HB; have GE451 := zge hg HB; replace HB := zbs HB hb; clear hb hbox hg; obtain ⟨hcz20_0, hcz20_1, hfz20_0, hfz20_1⟩ := zc2 BK451) | ((with_reducible refine gate_callee (f := 16) rfl ?_); refine zgo (some 14) Try.func16 #[.agg #[.int .i64 a0_0, .int .i64 a0_1], .int .u64 a1] ?_; (with_reducible refine (round_Open.calls k a0_0 a0_1 a1 t452 t453 t454 t455 t456 _ A3.out).mono ?_); rintro e w21 ⟨rfl, hb⟩; refine ⟨_, rfl, ?_⟩; replace BK451 := zkb BK451 hb; replace HB := zbs HB hb; (try clear hb); (try clear hb2); (try clear hk); (try clear hi)) | ((with_reducible refine gate_dst (N := 5) rfl ?_); refine zbox (N := 5) (cs := #[.int .i64 0, .bool false, .int .i64 0, .int .u64 0]) (t := 42) ?_; intro gb457 hg w22 hbox hb; have BK457 := Aside0.mk hbox; have GW457 := zge hg HB; have GE457 := zge hg HB; have NB451_457 := znl hg BK451; have NB457_451 := zng hg BK451; replace BK451 := zkb BK451 hb; replace HB := zbs HB hb; clear hb hbox hg; have hnb23 := NB457_451.out; have hnc23 := NB451_457.out; obtain ⟨hcz24_0, hcz24_1, hcz24_2, hcz24_3, hfz24_0, hfz24_1, hfz24_2, hfz24_3⟩ := zc4 BK457) | ((with_reducible refine gate_callee (f := 12) rfl ?_); refine zgo (some 18) Try.func12 #[.int .i64 t456] ?_; (with_reducible refine (grottolaw02_num.calls t456 t458 _ A4.out).mono ?_); rintro e w' ⟨rfl, ⟨nd, rfl⟩⟩; refine ⟨_, rfl, ?_⟩; obtain ⟨hcz25_0, hcz25_1, hfz25_0, hfz25_1⟩ := zc2 BK451) | ((with_reducible refine gate_callee (f := 24) rfl ?_); refine zgo (some 39) Try.func24 #[.agg #[.int .i64 a0_0, .int .i64 a0_1], .bool t453] ?_; (with_reducible refine (round_Zero.calls a0_0 a0_1 t453 t461 _ A7.out).mono ?_); rintro e w26 ⟨rfl, hb⟩; refine ⟨_, rfl, ?_⟩; replace BK451 := zkb BK451 hb; replace BK457 := zkbo (o := .cells #[.int .i64 t452, .bool t453, .int .i64 t454, .int .u64 t455] 42 (0, 0)) BK457 hb; replace HB := zbs HB hb; (try clear hb); (try clear hb2); (try clear hk); (try clear hi)))
        go_ret
        exact ⟨by first | rfl | (simp [errW_none, errW_some] <;> rfl) | (simp [*, errW_none, errW_some] <;> rfl), zb HB⟩
    · rw [if_neg c6] at H
      have c6b0 : (t452 == 1) = false := beq_eq_false_iff_ne.mpr c6
      have c6b1 : (t452 != 1) = true := bne_iff_ne.mpr c6
      by_cases c27 : t452 = 3
      · rw [if_pos c27] at H
        have c27b0 : (t452 == 3) = true := beq_iff_eq.mpr c27
        have c27b1 : (t452 != 3) = false := bne_eq_false_iff_eq.mpr c27
        clear c27
        replace H := Option.bind_eq_some_iff.mp H
        obtain ⟨t463, A280, H⟩ := H
        replace H : (if a1 = t463 then ((grottolaw02_live.f k).bind fun t464 => (some t464)) else (some false)) = some r := H
        have A28 := Aside0.mk A280
        clear A280
        by_cases c29 : a1 = t463
        · rw [if_pos c29] at H
          have c29b0 : (a1 == t463) = true := beq_iff_eq.mpr c29
          have c29b1 : (a1 != t463) = false := bne_eq_false_iff_eq.mpr c29
          clear c29
          replace H := Option.bind_eq_some_iff.mp H
          obtain ⟨t464, A300, H⟩ := H
          replace H : (some t464) = some r := H
          have A30 := Aside0.mk A300
          clear A300
          obtain rfl := Option.some.inj H
          go_enter Try.func9, Try.ntmps9
          go_wp2_with (first | ((with_reducible refine gate_dst (N := 2) rfl ?_); refine zbox (N := 2) (cs := #[.int .i64 a0_0, .int .i64 a0_1]) (t := 23) ?_; intro gb451 hg w31 hbox hb; have BK451 := Aside0.mk hbox; have GW451 := zge hg HB; have GE451 := zge hg HB; replace HB := zbs HB hb; clear hb hbox hg; obtain ⟨hcz32_0, hcz32_1, hfz32_0, hfz32_1⟩ := zc2 BK451) | ((with_reducible refine gate_callee (f := 16) rfl ?_); refine zgo (some 14) Try.func16 #[.agg #[.int .i64 a0_0, .int .i64 a0_1], .int .u64 a1] ?_; (with_reducible refine (round_Open.calls k a0_0 a0_1 a1 t452 t453 t454 t455 t456 _ A3.out).mono ?_); rintro e w33 ⟨rfl, hb⟩; refine ⟨_, rfl, ?_⟩; replace BK451 := zkb BK451 hb; replace HB := zbs HB hb; (try clear hb); (try clear hb2); (try clear hk); (try clear hi)) | ((with_reducible refine gate_dst (N := 5) rfl ?_); refine zbox (N := 5) (cs := #[.int .i64 0, .bool false, .int .i64 0, .int .u64 0]) (t := 42) ?_; intro gb457 hg w34 hbox hb; have BK457 := Aside0.mk hbox; have GW457 := zge hg HB; have GE457 := zge hg HB; have NB451_457 := znl hg BK451; have NB457_451 := zng hg BK451; replace BK451 := zkb BK451 hb; replace HB := zbs HB hb; clear hb hbox hg; have hnb35 := NB457_451.out; have hnc35 := NB451_457.out; obtain ⟨hcz36_0, hcz36_1, hcz36_2, hcz36_3, hfz36_0, hfz36_1, hfz36_2, hfz36_3⟩ := zc4 BK457) | ((with_reducible refine gate_callee (f := 12) rfl ?_); refine zgo (some 18) Try.func12 #[.int .i64 t456] ?_; (with_reducible refine (grottolaw02_num.calls t456 t458 _ A4.out).mono ?_); rintro e w' ⟨rfl, ⟨nd, rfl⟩⟩; refine ⟨_, rfl, ?_⟩; obtain ⟨hcz37_0, hcz37_1, hfz37_0, hfz37_1⟩ := zc2 BK451) | ((with_reducible refine gate_callee (f := 22) rfl ?_); refine zgo (some 50) Try.func22 #[.agg #[.int .i64 a0_0, .int .i64 a0_1], .bool t453] ?_; (with_reducible refine (round_Inf.calls a0_0 a0_1 t453 t463 _ A28.out).mono ?_); rintro e w38 ⟨rfl, hb⟩; refine ⟨_, rfl, ?_⟩; replace BK451 := zkb BK451 hb; replace BK457 := zkbo (o := .cells #[.int .i64 t452, .bool t453, .int .i64 t454, .int .u64 t455] 42 (0, 0)) BK457 hb; replace HB := zbs HB hb; (try clear hb); (try clear hb2); (try clear hk); (try clear hi)) | (go_at_call 13; (with_reducible refine (grottolaw02_live.calls k  t464 _ A30.out).mono ?_); rintro e w39 ⟨rfl, hb⟩; replace BK451 := zkb BK451 hb; replace BK457 := zkb BK457 hb; replace HB := zbs HB hb; (try clear hb); (try clear hb2); (try clear hk); (try clear hi)))
          go_ret
          exact ⟨by first | rfl | (simp [errW_none, errW_some] <;> rfl) | (simp [*, errW_none, errW_some] <;> rfl), zb HB⟩
        · rw [if_neg c29] at H
          have c29b0 : (a1 == t463) = false := beq_eq_false_iff_ne.mpr c29
          have c29b1 : (a1 != t463) = true := bne_iff_ne.mpr c29
          obtain rfl := Option.some.inj H
          go_enter Try.func9, Try.ntmps9
          go_wp2_with (first | ((with_reducible refine gate_dst (N := 2) rfl ?_); refine zbox (N := 2) (cs := #[.int .i64 a0_0, .int .i64 a0_1]) (t := 23) ?_; intro gb451 hg w40 hbox hb; have BK451 := Aside0.mk hbox; have GW451 := zge hg HB; have GE451 := zge hg HB; replace HB := zbs HB hb; clear hb hbox hg; obtain ⟨hcz41_0, hcz41_1, hfz41_0, hfz41_1⟩ := zc2 BK451) | ((with_reducible refine gate_callee (f := 16) rfl ?_); refine zgo (some 14) Try.func16 #[.agg #[.int .i64 a0_0, .int .i64 a0_1], .int .u64 a1] ?_; (with_reducible refine (round_Open.calls k a0_0 a0_1 a1 t452 t453 t454 t455 t456 _ A3.out).mono ?_); rintro e w42 ⟨rfl, hb⟩; refine ⟨_, rfl, ?_⟩; replace BK451 := zkb BK451 hb; replace HB := zbs HB hb; (try clear hb); (try clear hb2); (try clear hk); (try clear hi)) | ((with_reducible refine gate_dst (N := 5) rfl ?_); refine zbox (N := 5) (cs := #[.int .i64 0, .bool false, .int .i64 0, .int .u64 0]) (t := 42) ?_; intro gb457 hg w43 hbox hb; have BK457 := Aside0.mk hbox; have GW457 := zge hg HB; have GE457 := zge hg HB; have NB451_457 := znl hg BK451; have NB457_451 := zng hg BK451; replace BK451 := zkb BK451 hb; replace HB := zbs HB hb; clear hb hbox hg; have hnb44 := NB457_451.out; have hnc44 := NB451_457.out; obtain ⟨hcz45_0, hcz45_1, hcz45_2, hcz45_3, hfz45_0, hfz45_1, hfz45_2, hfz45_3⟩ := zc4 BK457) | ((with_reducible refine gate_callee (f := 12) rfl ?_); refine zgo (some 18) Try.func12 #[.int .i64 t456] ?_; (with_reducible refine (grottolaw02_num.calls t456 t458 _ A4.out).mono ?_); rintro e w' ⟨rfl, ⟨nd, rfl⟩⟩; refine ⟨_, rfl, ?_⟩; obtain ⟨hcz46_0, hcz46_1, hfz46_0, hfz46_1⟩ := zc2 BK451) | ((with_reducible refine gate_callee (f := 22) rfl ?_); refine zgo (some 50) Try.func22 #[.agg #[.int .i64 a0_0, .int .i64 a0_1], .bool t453] ?_; (with_reducible refine (round_Inf.calls a0_0 a0_1 t453 t463 _ A28.out).mono ?_); rintro e w47 ⟨rfl, hb⟩; refine ⟨_, rfl, ?_⟩; replace BK451 := zkb BK451 hb; replace BK457 := zkbo (o := .cells #[.int .i64 t452, .bool t453, .int .i64 t454, .int .u64 t455] 42 (0, 0)) BK457 hb; replace HB := zbs HB hb; (try clear hb); (try clear hb2); (try clear hk); (try clear hi)))
          go_ret
          exact ⟨by first | rfl | (simp [errW_none, errW_some] <;> rfl) | (simp [*, errW_none, errW_some] <;> rfl), zb HB⟩
      · rw [if_neg c27] at H
        have c27b0 : (t452 == 3) = false := beq_eq_false_iff_ne.mpr c27
        have c27b1 : (t452 != 3) = true := bne_iff_ne.mpr c27
        by_cases c48 : t452 = 4
        · rw [if_pos c48] at H
          have c48b0 : (t452 == 4) = true := beq_iff_eq.mpr c48
          have c48b1 : (t452 != 4) = false := bne_eq_false_iff_eq.mpr c48
          clear c48
          replace H := Option.bind_eq_some_iff.mp H
          obtain ⟨t465, A490, H⟩ := H
          replace H : ((round_Open.f k a0_0 a0_1 t465).bind fun bt466 => ((grottolaw02_num.f bt466.2.2.2.2).bind fun t472 => (if t472 = 0 then (if bt466.1 = 4 then (if bt466.2.1 = true then (some false) else ((grottolaw02_live.f k).bind fun t473 => (some t473))) else (some false)) else (some false)))) = some r := H
          have A49 := Aside0.mk A490
          clear A490
          replace H := Option.bind_eq_some_iff.mp H
          obtain ⟨⟨t466, t467, t468, t469, t470⟩, A500, H⟩ := H
          replace H : ((grottolaw02_num.f t470).bind fun t472 => (if t472 = 0 then (if t466 = 4 then (if t467 = true then (some false) else ((grottolaw02_live.f k).bind fun t473 => (some t473))) else (some false)) else (some false))) = some r := H
          have A50 := Aside0.mk A500
          clear A500
          replace H := Option.bind_eq_some_iff.mp H
          obtain ⟨t472, A510, H⟩ := H
          replace H : (if t472 = 0 then (if t466 = 4 then (if t467 = true then (some false) else ((grottolaw02_live.f k).bind fun t473 => (some t473))) else (some false)) else (some false)) = some r := H
          have A51 := Aside0.mk A510
          clear A510
          by_cases c52 : t472 = 0
          · rw [if_pos c52] at H
            have c52b0 : (t472 == 0) = true := beq_iff_eq.mpr c52
            have c52b1 : (t472 != 0) = false := bne_eq_false_iff_eq.mpr c52
            clear c52
            by_cases c53 : t466 = 4
            · rw [if_pos c53] at H
              have c53b0 : (t466 == 4) = true := beq_iff_eq.mpr c53
              have c53b1 : (t466 != 4) = false := bne_eq_false_iff_eq.mpr c53
              clear c53
              by_cases c54 : t467 = true
              · subst c54
                have H1 : (some false) = some r := by rw [if_pos rfl] at H; exact H
                clear H
                have H := H1
                clear H1
                obtain rfl := Option.some.inj H
                go_enter Try.func9, Try.ntmps9
                try go_wp2_with (first | ((with_reducible refine gate_dst (N := 2) rfl ?_); refine zbox (N := 2) (cs := #[.int .i64 a0_0, .int .i64 a0_1]) (t := 23) ?_; intro gb451 hg w55 hbox hb; have BK451 := Aside0.mk hbox; have GW451 := zge hg HB; have GE451 := zge hg HB; replace HB := zbs HB hb; clear hb hbox hg; obtain ⟨hcz56_0, hcz56_1, hfz56_0, hfz56_1⟩ := zc2 BK451) | ((with_reducible refine gate_callee (f := 16) rfl ?_); refine zgo (some 14) Try.func16 #[.agg #[.int .i64 a0_0, .int .i64 a0_1], .int .u64 a1] ?_; (with_reducible refine (round_Open.calls k a0_0 a0_1 a1 t452 t453 t454 t455 t456 _ A3.out).mono ?_); rintro e w57 ⟨rfl, hb⟩; refine ⟨_, rfl, ?_⟩; replace BK451 := zkb BK451 hb; replace HB := zbs HB hb; (try clear hb); (try clear hb2); (try clear hk); (try clear hi)) | ((with_reducible refine gate_dst (N := 5) rfl ?_); refine zbox (N := 5) (cs := #[.int .i64 0, .bool false, .int .i64 0, .int .u64 0]) (t := 42) ?_; intro gb457 hg w58 hbox hb; have BK457 := Aside0.mk hbox; have GW457 := zge hg HB; have GE457 := zge hg HB; have NB451_457 := znl hg BK451; have NB457_451 := zng hg BK451; replace BK451 := zkb BK451 hb; replace HB := zbs HB hb; clear hb hbox hg; have hnb59 := NB457_451.out; have hnc59 := NB451_457.out; obtain ⟨hcz60_0, hcz60_1, hcz60_2, hcz60_3, hfz60_0, hfz60_1, hfz60_2, hfz60_3⟩ := zc4 BK457) | ((with_reducible refine gate_callee (f := 12) rfl ?_); refine zgo (some 18) Try.func12 #[.int .i64 t456] ?_; (with_reducible refine (grottolaw02_num.calls t456 t458 _ A4.out).mono ?_); rintro e w' ⟨rfl, ⟨nd, rfl⟩⟩; refine ⟨_, rfl, ?_⟩))
                have n0_ : Aside0 (((((w58.setCell ⟨gb457, 0, none⟩ (.int .i64 t452)).setCell ⟨gb457, 1, none⟩ (.bool t453)).setCell ⟨gb457, 2, none⟩ (.int .i64 t454)).setCell ⟨gb457, 3, none⟩ (.int .u64 t455)).heap[gb451]? = some (.cells #[.int .i64 a0_0, .int .i64 a0_1] 23 (0, 0))) := ⟨zk BK451⟩
                have n1_ : Aside0 (((((w58.setCell ⟨gb457, 0, none⟩ (.int .i64 t452)).setCell ⟨gb457, 1, none⟩ (.bool t453)).setCell ⟨gb457, 2, none⟩ (.int .i64 t454)).setCell ⟨gb457, 3, none⟩ (.int .u64 t455)).heap[gb457]? = some (.cells #[.int .i64 t452, .bool t453, .int .i64 t454, .int .u64 t455] 42 (0, 0))) := ⟨zkp BK457⟩
                have n2_ : Aside0 (Below w.heap.size w ((((w58.setCell ⟨gb457, 0, none⟩ (.int .i64 t452)).setCell ⟨gb457, 1, none⟩ (.bool t453)).setCell ⟨gb457, 2, none⟩ (.int .i64 t454)).setCell ⟨gb457, 3, none⟩ (.int .u64 t455))) := ⟨zb HB⟩
                (try clear BK451)
                (try clear BK457)
                (try clear HB)
                generalize ((((w58.setCell ⟨gb457, 0, none⟩ (.int .i64 t452)).setCell ⟨gb457, 1, none⟩ (.bool t453)).setCell ⟨gb457, 2, none⟩ (.int .i64 t454)).setCell ⟨gb457, 3, none⟩ (.int .u64 t455)) = w61 at n0_ n1_ n2_ ⊢
                have BK451 := n0_
                have BK457 := n1_
                have HB := n2_
                clear n0_ n1_ n2_
                (try (rw [drewN_self w61]; generalize hq_ : World.drewN w61 _ = w61; have n0_ : Aside0 (w61.heap[gb451]? = some (.cells #[.int .i64 a0_0, .int .i64 a0_1] 23 (0, 0))) := ⟨by rw [← hq_]; exact (zk BK451)⟩; have n1_ : Aside0 (w61.heap[gb457]? = some (.cells #[.int .i64 t452, .bool t453, .int .i64 t454, .int .u64 t455] 42 (0, 0))) := ⟨by rw [← hq_]; exact (zk BK457)⟩; have n2_ : Aside0 (Below w.heap.size w w61) := ⟨by rw [← hq_]; exact (zb HB)⟩; clear BK451 BK457 HB hq_; have BK451 := n0_; have BK457 := n1_; have HB := n2_; clear n0_ n1_ n2_; obtain ⟨y451_0, y451_1, y451_2, y451_3⟩ := zc2 BK451; obtain ⟨y457_0, y457_1, y457_2, y457_3, y457_4, y457_5, y457_6, y457_7⟩ := zc4 BK457))
                replace BK451 := Aside0.mk (blk_drew BK451.out)
                replace BK457 := Aside0.mk (blk_drew BK457.out)
                replace HB := Aside0.mk (below_drew1 HB.out)
                refine start_ (n := 10) (S := fun w' => w'.cell? ⟨gb451, 0, none⟩ = some (.int .i64 a0_0) ∧ w'.cell? ⟨gb451, 1, none⟩ = some (.int .i64 a0_1)) (ds := []) #[false, false, false, false, false, false, false, false, false, false] (by kernel_rfl) rfl rfl ⟨(blk_cell BK451.out 0).trans rfl, (blk_cell BK451.out 1).trans rfl⟩ (fun hHeld => ?_); refine with_tabW grottolaw02_RoundBack.tab10 grottolaw02_RoundBack.bits10 (fun HT_ HW_ => ?_)
                generalize w61.drew = w62 at BK451 BK457 HB hHeld ⊢
                refine ztake_ (i := 0) (N := some 58) #[true, false, false, false, false, false, false, false, false, false] rfl (take_ofW HT_.out HW_.out (by kernel_rfl)) hHeld (Or.inl ⟨by rfl, by rintro w' ⟨s0, s1⟩; go_simp; with_reducible rfl⟩) ?_
                refine ztake_ (i := 1) (N := some 59) #[true, true, false, false, false, false, false, false, false, false] rfl (take_ofW HT_.out HW_.out (by kernel_rfl)) hHeld (Or.inl ⟨by rfl, by rintro w' ⟨s0, s1⟩; go_simp; with_reducible rfl⟩) ?_
                refine join_ (σ := Nat) 2 #[true, true, true, true, true, true, true, true, false, false] (fun s_ => [(60, .int .u64 t465), (61, .tuple #[.agg #[.int .i64 t466, .bool true, .int .i64 t468, .int .u64 t469], .int .i64 t470]), (7, .pointer (some ⟨s_, 0, none⟩)), (57, .tuple #[.agg #[.int .i64 t466, .bool true, .int .i64 t468, .int .u64 t469], .int .i64 t470]), (62, .agg #[.int .i64 t466, .bool true, .int .i64 t468, .int .u64 t469]), (63, .int .i64 t470)]) (fun s_ w' => (w'.cell? ⟨gb451, 0, none⟩ = some (.int .i64 a0_0) ∧ w'.cell? ⟨gb451, 1, none⟩ = some (.int .i64 a0_1)) ∧ (w'.heap[gb451]? = some (.cells #[.int .i64 a0_0, .int .i64 a0_1] 23 (0, 0))) ∧ (w'.heap[gb457]? = some (.cells #[.int .i64 t452, .bool t453, .int .i64 t454, .int .u64 t455] 42 (0, 0))) ∧ (w'.heap[s_]? = some (.cells #[.int .i64 0, .bool false, .int .i64 0, .int .u64 0] 42 (0, 0))) ∧ (w.heap.size ≤ s_) ∧ (w.heap.size ≤ s_) ∧ (gb451 ≠ s_) ∧ (s_ ≠ gb451) ∧ (gb457 ≠ s_) ∧ (s_ ≠ gb457) ∧ (Below w.heap.size w w')) ?_ ?_
                rotate_left
                · intro hCont
                  refine two_ (i := 2) (j := 7) (Ni := some 60) (Nj := some 7) #[true, true, true, false, false, false, false, false, false, false] #[true, true, false, false, false, false, false, true, false, false] rfl rfl rfl rfl (two_of HT_.out (by kernel_rfl)) (by decide) (by decide) (fun K hK => ?_) (fun K hK => ?_)
                  · skip
                    refine goes_ Try.func20 (by kernel_rfl) rfl #[.agg #[.int .i64 a0_0, .int .i64 a0_1]] (by rfl) rfl rfl (by (try simp only [List.map_toArray, List.map_cons, List.map_nil]); first | done | rfl | (simp only [List.length_drop, List.length_take]; rfl)) ?_
                    with_reducible refine (round_NaN.calls a0_0 a0_1 t465 _ A49.out).mono ?_
                    rintro e w63 ⟨rfl, hb⟩
                    refine ⟨_, rfl, ?_⟩
                    replace BK451 := zkb BK451 hb
                    replace BK457 := zkb BK457 hb
                    replace HB := zbs HB hb
                    (try clear hb)
                    (try clear hb2)
                    (try clear hk)
                    (try clear hi)
                    refine hK.out _ _ ⟨(blk_cell BK451.out 0).trans rfl, (blk_cell BK451.out 1).trans rfl⟩ (fun hHeld => ?_)
                    clear hK K
                    refine norm_ (a' := ?_) ?_ ?_
                    rotate_left
                    · show Act.put _ (some 60) _ = _
                      simp only [Act.put, List.setIfInBounds_toArray, List.set_cons_zero, List.set_cons_succ, i64_w, i32_w]
                      rfl
                    refine two_ (i := 3) (j := 7) (Ni := some 61) (Nj := some 7) #[true, true, true, true, false, false, false, false, false, false] #[true, true, true, false, false, false, false, true, false, false] rfl rfl rfl rfl (two_of HT_.out (by kernel_rfl)) (by decide) (by decide) (fun K hK => ?_) (fun K hK => ?_)
                    · skip
                      refine goes_ Try.func16 (by kernel_rfl) rfl #[.agg #[.int .i64 a0_0, .int .i64 a0_1], .int .u64 t465] (by rfl) rfl rfl (by (try simp only [List.map_toArray, List.map_cons, List.map_nil]); first | done | rfl | (simp only [List.length_drop, List.length_take]; rfl)) ?_
                      with_reducible refine (round_Open.calls k a0_0 a0_1 t465 t466 true t468 t469 t470 _ A50.out).mono ?_
                      rintro e w64 ⟨rfl, hb⟩
                      refine ⟨_, rfl, ?_⟩
                      replace BK451 := zkb BK451 hb
                      replace BK457 := zkb BK457 hb
                      replace HB := zbs HB hb
                      (try clear hb)
                      (try clear hb2)
                      (try clear hk)
                      (try clear hi)
                      refine hK.out _ _ ⟨(blk_cell BK451.out 0).trans rfl, (blk_cell BK451.out 1).trans rfl⟩ (fun hHeld => ?_)
                      clear hK K
                      refine norm_ (a' := ?_) ?_ ?_
                      rotate_left
                      · show Act.put _ (some 61) _ = _
                        simp only [Act.put, List.setIfInBounds_toArray, List.set_cons_zero, List.set_cons_succ, i64_w, i32_w]
                        rfl
                      refine zpure_ (i := 4) (N := some 57) #[true, true, true, true, true, false, false, false, false, false] (any_of HT_.out (by kernel_rfl)) ?_
                      refine zpure_ (i := 5) (N := some 62) #[true, true, true, true, true, true, false, false, false, false] (any_of HT_.out (by kernel_rfl)) ?_
                      refine zpure_ (i := 6) (N := some 63) #[true, true, true, true, true, true, true, false, false, false] (any_of HT_.out (by kernel_rfl)) ?_
                      refine one_ (i := 7) (N := some 7) #[true, true, true, true, true, true, true, true, false, false] rfl rfl (one_of HT_.out (by kernel_rfl)) (by decide) (fun K hK => ?_)
                      refine box_step ?hg (N := 7) ?hd (cs := #[.int .i64 0, .bool false, .int .i64 0, .int .u64 0]) (t := 42) ?hr ?_; (case hd => rfl); (case hg => rfl); (case hr => first | (go_simp; done) | (go_simp; rfl))
                      intro gb471 hg w65 hbox hb
                      have BK471 := Aside0.mk hbox
                      have GW471 := zge hg HB
                      have GE471 := zge hg HB
                      have NB451_471 := znl hg BK451
                      have NB471_451 := zng hg BK451
                      have NB457_471 := znl hg BK457
                      have NB471_457 := zng hg BK457
                      replace BK451 := zkb BK451 hb
                      replace BK457 := zkb BK457 hb
                      replace HB := zbs HB hb
                      clear hb hbox hg
                      refine hK.out _ _ ⟨(blk_cell BK451.out 0).trans rfl, (blk_cell BK451.out 1).trans rfl⟩ (fun hHeld => ?_)
                      clear hK K
                      refine norm_ (a' := ?_) ?_ ?_
                      rotate_left
                      · show Act.put _ (some 7) _ = _
                        simp only [Act.put, List.setIfInBounds_toArray, List.set_cons_zero, List.set_cons_succ, i64_w, i32_w]
                        rfl
                      exact norm_ (by simp only [putAll, Act.put, List.setIfInBounds_toArray, List.set_cons_zero, List.set_cons_succ]) (hCont (gb471) _ ⟨hHeld, (zk BK451), (zk BK457), (zk BK471), GW471.out, GE471.out, NB451_471.out, NB471_451.out, NB457_471.out, NB471_457.out, (zb HB)⟩)
                    · skip
                      refine box_step ?hg (N := 7) ?hd (cs := #[.int .i64 0, .bool false, .int .i64 0, .int .u64 0]) (t := 42) ?hr ?_; (case hd => rfl); (case hg => rfl); (case hr => first | (go_simp; done) | (go_simp; rfl))
                      intro gb471 hg w64 hbox hb
                      have BK471 := Aside0.mk hbox
                      have GW471 := zge hg HB
                      have GE471 := zge hg HB
                      have NB451_471 := znl hg BK451
                      have NB471_451 := zng hg BK451
                      have NB457_471 := znl hg BK457
                      have NB471_457 := zng hg BK457
                      replace BK451 := zkb BK451 hb
                      replace BK457 := zkb BK457 hb
                      replace HB := zbs HB hb
                      clear hb hbox hg
                      refine hK.out _ _ ⟨(blk_cell BK451.out 0).trans rfl, (blk_cell BK451.out 1).trans rfl⟩ (fun hHeld => ?_)
                      clear hK K
                      refine norm_ (a' := ?_) ?_ ?_
                      rotate_left
                      · show Act.put _ (some 7) _ = _
                        simp only [Act.put, List.setIfInBounds_toArray, List.set_cons_zero, List.set_cons_succ, i64_w, i32_w]
                        rfl
                      refine one_ (i := 3) (N := some 61) #[true, true, true, true, false, false, false, true, false, false] rfl rfl (one_of HT_.out (by kernel_rfl)) (by decide) (fun K hK => ?_)
                      refine goes_ Try.func16 (by kernel_rfl) rfl #[.agg #[.int .i64 a0_0, .int .i64 a0_1], .int .u64 t465] (by rfl) rfl rfl (by (try simp only [List.map_toArray, List.map_cons, List.map_nil]); first | done | rfl | (simp only [List.length_drop, List.length_take]; rfl)) ?_
                      with_reducible refine (round_Open.calls k a0_0 a0_1 t465 t466 true t468 t469 t470 _ A50.out).mono ?_
                      rintro e w65 ⟨rfl, hb⟩
                      refine ⟨_, rfl, ?_⟩
                      replace BK451 := zkb BK451 hb
                      replace BK457 := zkb BK457 hb
                      replace BK471 := zkb BK471 hb
                      replace HB := zbs HB hb
                      (try clear hb)
                      (try clear hb2)
                      (try clear hk)
                      (try clear hi)
                      refine hK.out _ _ ⟨(blk_cell BK451.out 0).trans rfl, (blk_cell BK451.out 1).trans rfl⟩ (fun hHeld => ?_)
                      clear hK K
                      refine norm_ (a' := ?_) ?_ ?_
                      rotate_left
                      · show Act.put _ (some 61) _ = _
                        simp only [Act.put, List.setIfInBounds_toArray, List.set_cons_zero, List.set_cons_succ, i64_w, i32_w]
                        rfl
                      refine zpure_ (i := 4) (N := some 57) #[true, true, true, true, true, false, false, true, false, false] (any_of HT_.out (by kernel_rfl)) ?_
                      refine zpure_ (i := 5) (N := some 62) #[true, true, true, true, true, true, false, true, false, false] (any_of HT_.out (by kernel_rfl)) ?_
                      refine zpure_ (i := 6) (N := some 63) #[true, true, true, true, true, true, true, true, false, false] (any_of HT_.out (by kernel_rfl)) ?_
                      exact norm_ (by simp only [putAll, Act.put, List.setIfInBounds_toArray, List.set_cons_zero, List.set_cons_succ]) (hCont (gb471) _ ⟨hHeld, (zk BK451), (zk BK457), (zk BK471), GW471.out, GE471.out, NB451_471.out, NB471_451.out, NB457_471.out, NB471_457.out, (zb HB)⟩)
                  · skip
                    refine box_step ?hg (N := 7) ?hd (cs := #[.int .i64 0, .bool false, .int .i64 0, .int .u64 0]) (t := 42) ?hr ?_; (case hd => rfl); (case hg => rfl); (case hr => first | (go_simp; done) | (go_simp; rfl))
                    intro gb471 hg w63 hbox hb
                    have BK471 := Aside0.mk hbox
                    have GW471 := zge hg HB
                    have GE471 := zge hg HB
                    have NB451_471 := znl hg BK451
                    have NB471_451 := zng hg BK451
                    have NB457_471 := znl hg BK457
                    have NB471_457 := zng hg BK457
                    replace BK451 := zkb BK451 hb
                    replace BK457 := zkb BK457 hb
                    replace HB := zbs HB hb
                    clear hb hbox hg
                    refine hK.out _ _ ⟨(blk_cell BK451.out 0).trans rfl, (blk_cell BK451.out 1).trans rfl⟩ (fun hHeld => ?_)
                    clear hK K
                    refine norm_ (a' := ?_) ?_ ?_
                    rotate_left
                    · show Act.put _ (some 7) _ = _
                      simp only [Act.put, List.setIfInBounds_toArray, List.set_cons_zero, List.set_cons_succ, i64_w, i32_w]
                      rfl
                    refine one_ (i := 2) (N := some 60) #[true, true, true, false, false, false, false, true, false, false] rfl rfl (one_of HT_.out (by kernel_rfl)) (by decide) (fun K hK => ?_)
                    refine goes_ Try.func20 (by kernel_rfl) rfl #[.agg #[.int .i64 a0_0, .int .i64 a0_1]] (by rfl) rfl rfl (by (try simp only [List.map_toArray, List.map_cons, List.map_nil]); first | done | rfl | (simp only [List.length_drop, List.length_take]; rfl)) ?_
                    with_reducible refine (round_NaN.calls a0_0 a0_1 t465 _ A49.out).mono ?_
                    rintro e w64 ⟨rfl, hb⟩
                    refine ⟨_, rfl, ?_⟩
                    replace BK451 := zkb BK451 hb
                    replace BK457 := zkb BK457 hb
                    replace BK471 := zkb BK471 hb
                    replace HB := zbs HB hb
                    (try clear hb)
                    (try clear hb2)
                    (try clear hk)
                    (try clear hi)
                    refine hK.out _ _ ⟨(blk_cell BK451.out 0).trans rfl, (blk_cell BK451.out 1).trans rfl⟩ (fun hHeld => ?_)
                    clear hK K
                    refine norm_ (a' := ?_) ?_ ?_
                    rotate_left
                    · show Act.put _ (some 60) _ = _
                      simp only [Act.put, List.setIfInBounds_toArray, List.set_cons_zero, List.set_cons_succ, i64_w, i32_w]
                      rfl
                    refine one_ (i := 3) (N := some 61) #[true, true, true, true, false, false, false, true, false, false] rfl rfl (one_of HT_.out (by kernel_rfl)) (by decide) (fun K hK => ?_)
                    refine goes_ Try.func16 (by kernel_rfl) rfl #[.agg #[.int .i64 a0_0, .int .i64 a0_1], .int .u64 t465] (by rfl) rfl rfl (by (try simp only [List.map_toArray, List.map_cons, List.map_nil]); first | done | rfl | (simp only [List.length_drop, List.length_take]; rfl)) ?_
                    with_reducible refine (round_Open.calls k a0_0 a0_1 t465 t466 true t468 t469 t470 _ A50.out).mono ?_
                    rintro e w65 ⟨rfl, hb⟩
                    refine ⟨_, rfl, ?_⟩
                    replace BK451 := zkb BK451 hb
                    replace BK457 := zkb BK457 hb
                    replace BK471 := zkb BK471 hb
                    replace HB := zbs HB hb
                    (try clear hb)
                    (try clear hb2)
                    (try clear hk)
                    (try clear hi)
                    refine hK.out _ _ ⟨(blk_cell BK451.out 0).trans rfl, (blk_cell BK451.out 1).trans rfl⟩ (fun hHeld => ?_)
                    clear hK K
                    refine norm_ (a' := ?_) ?_ ?_
                    rotate_left
                    · show Act.put _ (some 61) _ = _
                      simp only [Act.put, List.setIfInBounds_toArray, List.set_cons_zero, List.set_cons_succ, i64_w, i32_w]
                      rfl
                    refine zpure_ (i := 4) (N := some 57) #[true, true, true, true, true, false, false, true, false, false] (any_of HT_.out (by kernel_rfl)) ?_
                    refine zpure_ (i := 5) (N := some 62) #[true, true, true, true, true, true, false, true, false, false] (any_of HT_.out (by kernel_rfl)) ?_
                    refine zpure_ (i := 6) (N := some 63) #[true, true, true, true, true, true, true, true, false, false] (any_of HT_.out (by kernel_rfl)) ?_
                    exact norm_ (by simp only [putAll, Act.put, List.setIfInBounds_toArray, List.set_cons_zero, List.set_cons_succ]) (hCont (gb471) _ ⟨hHeld, (zk BK451), (zk BK457), (zk BK471), GW471.out, GE471.out, NB451_471.out, NB471_451.out, NB457_471.out, NB471_457.out, (zb HB)⟩)
                rintro gb471 w66 ⟨hS_, h0_, h1_, h2_, h3_, h4_, h5_, h6_, h7_, h8_, h9_⟩
                have n0_ : Aside0 (w66.heap[gb451]? = some (.cells #[.int .i64 a0_0, .int .i64 a0_1] 23 (0, 0))) := ⟨h0_⟩
                have n1_ : Aside0 (w66.heap[gb457]? = some (.cells #[.int .i64 t452, .bool t453, .int .i64 t454, .int .u64 t455] 42 (0, 0))) := ⟨h1_⟩
                have n2_ : Aside0 (w66.heap[gb471]? = some (.cells #[.int .i64 0, .bool false, .int .i64 0, .int .u64 0] 42 (0, 0))) := ⟨h2_⟩
                have n3_ : Aside0 (w.heap.size ≤ gb471) := ⟨h3_⟩
                have n4_ : Aside0 (w.heap.size ≤ gb471) := ⟨h4_⟩
                have n5_ : Aside0 (gb451 ≠ gb471) := ⟨h5_⟩
                have n6_ : Aside0 (gb471 ≠ gb451) := ⟨h6_⟩
                have n7_ : Aside0 (gb457 ≠ gb471) := ⟨h7_⟩
                have n8_ : Aside0 (gb471 ≠ gb457) := ⟨h8_⟩
                have n9_ : Aside0 (Below w.heap.size w w66) := ⟨h9_⟩
                clear BK451
                clear BK457
                clear HB
                clear h0_ h1_ h2_ h3_ h4_ h5_ h6_ h7_ h8_ h9_
                have BK451 := n0_
                have BK457 := n1_
                have BK471 := n2_
                have GW471 := n3_
                have GE471 := n4_
                have NB451_471 := n5_
                have NB471_451 := n6_
                have NB457_471 := n7_
                have NB471_457 := n8_
                have HB := n9_
                clear n0_ n1_ n2_ n3_ n4_ n5_ n6_ n7_ n8_ n9_
                have hHeld : w66.cell? ⟨gb451, 0, none⟩ = some (.int .i64 a0_0) ∧ w66.cell? ⟨gb451, 1, none⟩ = some (.int .i64 a0_1) := hS_
                refine norm_ (a' := ?_) ?_ ?_
                rotate_left
                · simp only [putAll, Act.put, List.setIfInBounds_toArray, List.set_cons_zero, List.set_cons_succ]
                  rfl
                refine one_ (i := 8) (N := none) #[true, true, true, true, true, true, true, true, true, false] rfl rfl (one_of HT_.out (by kernel_rfl)) (by decide) (fun K hK => ?_)
                have hs67 : w66.cell? ⟨gb471, 0, none⟩ = some (.int .i64 0) := (blk_cell BK471.out 0).trans rfl
                have hfs67 := blk_frozen BK471.out 0
                have hns67_0 := NB451_471.out
                have hns67_1 := NB457_471.out
                have hms67_0 := NB471_451.out
                have hms67_1 := NB471_457.out
                have hs68 : w66.cell? ⟨gb471, 1, none⟩ = some (.bool false) := (blk_cell BK471.out 1).trans rfl
                have hfs68 := blk_frozen BK471.out 1
                have hns68_0 := NB451_471.out
                have hns68_1 := NB457_471.out
                have hms68_0 := NB471_451.out
                have hms68_1 := NB471_457.out
                have hs69 : w66.cell? ⟨gb471, 2, none⟩ = some (.int .i64 0) := (blk_cell BK471.out 2).trans rfl
                have hfs69 := blk_frozen BK471.out 2
                have hns69_0 := NB451_471.out
                have hns69_1 := NB457_471.out
                have hms69_0 := NB471_451.out
                have hms69_1 := NB471_457.out
                have hs70 : w66.cell? ⟨gb471, 3, none⟩ = some (.int .u64 0) := (blk_cell BK471.out 3).trans rfl
                have hfs70 := blk_frozen BK471.out 3
                have hns70_0 := NB451_471.out
                have hns70_1 := NB457_471.out
                have hms70_0 := NB471_451.out
                have hms70_1 := NB471_457.out
                refine skip_ (w1 := ?_) (by rfl) rfl ?_ ?_
                rotate_left
                · go_simp
                  rfl
                refine hK.out _ _ ⟨((cell_far (p := ⟨gb471, _, none⟩) NB451_471.out _).trans (((cell_far (p := ⟨gb471, _, none⟩) NB451_471.out _).trans (((cell_far (p := ⟨gb471, _, none⟩) NB451_471.out _).trans (((cell_far (p := ⟨gb471, _, none⟩) NB451_471.out _).trans (hHeld.1)))))))), ((cell_far (p := ⟨gb471, _, none⟩) NB451_471.out _).trans (((cell_far (p := ⟨gb471, _, none⟩) NB451_471.out _).trans (((cell_far (p := ⟨gb471, _, none⟩) NB451_471.out _).trans (((cell_far (p := ⟨gb471, _, none⟩) NB451_471.out _).trans (hHeld.2))))))))⟩ (fun hHeld => ?_)
                clear hK K
                refine zpure_ (i := 9) (N := some 8) #[true, true, true, true, true, true, true, true, true, true] (any_of HT_.out (by kernel_rfl)) ?_
                refine done_ (done_of HT_.out (by kernel_rfl)) ?_
                try go_wp2_with (first | ((with_reducible refine gate_callee (f := 12) rfl ?_); refine zgo (some 65) Try.func12 #[.int .i64 t470] ?_; (with_reducible refine (grottolaw02_num.calls t470 t472 _ A51.out).mono ?_); rintro e w' ⟨rfl, ⟨nd, rfl⟩⟩; refine ⟨_, rfl, ?_⟩; have hnb71 := NB471_451.out; have hnc71 := NB451_471.out; have hnb72 := NB471_457.out; have hnc72 := NB457_471.out; obtain ⟨hcz73_0, hcz73_1, hcz73_2, hcz73_3, hfz73_0, hfz73_1, hfz73_2, hfz73_3⟩ := zc4 BK471))
                go_ret
                exact ⟨by first | rfl | (simp [errW_none, errW_some] <;> rfl) | (simp [*, errW_none, errW_some] <;> rfl), zb HB⟩
              · replace c54 := Bool.eq_false_iff.mpr c54
                subst c54
                have H1 : ((grottolaw02_live.f k).bind fun t473 => (some t473)) = some r := by rw [if_neg (show ¬ (false = true) by decide)] at H; exact H
                clear H
                have H := H1
                clear H1
                replace H := Option.bind_eq_some_iff.mp H
                obtain ⟨t473, A740, H⟩ := H
                replace H : (some t473) = some r := H
                have A74 := Aside0.mk A740
                clear A740
                obtain rfl := Option.some.inj H
                go_enter Try.func9, Try.ntmps9
                try go_wp2_with (first | ((with_reducible refine gate_dst (N := 2) rfl ?_); refine zbox (N := 2) (cs := #[.int .i64 a0_0, .int .i64 a0_1]) (t := 23) ?_; intro gb451 hg w75 hbox hb; have BK451 := Aside0.mk hbox; have GW451 := zge hg HB; have GE451 := zge hg HB; replace HB := zbs HB hb; clear hb hbox hg; obtain ⟨hcz76_0, hcz76_1, hfz76_0, hfz76_1⟩ := zc2 BK451) | ((with_reducible refine gate_callee (f := 16) rfl ?_); refine zgo (some 14) Try.func16 #[.agg #[.int .i64 a0_0, .int .i64 a0_1], .int .u64 a1] ?_; (with_reducible refine (round_Open.calls k a0_0 a0_1 a1 t452 t453 t454 t455 t456 _ A3.out).mono ?_); rintro e w77 ⟨rfl, hb⟩; refine ⟨_, rfl, ?_⟩; replace BK451 := zkb BK451 hb; replace HB := zbs HB hb; (try clear hb); (try clear hb2); (try clear hk); (try clear hi)) | ((with_reducible refine gate_dst (N := 5) rfl ?_); refine zbox (N := 5) (cs := #[.int .i64 0, .bool false, .int .i64 0, .int .u64 0]) (t := 42) ?_; intro gb457 hg w78 hbox hb; have BK457 := Aside0.mk hbox; have GW457 := zge hg HB; have GE457 := zge hg HB; have NB451_457 := znl hg BK451; have NB457_451 := zng hg BK451; replace BK451 := zkb BK451 hb; replace HB := zbs HB hb; clear hb hbox hg; have hnb79 := NB457_451.out; have hnc79 := NB451_457.out; obtain ⟨hcz80_0, hcz80_1, hcz80_2, hcz80_3, hfz80_0, hfz80_1, hfz80_2, hfz80_3⟩ := zc4 BK457) | ((with_reducible refine gate_callee (f := 12) rfl ?_); refine zgo (some 18) Try.func12 #[.int .i64 t456] ?_; (with_reducible refine (grottolaw02_num.calls t456 t458 _ A4.out).mono ?_); rintro e w' ⟨rfl, ⟨nd, rfl⟩⟩; refine ⟨_, rfl, ?_⟩))
                have n0_ : Aside0 (((((w78.setCell ⟨gb457, 0, none⟩ (.int .i64 t452)).setCell ⟨gb457, 1, none⟩ (.bool t453)).setCell ⟨gb457, 2, none⟩ (.int .i64 t454)).setCell ⟨gb457, 3, none⟩ (.int .u64 t455)).heap[gb451]? = some (.cells #[.int .i64 a0_0, .int .i64 a0_1] 23 (0, 0))) := ⟨zk BK451⟩
                have n1_ : Aside0 (((((w78.setCell ⟨gb457, 0, none⟩ (.int .i64 t452)).setCell ⟨gb457, 1, none⟩ (.bool t453)).setCell ⟨gb457, 2, none⟩ (.int .i64 t454)).setCell ⟨gb457, 3, none⟩ (.int .u64 t455)).heap[gb457]? = some (.cells #[.int .i64 t452, .bool t453, .int .i64 t454, .int .u64 t455] 42 (0, 0))) := ⟨zkp BK457⟩
                have n2_ : Aside0 (Below w.heap.size w ((((w78.setCell ⟨gb457, 0, none⟩ (.int .i64 t452)).setCell ⟨gb457, 1, none⟩ (.bool t453)).setCell ⟨gb457, 2, none⟩ (.int .i64 t454)).setCell ⟨gb457, 3, none⟩ (.int .u64 t455))) := ⟨zb HB⟩
                (try clear BK451)
                (try clear BK457)
                (try clear HB)
                generalize ((((w78.setCell ⟨gb457, 0, none⟩ (.int .i64 t452)).setCell ⟨gb457, 1, none⟩ (.bool t453)).setCell ⟨gb457, 2, none⟩ (.int .i64 t454)).setCell ⟨gb457, 3, none⟩ (.int .u64 t455)) = w81 at n0_ n1_ n2_ ⊢
                have BK451 := n0_
                have BK457 := n1_
                have HB := n2_
                clear n0_ n1_ n2_
                (try (rw [drewN_self w81]; generalize hq_ : World.drewN w81 _ = w81; have n0_ : Aside0 (w81.heap[gb451]? = some (.cells #[.int .i64 a0_0, .int .i64 a0_1] 23 (0, 0))) := ⟨by rw [← hq_]; exact (zk BK451)⟩; have n1_ : Aside0 (w81.heap[gb457]? = some (.cells #[.int .i64 t452, .bool t453, .int .i64 t454, .int .u64 t455] 42 (0, 0))) := ⟨by rw [← hq_]; exact (zk BK457)⟩; have n2_ : Aside0 (Below w.heap.size w w81) := ⟨by rw [← hq_]; exact (zb HB)⟩; clear BK451 BK457 HB hq_; have BK451 := n0_; have BK457 := n1_; have HB := n2_; clear n0_ n1_ n2_; obtain ⟨y451_0, y451_1, y451_2, y451_3⟩ := zc2 BK451; obtain ⟨y457_0, y457_1, y457_2, y457_3, y457_4, y457_5, y457_6, y457_7⟩ := zc4 BK457))
                replace BK451 := Aside0.mk (blk_drew BK451.out)
                replace BK457 := Aside0.mk (blk_drew BK457.out)
                replace HB := Aside0.mk (below_drew1 HB.out)
                refine start_ (n := 10) (S := fun w' => w'.cell? ⟨gb451, 0, none⟩ = some (.int .i64 a0_0) ∧ w'.cell? ⟨gb451, 1, none⟩ = some (.int .i64 a0_1)) (ds := []) #[false, false, false, false, false, false, false, false, false, false] (by kernel_rfl) rfl rfl ⟨(blk_cell BK451.out 0).trans rfl, (blk_cell BK451.out 1).trans rfl⟩ (fun hHeld => ?_); refine with_tabW grottolaw02_RoundBack.tab10 grottolaw02_RoundBack.bits10 (fun HT_ HW_ => ?_)
                generalize w81.drew = w82 at BK451 BK457 HB hHeld ⊢
                refine ztake_ (i := 0) (N := some 58) #[true, false, false, false, false, false, false, false, false, false] rfl (take_ofW HT_.out HW_.out (by kernel_rfl)) hHeld (Or.inl ⟨by rfl, by rintro w' ⟨s0, s1⟩; go_simp; with_reducible rfl⟩) ?_
                refine ztake_ (i := 1) (N := some 59) #[true, true, false, false, false, false, false, false, false, false] rfl (take_ofW HT_.out HW_.out (by kernel_rfl)) hHeld (Or.inl ⟨by rfl, by rintro w' ⟨s0, s1⟩; go_simp; with_reducible rfl⟩) ?_
                refine join_ (σ := Nat) 2 #[true, true, true, true, true, true, true, true, false, false] (fun s_ => [(60, .int .u64 t465), (61, .tuple #[.agg #[.int .i64 t466, .bool false, .int .i64 t468, .int .u64 t469], .int .i64 t470]), (7, .pointer (some ⟨s_, 0, none⟩)), (57, .tuple #[.agg #[.int .i64 t466, .bool false, .int .i64 t468, .int .u64 t469], .int .i64 t470]), (62, .agg #[.int .i64 t466, .bool false, .int .i64 t468, .int .u64 t469]), (63, .int .i64 t470)]) (fun s_ w' => (w'.cell? ⟨gb451, 0, none⟩ = some (.int .i64 a0_0) ∧ w'.cell? ⟨gb451, 1, none⟩ = some (.int .i64 a0_1)) ∧ (w'.heap[gb451]? = some (.cells #[.int .i64 a0_0, .int .i64 a0_1] 23 (0, 0))) ∧ (w'.heap[gb457]? = some (.cells #[.int .i64 t452, .bool t453, .int .i64 t454, .int .u64 t455] 42 (0, 0))) ∧ (w'.heap[s_]? = some (.cells #[.int .i64 0, .bool false, .int .i64 0, .int .u64 0] 42 (0, 0))) ∧ (w.heap.size ≤ s_) ∧ (w.heap.size ≤ s_) ∧ (gb451 ≠ s_) ∧ (s_ ≠ gb451) ∧ (gb457 ≠ s_) ∧ (s_ ≠ gb457) ∧ (Below w.heap.size w w')) ?_ ?_
                rotate_left
                · intro hCont
                  refine two_ (i := 2) (j := 7) (Ni := some 60) (Nj := some 7) #[true, true, true, false, false, false, false, false, false, false] #[true, true, false, false, false, false, false, true, false, false] rfl rfl rfl rfl (two_of HT_.out (by kernel_rfl)) (by decide) (by decide) (fun K hK => ?_) (fun K hK => ?_)
                  · skip
                    refine goes_ Try.func20 (by kernel_rfl) rfl #[.agg #[.int .i64 a0_0, .int .i64 a0_1]] (by rfl) rfl rfl (by (try simp only [List.map_toArray, List.map_cons, List.map_nil]); first | done | rfl | (simp only [List.length_drop, List.length_take]; rfl)) ?_
                    with_reducible refine (round_NaN.calls a0_0 a0_1 t465 _ A49.out).mono ?_
                    rintro e w83 ⟨rfl, hb⟩
                    refine ⟨_, rfl, ?_⟩
                    replace BK451 := zkb BK451 hb
                    replace BK457 := zkb BK457 hb
                    replace HB := zbs HB hb
                    (try clear hb)
                    (try clear hb2)
                    (try clear hk)
                    (try clear hi)
                    refine hK.out _ _ ⟨(blk_cell BK451.out 0).trans rfl, (blk_cell BK451.out 1).trans rfl⟩ (fun hHeld => ?_)
                    clear hK K
                    refine norm_ (a' := ?_) ?_ ?_
                    rotate_left
                    · show Act.put _ (some 60) _ = _
                      simp only [Act.put, List.setIfInBounds_toArray, List.set_cons_zero, List.set_cons_succ, i64_w, i32_w]
                      rfl
                    refine two_ (i := 3) (j := 7) (Ni := some 61) (Nj := some 7) #[true, true, true, true, false, false, false, false, false, false] #[true, true, true, false, false, false, false, true, false, false] rfl rfl rfl rfl (two_of HT_.out (by kernel_rfl)) (by decide) (by decide) (fun K hK => ?_) (fun K hK => ?_)
                    · skip
                      refine goes_ Try.func16 (by kernel_rfl) rfl #[.agg #[.int .i64 a0_0, .int .i64 a0_1], .int .u64 t465] (by rfl) rfl rfl (by (try simp only [List.map_toArray, List.map_cons, List.map_nil]); first | done | rfl | (simp only [List.length_drop, List.length_take]; rfl)) ?_
                      with_reducible refine (round_Open.calls k a0_0 a0_1 t465 t466 false t468 t469 t470 _ A50.out).mono ?_
                      rintro e w84 ⟨rfl, hb⟩
                      refine ⟨_, rfl, ?_⟩
                      replace BK451 := zkb BK451 hb
                      replace BK457 := zkb BK457 hb
                      replace HB := zbs HB hb
                      (try clear hb)
                      (try clear hb2)
                      (try clear hk)
                      (try clear hi)
                      refine hK.out _ _ ⟨(blk_cell BK451.out 0).trans rfl, (blk_cell BK451.out 1).trans rfl⟩ (fun hHeld => ?_)
                      clear hK K
                      refine norm_ (a' := ?_) ?_ ?_
                      rotate_left
                      · show Act.put _ (some 61) _ = _
                        simp only [Act.put, List.setIfInBounds_toArray, List.set_cons_zero, List.set_cons_succ, i64_w, i32_w]
                        rfl
                      refine zpure_ (i := 4) (N := some 57) #[true, true, true, true, true, false, false, false, false, false] (any_of HT_.out (by kernel_rfl)) ?_
                      refine zpure_ (i := 5) (N := some 62) #[true, true, true, true, true, true, false, false, false, false] (any_of HT_.out (by kernel_rfl)) ?_
                      refine zpure_ (i := 6) (N := some 63) #[true, true, true, true, true, true, true, false, false, false] (any_of HT_.out (by kernel_rfl)) ?_
                      refine one_ (i := 7) (N := some 7) #[true, true, true, true, true, true, true, true, false, false] rfl rfl (one_of HT_.out (by kernel_rfl)) (by decide) (fun K hK => ?_)
                      refine box_step ?hg (N := 7) ?hd (cs := #[.int .i64 0, .bool false, .int .i64 0, .int .u64 0]) (t := 42) ?hr ?_; (case hd => rfl); (case hg => rfl); (case hr => first | (go_simp; done) | (go_simp; rfl))
                      intro gb471 hg w85 hbox hb
                      have BK471 := Aside0.mk hbox
                      have GW471 := zge hg HB
                      have GE471 := zge hg HB
                      have NB451_471 := znl hg BK451
                      have NB471_451 := zng hg BK451
                      have NB457_471 := znl hg BK457
                      have NB471_457 := zng hg BK457
                      replace BK451 := zkb BK451 hb
                      replace BK457 := zkb BK457 hb
                      replace HB := zbs HB hb
                      clear hb hbox hg
                      refine hK.out _ _ ⟨(blk_cell BK451.out 0).trans rfl, (blk_cell BK451.out 1).trans rfl⟩ (fun hHeld => ?_)
                      clear hK K
                      refine norm_ (a' := ?_) ?_ ?_
                      rotate_left
                      · show Act.put _ (some 7) _ = _
                        simp only [Act.put, List.setIfInBounds_toArray, List.set_cons_zero, List.set_cons_succ, i64_w, i32_w]
                        rfl
                      exact norm_ (by simp only [putAll, Act.put, List.setIfInBounds_toArray, List.set_cons_zero, List.set_cons_succ]) (hCont (gb471) _ ⟨hHeld, (zk BK451), (zk BK457), (zk BK471), GW471.out, GE471.out, NB451_471.out, NB471_451.out, NB457_471.out, NB471_457.out, (zb HB)⟩)
                    · skip
                      refine box_step ?hg (N := 7) ?hd (cs := #[.int .i64 0, .bool false, .int .i64 0, .int .u64 0]) (t := 42) ?hr ?_; (case hd => rfl); (case hg => rfl); (case hr => first | (go_simp; done) | (go_simp; rfl))
                      intro gb471 hg w84 hbox hb
                      have BK471 := Aside0.mk hbox
                      have GW471 := zge hg HB
                      have GE471 := zge hg HB
                      have NB451_471 := znl hg BK451
                      have NB471_451 := zng hg BK451
                      have NB457_471 := znl hg BK457
                      have NB471_457 := zng hg BK457
                      replace BK451 := zkb BK451 hb
                      replace BK457 := zkb BK457 hb
                      replace HB := zbs HB hb
                      clear hb hbox hg
                      refine hK.out _ _ ⟨(blk_cell BK451.out 0).trans rfl, (blk_cell BK451.out 1).trans rfl⟩ (fun hHeld => ?_)
                      clear hK K
                      refine norm_ (a' := ?_) ?_ ?_
                      rotate_left
                      · show Act.put _ (some 7) _ = _
                        simp only [Act.put, List.setIfInBounds_toArray, List.set_cons_zero, List.set_cons_succ, i64_w, i32_w]
                        rfl
                      refine one_ (i := 3) (N := some 61) #[true, true, true, true, false, false, false, true, false, false] rfl rfl (one_of HT_.out (by kernel_rfl)) (by decide) (fun K hK => ?_)
                      refine goes_ Try.func16 (by kernel_rfl) rfl #[.agg #[.int .i64 a0_0, .int .i64 a0_1], .int .u64 t465] (by rfl) rfl rfl (by (try simp only [List.map_toArray, List.map_cons, List.map_nil]); first | done | rfl | (simp only [List.length_drop, List.length_take]; rfl)) ?_
                      with_reducible refine (round_Open.calls k a0_0 a0_1 t465 t466 false t468 t469 t470 _ A50.out).mono ?_
                      rintro e w85 ⟨rfl, hb⟩
                      refine ⟨_, rfl, ?_⟩
                      replace BK451 := zkb BK451 hb
                      replace BK457 := zkb BK457 hb
                      replace BK471 := zkb BK471 hb
                      replace HB := zbs HB hb
                      (try clear hb)
                      (try clear hb2)
                      (try clear hk)
                      (try clear hi)
                      refine hK.out _ _ ⟨(blk_cell BK451.out 0).trans rfl, (blk_cell BK451.out 1).trans rfl⟩ (fun hHeld => ?_)
                      clear hK K
                      refine norm_ (a' := ?_) ?_ ?_
                      rotate_left
                      · show Act.put _ (some 61) _ = _
                        simp only [Act.put, List.setIfInBounds_toArray, List.set_cons_zero, List.set_cons_succ, i64_w, i32_w]
                        rfl
                      refine zpure_ (i := 4) (N := some 57) #[true, true, true, true, true, false, false, true, false, false] (any_of HT_.out (by kernel_rfl)) ?_
                      refine zpure_ (i := 5) (N := some 62) #[true, true, true, true, true, true, false, true, false, false] (any_of HT_.out (by kernel_rfl)) ?_
                      refine zpure_ (i := 6) (N := some 63) #[true, true, true, true, true, true, true, true, false, false] (any_of HT_.out (by kernel_rfl)) ?_
                      exact norm_ (by simp only [putAll, Act.put, List.setIfInBounds_toArray, List.set_cons_zero, List.set_cons_succ]) (hCont (gb471) _ ⟨hHeld, (zk BK451), (zk BK457), (zk BK471), GW471.out, GE471.out, NB451_471.out, NB471_451.out, NB457_471.out, NB471_457.out, (zb HB)⟩)
                  · skip
                    refine box_step ?hg (N := 7) ?hd (cs := #[.int .i64 0, .bool false, .int .i64 0, .int .u64 0]) (t := 42) ?hr ?_; (case hd => rfl); (case hg => rfl); (case hr => first | (go_simp; done) | (go_simp; rfl))
                    intro gb471 hg w83 hbox hb
                    have BK471 := Aside0.mk hbox
                    have GW471 := zge hg HB
                    have GE471 := zge hg HB
                    have NB451_471 := znl hg BK451
                    have NB471_451 := zng hg BK451
                    have NB457_471 := znl hg BK457
                    have NB471_457 := zng hg BK457
                    replace BK451 := zkb BK451 hb
                    replace BK457 := zkb BK457 hb
                    replace HB := zbs HB hb
                    clear hb hbox hg
                    refine hK.out _ _ ⟨(blk_cell BK451.out 0).trans rfl, (blk_cell BK451.out 1).trans rfl⟩ (fun hHeld => ?_)
                    clear hK K
                    refine norm_ (a' := ?_) ?_ ?_
                    rotate_left
                    · show Act.put _ (some 7) _ = _
                      simp only [Act.put, List.setIfInBounds_toArray, List.set_cons_zero, List.set_cons_succ, i64_w, i32_w]
                      rfl
                    refine one_ (i := 2) (N := some 60) #[true, true, true, false, false, false, false, true, false, false] rfl rfl (one_of HT_.out (by kernel_rfl)) (by decide) (fun K hK => ?_)
                    refine goes_ Try.func20 (by kernel_rfl) rfl #[.agg #[.int .i64 a0_0, .int .i64 a0_1]] (by rfl) rfl rfl (by (try simp only [List.map_toArray, List.map_cons, List.map_nil]); first | done | rfl | (simp only [List.length_drop, List.length_take]; rfl)) ?_
                    with_reducible refine (round_NaN.calls a0_0 a0_1 t465 _ A49.out).mono ?_
                    rintro e w84 ⟨rfl, hb⟩
                    refine ⟨_, rfl, ?_⟩
                    replace BK451 := zkb BK451 hb
                    replace BK457 := zkb BK457 hb
                    replace BK471 := zkb BK471 hb
                    replace HB := zbs HB hb
                    (try clear hb)
                    (try clear hb2)
                    (try clear hk)
                    (try clear hi)
                    refine hK.out _ _ ⟨(blk_cell BK451.out 0).trans rfl, (blk_cell BK451.out 1).trans rfl⟩ (fun hHeld => ?_)
                    clear hK K
                    refine norm_ (a' := ?_) ?_ ?_
                    rotate_left
                    · show Act.put _ (some 60) _ = _
                      simp only [Act.put, List.setIfInBounds_toArray, List.set_cons_zero, List.set_cons_succ, i64_w, i32_w]
                      rfl
                    refine one_ (i := 3) (N := some 61) #[true, true, true, true, false, false, false, true, false, false] rfl rfl (one_of HT_.out (by kernel_rfl)) (by decide) (fun K hK => ?_)
                    refine goes_ Try.func16 (by kernel_rfl) rfl #[.agg #[.int .i64 a0_0, .int .i64 a0_1], .int .u64 t465] (by rfl) rfl rfl (by (try simp only [List.map_toArray, List.map_cons, List.map_nil]); first | done | rfl | (simp only [List.length_drop, List.length_take]; rfl)) ?_
                    with_reducible refine (round_Open.calls k a0_0 a0_1 t465 t466 false t468 t469 t470 _ A50.out).mono ?_
                    rintro e w85 ⟨rfl, hb⟩
                    refine ⟨_, rfl, ?_⟩
                    replace BK451 := zkb BK451 hb
                    replace BK457 := zkb BK457 hb
                    replace BK471 := zkb BK471 hb
                    replace HB := zbs HB hb
                    (try clear hb)
                    (try clear hb2)
                    (try clear hk)
                    (try clear hi)
                    refine hK.out _ _ ⟨(blk_cell BK451.out 0).trans rfl, (blk_cell BK451.out 1).trans rfl⟩ (fun hHeld => ?_)
                    clear hK K
                    refine norm_ (a' := ?_) ?_ ?_
                    rotate_left
                    · show Act.put _ (some 61) _ = _
                      simp only [Act.put, List.setIfInBounds_toArray, List.set_cons_zero, List.set_cons_succ, i64_w, i32_w]
                      rfl
                    refine zpure_ (i := 4) (N := some 57) #[true, true, true, true, true, false, false, true, false, false] (any_of HT_.out (by kernel_rfl)) ?_
                    refine zpure_ (i := 5) (N := some 62) #[true, true, true, true, true, true, false, true, false, false] (any_of HT_.out (by kernel_rfl)) ?_
                    refine zpure_ (i := 6) (N := some 63) #[true, true, true, true, true, true, true, true, false, false] (any_of HT_.out (by kernel_rfl)) ?_
                    exact norm_ (by simp only [putAll, Act.put, List.setIfInBounds_toArray, List.set_cons_zero, List.set_cons_succ]) (hCont (gb471) _ ⟨hHeld, (zk BK451), (zk BK457), (zk BK471), GW471.out, GE471.out, NB451_471.out, NB471_451.out, NB457_471.out, NB471_457.out, (zb HB)⟩)
                rintro gb471 w86 ⟨hS_, h0_, h1_, h2_, h3_, h4_, h5_, h6_, h7_, h8_, h9_⟩
                have n0_ : Aside0 (w86.heap[gb451]? = some (.cells #[.int .i64 a0_0, .int .i64 a0_1] 23 (0, 0))) := ⟨h0_⟩
                have n1_ : Aside0 (w86.heap[gb457]? = some (.cells #[.int .i64 t452, .bool t453, .int .i64 t454, .int .u64 t455] 42 (0, 0))) := ⟨h1_⟩
                have n2_ : Aside0 (w86.heap[gb471]? = some (.cells #[.int .i64 0, .bool false, .int .i64 0, .int .u64 0] 42 (0, 0))) := ⟨h2_⟩
                have n3_ : Aside0 (w.heap.size ≤ gb471) := ⟨h3_⟩
                have n4_ : Aside0 (w.heap.size ≤ gb471) := ⟨h4_⟩
                have n5_ : Aside0 (gb451 ≠ gb471) := ⟨h5_⟩
                have n6_ : Aside0 (gb471 ≠ gb451) := ⟨h6_⟩
                have n7_ : Aside0 (gb457 ≠ gb471) := ⟨h7_⟩
                have n8_ : Aside0 (gb471 ≠ gb457) := ⟨h8_⟩
                have n9_ : Aside0 (Below w.heap.size w w86) := ⟨h9_⟩
                clear BK451
                clear BK457
                clear HB
                clear h0_ h1_ h2_ h3_ h4_ h5_ h6_ h7_ h8_ h9_
                have BK451 := n0_
                have BK457 := n1_
                have BK471 := n2_
                have GW471 := n3_
                have GE471 := n4_
                have NB451_471 := n5_
                have NB471_451 := n6_
                have NB457_471 := n7_
                have NB471_457 := n8_
                have HB := n9_
                clear n0_ n1_ n2_ n3_ n4_ n5_ n6_ n7_ n8_ n9_
                have hHeld : w86.cell? ⟨gb451, 0, none⟩ = some (.int .i64 a0_0) ∧ w86.cell? ⟨gb451, 1, none⟩ = some (.int .i64 a0_1) := hS_
                refine norm_ (a' := ?_) ?_ ?_
                rotate_left
                · simp only [putAll, Act.put, List.setIfInBounds_toArray, List.set_cons_zero, List.set_cons_succ]
                  rfl
                refine one_ (i := 8) (N := none) #[true, true, true, true, true, true, true, true, true, false] rfl rfl (one_of HT_.out (by kernel_rfl)) (by decide) (fun K hK => ?_)
                have hs87 : w86.cell? ⟨gb471, 0, none⟩ = some (.int .i64 0) := (blk_cell BK471.out 0).trans rfl
                have hfs87 := blk_frozen BK471.out 0
                have hns87_0 := NB451_471.out
                have hns87_1 := NB457_471.out
                have hms87_0 := NB471_451.out
                have hms87_1 := NB471_457.out
                have hs88 : w86.cell? ⟨gb471, 1, none⟩ = some (.bool false) := (blk_cell BK471.out 1).trans rfl
                have hfs88 := blk_frozen BK471.out 1
                have hns88_0 := NB451_471.out
                have hns88_1 := NB457_471.out
                have hms88_0 := NB471_451.out
                have hms88_1 := NB471_457.out
                have hs89 : w86.cell? ⟨gb471, 2, none⟩ = some (.int .i64 0) := (blk_cell BK471.out 2).trans rfl
                have hfs89 := blk_frozen BK471.out 2
                have hns89_0 := NB451_471.out
                have hns89_1 := NB457_471.out
                have hms89_0 := NB471_451.out
                have hms89_1 := NB471_457.out
                have hs90 : w86.cell? ⟨gb471, 3, none⟩ = some (.int .u64 0) := (blk_cell BK471.out 3).trans rfl
                have hfs90 := blk_frozen BK471.out 3
                have hns90_0 := NB451_471.out
                have hns90_1 := NB457_471.out
                have hms90_0 := NB471_451.out
                have hms90_1 := NB471_457.out
                refine skip_ (w1 := ?_) (by rfl) rfl ?_ ?_
                rotate_left
                · go_simp
                  rfl
                refine hK.out _ _ ⟨((cell_far (p := ⟨gb471, _, none⟩) NB451_471.out _).trans (((cell_far (p := ⟨gb471, _, none⟩) NB451_471.out _).trans (((cell_far (p := ⟨gb471, _, none⟩) NB451_471.out _).trans (((cell_far (p := ⟨gb471, _, none⟩) NB451_471.out _).trans (hHeld.1)))))))), ((cell_far (p := ⟨gb471, _, none⟩) NB451_471.out _).trans (((cell_far (p := ⟨gb471, _, none⟩) NB451_471.out _).trans (((cell_far (p := ⟨gb471, _, none⟩) NB451_471.out _).trans (((cell_far (p := ⟨gb471, _, none⟩) NB451_471.out _).trans (hHeld.2))))))))⟩ (fun hHeld => ?_)
                clear hK K
                refine zpure_ (i := 9) (N := some 8) #[true, true, true, true, true, true, true, true, true, true] (any_of HT_.out (by kernel_rfl)) ?_
                refine done_ (done_of HT_.out (by kernel_rfl)) ?_
                try go_wp2_with (first | ((with_reducible refine gate_callee (f := 12) rfl ?_); refine zgo (some 65) Try.func12 #[.int .i64 t470] ?_; (with_reducible refine (grottolaw02_num.calls t470 t472 _ A51.out).mono ?_); rintro e w' ⟨rfl, ⟨nd, rfl⟩⟩; refine ⟨_, rfl, ?_⟩; have hnb91 := NB471_451.out; have hnc91 := NB451_471.out; have hnb92 := NB471_457.out; have hnc92 := NB457_471.out; obtain ⟨hcz93_0, hcz93_1, hcz93_2, hcz93_3, hfz93_0, hfz93_1, hfz93_2, hfz93_3⟩ := zc4 BK471) | (go_at_call 13; (with_reducible refine (grottolaw02_live.calls k  t473 _ A74.out).mono ?_); rintro e w94 ⟨rfl, hb⟩; replace BK451 := zkb BK451 hb; replace BK457 := zkb BK457 hb; replace BK471 := zkbo (o := .cells #[.int .i64 t466, .bool false, .int .i64 t468, .int .u64 t469] 42 (0, 0)) BK471 hb; replace HB := zbs HB hb; (try clear hb); (try clear hb2); (try clear hk); (try clear hi)))
                go_ret
                exact ⟨by first | rfl | (simp [errW_none, errW_some] <;> rfl) | (simp [*, errW_none, errW_some] <;> rfl), zb HB⟩
            · rw [if_neg c53] at H
              have c53b0 : (t466 == 4) = false := beq_eq_false_iff_ne.mpr c53
              have c53b1 : (t466 != 4) = true := bne_iff_ne.mpr c53
              obtain rfl := Option.some.inj H
              go_enter Try.func9, Try.ntmps9
              try go_wp2_with (first | ((with_reducible refine gate_dst (N := 2) rfl ?_); refine zbox (N := 2) (cs := #[.int .i64 a0_0, .int .i64 a0_1]) (t := 23) ?_; intro gb451 hg w95 hbox hb; have BK451 := Aside0.mk hbox; have GW451 := zge hg HB; have GE451 := zge hg HB; replace HB := zbs HB hb; clear hb hbox hg; obtain ⟨hcz96_0, hcz96_1, hfz96_0, hfz96_1⟩ := zc2 BK451) | ((with_reducible refine gate_callee (f := 16) rfl ?_); refine zgo (some 14) Try.func16 #[.agg #[.int .i64 a0_0, .int .i64 a0_1], .int .u64 a1] ?_; (with_reducible refine (round_Open.calls k a0_0 a0_1 a1 t452 t453 t454 t455 t456 _ A3.out).mono ?_); rintro e w97 ⟨rfl, hb⟩; refine ⟨_, rfl, ?_⟩; replace BK451 := zkb BK451 hb; replace HB := zbs HB hb; (try clear hb); (try clear hb2); (try clear hk); (try clear hi)) | ((with_reducible refine gate_dst (N := 5) rfl ?_); refine zbox (N := 5) (cs := #[.int .i64 0, .bool false, .int .i64 0, .int .u64 0]) (t := 42) ?_; intro gb457 hg w98 hbox hb; have BK457 := Aside0.mk hbox; have GW457 := zge hg HB; have GE457 := zge hg HB; have NB451_457 := znl hg BK451; have NB457_451 := zng hg BK451; replace BK451 := zkb BK451 hb; replace HB := zbs HB hb; clear hb hbox hg; have hnb99 := NB457_451.out; have hnc99 := NB451_457.out; obtain ⟨hcz100_0, hcz100_1, hcz100_2, hcz100_3, hfz100_0, hfz100_1, hfz100_2, hfz100_3⟩ := zc4 BK457) | ((with_reducible refine gate_callee (f := 12) rfl ?_); refine zgo (some 18) Try.func12 #[.int .i64 t456] ?_; (with_reducible refine (grottolaw02_num.calls t456 t458 _ A4.out).mono ?_); rintro e w' ⟨rfl, ⟨nd, rfl⟩⟩; refine ⟨_, rfl, ?_⟩))
              have n0_ : Aside0 (((((w98.setCell ⟨gb457, 0, none⟩ (.int .i64 t452)).setCell ⟨gb457, 1, none⟩ (.bool t453)).setCell ⟨gb457, 2, none⟩ (.int .i64 t454)).setCell ⟨gb457, 3, none⟩ (.int .u64 t455)).heap[gb451]? = some (.cells #[.int .i64 a0_0, .int .i64 a0_1] 23 (0, 0))) := ⟨zk BK451⟩
              have n1_ : Aside0 (((((w98.setCell ⟨gb457, 0, none⟩ (.int .i64 t452)).setCell ⟨gb457, 1, none⟩ (.bool t453)).setCell ⟨gb457, 2, none⟩ (.int .i64 t454)).setCell ⟨gb457, 3, none⟩ (.int .u64 t455)).heap[gb457]? = some (.cells #[.int .i64 t452, .bool t453, .int .i64 t454, .int .u64 t455] 42 (0, 0))) := ⟨zkp BK457⟩
              have n2_ : Aside0 (Below w.heap.size w ((((w98.setCell ⟨gb457, 0, none⟩ (.int .i64 t452)).setCell ⟨gb457, 1, none⟩ (.bool t453)).setCell ⟨gb457, 2, none⟩ (.int .i64 t454)).setCell ⟨gb457, 3, none⟩ (.int .u64 t455))) := ⟨zb HB⟩
              (try clear BK451)
              (try clear BK457)
              (try clear HB)
              generalize ((((w98.setCell ⟨gb457, 0, none⟩ (.int .i64 t452)).setCell ⟨gb457, 1, none⟩ (.bool t453)).setCell ⟨gb457, 2, none⟩ (.int .i64 t454)).setCell ⟨gb457, 3, none⟩ (.int .u64 t455)) = w101 at n0_ n1_ n2_ ⊢
              have BK451 := n0_
              have BK457 := n1_
              have HB := n2_
              clear n0_ n1_ n2_
              (try (rw [drewN_self w101]; generalize hq_ : World.drewN w101 _ = w101; have n0_ : Aside0 (w101.heap[gb451]? = some (.cells #[.int .i64 a0_0, .int .i64 a0_1] 23 (0, 0))) := ⟨by rw [← hq_]; exact (zk BK451)⟩; have n1_ : Aside0 (w101.heap[gb457]? = some (.cells #[.int .i64 t452, .bool t453, .int .i64 t454, .int .u64 t455] 42 (0, 0))) := ⟨by rw [← hq_]; exact (zk BK457)⟩; have n2_ : Aside0 (Below w.heap.size w w101) := ⟨by rw [← hq_]; exact (zb HB)⟩; clear BK451 BK457 HB hq_; have BK451 := n0_; have BK457 := n1_; have HB := n2_; clear n0_ n1_ n2_; obtain ⟨y451_0, y451_1, y451_2, y451_3⟩ := zc2 BK451; obtain ⟨y457_0, y457_1, y457_2, y457_3, y457_4, y457_5, y457_6, y457_7⟩ := zc4 BK457))
              replace BK451 := Aside0.mk (blk_drew BK451.out)
              replace BK457 := Aside0.mk (blk_drew BK457.out)
              replace HB := Aside0.mk (below_drew1 HB.out)
              refine start_ (n := 10) (S := fun w' => w'.cell? ⟨gb451, 0, none⟩ = some (.int .i64 a0_0) ∧ w'.cell? ⟨gb451, 1, none⟩ = some (.int .i64 a0_1)) (ds := []) #[false, false, false, false, false, false, false, false, false, false] (by kernel_rfl) rfl rfl ⟨(blk_cell BK451.out 0).trans rfl, (blk_cell BK451.out 1).trans rfl⟩ (fun hHeld => ?_); refine with_tabW grottolaw02_RoundBack.tab10 grottolaw02_RoundBack.bits10 (fun HT_ HW_ => ?_)
              generalize w101.drew = w102 at BK451 BK457 HB hHeld ⊢
              refine ztake_ (i := 0) (N := some 58) #[true, false, false, false, false, false, false, false, false, false] rfl (take_ofW HT_.out HW_.out (by kernel_rfl)) hHeld (Or.inl ⟨by rfl, by rintro w' ⟨s0, s1⟩; go_simp; with_reducible rfl⟩) ?_
              refine ztake_ (i := 1) (N := some 59) #[true, true, false, false, false, false, false, false, false, false] rfl (take_ofW HT_.out HW_.out (by kernel_rfl)) hHeld (Or.inl ⟨by rfl, by rintro w' ⟨s0, s1⟩; go_simp; with_reducible rfl⟩) ?_
              refine join_ (σ := Nat) 2 #[true, true, true, true, true, true, true, true, false, false] (fun s_ => [(60, .int .u64 t465), (61, .tuple #[.agg #[.int .i64 t466, .bool t467, .int .i64 t468, .int .u64 t469], .int .i64 t470]), (7, .pointer (some ⟨s_, 0, none⟩)), (57, .tuple #[.agg #[.int .i64 t466, .bool t467, .int .i64 t468, .int .u64 t469], .int .i64 t470]), (62, .agg #[.int .i64 t466, .bool t467, .int .i64 t468, .int .u64 t469]), (63, .int .i64 t470)]) (fun s_ w' => (w'.cell? ⟨gb451, 0, none⟩ = some (.int .i64 a0_0) ∧ w'.cell? ⟨gb451, 1, none⟩ = some (.int .i64 a0_1)) ∧ (w'.heap[gb451]? = some (.cells #[.int .i64 a0_0, .int .i64 a0_1] 23 (0, 0))) ∧ (w'.heap[gb457]? = some (.cells #[.int .i64 t452, .bool t453, .int .i64 t454, .int .u64 t455] 42 (0, 0))) ∧ (w'.heap[s_]? = some (.cells #[.int .i64 0, .bool false, .int .i64 0, .int .u64 0] 42 (0, 0))) ∧ (w.heap.size ≤ s_) ∧ (w.heap.size ≤ s_) ∧ (gb451 ≠ s_) ∧ (s_ ≠ gb451) ∧ (gb457 ≠ s_) ∧ (s_ ≠ gb457) ∧ (Below w.heap.size w w')) ?_ ?_
              rotate_left
              · intro hCont
                refine two_ (i := 2) (j := 7) (Ni := some 60) (Nj := some 7) #[true, true, true, false, false, false, false, false, false, false] #[true, true, false, false, false, false, false, true, false, false] rfl rfl rfl rfl (two_of HT_.out (by kernel_rfl)) (by decide) (by decide) (fun K hK => ?_) (fun K hK => ?_)
                · skip
                  refine goes_ Try.func20 (by kernel_rfl) rfl #[.agg #[.int .i64 a0_0, .int .i64 a0_1]] (by rfl) rfl rfl (by (try simp only [List.map_toArray, List.map_cons, List.map_nil]); first | done | rfl | (simp only [List.length_drop, List.length_take]; rfl)) ?_
                  with_reducible refine (round_NaN.calls a0_0 a0_1 t465 _ A49.out).mono ?_
                  rintro e w103 ⟨rfl, hb⟩
                  refine ⟨_, rfl, ?_⟩
                  replace BK451 := zkb BK451 hb
                  replace BK457 := zkb BK457 hb
                  replace HB := zbs HB hb
                  (try clear hb)
                  (try clear hb2)
                  (try clear hk)
                  (try clear hi)
                  refine hK.out _ _ ⟨(blk_cell BK451.out 0).trans rfl, (blk_cell BK451.out 1).trans rfl⟩ (fun hHeld => ?_)
                  clear hK K
                  refine norm_ (a' := ?_) ?_ ?_
                  rotate_left
                  · show Act.put _ (some 60) _ = _
                    simp only [Act.put, List.setIfInBounds_toArray, List.set_cons_zero, List.set_cons_succ, i64_w, i32_w]
                    rfl
                  refine two_ (i := 3) (j := 7) (Ni := some 61) (Nj := some 7) #[true, true, true, true, false, false, false, false, false, false] #[true, true, true, false, false, false, false, true, false, false] rfl rfl rfl rfl (two_of HT_.out (by kernel_rfl)) (by decide) (by decide) (fun K hK => ?_) (fun K hK => ?_)
                  · skip
                    refine goes_ Try.func16 (by kernel_rfl) rfl #[.agg #[.int .i64 a0_0, .int .i64 a0_1], .int .u64 t465] (by rfl) rfl rfl (by (try simp only [List.map_toArray, List.map_cons, List.map_nil]); first | done | rfl | (simp only [List.length_drop, List.length_take]; rfl)) ?_
                    with_reducible refine (round_Open.calls k a0_0 a0_1 t465 t466 t467 t468 t469 t470 _ A50.out).mono ?_
                    rintro e w104 ⟨rfl, hb⟩
                    refine ⟨_, rfl, ?_⟩
                    replace BK451 := zkb BK451 hb
                    replace BK457 := zkb BK457 hb
                    replace HB := zbs HB hb
                    (try clear hb)
                    (try clear hb2)
                    (try clear hk)
                    (try clear hi)
                    refine hK.out _ _ ⟨(blk_cell BK451.out 0).trans rfl, (blk_cell BK451.out 1).trans rfl⟩ (fun hHeld => ?_)
                    clear hK K
                    refine norm_ (a' := ?_) ?_ ?_
                    rotate_left
                    · show Act.put _ (some 61) _ = _
                      simp only [Act.put, List.setIfInBounds_toArray, List.set_cons_zero, List.set_cons_succ, i64_w, i32_w]
                      rfl
                    refine zpure_ (i := 4) (N := some 57) #[true, true, true, true, true, false, false, false, false, false] (any_of HT_.out (by kernel_rfl)) ?_
                    refine zpure_ (i := 5) (N := some 62) #[true, true, true, true, true, true, false, false, false, false] (any_of HT_.out (by kernel_rfl)) ?_
                    refine zpure_ (i := 6) (N := some 63) #[true, true, true, true, true, true, true, false, false, false] (any_of HT_.out (by kernel_rfl)) ?_
                    refine one_ (i := 7) (N := some 7) #[true, true, true, true, true, true, true, true, false, false] rfl rfl (one_of HT_.out (by kernel_rfl)) (by decide) (fun K hK => ?_)
                    refine box_step ?hg (N := 7) ?hd (cs := #[.int .i64 0, .bool false, .int .i64 0, .int .u64 0]) (t := 42) ?hr ?_; (case hd => rfl); (case hg => rfl); (case hr => first | (go_simp; done) | (go_simp; rfl))
                    intro gb471 hg w105 hbox hb
                    have BK471 := Aside0.mk hbox
                    have GW471 := zge hg HB
                    have GE471 := zge hg HB
                    have NB451_471 := znl hg BK451
                    have NB471_451 := zng hg BK451
                    have NB457_471 := znl hg BK457
                    have NB471_457 := zng hg BK457
                    replace BK451 := zkb BK451 hb
                    replace BK457 := zkb BK457 hb
                    replace HB := zbs HB hb
                    clear hb hbox hg
                    refine hK.out _ _ ⟨(blk_cell BK451.out 0).trans rfl, (blk_cell BK451.out 1).trans rfl⟩ (fun hHeld => ?_)
                    clear hK K
                    refine norm_ (a' := ?_) ?_ ?_
                    rotate_left
                    · show Act.put _ (some 7) _ = _
                      simp only [Act.put, List.setIfInBounds_toArray, List.set_cons_zero, List.set_cons_succ, i64_w, i32_w]
                      rfl
                    exact norm_ (by simp only [putAll, Act.put, List.setIfInBounds_toArray, List.set_cons_zero, List.set_cons_succ]) (hCont (gb471) _ ⟨hHeld, (zk BK451), (zk BK457), (zk BK471), GW471.out, GE471.out, NB451_471.out, NB471_451.out, NB457_471.out, NB471_457.out, (zb HB)⟩)
                  · skip
                    refine box_step ?hg (N := 7) ?hd (cs := #[.int .i64 0, .bool false, .int .i64 0, .int .u64 0]) (t := 42) ?hr ?_; (case hd => rfl); (case hg => rfl); (case hr => first | (go_simp; done) | (go_simp; rfl))
                    intro gb471 hg w104 hbox hb
                    have BK471 := Aside0.mk hbox
                    have GW471 := zge hg HB
                    have GE471 := zge hg HB
                    have NB451_471 := znl hg BK451
                    have NB471_451 := zng hg BK451
                    have NB457_471 := znl hg BK457
                    have NB471_457 := zng hg BK457
                    replace BK451 := zkb BK451 hb
                    replace BK457 := zkb BK457 hb
                    replace HB := zbs HB hb
                    clear hb hbox hg
                    refine hK.out _ _ ⟨(blk_cell BK451.out 0).trans rfl, (blk_cell BK451.out 1).trans rfl⟩ (fun hHeld => ?_)
                    clear hK K
                    refine norm_ (a' := ?_) ?_ ?_
                    rotate_left
                    · show Act.put _ (some 7) _ = _
                      simp only [Act.put, List.setIfInBounds_toArray, List.set_cons_zero, List.set_cons_succ, i64_w, i32_w]
                      rfl
                    refine one_ (i := 3) (N := some 61) #[true, true, true, true, false, false, false, true, false, false] rfl rfl (one_of HT_.out (by kernel_rfl)) (by decide) (fun K hK => ?_)
                    refine goes_ Try.func16 (by kernel_rfl) rfl #[.agg #[.int .i64 a0_0, .int .i64 a0_1], .int .u64 t465] (by rfl) rfl rfl (by (try simp only [List.map_toArray, List.map_cons, List.map_nil]); first | done | rfl | (simp only [List.length_drop, List.length_take]; rfl)) ?_
                    with_reducible refine (round_Open.calls k a0_0 a0_1 t465 t466 t467 t468 t469 t470 _ A50.out).mono ?_
                    rintro e w105 ⟨rfl, hb⟩
                    refine ⟨_, rfl, ?_⟩
                    replace BK451 := zkb BK451 hb
                    replace BK457 := zkb BK457 hb
                    replace BK471 := zkb BK471 hb
                    replace HB := zbs HB hb
                    (try clear hb)
                    (try clear hb2)
                    (try clear hk)
                    (try clear hi)
                    refine hK.out _ _ ⟨(blk_cell BK451.out 0).trans rfl, (blk_cell BK451.out 1).trans rfl⟩ (fun hHeld => ?_)
                    clear hK K
                    refine norm_ (a' := ?_) ?_ ?_
                    rotate_left
                    · show Act.put _ (some 61) _ = _
                      simp only [Act.put, List.setIfInBounds_toArray, List.set_cons_zero, List.set_cons_succ, i64_w, i32_w]
                      rfl
                    refine zpure_ (i := 4) (N := some 57) #[true, true, true, true, true, false, false, true, false, false] (any_of HT_.out (by kernel_rfl)) ?_
                    refine zpure_ (i := 5) (N := some 62) #[true, true, true, true, true, true, false, true, false, false] (any_of HT_.out (by kernel_rfl)) ?_
                    refine zpure_ (i := 6) (N := some 63) #[true, true, true, true, true, true, true, true, false, false] (any_of HT_.out (by kernel_rfl)) ?_
                    exact norm_ (by simp only [putAll, Act.put, List.setIfInBounds_toArray, List.set_cons_zero, List.set_cons_succ]) (hCont (gb471) _ ⟨hHeld, (zk BK451), (zk BK457), (zk BK471), GW471.out, GE471.out, NB451_471.out, NB471_451.out, NB457_471.out, NB471_457.out, (zb HB)⟩)
                · skip
                  refine box_step ?hg (N := 7) ?hd (cs := #[.int .i64 0, .bool false, .int .i64 0, .int .u64 0]) (t := 42) ?hr ?_; (case hd => rfl); (case hg => rfl); (case hr => first | (go_simp; done) | (go_simp; rfl))
                  intro gb471 hg w103 hbox hb
                  have BK471 := Aside0.mk hbox
                  have GW471 := zge hg HB
                  have GE471 := zge hg HB
                  have NB451_471 := znl hg BK451
                  have NB471_451 := zng hg BK451
                  have NB457_471 := znl hg BK457
                  have NB471_457 := zng hg BK457
                  replace BK451 := zkb BK451 hb
                  replace BK457 := zkb BK457 hb
                  replace HB := zbs HB hb
                  clear hb hbox hg
                  refine hK.out _ _ ⟨(blk_cell BK451.out 0).trans rfl, (blk_cell BK451.out 1).trans rfl⟩ (fun hHeld => ?_)
                  clear hK K
                  refine norm_ (a' := ?_) ?_ ?_
                  rotate_left
                  · show Act.put _ (some 7) _ = _
                    simp only [Act.put, List.setIfInBounds_toArray, List.set_cons_zero, List.set_cons_succ, i64_w, i32_w]
                    rfl
                  refine one_ (i := 2) (N := some 60) #[true, true, true, false, false, false, false, true, false, false] rfl rfl (one_of HT_.out (by kernel_rfl)) (by decide) (fun K hK => ?_)
                  refine goes_ Try.func20 (by kernel_rfl) rfl #[.agg #[.int .i64 a0_0, .int .i64 a0_1]] (by rfl) rfl rfl (by (try simp only [List.map_toArray, List.map_cons, List.map_nil]); first | done | rfl | (simp only [List.length_drop, List.length_take]; rfl)) ?_
                  with_reducible refine (round_NaN.calls a0_0 a0_1 t465 _ A49.out).mono ?_
                  rintro e w104 ⟨rfl, hb⟩
                  refine ⟨_, rfl, ?_⟩
                  replace BK451 := zkb BK451 hb
                  replace BK457 := zkb BK457 hb
                  replace BK471 := zkb BK471 hb
                  replace HB := zbs HB hb
                  (try clear hb)
                  (try clear hb2)
                  (try clear hk)
                  (try clear hi)
                  refine hK.out _ _ ⟨(blk_cell BK451.out 0).trans rfl, (blk_cell BK451.out 1).trans rfl⟩ (fun hHeld => ?_)
                  clear hK K
                  refine norm_ (a' := ?_) ?_ ?_
                  rotate_left
                  · show Act.put _ (some 60) _ = _
                    simp only [Act.put, List.setIfInBounds_toArray, List.set_cons_zero, List.set_cons_succ, i64_w, i32_w]
                    rfl
                  refine one_ (i := 3) (N := some 61) #[true, true, true, true, false, false, false, true, false, false] rfl rfl (one_of HT_.out (by kernel_rfl)) (by decide) (fun K hK => ?_)
                  refine goes_ Try.func16 (by kernel_rfl) rfl #[.agg #[.int .i64 a0_0, .int .i64 a0_1], .int .u64 t465] (by rfl) rfl rfl (by (try simp only [List.map_toArray, List.map_cons, List.map_nil]); first | done | rfl | (simp only [List.length_drop, List.length_take]; rfl)) ?_
                  with_reducible refine (round_Open.calls k a0_0 a0_1 t465 t466 t467 t468 t469 t470 _ A50.out).mono ?_
                  rintro e w105 ⟨rfl, hb⟩
                  refine ⟨_, rfl, ?_⟩
                  replace BK451 := zkb BK451 hb
                  replace BK457 := zkb BK457 hb
                  replace BK471 := zkb BK471 hb
                  replace HB := zbs HB hb
                  (try clear hb)
                  (try clear hb2)
                  (try clear hk)
                  (try clear hi)
                  refine hK.out _ _ ⟨(blk_cell BK451.out 0).trans rfl, (blk_cell BK451.out 1).trans rfl⟩ (fun hHeld => ?_)
                  clear hK K
                  refine norm_ (a' := ?_) ?_ ?_
                  rotate_left
                  · show Act.put _ (some 61) _ = _
                    simp only [Act.put, List.setIfInBounds_toArray, List.set_cons_zero, List.set_cons_succ, i64_w, i32_w]
                    rfl
                  refine zpure_ (i := 4) (N := some 57) #[true, true, true, true, true, false, false, true, false, false] (any_of HT_.out (by kernel_rfl)) ?_
                  refine zpure_ (i := 5) (N := some 62) #[true, true, true, true, true, true, false, true, false, false] (any_of HT_.out (by kernel_rfl)) ?_
                  refine zpure_ (i := 6) (N := some 63) #[true, true, true, true, true, true, true, true, false, false] (any_of HT_.out (by kernel_rfl)) ?_
                  exact norm_ (by simp only [putAll, Act.put, List.setIfInBounds_toArray, List.set_cons_zero, List.set_cons_succ]) (hCont (gb471) _ ⟨hHeld, (zk BK451), (zk BK457), (zk BK471), GW471.out, GE471.out, NB451_471.out, NB471_451.out, NB457_471.out, NB471_457.out, (zb HB)⟩)
              rintro gb471 w106 ⟨hS_, h0_, h1_, h2_, h3_, h4_, h5_, h6_, h7_, h8_, h9_⟩
              have n0_ : Aside0 (w106.heap[gb451]? = some (.cells #[.int .i64 a0_0, .int .i64 a0_1] 23 (0, 0))) := ⟨h0_⟩
              have n1_ : Aside0 (w106.heap[gb457]? = some (.cells #[.int .i64 t452, .bool t453, .int .i64 t454, .int .u64 t455] 42 (0, 0))) := ⟨h1_⟩
              have n2_ : Aside0 (w106.heap[gb471]? = some (.cells #[.int .i64 0, .bool false, .int .i64 0, .int .u64 0] 42 (0, 0))) := ⟨h2_⟩
              have n3_ : Aside0 (w.heap.size ≤ gb471) := ⟨h3_⟩
              have n4_ : Aside0 (w.heap.size ≤ gb471) := ⟨h4_⟩
              have n5_ : Aside0 (gb451 ≠ gb471) := ⟨h5_⟩
              have n6_ : Aside0 (gb471 ≠ gb451) := ⟨h6_⟩
              have n7_ : Aside0 (gb457 ≠ gb471) := ⟨h7_⟩
              have n8_ : Aside0 (gb471 ≠ gb457) := ⟨h8_⟩
              have n9_ : Aside0 (Below w.heap.size w w106) := ⟨h9_⟩
              clear BK451
              clear BK457
              clear HB
              clear h0_ h1_ h2_ h3_ h4_ h5_ h6_ h7_ h8_ h9_
              have BK451 := n0_
              have BK457 := n1_
              have BK471 := n2_
              have GW471 := n3_
              have GE471 := n4_
              have NB451_471 := n5_
              have NB471_451 := n6_
              have NB457_471 := n7_
              have NB471_457 := n8_
              have HB := n9_
              clear n0_ n1_ n2_ n3_ n4_ n5_ n6_ n7_ n8_ n9_
              have hHeld : w106.cell? ⟨gb451, 0, none⟩ = some (.int .i64 a0_0) ∧ w106.cell? ⟨gb451, 1, none⟩ = some (.int .i64 a0_1) := hS_
              refine norm_ (a' := ?_) ?_ ?_
              rotate_left
              · simp only [putAll, Act.put, List.setIfInBounds_toArray, List.set_cons_zero, List.set_cons_succ]
                rfl
              refine one_ (i := 8) (N := none) #[true, true, true, true, true, true, true, true, true, false] rfl rfl (one_of HT_.out (by kernel_rfl)) (by decide) (fun K hK => ?_)
              have hs107 : w106.cell? ⟨gb471, 0, none⟩ = some (.int .i64 0) := (blk_cell BK471.out 0).trans rfl
              have hfs107 := blk_frozen BK471.out 0
              have hns107_0 := NB451_471.out
              have hns107_1 := NB457_471.out
              have hms107_0 := NB471_451.out
              have hms107_1 := NB471_457.out
              have hs108 : w106.cell? ⟨gb471, 1, none⟩ = some (.bool false) := (blk_cell BK471.out 1).trans rfl
              have hfs108 := blk_frozen BK471.out 1
              have hns108_0 := NB451_471.out
              have hns108_1 := NB457_471.out
              have hms108_0 := NB471_451.out
              have hms108_1 := NB471_457.out
              have hs109 : w106.cell? ⟨gb471, 2, none⟩ = some (.int .i64 0) := (blk_cell BK471.out 2).trans rfl
              have hfs109 := blk_frozen BK471.out 2
              have hns109_0 := NB451_471.out
              have hns109_1 := NB457_471.out
              have hms109_0 := NB471_451.out
              have hms109_1 := NB471_457.out
              have hs110 : w106.cell? ⟨gb471, 3, none⟩ = some (.int .u64 0) := (blk_cell BK471.out 3).trans rfl
              have hfs110 := blk_frozen BK471.out 3
              have hns110_0 := NB451_471.out
              have hns110_1 := NB457_471.out
              have hms110_0 := NB471_451.out
              have hms110_1 := NB471_457.out
              refine skip_ (w1 := ?_) (by rfl) rfl ?_ ?_
              rotate_left
              · go_simp
                rfl
              refine hK.out _ _ ⟨((cell_far (p := ⟨gb471, _, none⟩) NB451_471.out _).trans (((cell_far (p := ⟨gb471, _, none⟩) NB451_471.out _).trans (((cell_far (p := ⟨gb471, _, none⟩) NB451_471.out _).trans (((cell_far (p := ⟨gb471, _, none⟩) NB451_471.out _).trans (hHeld.1)))))))), ((cell_far (p := ⟨gb471, _, none⟩) NB451_471.out _).trans (((cell_far (p := ⟨gb471, _, none⟩) NB451_471.out _).trans (((cell_far (p := ⟨gb471, _, none⟩) NB451_471.out _).trans (((cell_far (p := ⟨gb471, _, none⟩) NB451_471.out _).trans (hHeld.2))))))))⟩ (fun hHeld => ?_)
              clear hK K
              refine zpure_ (i := 9) (N := some 8) #[true, true, true, true, true, true, true, true, true, true] (any_of HT_.out (by kernel_rfl)) ?_
              refine done_ (done_of HT_.out (by kernel_rfl)) ?_
              try go_wp2_with (first | ((with_reducible refine gate_callee (f := 12) rfl ?_); refine zgo (some 65) Try.func12 #[.int .i64 t470] ?_; (with_reducible refine (grottolaw02_num.calls t470 t472 _ A51.out).mono ?_); rintro e w' ⟨rfl, ⟨nd, rfl⟩⟩; refine ⟨_, rfl, ?_⟩; have hnb111 := NB471_451.out; have hnc111 := NB451_471.out; have hnb112 := NB471_457.out; have hnc112 := NB457_471.out; obtain ⟨hcz113_0, hcz113_1, hcz113_2, hcz113_3, hfz113_0, hfz113_1, hfz113_2, hfz113_3⟩ := zc4 BK471))
              go_ret
              exact ⟨by first | rfl | (simp [errW_none, errW_some] <;> rfl) | (simp [*, errW_none, errW_some] <;> rfl), zb HB⟩
          · rw [if_neg c52] at H
            have c52b0 : (t472 == 0) = false := beq_eq_false_iff_ne.mpr c52
            have c52b1 : (t472 != 0) = true := bne_iff_ne.mpr c52
            obtain rfl := Option.some.inj H
            go_enter Try.func9, Try.ntmps9
            try go_wp2_with (first | ((with_reducible refine gate_dst (N := 2) rfl ?_); refine zbox (N := 2) (cs := #[.int .i64 a0_0, .int .i64 a0_1]) (t := 23) ?_; intro gb451 hg w114 hbox hb; have BK451 := Aside0.mk hbox; have GW451 := zge hg HB; have GE451 := zge hg HB; replace HB := zbs HB hb; clear hb hbox hg; obtain ⟨hcz115_0, hcz115_1, hfz115_0, hfz115_1⟩ := zc2 BK451) | ((with_reducible refine gate_callee (f := 16) rfl ?_); refine zgo (some 14) Try.func16 #[.agg #[.int .i64 a0_0, .int .i64 a0_1], .int .u64 a1] ?_; (with_reducible refine (round_Open.calls k a0_0 a0_1 a1 t452 t453 t454 t455 t456 _ A3.out).mono ?_); rintro e w116 ⟨rfl, hb⟩; refine ⟨_, rfl, ?_⟩; replace BK451 := zkb BK451 hb; replace HB := zbs HB hb; (try clear hb); (try clear hb2); (try clear hk); (try clear hi)) | ((with_reducible refine gate_dst (N := 5) rfl ?_); refine zbox (N := 5) (cs := #[.int .i64 0, .bool false, .int .i64 0, .int .u64 0]) (t := 42) ?_; intro gb457 hg w117 hbox hb; have BK457 := Aside0.mk hbox; have GW457 := zge hg HB; have GE457 := zge hg HB; have NB451_457 := znl hg BK451; have NB457_451 := zng hg BK451; replace BK451 := zkb BK451 hb; replace HB := zbs HB hb; clear hb hbox hg; have hnb118 := NB457_451.out; have hnc118 := NB451_457.out; obtain ⟨hcz119_0, hcz119_1, hcz119_2, hcz119_3, hfz119_0, hfz119_1, hfz119_2, hfz119_3⟩ := zc4 BK457) | ((with_reducible refine gate_callee (f := 12) rfl ?_); refine zgo (some 18) Try.func12 #[.int .i64 t456] ?_; (with_reducible refine (grottolaw02_num.calls t456 t458 _ A4.out).mono ?_); rintro e w' ⟨rfl, ⟨nd, rfl⟩⟩; refine ⟨_, rfl, ?_⟩))
            have n0_ : Aside0 (((((w117.setCell ⟨gb457, 0, none⟩ (.int .i64 t452)).setCell ⟨gb457, 1, none⟩ (.bool t453)).setCell ⟨gb457, 2, none⟩ (.int .i64 t454)).setCell ⟨gb457, 3, none⟩ (.int .u64 t455)).heap[gb451]? = some (.cells #[.int .i64 a0_0, .int .i64 a0_1] 23 (0, 0))) := ⟨zk BK451⟩
            have n1_ : Aside0 (((((w117.setCell ⟨gb457, 0, none⟩ (.int .i64 t452)).setCell ⟨gb457, 1, none⟩ (.bool t453)).setCell ⟨gb457, 2, none⟩ (.int .i64 t454)).setCell ⟨gb457, 3, none⟩ (.int .u64 t455)).heap[gb457]? = some (.cells #[.int .i64 t452, .bool t453, .int .i64 t454, .int .u64 t455] 42 (0, 0))) := ⟨zkp BK457⟩
            have n2_ : Aside0 (Below w.heap.size w ((((w117.setCell ⟨gb457, 0, none⟩ (.int .i64 t452)).setCell ⟨gb457, 1, none⟩ (.bool t453)).setCell ⟨gb457, 2, none⟩ (.int .i64 t454)).setCell ⟨gb457, 3, none⟩ (.int .u64 t455))) := ⟨zb HB⟩
            (try clear BK451)
            (try clear BK457)
            (try clear HB)
            generalize ((((w117.setCell ⟨gb457, 0, none⟩ (.int .i64 t452)).setCell ⟨gb457, 1, none⟩ (.bool t453)).setCell ⟨gb457, 2, none⟩ (.int .i64 t454)).setCell ⟨gb457, 3, none⟩ (.int .u64 t455)) = w120 at n0_ n1_ n2_ ⊢
            have BK451 := n0_
            have BK457 := n1_
            have HB := n2_
            clear n0_ n1_ n2_
            (try (rw [drewN_self w120]; generalize hq_ : World.drewN w120 _ = w120; have n0_ : Aside0 (w120.heap[gb451]? = some (.cells #[.int .i64 a0_0, .int .i64 a0_1] 23 (0, 0))) := ⟨by rw [← hq_]; exact (zk BK451)⟩; have n1_ : Aside0 (w120.heap[gb457]? = some (.cells #[.int .i64 t452, .bool t453, .int .i64 t454, .int .u64 t455] 42 (0, 0))) := ⟨by rw [← hq_]; exact (zk BK457)⟩; have n2_ : Aside0 (Below w.heap.size w w120) := ⟨by rw [← hq_]; exact (zb HB)⟩; clear BK451 BK457 HB hq_; have BK451 := n0_; have BK457 := n1_; have HB := n2_; clear n0_ n1_ n2_; obtain ⟨y451_0, y451_1, y451_2, y451_3⟩ := zc2 BK451; obtain ⟨y457_0, y457_1, y457_2, y457_3, y457_4, y457_5, y457_6, y457_7⟩ := zc4 BK457))
            replace BK451 := Aside0.mk (blk_drew BK451.out)
            replace BK457 := Aside0.mk (blk_drew BK457.out)
            replace HB := Aside0.mk (below_drew1 HB.out)
            refine start_ (n := 10) (S := fun w' => w'.cell? ⟨gb451, 0, none⟩ = some (.int .i64 a0_0) ∧ w'.cell? ⟨gb451, 1, none⟩ = some (.int .i64 a0_1)) (ds := []) #[false, false, false, false, false, false, false, false, false, false] (by kernel_rfl) rfl rfl ⟨(blk_cell BK451.out 0).trans rfl, (blk_cell BK451.out 1).trans rfl⟩ (fun hHeld => ?_); refine with_tabW grottolaw02_RoundBack.tab10 grottolaw02_RoundBack.bits10 (fun HT_ HW_ => ?_)
            generalize w120.drew = w121 at BK451 BK457 HB hHeld ⊢
            refine ztake_ (i := 0) (N := some 58) #[true, false, false, false, false, false, false, false, false, false] rfl (take_ofW HT_.out HW_.out (by kernel_rfl)) hHeld (Or.inl ⟨by rfl, by rintro w' ⟨s0, s1⟩; go_simp; with_reducible rfl⟩) ?_
            refine ztake_ (i := 1) (N := some 59) #[true, true, false, false, false, false, false, false, false, false] rfl (take_ofW HT_.out HW_.out (by kernel_rfl)) hHeld (Or.inl ⟨by rfl, by rintro w' ⟨s0, s1⟩; go_simp; with_reducible rfl⟩) ?_
            refine join_ (σ := Nat) 2 #[true, true, true, true, true, true, true, true, false, false] (fun s_ => [(60, .int .u64 t465), (61, .tuple #[.agg #[.int .i64 t466, .bool t467, .int .i64 t468, .int .u64 t469], .int .i64 t470]), (7, .pointer (some ⟨s_, 0, none⟩)), (57, .tuple #[.agg #[.int .i64 t466, .bool t467, .int .i64 t468, .int .u64 t469], .int .i64 t470]), (62, .agg #[.int .i64 t466, .bool t467, .int .i64 t468, .int .u64 t469]), (63, .int .i64 t470)]) (fun s_ w' => (w'.cell? ⟨gb451, 0, none⟩ = some (.int .i64 a0_0) ∧ w'.cell? ⟨gb451, 1, none⟩ = some (.int .i64 a0_1)) ∧ (w'.heap[gb451]? = some (.cells #[.int .i64 a0_0, .int .i64 a0_1] 23 (0, 0))) ∧ (w'.heap[gb457]? = some (.cells #[.int .i64 t452, .bool t453, .int .i64 t454, .int .u64 t455] 42 (0, 0))) ∧ (w'.heap[s_]? = some (.cells #[.int .i64 0, .bool false, .int .i64 0, .int .u64 0] 42 (0, 0))) ∧ (w.heap.size ≤ s_) ∧ (w.heap.size ≤ s_) ∧ (gb451 ≠ s_) ∧ (s_ ≠ gb451) ∧ (gb457 ≠ s_) ∧ (s_ ≠ gb457) ∧ (Below w.heap.size w w')) ?_ ?_
            rotate_left
            · intro hCont
              refine two_ (i := 2) (j := 7) (Ni := some 60) (Nj := some 7) #[true, true, true, false, false, false, false, false, false, false] #[true, true, false, false, false, false, false, true, false, false] rfl rfl rfl rfl (two_of HT_.out (by kernel_rfl)) (by decide) (by decide) (fun K hK => ?_) (fun K hK => ?_)
              · skip
                refine goes_ Try.func20 (by kernel_rfl) rfl #[.agg #[.int .i64 a0_0, .int .i64 a0_1]] (by rfl) rfl rfl (by (try simp only [List.map_toArray, List.map_cons, List.map_nil]); first | done | rfl | (simp only [List.length_drop, List.length_take]; rfl)) ?_
                with_reducible refine (round_NaN.calls a0_0 a0_1 t465 _ A49.out).mono ?_
                rintro e w122 ⟨rfl, hb⟩
                refine ⟨_, rfl, ?_⟩
                replace BK451 := zkb BK451 hb
                replace BK457 := zkb BK457 hb
                replace HB := zbs HB hb
                (try clear hb)
                (try clear hb2)
                (try clear hk)
                (try clear hi)
                refine hK.out _ _ ⟨(blk_cell BK451.out 0).trans rfl, (blk_cell BK451.out 1).trans rfl⟩ (fun hHeld => ?_)
                clear hK K
                refine norm_ (a' := ?_) ?_ ?_
                rotate_left
                · show Act.put _ (some 60) _ = _
                  simp only [Act.put, List.setIfInBounds_toArray, List.set_cons_zero, List.set_cons_succ, i64_w, i32_w]
                  rfl
                refine two_ (i := 3) (j := 7) (Ni := some 61) (Nj := some 7) #[true, true, true, true, false, false, false, false, false, false] #[true, true, true, false, false, false, false, true, false, false] rfl rfl rfl rfl (two_of HT_.out (by kernel_rfl)) (by decide) (by decide) (fun K hK => ?_) (fun K hK => ?_)
                · skip
                  refine goes_ Try.func16 (by kernel_rfl) rfl #[.agg #[.int .i64 a0_0, .int .i64 a0_1], .int .u64 t465] (by rfl) rfl rfl (by (try simp only [List.map_toArray, List.map_cons, List.map_nil]); first | done | rfl | (simp only [List.length_drop, List.length_take]; rfl)) ?_
                  with_reducible refine (round_Open.calls k a0_0 a0_1 t465 t466 t467 t468 t469 t470 _ A50.out).mono ?_
                  rintro e w123 ⟨rfl, hb⟩
                  refine ⟨_, rfl, ?_⟩
                  replace BK451 := zkb BK451 hb
                  replace BK457 := zkb BK457 hb
                  replace HB := zbs HB hb
                  (try clear hb)
                  (try clear hb2)
                  (try clear hk)
                  (try clear hi)
                  refine hK.out _ _ ⟨(blk_cell BK451.out 0).trans rfl, (blk_cell BK451.out 1).trans rfl⟩ (fun hHeld => ?_)
                  clear hK K
                  refine norm_ (a' := ?_) ?_ ?_
                  rotate_left
                  · show Act.put _ (some 61) _ = _
                    simp only [Act.put, List.setIfInBounds_toArray, List.set_cons_zero, List.set_cons_succ, i64_w, i32_w]
                    rfl
                  refine zpure_ (i := 4) (N := some 57) #[true, true, true, true, true, false, false, false, false, false] (any_of HT_.out (by kernel_rfl)) ?_
                  refine zpure_ (i := 5) (N := some 62) #[true, true, true, true, true, true, false, false, false, false] (any_of HT_.out (by kernel_rfl)) ?_
                  refine zpure_ (i := 6) (N := some 63) #[true, true, true, true, true, true, true, false, false, false] (any_of HT_.out (by kernel_rfl)) ?_
                  refine one_ (i := 7) (N := some 7) #[true, true, true, true, true, true, true, true, false, false] rfl rfl (one_of HT_.out (by kernel_rfl)) (by decide) (fun K hK => ?_)
                  refine box_step ?hg (N := 7) ?hd (cs := #[.int .i64 0, .bool false, .int .i64 0, .int .u64 0]) (t := 42) ?hr ?_; (case hd => rfl); (case hg => rfl); (case hr => first | (go_simp; done) | (go_simp; rfl))
                  intro gb471 hg w124 hbox hb
                  have BK471 := Aside0.mk hbox
                  have GW471 := zge hg HB
                  have GE471 := zge hg HB
                  have NB451_471 := znl hg BK451
                  have NB471_451 := zng hg BK451
                  have NB457_471 := znl hg BK457
                  have NB471_457 := zng hg BK457
                  replace BK451 := zkb BK451 hb
                  replace BK457 := zkb BK457 hb
                  replace HB := zbs HB hb
                  clear hb hbox hg
                  refine hK.out _ _ ⟨(blk_cell BK451.out 0).trans rfl, (blk_cell BK451.out 1).trans rfl⟩ (fun hHeld => ?_)
                  clear hK K
                  refine norm_ (a' := ?_) ?_ ?_
                  rotate_left
                  · show Act.put _ (some 7) _ = _
                    simp only [Act.put, List.setIfInBounds_toArray, List.set_cons_zero, List.set_cons_succ, i64_w, i32_w]
                    rfl
                  exact norm_ (by simp only [putAll, Act.put, List.setIfInBounds_toArray, List.set_cons_zero, List.set_cons_succ]) (hCont (gb471) _ ⟨hHeld, (zk BK451), (zk BK457), (zk BK471), GW471.out, GE471.out, NB451_471.out, NB471_451.out, NB457_471.out, NB471_457.out, (zb HB)⟩)
                · skip
                  refine box_step ?hg (N := 7) ?hd (cs := #[.int .i64 0, .bool false, .int .i64 0, .int .u64 0]) (t := 42) ?hr ?_; (case hd => rfl); (case hg => rfl); (case hr => first | (go_simp; done) | (go_simp; rfl))
                  intro gb471 hg w123 hbox hb
                  have BK471 := Aside0.mk hbox
                  have GW471 := zge hg HB
                  have GE471 := zge hg HB
                  have NB451_471 := znl hg BK451
                  have NB471_451 := zng hg BK451
                  have NB457_471 := znl hg BK457
                  have NB471_457 := zng hg BK457
                  replace BK451 := zkb BK451 hb
                  replace BK457 := zkb BK457 hb
                  replace HB := zbs HB hb
                  clear hb hbox hg
                  refine hK.out _ _ ⟨(blk_cell BK451.out 0).trans rfl, (blk_cell BK451.out 1).trans rfl⟩ (fun hHeld => ?_)
                  clear hK K
                  refine norm_ (a' := ?_) ?_ ?_
                  rotate_left
                  · show Act.put _ (some 7) _ = _
                    simp only [Act.put, List.setIfInBounds_toArray, List.set_cons_zero, List.set_cons_succ, i64_w, i32_w]
                    rfl
                  refine one_ (i := 3) (N := some 61) #[true, true, true, true, false, false, false, true, false, false] rfl rfl (one_of HT_.out (by kernel_rfl)) (by decide) (fun K hK => ?_)
                  refine goes_ Try.func16 (by kernel_rfl) rfl #[.agg #[.int .i64 a0_0, .int .i64 a0_1], .int .u64 t465] (by rfl) rfl rfl (by (try simp only [List.map_toArray, List.map_cons, List.map_nil]); first | done | rfl | (simp only [List.length_drop, List.length_take]; rfl)) ?_
                  with_reducible refine (round_Open.calls k a0_0 a0_1 t465 t466 t467 t468 t469 t470 _ A50.out).mono ?_
                  rintro e w124 ⟨rfl, hb⟩
                  refine ⟨_, rfl, ?_⟩
                  replace BK451 := zkb BK451 hb
                  replace BK457 := zkb BK457 hb
                  replace BK471 := zkb BK471 hb
                  replace HB := zbs HB hb
                  (try clear hb)
                  (try clear hb2)
                  (try clear hk)
                  (try clear hi)
                  refine hK.out _ _ ⟨(blk_cell BK451.out 0).trans rfl, (blk_cell BK451.out 1).trans rfl⟩ (fun hHeld => ?_)
                  clear hK K
                  refine norm_ (a' := ?_) ?_ ?_
                  rotate_left
                  · show Act.put _ (some 61) _ = _
                    simp only [Act.put, List.setIfInBounds_toArray, List.set_cons_zero, List.set_cons_succ, i64_w, i32_w]
                    rfl
                  refine zpure_ (i := 4) (N := some 57) #[true, true, true, true, true, false, false, true, false, false] (any_of HT_.out (by kernel_rfl)) ?_
                  refine zpure_ (i := 5) (N := some 62) #[true, true, true, true, true, true, false, true, false, false] (any_of HT_.out (by kernel_rfl)) ?_
                  refine zpure_ (i := 6) (N := some 63) #[true, true, true, true, true, true, true, true, false, false] (any_of HT_.out (by kernel_rfl)) ?_
                  exact norm_ (by simp only [putAll, Act.put, List.setIfInBounds_toArray, List.set_cons_zero, List.set_cons_succ]) (hCont (gb471) _ ⟨hHeld, (zk BK451), (zk BK457), (zk BK471), GW471.out, GE471.out, NB451_471.out, NB471_451.out, NB457_471.out, NB471_457.out, (zb HB)⟩)
              · skip
                refine box_step ?hg (N := 7) ?hd (cs := #[.int .i64 0, .bool false, .int .i64 0, .int .u64 0]) (t := 42) ?hr ?_; (case hd => rfl); (case hg => rfl); (case hr => first | (go_simp; done) | (go_simp; rfl))
                intro gb471 hg w122 hbox hb
                have BK471 := Aside0.mk hbox
                have GW471 := zge hg HB
                have GE471 := zge hg HB
                have NB451_471 := znl hg BK451
                have NB471_451 := zng hg BK451
                have NB457_471 := znl hg BK457
                have NB471_457 := zng hg BK457
                replace BK451 := zkb BK451 hb
                replace BK457 := zkb BK457 hb
                replace HB := zbs HB hb
                clear hb hbox hg
                refine hK.out _ _ ⟨(blk_cell BK451.out 0).trans rfl, (blk_cell BK451.out 1).trans rfl⟩ (fun hHeld => ?_)
                clear hK K
                refine norm_ (a' := ?_) ?_ ?_
                rotate_left
                · show Act.put _ (some 7) _ = _
                  simp only [Act.put, List.setIfInBounds_toArray, List.set_cons_zero, List.set_cons_succ, i64_w, i32_w]
                  rfl
                refine one_ (i := 2) (N := some 60) #[true, true, true, false, false, false, false, true, false, false] rfl rfl (one_of HT_.out (by kernel_rfl)) (by decide) (fun K hK => ?_)
                refine goes_ Try.func20 (by kernel_rfl) rfl #[.agg #[.int .i64 a0_0, .int .i64 a0_1]] (by rfl) rfl rfl (by (try simp only [List.map_toArray, List.map_cons, List.map_nil]); first | done | rfl | (simp only [List.length_drop, List.length_take]; rfl)) ?_
                with_reducible refine (round_NaN.calls a0_0 a0_1 t465 _ A49.out).mono ?_
                rintro e w123 ⟨rfl, hb⟩
                refine ⟨_, rfl, ?_⟩
                replace BK451 := zkb BK451 hb
                replace BK457 := zkb BK457 hb
                replace BK471 := zkb BK471 hb
                replace HB := zbs HB hb
                (try clear hb)
                (try clear hb2)
                (try clear hk)
                (try clear hi)
                refine hK.out _ _ ⟨(blk_cell BK451.out 0).trans rfl, (blk_cell BK451.out 1).trans rfl⟩ (fun hHeld => ?_)
                clear hK K
                refine norm_ (a' := ?_) ?_ ?_
                rotate_left
                · show Act.put _ (some 60) _ = _
                  simp only [Act.put, List.setIfInBounds_toArray, List.set_cons_zero, List.set_cons_succ, i64_w, i32_w]
                  rfl
                refine one_ (i := 3) (N := some 61) #[true, true, true, true, false, false, false, true, false, false] rfl rfl (one_of HT_.out (by kernel_rfl)) (by decide) (fun K hK => ?_)
                refine goes_ Try.func16 (by kernel_rfl) rfl #[.agg #[.int .i64 a0_0, .int .i64 a0_1], .int .u64 t465] (by rfl) rfl rfl (by (try simp only [List.map_toArray, List.map_cons, List.map_nil]); first | done | rfl | (simp only [List.length_drop, List.length_take]; rfl)) ?_
                with_reducible refine (round_Open.calls k a0_0 a0_1 t465 t466 t467 t468 t469 t470 _ A50.out).mono ?_
                rintro e w124 ⟨rfl, hb⟩
                refine ⟨_, rfl, ?_⟩
                replace BK451 := zkb BK451 hb
                replace BK457 := zkb BK457 hb
                replace BK471 := zkb BK471 hb
                replace HB := zbs HB hb
                (try clear hb)
                (try clear hb2)
                (try clear hk)
                (try clear hi)
                refine hK.out _ _ ⟨(blk_cell BK451.out 0).trans rfl, (blk_cell BK451.out 1).trans rfl⟩ (fun hHeld => ?_)
                clear hK K
                refine norm_ (a' := ?_) ?_ ?_
                rotate_left
                · show Act.put _ (some 61) _ = _
                  simp only [Act.put, List.setIfInBounds_toArray, List.set_cons_zero, List.set_cons_succ, i64_w, i32_w]
                  rfl
                refine zpure_ (i := 4) (N := some 57) #[true, true, true, true, true, false, false, true, false, false] (any_of HT_.out (by kernel_rfl)) ?_
                refine zpure_ (i := 5) (N := some 62) #[true, true, true, true, true, true, false, true, false, false] (any_of HT_.out (by kernel_rfl)) ?_
                refine zpure_ (i := 6) (N := some 63) #[true, true, true, true, true, true, true, true, false, false] (any_of HT_.out (by kernel_rfl)) ?_
                exact norm_ (by simp only [putAll, Act.put, List.setIfInBounds_toArray, List.set_cons_zero, List.set_cons_succ]) (hCont (gb471) _ ⟨hHeld, (zk BK451), (zk BK457), (zk BK471), GW471.out, GE471.out, NB451_471.out, NB471_451.out, NB457_471.out, NB471_457.out, (zb HB)⟩)
            rintro gb471 w125 ⟨hS_, h0_, h1_, h2_, h3_, h4_, h5_, h6_, h7_, h8_, h9_⟩
            have n0_ : Aside0 (w125.heap[gb451]? = some (.cells #[.int .i64 a0_0, .int .i64 a0_1] 23 (0, 0))) := ⟨h0_⟩
            have n1_ : Aside0 (w125.heap[gb457]? = some (.cells #[.int .i64 t452, .bool t453, .int .i64 t454, .int .u64 t455] 42 (0, 0))) := ⟨h1_⟩
            have n2_ : Aside0 (w125.heap[gb471]? = some (.cells #[.int .i64 0, .bool false, .int .i64 0, .int .u64 0] 42 (0, 0))) := ⟨h2_⟩
            have n3_ : Aside0 (w.heap.size ≤ gb471) := ⟨h3_⟩
            have n4_ : Aside0 (w.heap.size ≤ gb471) := ⟨h4_⟩
            have n5_ : Aside0 (gb451 ≠ gb471) := ⟨h5_⟩
            have n6_ : Aside0 (gb471 ≠ gb451) := ⟨h6_⟩
            have n7_ : Aside0 (gb457 ≠ gb471) := ⟨h7_⟩
            have n8_ : Aside0 (gb471 ≠ gb457) := ⟨h8_⟩
            have n9_ : Aside0 (Below w.heap.size w w125) := ⟨h9_⟩
            clear BK451
            clear BK457
            clear HB
            clear h0_ h1_ h2_ h3_ h4_ h5_ h6_ h7_ h8_ h9_
            have BK451 := n0_
            have BK457 := n1_
            have BK471 := n2_
            have GW471 := n3_
            have GE471 := n4_
            have NB451_471 := n5_
            have NB471_451 := n6_
            have NB457_471 := n7_
            have NB471_457 := n8_
            have HB := n9_
            clear n0_ n1_ n2_ n3_ n4_ n5_ n6_ n7_ n8_ n9_
            have hHeld : w125.cell? ⟨gb451, 0, none⟩ = some (.int .i64 a0_0) ∧ w125.cell? ⟨gb451, 1, none⟩ = some (.int .i64 a0_1) := hS_
            refine norm_ (a' := ?_) ?_ ?_
            rotate_left
            · simp only [putAll, Act.put, List.setIfInBounds_toArray, List.set_cons_zero, List.set_cons_succ]
              rfl
            refine one_ (i := 8) (N := none) #[true, true, true, true, true, true, true, true, true, false] rfl rfl (one_of HT_.out (by kernel_rfl)) (by decide) (fun K hK => ?_)
            have hs126 : w125.cell? ⟨gb471, 0, none⟩ = some (.int .i64 0) := (blk_cell BK471.out 0).trans rfl
            have hfs126 := blk_frozen BK471.out 0
            have hns126_0 := NB451_471.out
            have hns126_1 := NB457_471.out
            have hms126_0 := NB471_451.out
            have hms126_1 := NB471_457.out
            have hs127 : w125.cell? ⟨gb471, 1, none⟩ = some (.bool false) := (blk_cell BK471.out 1).trans rfl
            have hfs127 := blk_frozen BK471.out 1
            have hns127_0 := NB451_471.out
            have hns127_1 := NB457_471.out
            have hms127_0 := NB471_451.out
            have hms127_1 := NB471_457.out
            have hs128 : w125.cell? ⟨gb471, 2, none⟩ = some (.int .i64 0) := (blk_cell BK471.out 2).trans rfl
            have hfs128 := blk_frozen BK471.out 2
            have hns128_0 := NB451_471.out
            have hns128_1 := NB457_471.out
            have hms128_0 := NB471_451.out
            have hms128_1 := NB471_457.out
            have hs129 : w125.cell? ⟨gb471, 3, none⟩ = some (.int .u64 0) := (blk_cell BK471.out 3).trans rfl
            have hfs129 := blk_frozen BK471.out 3
            have hns129_0 := NB451_471.out
            have hns129_1 := NB457_471.out
            have hms129_0 := NB471_451.out
            have hms129_1 := NB471_457.out
            refine skip_ (w1 := ?_) (by rfl) rfl ?_ ?_
            rotate_left
            · go_simp
              rfl
            refine hK.out _ _ ⟨((cell_far (p := ⟨gb471, _, none⟩) NB451_471.out _).trans (((cell_far (p := ⟨gb471, _, none⟩) NB451_471.out _).trans (((cell_far (p := ⟨gb471, _, none⟩) NB451_471.out _).trans (((cell_far (p := ⟨gb471, _, none⟩) NB451_471.out _).trans (hHeld.1)))))))), ((cell_far (p := ⟨gb471, _, none⟩) NB451_471.out _).trans (((cell_far (p := ⟨gb471, _, none⟩) NB451_471.out _).trans (((cell_far (p := ⟨gb471, _, none⟩) NB451_471.out _).trans (((cell_far (p := ⟨gb471, _, none⟩) NB451_471.out _).trans (hHeld.2))))))))⟩ (fun hHeld => ?_)
            clear hK K
            refine zpure_ (i := 9) (N := some 8) #[true, true, true, true, true, true, true, true, true, true] (any_of HT_.out (by kernel_rfl)) ?_
            refine done_ (done_of HT_.out (by kernel_rfl)) ?_
            try go_wp2_with (first | ((with_reducible refine gate_callee (f := 12) rfl ?_); refine zgo (some 65) Try.func12 #[.int .i64 t470] ?_; (with_reducible refine (grottolaw02_num.calls t470 t472 _ A51.out).mono ?_); rintro e w' ⟨rfl, ⟨nd, rfl⟩⟩; refine ⟨_, rfl, ?_⟩))
            go_ret
            exact ⟨by first | rfl | (simp [errW_none, errW_some] <;> rfl) | (simp [*, errW_none, errW_some] <;> rfl), zb HB⟩
        · rw [if_neg c48] at H
          have c48b0 : (t452 == 4) = false := beq_eq_false_iff_ne.mpr c48
          have c48b1 : (t452 != 4) = true := bne_iff_ne.mpr c48
          by_cases c130 : t452 = 2
          · rw [if_pos c130] at H
            have c130b0 : (t452 == 2) = true := beq_iff_eq.mpr c130
            have c130b1 : (t452 != 2) = false := bne_eq_false_iff_eq.mpr c130
            clear c130
            replace H := Option.bind_eq_some_iff.mp H
            obtain ⟨⟨t474, t475⟩, A1310, H⟩ := H
            replace H : ((grottolaw02_num.f t475).bind fun t476 => (if t476 = 0 then (if a1 = t474 then (if t455 > 0 then ((grottolaw02_live.f k).bind fun t477 => (some t477)) else (some false)) else (some false)) else (some false))) = some r := H
            have A131 := Aside0.mk A1310
            clear A1310
            replace H := Option.bind_eq_some_iff.mp H
            obtain ⟨t476, A1320, H⟩ := H
            replace H : (if t476 = 0 then (if a1 = t474 then (if t455 > 0 then ((grottolaw02_live.f k).bind fun t477 => (some t477)) else (some false)) else (some false)) else (some false)) = some r := H
            have A132 := Aside0.mk A1320
            clear A1320
            by_cases c133 : t476 = 0
            · rw [if_pos c133] at H
              have c133b0 : (t476 == 0) = true := beq_iff_eq.mpr c133
              have c133b1 : (t476 != 0) = false := bne_eq_false_iff_eq.mpr c133
              clear c133
              by_cases c134 : a1 = t474
              · rw [if_pos c134] at H
                have c134b0 : (a1 == t474) = true := beq_iff_eq.mpr c134
                have c134b1 : (a1 != t474) = false := bne_eq_false_iff_eq.mpr c134
                clear c134
                by_cases c135 : t455 > 0
                · rw [if_pos c135] at H
                  have c135b0 : decide (0 < t455) = true := decide_eq_true c135
                  clear c135
                  replace H := Option.bind_eq_some_iff.mp H
                  obtain ⟨t477, A1360, H⟩ := H
                  replace H : (some t477) = some r := H
                  have A136 := Aside0.mk A1360
                  clear A1360
                  obtain rfl := Option.some.inj H
                  go_enter Try.func9, Try.ntmps9
                  go_wp2_with (first | ((with_reducible refine gate_dst (N := 2) rfl ?_); refine zbox (N := 2) (cs := #[.int .i64 a0_0, .int .i64 a0_1]) (t := 23) ?_; intro gb451 hg w137 hbox hb; have BK451 := Aside0.mk hbox; have GW451 := zge hg HB; have GE451 := zge hg HB; replace HB := zbs HB hb; clear hb hbox hg; obtain ⟨hcz138_0, hcz138_1, hfz138_0, hfz138_1⟩ := zc2 BK451) | ((with_reducible refine gate_callee (f := 16) rfl ?_); refine zgo (some 14) Try.func16 #[.agg #[.int .i64 a0_0, .int .i64 a0_1], .int .u64 a1] ?_; (with_reducible refine (round_Open.calls k a0_0 a0_1 a1 t452 t453 t454 t455 t456 _ A3.out).mono ?_); rintro e w139 ⟨rfl, hb⟩; refine ⟨_, rfl, ?_⟩; replace BK451 := zkb BK451 hb; replace HB := zbs HB hb; (try clear hb); (try clear hb2); (try clear hk); (try clear hi)) | ((with_reducible refine gate_dst (N := 5) rfl ?_); refine zbox (N := 5) (cs := #[.int .i64 0, .bool false, .int .i64 0, .int .u64 0]) (t := 42) ?_; intro gb457 hg w140 hbox hb; have BK457 := Aside0.mk hbox; have GW457 := zge hg HB; have GE457 := zge hg HB; have NB451_457 := znl hg BK451; have NB457_451 := zng hg BK451; replace BK451 := zkb BK451 hb; replace HB := zbs HB hb; clear hb hbox hg; have hnb141 := NB457_451.out; have hnc141 := NB451_457.out; obtain ⟨hcz142_0, hcz142_1, hcz142_2, hcz142_3, hfz142_0, hfz142_1, hfz142_2, hfz142_3⟩ := zc4 BK457) | ((with_reducible refine gate_callee (f := 12) rfl ?_); refine zgo (some 18) Try.func12 #[.int .i64 t456] ?_; (with_reducible refine (grottolaw02_num.calls t456 t458 _ A4.out).mono ?_); rintro e w' ⟨rfl, ⟨nd, rfl⟩⟩; refine ⟨_, rfl, ?_⟩; obtain ⟨hcz143_0, hcz143_1, hfz143_0, hfz143_1⟩ := zc2 BK451) | ((with_reducible refine gate_callee (f := 10) rfl ?_); refine zgo (some 90) Try.func10 #[.agg #[.int .i64 a0_0, .int .i64 a0_1], .bool t453, .int .u64 0, .int .u64 t455, .int .i64 t454, .bool false] ?_; (with_reducible refine (round_Pack.calls k a0_0 a0_1 t453 0 t455 t454 false t474 t475 _ A131.out).mono ?_); rintro e w144 ⟨rfl, hb⟩; refine ⟨_, rfl, ?_⟩; replace BK451 := zkb BK451 hb; replace BK457 := zkbo (o := .cells #[.int .i64 t452, .bool t453, .int .i64 t454, .int .u64 t455] 42 (0, 0)) BK457 hb; replace HB := zbs HB hb; (try clear hb); (try clear hb2); (try clear hk); (try clear hi)) | ((with_reducible refine gate_callee (f := 12) rfl ?_); refine zgo (some 94) Try.func12 #[.int .i64 t475] ?_; (with_reducible refine (grottolaw02_num.calls t475 t476 _ A132.out).mono ?_); rintro e w' ⟨rfl, ⟨nd, rfl⟩⟩; refine ⟨_, rfl, ?_⟩; obtain ⟨hcz145_0, hcz145_1, hcz145_2, hcz145_3, hfz145_0, hfz145_1, hfz145_2, hfz145_3⟩ := zc4 BK457) | (go_at_call 13; (with_reducible refine (grottolaw02_live.calls k  t477 _ A136.out).mono ?_); rintro e w146 ⟨rfl, hb⟩; replace BK451 := zkb BK451 hb; replace BK457 := zkb BK457 hb; replace HB := zbs HB hb; (try clear hb); (try clear hb2); (try clear hk); (try clear hi)))
                  go_ret
                  exact ⟨by first | rfl | (simp [errW_none, errW_some] <;> rfl) | (simp [*, errW_none, errW_some] <;> rfl), zb HB⟩
                · rw [if_neg c135] at H
                  have c135b0 : decide (0 < t455) = false := decide_eq_false c135
                  clear c135
                  obtain rfl := Option.some.inj H
                  go_enter Try.func9, Try.ntmps9
                  go_wp2_with (first | ((with_reducible refine gate_dst (N := 2) rfl ?_); refine zbox (N := 2) (cs := #[.int .i64 a0_0, .int .i64 a0_1]) (t := 23) ?_; intro gb451 hg w147 hbox hb; have BK451 := Aside0.mk hbox; have GW451 := zge hg HB; have GE451 := zge hg HB; replace HB := zbs HB hb; clear hb hbox hg; obtain ⟨hcz148_0, hcz148_1, hfz148_0, hfz148_1⟩ := zc2 BK451) | ((with_reducible refine gate_callee (f := 16) rfl ?_); refine zgo (some 14) Try.func16 #[.agg #[.int .i64 a0_0, .int .i64 a0_1], .int .u64 a1] ?_; (with_reducible refine (round_Open.calls k a0_0 a0_1 a1 t452 t453 t454 t455 t456 _ A3.out).mono ?_); rintro e w149 ⟨rfl, hb⟩; refine ⟨_, rfl, ?_⟩; replace BK451 := zkb BK451 hb; replace HB := zbs HB hb; (try clear hb); (try clear hb2); (try clear hk); (try clear hi)) | ((with_reducible refine gate_dst (N := 5) rfl ?_); refine zbox (N := 5) (cs := #[.int .i64 0, .bool false, .int .i64 0, .int .u64 0]) (t := 42) ?_; intro gb457 hg w150 hbox hb; have BK457 := Aside0.mk hbox; have GW457 := zge hg HB; have GE457 := zge hg HB; have NB451_457 := znl hg BK451; have NB457_451 := zng hg BK451; replace BK451 := zkb BK451 hb; replace HB := zbs HB hb; clear hb hbox hg; have hnb151 := NB457_451.out; have hnc151 := NB451_457.out; obtain ⟨hcz152_0, hcz152_1, hcz152_2, hcz152_3, hfz152_0, hfz152_1, hfz152_2, hfz152_3⟩ := zc4 BK457) | ((with_reducible refine gate_callee (f := 12) rfl ?_); refine zgo (some 18) Try.func12 #[.int .i64 t456] ?_; (with_reducible refine (grottolaw02_num.calls t456 t458 _ A4.out).mono ?_); rintro e w' ⟨rfl, ⟨nd, rfl⟩⟩; refine ⟨_, rfl, ?_⟩; obtain ⟨hcz153_0, hcz153_1, hfz153_0, hfz153_1⟩ := zc2 BK451) | ((with_reducible refine gate_callee (f := 10) rfl ?_); refine zgo (some 90) Try.func10 #[.agg #[.int .i64 a0_0, .int .i64 a0_1], .bool t453, .int .u64 0, .int .u64 t455, .int .i64 t454, .bool false] ?_; (with_reducible refine (round_Pack.calls k a0_0 a0_1 t453 0 t455 t454 false t474 t475 _ A131.out).mono ?_); rintro e w154 ⟨rfl, hb⟩; refine ⟨_, rfl, ?_⟩; replace BK451 := zkb BK451 hb; replace BK457 := zkbo (o := .cells #[.int .i64 t452, .bool t453, .int .i64 t454, .int .u64 t455] 42 (0, 0)) BK457 hb; replace HB := zbs HB hb; (try clear hb); (try clear hb2); (try clear hk); (try clear hi)) | ((with_reducible refine gate_callee (f := 12) rfl ?_); refine zgo (some 94) Try.func12 #[.int .i64 t475] ?_; (with_reducible refine (grottolaw02_num.calls t475 t476 _ A132.out).mono ?_); rintro e w' ⟨rfl, ⟨nd, rfl⟩⟩; refine ⟨_, rfl, ?_⟩; obtain ⟨hcz155_0, hcz155_1, hcz155_2, hcz155_3, hfz155_0, hfz155_1, hfz155_2, hfz155_3⟩ := zc4 BK457))
                  go_ret
                  exact ⟨by first | rfl | (simp [errW_none, errW_some] <;> rfl) | (simp [*, errW_none, errW_some] <;> rfl), zb HB⟩
              · rw [if_neg c134] at H
                have c134b0 : (a1 == t474) = false := beq_eq_false_iff_ne.mpr c134
                have c134b1 : (a1 != t474) = true := bne_iff_ne.mpr c134
                obtain rfl := Option.some.inj H
                go_enter Try.func9, Try.ntmps9
                go_wp2_with (first | ((with_reducible refine gate_dst (N := 2) rfl ?_); refine zbox (N := 2) (cs := #[.int .i64 a0_0, .int .i64 a0_1]) (t := 23) ?_; intro gb451 hg w156 hbox hb; have BK451 := Aside0.mk hbox; have GW451 := zge hg HB; have GE451 := zge hg HB; replace HB := zbs HB hb; clear hb hbox hg; obtain ⟨hcz157_0, hcz157_1, hfz157_0, hfz157_1⟩ := zc2 BK451) | ((with_reducible refine gate_callee (f := 16) rfl ?_); refine zgo (some 14) Try.func16 #[.agg #[.int .i64 a0_0, .int .i64 a0_1], .int .u64 a1] ?_; (with_reducible refine (round_Open.calls k a0_0 a0_1 a1 t452 t453 t454 t455 t456 _ A3.out).mono ?_); rintro e w158 ⟨rfl, hb⟩; refine ⟨_, rfl, ?_⟩; replace BK451 := zkb BK451 hb; replace HB := zbs HB hb; (try clear hb); (try clear hb2); (try clear hk); (try clear hi)) | ((with_reducible refine gate_dst (N := 5) rfl ?_); refine zbox (N := 5) (cs := #[.int .i64 0, .bool false, .int .i64 0, .int .u64 0]) (t := 42) ?_; intro gb457 hg w159 hbox hb; have BK457 := Aside0.mk hbox; have GW457 := zge hg HB; have GE457 := zge hg HB; have NB451_457 := znl hg BK451; have NB457_451 := zng hg BK451; replace BK451 := zkb BK451 hb; replace HB := zbs HB hb; clear hb hbox hg; have hnb160 := NB457_451.out; have hnc160 := NB451_457.out; obtain ⟨hcz161_0, hcz161_1, hcz161_2, hcz161_3, hfz161_0, hfz161_1, hfz161_2, hfz161_3⟩ := zc4 BK457) | ((with_reducible refine gate_callee (f := 12) rfl ?_); refine zgo (some 18) Try.func12 #[.int .i64 t456] ?_; (with_reducible refine (grottolaw02_num.calls t456 t458 _ A4.out).mono ?_); rintro e w' ⟨rfl, ⟨nd, rfl⟩⟩; refine ⟨_, rfl, ?_⟩; obtain ⟨hcz162_0, hcz162_1, hfz162_0, hfz162_1⟩ := zc2 BK451) | ((with_reducible refine gate_callee (f := 10) rfl ?_); refine zgo (some 90) Try.func10 #[.agg #[.int .i64 a0_0, .int .i64 a0_1], .bool t453, .int .u64 0, .int .u64 t455, .int .i64 t454, .bool false] ?_; (with_reducible refine (round_Pack.calls k a0_0 a0_1 t453 0 t455 t454 false t474 t475 _ A131.out).mono ?_); rintro e w163 ⟨rfl, hb⟩; refine ⟨_, rfl, ?_⟩; replace BK451 := zkb BK451 hb; replace BK457 := zkbo (o := .cells #[.int .i64 t452, .bool t453, .int .i64 t454, .int .u64 t455] 42 (0, 0)) BK457 hb; replace HB := zbs HB hb; (try clear hb); (try clear hb2); (try clear hk); (try clear hi)) | ((with_reducible refine gate_callee (f := 12) rfl ?_); refine zgo (some 94) Try.func12 #[.int .i64 t475] ?_; (with_reducible refine (grottolaw02_num.calls t475 t476 _ A132.out).mono ?_); rintro e w' ⟨rfl, ⟨nd, rfl⟩⟩; refine ⟨_, rfl, ?_⟩))
                go_ret
                exact ⟨by first | rfl | (simp [errW_none, errW_some] <;> rfl) | (simp [*, errW_none, errW_some] <;> rfl), zb HB⟩
            · rw [if_neg c133] at H
              have c133b0 : (t476 == 0) = false := beq_eq_false_iff_ne.mpr c133
              have c133b1 : (t476 != 0) = true := bne_iff_ne.mpr c133
              obtain rfl := Option.some.inj H
              go_enter Try.func9, Try.ntmps9
              go_wp2_with (first | ((with_reducible refine gate_dst (N := 2) rfl ?_); refine zbox (N := 2) (cs := #[.int .i64 a0_0, .int .i64 a0_1]) (t := 23) ?_; intro gb451 hg w164 hbox hb; have BK451 := Aside0.mk hbox; have GW451 := zge hg HB; have GE451 := zge hg HB; replace HB := zbs HB hb; clear hb hbox hg; obtain ⟨hcz165_0, hcz165_1, hfz165_0, hfz165_1⟩ := zc2 BK451) | ((with_reducible refine gate_callee (f := 16) rfl ?_); refine zgo (some 14) Try.func16 #[.agg #[.int .i64 a0_0, .int .i64 a0_1], .int .u64 a1] ?_; (with_reducible refine (round_Open.calls k a0_0 a0_1 a1 t452 t453 t454 t455 t456 _ A3.out).mono ?_); rintro e w166 ⟨rfl, hb⟩; refine ⟨_, rfl, ?_⟩; replace BK451 := zkb BK451 hb; replace HB := zbs HB hb; (try clear hb); (try clear hb2); (try clear hk); (try clear hi)) | ((with_reducible refine gate_dst (N := 5) rfl ?_); refine zbox (N := 5) (cs := #[.int .i64 0, .bool false, .int .i64 0, .int .u64 0]) (t := 42) ?_; intro gb457 hg w167 hbox hb; have BK457 := Aside0.mk hbox; have GW457 := zge hg HB; have GE457 := zge hg HB; have NB451_457 := znl hg BK451; have NB457_451 := zng hg BK451; replace BK451 := zkb BK451 hb; replace HB := zbs HB hb; clear hb hbox hg; have hnb168 := NB457_451.out; have hnc168 := NB451_457.out; obtain ⟨hcz169_0, hcz169_1, hcz169_2, hcz169_3, hfz169_0, hfz169_1, hfz169_2, hfz169_3⟩ := zc4 BK457) | ((with_reducible refine gate_callee (f := 12) rfl ?_); refine zgo (some 18) Try.func12 #[.int .i64 t456] ?_; (with_reducible refine (grottolaw02_num.calls t456 t458 _ A4.out).mono ?_); rintro e w' ⟨rfl, ⟨nd, rfl⟩⟩; refine ⟨_, rfl, ?_⟩; obtain ⟨hcz170_0, hcz170_1, hfz170_0, hfz170_1⟩ := zc2 BK451) | ((with_reducible refine gate_callee (f := 10) rfl ?_); refine zgo (some 90) Try.func10 #[.agg #[.int .i64 a0_0, .int .i64 a0_1], .bool t453, .int .u64 0, .int .u64 t455, .int .i64 t454, .bool false] ?_; (with_reducible refine (round_Pack.calls k a0_0 a0_1 t453 0 t455 t454 false t474 t475 _ A131.out).mono ?_); rintro e w171 ⟨rfl, hb⟩; refine ⟨_, rfl, ?_⟩; replace BK451 := zkb BK451 hb; replace BK457 := zkbo (o := .cells #[.int .i64 t452, .bool t453, .int .i64 t454, .int .u64 t455] 42 (0, 0)) BK457 hb; replace HB := zbs HB hb; (try clear hb); (try clear hb2); (try clear hk); (try clear hi)) | ((with_reducible refine gate_callee (f := 12) rfl ?_); refine zgo (some 94) Try.func12 #[.int .i64 t475] ?_; (with_reducible refine (grottolaw02_num.calls t475 t476 _ A132.out).mono ?_); rintro e w' ⟨rfl, ⟨nd, rfl⟩⟩; refine ⟨_, rfl, ?_⟩))
              go_ret
              exact ⟨by first | rfl | (simp [errW_none, errW_some] <;> rfl) | (simp [*, errW_none, errW_some] <;> rfl), zb HB⟩
          · rw [if_neg c130] at H
            have c130b0 : (t452 == 2) = false := beq_eq_false_iff_ne.mpr c130
            have c130b1 : (t452 != 2) = true := bne_iff_ne.mpr c130
            obtain rfl := Option.some.inj H
            go_enter Try.func9, Try.ntmps9
            go_wp2_with (first | ((with_reducible refine gate_dst (N := 2) rfl ?_); refine zbox (N := 2) (cs := #[.int .i64 a0_0, .int .i64 a0_1]) (t := 23) ?_; intro gb451 hg w172 hbox hb; have BK451 := Aside0.mk hbox; have GW451 := zge hg HB; have GE451 := zge hg HB; replace HB := zbs HB hb; clear hb hbox hg; obtain ⟨hcz173_0, hcz173_1, hfz173_0, hfz173_1⟩ := zc2 BK451) | ((with_reducible refine gate_callee (f := 16) rfl ?_); refine zgo (some 14) Try.func16 #[.agg #[.int .i64 a0_0, .int .i64 a0_1], .int .u64 a1] ?_; (with_reducible refine (round_Open.calls k a0_0 a0_1 a1 t452 t453 t454 t455 t456 _ A3.out).mono ?_); rintro e w174 ⟨rfl, hb⟩; refine ⟨_, rfl, ?_⟩; replace BK451 := zkb BK451 hb; replace HB := zbs HB hb; (try clear hb); (try clear hb2); (try clear hk); (try clear hi)) | ((with_reducible refine gate_dst (N := 5) rfl ?_); refine zbox (N := 5) (cs := #[.int .i64 0, .bool false, .int .i64 0, .int .u64 0]) (t := 42) ?_; intro gb457 hg w175 hbox hb; have BK457 := Aside0.mk hbox; have GW457 := zge hg HB; have GE457 := zge hg HB; have NB451_457 := znl hg BK451; have NB457_451 := zng hg BK451; replace BK451 := zkb BK451 hb; replace HB := zbs HB hb; clear hb hbox hg; have hnb176 := NB457_451.out; have hnc176 := NB451_457.out; obtain ⟨hcz177_0, hcz177_1, hcz177_2, hcz177_3, hfz177_0, hfz177_1, hfz177_2, hfz177_3⟩ := zc4 BK457) | ((with_reducible refine gate_callee (f := 12) rfl ?_); refine zgo (some 18) Try.func12 #[.int .i64 t456] ?_; (with_reducible refine (grottolaw02_num.calls t456 t458 _ A4.out).mono ?_); rintro e w' ⟨rfl, ⟨nd, rfl⟩⟩; refine ⟨_, rfl, ?_⟩))
            go_ret
            exact ⟨by first | rfl | (simp [errW_none, errW_some] <;> rfl) | (simp [*, errW_none, errW_some] <;> rfl), zb HB⟩
  · rw [if_neg c5] at H
    have c5b0 : (t458 == 0) = false := beq_eq_false_iff_ne.mpr c5
    have c5b1 : (t458 != 0) = true := bne_iff_ne.mpr c5
    by_cases c178 : (t452 == 0 && (!t453 && (t454 == 0 && (t455 == 0)))) = true
    · rw [if_pos c178] at H
      have c178b0 : (t452 == 0 && (!t453 && (t454 == 0 && (t455 == 0)))) = true := c178
      (try (have c178b1 : decide (t452 = 0 && (!t453 && (t454 == 0 && (t455 == 0)))) = true := by simpa using c178))
      (try (have c178b2 : (t452 == 0 && (!t453 && (t454 == 0 && (t455 == 0)))) = true := by simpa using c178))
      clear c178
      replace H := Option.bind_eq_some_iff.mp H
      obtain ⟨t459, A1790, H⟩ := H
      replace H : (if t459 = 1 then ((grottolaw02_live.f k).bind fun t460 => (some t460)) else (some false)) = some r := H
      have A179 := Aside0.mk A1790
      clear A1790
      by_cases c180 : t459 = 1
      · rw [if_pos c180] at H
        have c180b0 : (t459 == 1) = true := beq_iff_eq.mpr c180
        have c180b1 : (t459 != 1) = false := bne_eq_false_iff_eq.mpr c180
        clear c180
        replace H := Option.bind_eq_some_iff.mp H
        obtain ⟨t460, A1810, H⟩ := H
        replace H : (some t460) = some r := H
        have A181 := Aside0.mk A1810
        clear A1810
        obtain rfl := Option.some.inj H
        go_enter Try.func9, Try.ntmps9
        go_wp2_with (first | ((with_reducible refine gate_dst (N := 2) rfl ?_); refine zbox (N := 2) (cs := #[.int .i64 a0_0, .int .i64 a0_1]) (t := 23) ?_; intro gb451 hg w182 hbox hb; have BK451 := Aside0.mk hbox; have GW451 := zge hg HB; have GE451 := zge hg HB; replace HB := zbs HB hb; clear hb hbox hg; obtain ⟨hcz183_0, hcz183_1, hfz183_0, hfz183_1⟩ := zc2 BK451) | ((with_reducible refine gate_callee (f := 16) rfl ?_); refine zgo (some 14) Try.func16 #[.agg #[.int .i64 a0_0, .int .i64 a0_1], .int .u64 a1] ?_; (with_reducible refine (round_Open.calls k a0_0 a0_1 a1 t452 t453 t454 t455 t456 _ A3.out).mono ?_); rintro e w184 ⟨rfl, hb⟩; refine ⟨_, rfl, ?_⟩; replace BK451 := zkb BK451 hb; replace HB := zbs HB hb; (try clear hb); (try clear hb2); (try clear hk); (try clear hi)) | ((with_reducible refine gate_dst (N := 5) rfl ?_); refine zbox (N := 5) (cs := #[.int .i64 0, .bool false, .int .i64 0, .int .u64 0]) (t := 42) ?_; intro gb457 hg w185 hbox hb; have BK457 := Aside0.mk hbox; have GW457 := zge hg HB; have GE457 := zge hg HB; have NB451_457 := znl hg BK451; have NB457_451 := zng hg BK451; replace BK451 := zkb BK451 hb; replace HB := zbs HB hb; clear hb hbox hg; have hnb186 := NB457_451.out; have hnc186 := NB451_457.out; obtain ⟨hcz187_0, hcz187_1, hcz187_2, hcz187_3, hfz187_0, hfz187_1, hfz187_2, hfz187_3⟩ := zc4 BK457) | ((with_reducible refine gate_callee (f := 12) rfl ?_); refine zgo (some 18) Try.func12 #[.int .i64 t456] ?_; (with_reducible refine (grottolaw02_num.calls t456 t458 _ A4.out).mono ?_); rintro e w' ⟨rfl, ⟨nd, rfl⟩⟩; refine ⟨_, rfl, ?_⟩) | (go_at_call 12; (with_reducible refine (grottolaw02_num.calls t456 t459 _ A179.out).mono ?_); rintro e w' ⟨rfl, ⟨nd, rfl⟩⟩) | (go_at_call 13; (with_reducible refine (grottolaw02_live.calls k  t460 _ A181.out).mono ?_); rintro e w188 ⟨rfl, hb⟩; replace BK451 := zkb BK451 hb; replace BK457 := zkbo (o := .cells #[.int .i64 t452, .bool t453, .int .i64 t454, .int .u64 t455] 42 (0, 0)) BK457 hb; replace HB := zbs HB hb; (try clear hb); (try clear hb2); (try clear hk); (try clear hi)))
        go_ret
        exact ⟨by first | rfl | (simp [errW_none, errW_some] <;> rfl) | (simp [*, errW_none, errW_some] <;> rfl), zb HB⟩
      · rw [if_neg c180] at H
        have c180b0 : (t459 == 1) = false := beq_eq_false_iff_ne.mpr c180
        have c180b1 : (t459 != 1) = true := bne_iff_ne.mpr c180
        obtain rfl := Option.some.inj H
        go_enter Try.func9, Try.ntmps9
        go_wp2_with (first | ((with_reducible refine gate_dst (N := 2) rfl ?_); refine zbox (N := 2) (cs := #[.int .i64 a0_0, .int .i64 a0_1]) (t := 23) ?_; intro gb451 hg w189 hbox hb; have BK451 := Aside0.mk hbox; have GW451 := zge hg HB; have GE451 := zge hg HB; replace HB := zbs HB hb; clear hb hbox hg; obtain ⟨hcz190_0, hcz190_1, hfz190_0, hfz190_1⟩ := zc2 BK451) | ((with_reducible refine gate_callee (f := 16) rfl ?_); refine zgo (some 14) Try.func16 #[.agg #[.int .i64 a0_0, .int .i64 a0_1], .int .u64 a1] ?_; (with_reducible refine (round_Open.calls k a0_0 a0_1 a1 t452 t453 t454 t455 t456 _ A3.out).mono ?_); rintro e w191 ⟨rfl, hb⟩; refine ⟨_, rfl, ?_⟩; replace BK451 := zkb BK451 hb; replace HB := zbs HB hb; (try clear hb); (try clear hb2); (try clear hk); (try clear hi)) | ((with_reducible refine gate_dst (N := 5) rfl ?_); refine zbox (N := 5) (cs := #[.int .i64 0, .bool false, .int .i64 0, .int .u64 0]) (t := 42) ?_; intro gb457 hg w192 hbox hb; have BK457 := Aside0.mk hbox; have GW457 := zge hg HB; have GE457 := zge hg HB; have NB451_457 := znl hg BK451; have NB457_451 := zng hg BK451; replace BK451 := zkb BK451 hb; replace HB := zbs HB hb; clear hb hbox hg; have hnb193 := NB457_451.out; have hnc193 := NB451_457.out; obtain ⟨hcz194_0, hcz194_1, hcz194_2, hcz194_3, hfz194_0, hfz194_1, hfz194_2, hfz194_3⟩ := zc4 BK457) | ((with_reducible refine gate_callee (f := 12) rfl ?_); refine zgo (some 18) Try.func12 #[.int .i64 t456] ?_; (with_reducible refine (grottolaw02_num.calls t456 t458 _ A4.out).mono ?_); rintro e w' ⟨rfl, ⟨nd, rfl⟩⟩; refine ⟨_, rfl, ?_⟩) | (go_at_call 12; (with_reducible refine (grottolaw02_num.calls t456 t459 _ A179.out).mono ?_); rintro e w' ⟨rfl, ⟨nd, rfl⟩⟩))
        go_ret
        exact ⟨by first | rfl | (simp [errW_none, errW_some] <;> rfl) | (simp [*, errW_none, errW_some] <;> rfl), zb HB⟩
    · rw [if_neg c178] at H
      have c178b0 : (t452 == 0 && (!t453 && (t454 == 0 && (t455 == 0)))) = false := by simpa using c178
      (try (have c178b1 : decide (t452 = 0 && (!t453 && (t454 == 0 && (t455 == 0)))) = false := by simpa using c178))
      (try (have c178b2 : (t452 == 0 && (!t453 && (t454 == 0 && (t455 == 0)))) = false := by simpa using c178))
      (try (have c178b3 : ¬ (t452 = 0 && (!t453 && (t454 == 0 && (t455 == 0)))) := by simpa using c178))
      clear c178
      obtain rfl := Option.some.inj H
      go_enter Try.func9, Try.ntmps9
      go_wp2_with (first | ((with_reducible refine gate_dst (N := 2) rfl ?_); refine zbox (N := 2) (cs := #[.int .i64 a0_0, .int .i64 a0_1]) (t := 23) ?_; intro gb451 hg w195 hbox hb; have BK451 := Aside0.mk hbox; have GW451 := zge hg HB; have GE451 := zge hg HB; replace HB := zbs HB hb; clear hb hbox hg; obtain ⟨hcz196_0, hcz196_1, hfz196_0, hfz196_1⟩ := zc2 BK451) | ((with_reducible refine gate_callee (f := 16) rfl ?_); refine zgo (some 14) Try.func16 #[.agg #[.int .i64 a0_0, .int .i64 a0_1], .int .u64 a1] ?_; (with_reducible refine (round_Open.calls k a0_0 a0_1 a1 t452 t453 t454 t455 t456 _ A3.out).mono ?_); rintro e w197 ⟨rfl, hb⟩; refine ⟨_, rfl, ?_⟩; replace BK451 := zkb BK451 hb; replace HB := zbs HB hb; (try clear hb); (try clear hb2); (try clear hk); (try clear hi)) | ((with_reducible refine gate_dst (N := 5) rfl ?_); refine zbox (N := 5) (cs := #[.int .i64 0, .bool false, .int .i64 0, .int .u64 0]) (t := 42) ?_; intro gb457 hg w198 hbox hb; have BK457 := Aside0.mk hbox; have GW457 := zge hg HB; have GE457 := zge hg HB; have NB451_457 := znl hg BK451; have NB457_451 := zng hg BK451; replace BK451 := zkb BK451 hb; replace HB := zbs HB hb; clear hb hbox hg; have hnb199 := NB457_451.out; have hnc199 := NB451_457.out; obtain ⟨hcz200_0, hcz200_1, hcz200_2, hcz200_3, hfz200_0, hfz200_1, hfz200_2, hfz200_3⟩ := zc4 BK457) | ((with_reducible refine gate_callee (f := 12) rfl ?_); refine zgo (some 18) Try.func12 #[.int .i64 t456] ?_; (with_reducible refine (grottolaw02_num.calls t456 t458 _ A4.out).mono ?_); rintro e w' ⟨rfl, ⟨nd, rfl⟩⟩; refine ⟨_, rfl, ?_⟩))
      go_ret
      exact ⟨by first | rfl | (simp [errW_none, errW_some] <;> rfl) | (simp [*, errW_none, errW_some] <;> rfl), zb HB⟩

end Go.Proofs.Ytcfmmkapefpjjaa.PQ
