-- by a program of this claim
import Derived.Test.YtcfmmkapefpjjaaPQx0
import Derived.Test.YtcfmmkapefpjjaaPQx3
import Derived.Test.YtcfmmkapefpjjaaPQx11
import Derived.Test.YtcfmmkapefpjjaaPQx13
import Derived.Test.YtcfmmkapefpjjaaPQx14
namespace Go.Proofs.Ytcfmmkapefpjjaa.PQ
open Go.RowKit Go.Proofs.YtcfmmkapefpjjaaW.PrintWords Go.Proofs.YtcfmmkapefpjjaaW.PrintLast Go.Proofs.YtcfmmkapefpjjaaW.PrintMore Go.Proofs.Ytcfmmkapefpjjaa.Z
attribute [local go_sem] max2_int min2_int max_two min_two max_three min_three max_four min_four   -- for this text's walks alone
set_option linter.unusedVariables false
set_option linter.unusedSimpArgs false

/-! ### grottolaw02_RoundNearest: function 4 -/
mutual
def grottolaw02_RoundNearest.j0 : Nat → Int → Int → Bool → Int → Int → Option (Bool)
  | 0, _, _, _, _, _ => none
  | k + 1, x1, x2, x24, x351000, x351001 => if x24 = true then ((grottolaw02_live.f k).bind fun t352 => (some t352)) else ((round_Pack.f k x351000 x351001 false 0 (IntKind.u64.wrap (x1)) x2 false).bind fun bt353 => (if 0 ≤ x351001 then (if 0 ≤ x351000 then ((grottolaw02_num.f bt353.2).bind fun t355 => (if t355 = 0 then (grottolaw02_RoundNearest.j1 k x1 x2 bt353.1 (shl .i64 (wrap64 ((shl .i64 1 x351001) - 1)) x351000) (decide (bt353.1 > (IntKind.u64.wrap (shl .i64 (wrap64 ((shl .i64 1 x351001) - 1)) x351000)))) x351000 x351001) else (grottolaw02_RoundNearest.j1 k x1 x2 bt353.1 (shl .i64 (wrap64 ((shl .i64 1 x351001) - 1)) x351000) true x351000 x351001))) else (none)) else (none)))
def grottolaw02_RoundNearest.j1 : Nat → Int → Int → Int → Int → Bool → Int → Int → Option (Bool)
  | 0, _, _, _, _, _, _, _ => none
  | k + 1, x1, x2, x7, x9, x49, x351000, x351001 => if x49 = true then (some false) else (if 0 ≤ (wrap64 (24 + x2)) then ((grottolaw02_value.f k x351000 x351001 (wrap64 (x7))).bind fun t356 => (if (wrap64 (x7)) = x9 then ((grottolaw02_value.f k x351000 x351001 x9).bind fun t357 => (grottolaw02_RoundNearest.j2 k x7 x9 (shl .i64 (wrap64 (x1)) (wrap64 (24 + x2))) (mx (wrap64 ((shl .i64 (wrap64 (x1)) (wrap64 (24 + x2))) - t356)) (wrap64 (-(wrap64 ((shl .i64 (wrap64 (x1)) (wrap64 (24 + x2))) - t356))))) (decide ((shl .i64 (wrap64 (x1)) (wrap64 (24 + x2))) > t357)) x351000 x351001)) else (grottolaw02_RoundNearest.j2 k x7 x9 (shl .i64 (wrap64 (x1)) (wrap64 (24 + x2))) (mx (wrap64 ((shl .i64 (wrap64 (x1)) (wrap64 (24 + x2))) - t356)) (wrap64 (-(wrap64 ((shl .i64 (wrap64 (x1)) (wrap64 (24 + x2))) - t356))))) false x351000 x351001))) else (none))
def grottolaw02_RoundNearest.j2 : Nat → Int → Int → Int → Int → Bool → Int → Int → Option (Bool)
  | 0, _, _, _, _, _, _, _ => none
  | k + 1, x7, x9, x10, x11, x75, x351000, x351001 => if x75 = true then (grottolaw02_RoundNearest.j3 k x7 x9 x10 0 x351000 x351001) else (grottolaw02_RoundNearest.j3 k x7 x9 x10 x11 x351000 x351001)
def grottolaw02_RoundNearest.j3 : Nat → Int → Int → Int → Int → Int → Int → Option (Bool)
  | 0, _, _, _, _, _, _ => none
  | k + 1, x7, x9, x10, x11, x351000, x351001 => grottolaw02_RoundNearest.l0 k x7 x9 x10 x11 0 x351000 x351001
def grottolaw02_RoundNearest.l0 : Nat → Int → Int → Int → Int → Int → Int → Int → Option (Bool)
  | 0, _, _, _, _, _, _, _ => none
  | k + 1, x7, x9, x10, x11, x12, x351000, x351001 => if x12 ≤ x9 then ((grottolaw02_value.f k x351000 x351001 x12).bind fun t358 => (if x12 = (wrap64 (x7)) then (grottolaw02_RoundNearest.l0 k x7 x9 x10 x11 (wrap64 (x12 + 1)) x351000 x351001) else (if (mx (wrap64 (x10 - t358)) (wrap64 (-(wrap64 (x10 - t358))))) < x11 then (some false) else (if (mx (wrap64 (x10 - t358)) (wrap64 (-(wrap64 (x10 - t358))))) = x11 then (if (Int.tmod x7 2) = 1 then (some false) else (grottolaw02_RoundNearest.l0 k x7 x9 x10 x11 (wrap64 (x12 + 1)) x351000 x351001)) else (grottolaw02_RoundNearest.l0 k x7 x9 x10 x11 (wrap64 (x12 + 1)) x351000 x351001))))) else ((grottolaw02_live.f k).bind fun t359 => (some t359))
end
def grottolaw02_RoundNearest.f (k : Nat) (a0_0 : Int) (a0_1 : Int) (a1 : Int) (a2 : Int) : Option (Bool) := (grottolaw02_tiny.f a0_0 a0_1).bind fun t351 => (if t351 = true then (if a2 < (-12) then (grottolaw02_RoundNearest.j0 k a1 a2 true a0_0 a0_1) else (grottolaw02_RoundNearest.j0 k a1 a2 (decide (a2 > 4)) a0_0 a0_1)) else (grottolaw02_RoundNearest.j0 k a1 a2 true a0_0 a0_1))
theorem grottolaw02_RoundNearest.mono_l : ∀ k, (∀ y0 y1 y2 y3 y4, LeO (grottolaw02_RoundNearest.j0 k y0 y1 y2 y3 y4) (grottolaw02_RoundNearest.j0 (k + 1) y0 y1 y2 y3 y4)) ∧ (∀ y0 y1 y2 y3 y4 y5 y6, LeO (grottolaw02_RoundNearest.j1 k y0 y1 y2 y3 y4 y5 y6) (grottolaw02_RoundNearest.j1 (k + 1) y0 y1 y2 y3 y4 y5 y6)) ∧ (∀ y0 y1 y2 y3 y4 y5 y6, LeO (grottolaw02_RoundNearest.j2 k y0 y1 y2 y3 y4 y5 y6) (grottolaw02_RoundNearest.j2 (k + 1) y0 y1 y2 y3 y4 y5 y6)) ∧ (∀ y0 y1 y2 y3 y4 y5, LeO (grottolaw02_RoundNearest.j3 k y0 y1 y2 y3 y4 y5) (grottolaw02_RoundNearest.j3 (k + 1) y0 y1 y2 y3 y4 y5)) ∧ (∀ y0 y1 y2 y3 y4 y5 y6, LeO (grottolaw02_RoundNearest.l0 k y0 y1 y2 y3 y4 y5 y6) (grottolaw02_RoundNearest.l0 (k + 1) y0 y1 y2 y3 y4 y5 y6))
  | 0 => ⟨fun _ _ _ _ _ r h => by simp [grottolaw02_RoundNearest.j0] at h, fun _ _ _ _ _ _ _ r h => by simp [grottolaw02_RoundNearest.j1] at h, fun _ _ _ _ _ _ _ r h => by simp [grottolaw02_RoundNearest.j2] at h, fun _ _ _ _ _ _ r h => by simp [grottolaw02_RoundNearest.j3] at h, fun _ _ _ _ _ _ _ r h => by simp [grottolaw02_RoundNearest.l0] at h⟩
  | k + 1 => by
    obtain ⟨ih0, ih1, ih2, ih3, ih4⟩ := grottolaw02_RoundNearest.mono_l k
    refine ⟨?_, ?_, ?_, ?_, ?_⟩
    · intro y0 y1 y2 y3 y4
      unfold grottolaw02_RoundNearest.j0
      repeat' first
      | (with_reducible exact ih0 _ _ _ _ _)
      | (with_reducible exact ih1 _ _ _ _ _ _ _)
      | (with_reducible exact ih2 _ _ _ _ _ _ _)
      | (with_reducible exact ih3 _ _ _ _ _ _)
      | (with_reducible exact ih4 _ _ _ _ _ _ _)
      | (with_reducible exact grottolaw02_live.mono _)
      | (with_reducible exact grottolaw02_value.mono _ _ _ _)
      | (with_reducible exact round_Pack.mono _ _ _ _ _ _ _ _)
      | (with_reducible exact LeO.refl _)
      | (with_reducible exact LeO.none _)
      | (with_reducible refine LeO.ite ?_ ?_)
      | (with_reducible refine LeO.bind ?_ (fun _ => ?_))
      | exact ih0 _ _ _ _ _
      | exact ih1 _ _ _ _ _ _ _
      | exact ih2 _ _ _ _ _ _ _
      | exact ih3 _ _ _ _ _ _
      | exact ih4 _ _ _ _ _ _ _
      | exact grottolaw02_live.mono _
      | exact grottolaw02_value.mono _ _ _ _
      | exact round_Pack.mono _ _ _ _ _ _ _ _
      | exact LeO.none _
      | refine LeO.ite ?_ ?_
      | refine LeO.bind ?_ (fun _ => ?_)
    · intro y0 y1 y2 y3 y4 y5 y6
      unfold grottolaw02_RoundNearest.j1
      repeat' first
      | (with_reducible exact ih0 _ _ _ _ _)
      | (with_reducible exact ih1 _ _ _ _ _ _ _)
      | (with_reducible exact ih2 _ _ _ _ _ _ _)
      | (with_reducible exact ih3 _ _ _ _ _ _)
      | (with_reducible exact ih4 _ _ _ _ _ _ _)
      | (with_reducible exact grottolaw02_live.mono _)
      | (with_reducible exact grottolaw02_value.mono _ _ _ _)
      | (with_reducible exact round_Pack.mono _ _ _ _ _ _ _ _)
      | (with_reducible exact LeO.refl _)
      | (with_reducible exact LeO.none _)
      | (with_reducible refine LeO.ite ?_ ?_)
      | (with_reducible refine LeO.bind ?_ (fun _ => ?_))
      | exact ih0 _ _ _ _ _
      | exact ih1 _ _ _ _ _ _ _
      | exact ih2 _ _ _ _ _ _ _
      | exact ih3 _ _ _ _ _ _
      | exact ih4 _ _ _ _ _ _ _
      | exact grottolaw02_live.mono _
      | exact grottolaw02_value.mono _ _ _ _
      | exact round_Pack.mono _ _ _ _ _ _ _ _
      | exact LeO.none _
      | refine LeO.ite ?_ ?_
      | refine LeO.bind ?_ (fun _ => ?_)
    · intro y0 y1 y2 y3 y4 y5 y6
      unfold grottolaw02_RoundNearest.j2
      repeat' first
      | (with_reducible exact ih0 _ _ _ _ _)
      | (with_reducible exact ih1 _ _ _ _ _ _ _)
      | (with_reducible exact ih2 _ _ _ _ _ _ _)
      | (with_reducible exact ih3 _ _ _ _ _ _)
      | (with_reducible exact ih4 _ _ _ _ _ _ _)
      | (with_reducible exact grottolaw02_live.mono _)
      | (with_reducible exact grottolaw02_value.mono _ _ _ _)
      | (with_reducible exact round_Pack.mono _ _ _ _ _ _ _ _)
      | (with_reducible exact LeO.refl _)
      | (with_reducible exact LeO.none _)
      | (with_reducible refine LeO.ite ?_ ?_)
      | (with_reducible refine LeO.bind ?_ (fun _ => ?_))
      | exact ih0 _ _ _ _ _
      | exact ih1 _ _ _ _ _ _ _
      | exact ih2 _ _ _ _ _ _ _
      | exact ih3 _ _ _ _ _ _
      | exact ih4 _ _ _ _ _ _ _
      | exact grottolaw02_live.mono _
      | exact grottolaw02_value.mono _ _ _ _
      | exact round_Pack.mono _ _ _ _ _ _ _ _
      | exact LeO.none _
      | refine LeO.ite ?_ ?_
      | refine LeO.bind ?_ (fun _ => ?_)
    · intro y0 y1 y2 y3 y4 y5
      unfold grottolaw02_RoundNearest.j3
      repeat' first
      | (with_reducible exact ih0 _ _ _ _ _)
      | (with_reducible exact ih1 _ _ _ _ _ _ _)
      | (with_reducible exact ih2 _ _ _ _ _ _ _)
      | (with_reducible exact ih3 _ _ _ _ _ _)
      | (with_reducible exact ih4 _ _ _ _ _ _ _)
      | (with_reducible exact grottolaw02_live.mono _)
      | (with_reducible exact grottolaw02_value.mono _ _ _ _)
      | (with_reducible exact round_Pack.mono _ _ _ _ _ _ _ _)
      | (with_reducible exact LeO.refl _)
      | (with_reducible exact LeO.none _)
      | (with_reducible refine LeO.ite ?_ ?_)
      | (with_reducible refine LeO.bind ?_ (fun _ => ?_))
      | exact ih0 _ _ _ _ _
      | exact ih1 _ _ _ _ _ _ _
      | exact ih2 _ _ _ _ _ _ _
      | exact ih3 _ _ _ _ _ _
      | exact ih4 _ _ _ _ _ _ _
      | exact grottolaw02_live.mono _
      | exact grottolaw02_value.mono _ _ _ _
      | exact round_Pack.mono _ _ _ _ _ _ _ _
      | exact LeO.none _
      | refine LeO.ite ?_ ?_
      | refine LeO.bind ?_ (fun _ => ?_)
    · intro y0 y1 y2 y3 y4 y5 y6
      unfold grottolaw02_RoundNearest.l0
      repeat' first
      | (with_reducible exact ih0 _ _ _ _ _)
      | (with_reducible exact ih1 _ _ _ _ _ _ _)
      | (with_reducible exact ih2 _ _ _ _ _ _ _)
      | (with_reducible exact ih3 _ _ _ _ _ _)
      | (with_reducible exact ih4 _ _ _ _ _ _ _)
      | (with_reducible exact grottolaw02_live.mono _)
      | (with_reducible exact grottolaw02_value.mono _ _ _ _)
      | (with_reducible exact round_Pack.mono _ _ _ _ _ _ _ _)
      | (with_reducible exact LeO.refl _)
      | (with_reducible exact LeO.none _)
      | (with_reducible refine LeO.ite ?_ ?_)
      | (with_reducible refine LeO.bind ?_ (fun _ => ?_))
      | exact ih0 _ _ _ _ _
      | exact ih1 _ _ _ _ _ _ _
      | exact ih2 _ _ _ _ _ _ _
      | exact ih3 _ _ _ _ _ _
      | exact ih4 _ _ _ _ _ _ _
      | exact grottolaw02_live.mono _
      | exact grottolaw02_value.mono _ _ _ _
      | exact round_Pack.mono _ _ _ _ _ _ _ _
      | exact LeO.none _
      | refine LeO.ite ?_ ?_
      | refine LeO.bind ?_ (fun _ => ?_)
theorem grottolaw02_RoundNearest.mono : ∀ a0 a1 a2 a3 k, LeO (grottolaw02_RoundNearest.f k a0 a1 a2 a3) (grottolaw02_RoundNearest.f (k + 1) a0 a1 a2 a3) := by
  intro a0 a1 a2 a3 k
  obtain ⟨ih0, ih1, ih2, ih3, ih4⟩ := grottolaw02_RoundNearest.mono_l k
  unfold grottolaw02_RoundNearest.f
  repeat' first
      | (with_reducible exact ih0 _ _ _ _ _)
      | (with_reducible exact ih1 _ _ _ _ _ _ _)
      | (with_reducible exact ih2 _ _ _ _ _ _ _)
      | (with_reducible exact ih3 _ _ _ _ _ _)
      | (with_reducible exact ih4 _ _ _ _ _ _ _)
      | (with_reducible exact grottolaw02_live.mono _)
      | (with_reducible exact grottolaw02_value.mono _ _ _ _)
      | (with_reducible exact round_Pack.mono _ _ _ _ _ _ _ _)
      | (with_reducible exact LeO.refl _)
      | (with_reducible exact LeO.none _)
      | (with_reducible refine LeO.ite ?_ ?_)
      | (with_reducible refine LeO.bind ?_ (fun _ => ?_))
      | exact ih0 _ _ _ _ _
      | exact ih1 _ _ _ _ _ _ _
      | exact ih2 _ _ _ _ _ _ _
      | exact ih3 _ _ _ _ _ _
      | exact ih4 _ _ _ _ _ _ _
      | exact grottolaw02_live.mono _
      | exact grottolaw02_value.mono _ _ _ _
      | exact round_Pack.mono _ _ _ _ _ _ _ _
      | exact LeO.none _
      | refine LeO.ite ?_ ?_
      | refine LeO.bind ?_ (fun _ => ?_)
set_option maxHeartbeats 8000000 in
set_option maxRecDepth 100000 in
theorem grottolaw02_RoundNearest.calls (k : Nat) (a0_0 : Int) (a0_1 : Int) (a1 : Int) (a2 : Int) (r : Bool) (w : World) (h : grottolaw02_RoundNearest.f k a0_0 a0_1 a1 a2 = some r) :
    Calls Try.prog 4 #[.agg #[.int .i64 a0_0, .int .i64 a0_1], .int .u16 a1, .int .i64 a2] w fun e w' => e = .returned (.bool r) ∧ Below w.heap.size w w' := by
  have hu23 := Try.underlying23
  have HB := Aside0.mk (Below.refl w.heap.size w)
  have H : ((grottolaw02_tiny.f a0_0 a0_1).bind fun t351 => (if t351 = true then (if a2 < (-12) then (grottolaw02_RoundNearest.j0 k a1 a2 true a0_0 a0_1) else (grottolaw02_RoundNearest.j0 k a1 a2 (decide (a2 > 4)) a0_0 a0_1)) else (grottolaw02_RoundNearest.j0 k a1 a2 true a0_0 a0_1))) = some r := h
  clear h
  have HC4 := Aside0.mk H
  clear H
  go_enter Try.func4, Try.ntmps4
  go_upto_region 1 with (first | ((with_reducible refine gate_dst (N := 3) rfl ?_); refine zbox (N := 3) (cs := #[.int .i64 a0_0, .int .i64 a0_1]) (t := 23) ?_; intro gb350 hg w5 hbox hb; have BK350 := Aside0.mk hbox; have GW350 := zge hg HB; have GE350 := zge hg HB; replace HB := zbs HB hb; clear hb hbox hg))
  repeat (go_quiet (first | ((with_reducible refine gate_dst (N := 3) rfl ?_); refine zbox (N := 3) (cs := #[.int .i64 a0_0, .int .i64 a0_1]) (t := 23) ?_; intro gb350 hg w5 hbox hb; have BK350 := Aside0.mk hbox; have GW350 := zge hg HB; have GE350 := zge hg HB; replace HB := zbs HB hb; clear hb hbox hg)); go_upto_region 1 with (first | ((with_reducible refine gate_dst (N := 3) rfl ?_); refine zbox (N := 3) (cs := #[.int .i64 a0_0, .int .i64 a0_1]) (t := 23) ?_; intro gb350 hg w5 hbox hb; have BK350 := Aside0.mk hbox; have GW350 := zge hg HB; have GE350 := zge hg HB; replace HB := zbs HB hb; clear hb hbox hg)))
  (try simp only [Act.put, List.setIfInBounds_toArray, List.set_cons_zero, List.set_cons_succ])
  go_cut [24] (fun v24 wc => ∃ (kq : Nat) (x24_3 : Bool), v24 = .bool x24_3 ∧ Aside0 (grottolaw02_RoundNearest.j0 kq a1 a2 x24_3 a0_0 a0_1 = some r) ∧ Aside0 (kq ≤ k) ∧ Aside0 (wc.heap[gb350]? = some (.cells #[.int .i64 a0_0, .int .i64 a0_1] 23 (0, 0))) ∧ Aside0 (Below w.heap.size w wc))
  case first =>
    have H := HC4.out
    clear HC4
    replace H := Option.bind_eq_some_iff.mp H
    obtain ⟨t351, A60, H⟩ := H
    replace H : (if t351 = true then (if a2 < (-12) then (grottolaw02_RoundNearest.j0 k a1 a2 true a0_0 a0_1) else (grottolaw02_RoundNearest.j0 k a1 a2 (decide (a2 > 4)) a0_0 a0_1)) else (grottolaw02_RoundNearest.j0 k a1 a2 true a0_0 a0_1)) = some r := H
    have A6 := Aside0.mk A60
    clear A60
    by_cases c7 : t351 = true
    · subst c7
      have H1 : (if a2 < (-12) then (grottolaw02_RoundNearest.j0 k a1 a2 true a0_0 a0_1) else (grottolaw02_RoundNearest.j0 k a1 a2 (decide (a2 > 4)) a0_0 a0_1)) = some r := by rw [if_pos rfl] at H; exact H
      clear H
      have H := H1
      clear H1
      by_cases c8 : a2 < (-12)
      · rw [if_pos c8] at H
        have c8b0 : decide (a2 < (-12)) = true := decide_eq_true c8
        clear c8
        (first | rw [c8b0] | (simp only [i64_w, i32_w]; rw [c8b0]) | skip)
        have H' := Aside0.mk H
        clear H
        obtain ⟨hcz9_0, hcz9_1, hfz9_0, hfz9_1⟩ := zc2 BK350
        go_wp2_with (first | (go_at_call 14; (with_reducible refine (grottolaw02_tiny.calls a0_0 a0_1 true _ A6.out).mono ?_); rintro e w10 ⟨rfl, hb⟩; replace BK350 := zkb BK350 hb; replace HB := zbs HB hb; (try clear hb); (try clear hb2); (try clear hk); (try clear hi)))
        repeat (go_quiet (first | (go_at_call 14; (with_reducible refine (grottolaw02_tiny.calls a0_0 a0_1 true _ A6.out).mono ?_); rintro e w10 ⟨rfl, hb⟩; replace BK350 := zkb BK350 hb; replace HB := zbs HB hb; (try clear hb); (try clear hb2); (try clear hk); (try clear hi))); try go_wp2_with (first | (go_at_call 14; (with_reducible refine (grottolaw02_tiny.calls a0_0 a0_1 true _ A6.out).mono ?_); rintro e w10 ⟨rfl, hb⟩; replace BK350 := zkb BK350 hb; replace HB := zbs HB hb; (try clear hb); (try clear hb2); (try clear hk); (try clear hi))))
        go_meet
        case rel => exact ⟨_, (true), (by first | rfl | (simp; done) | (simp [*]; done)), H', ⟨by first | omega | exact Nat.le_refl _⟩, ⟨zk BK350⟩, ⟨zb HB⟩⟩
      · rw [if_neg c8] at H
        have c8b0 : decide (a2 < (-12)) = false := decide_eq_false c8
        clear c8
        (first | rw [c8b0] | (simp only [i64_w, i32_w]; rw [c8b0]) | skip)
        have H' := Aside0.mk H
        clear H
        obtain ⟨hcz11_0, hcz11_1, hfz11_0, hfz11_1⟩ := zc2 BK350
        go_wp2_with (first | (go_at_call 14; (with_reducible refine (grottolaw02_tiny.calls a0_0 a0_1 true _ A6.out).mono ?_); rintro e w12 ⟨rfl, hb⟩; replace BK350 := zkb BK350 hb; replace HB := zbs HB hb; (try clear hb); (try clear hb2); (try clear hk); (try clear hi)))
        repeat (go_quiet (first | (go_at_call 14; (with_reducible refine (grottolaw02_tiny.calls a0_0 a0_1 true _ A6.out).mono ?_); rintro e w12 ⟨rfl, hb⟩; replace BK350 := zkb BK350 hb; replace HB := zbs HB hb; (try clear hb); (try clear hb2); (try clear hk); (try clear hi))); try go_wp2_with (first | (go_at_call 14; (with_reducible refine (grottolaw02_tiny.calls a0_0 a0_1 true _ A6.out).mono ?_); rintro e w12 ⟨rfl, hb⟩; replace BK350 := zkb BK350 hb; replace HB := zbs HB hb; (try clear hb); (try clear hb2); (try clear hk); (try clear hi))))
        go_meet
        case rel => exact ⟨_, (decide (a2 > 4)), (by first | rfl | (simp; done) | (simp [*]; done)), H', ⟨by first | omega | exact Nat.le_refl _⟩, ⟨zk BK350⟩, ⟨zb HB⟩⟩
    · replace c7 := Bool.eq_false_iff.mpr c7
      subst c7
      have H1 : (grottolaw02_RoundNearest.j0 k a1 a2 true a0_0 a0_1) = some r := by rw [if_neg (show ¬ (false = true) by decide)] at H; exact H
      clear H
      have H := H1
      clear H1
      have H' := Aside0.mk H
      clear H
      obtain ⟨hcz13_0, hcz13_1, hfz13_0, hfz13_1⟩ := zc2 BK350
      go_wp2_with (first | (go_at_call 14; (with_reducible refine (grottolaw02_tiny.calls a0_0 a0_1 false _ A6.out).mono ?_); rintro e w14 ⟨rfl, hb⟩; replace BK350 := zkb BK350 hb; replace HB := zbs HB hb; (try clear hb); (try clear hb2); (try clear hk); (try clear hi)))
      repeat (go_quiet (first | (go_at_call 14; (with_reducible refine (grottolaw02_tiny.calls a0_0 a0_1 false _ A6.out).mono ?_); rintro e w14 ⟨rfl, hb⟩; replace BK350 := zkb BK350 hb; replace HB := zbs HB hb; (try clear hb); (try clear hb2); (try clear hk); (try clear hi))); try go_wp2_with (first | (go_at_call 14; (with_reducible refine (grottolaw02_tiny.calls a0_0 a0_1 false _ A6.out).mono ?_); rintro e w14 ⟨rfl, hb⟩; replace BK350 := zkb BK350 hb; replace HB := zbs HB hb; (try clear hb); (try clear hb2); (try clear hk); (try clear hi))))
      go_meet
      case rel => exact ⟨_, (true), (by first | rfl | (simp; done) | (simp [*]; done)), H', ⟨by first | omega | exact Nat.le_refl _⟩, ⟨zk BK350⟩, ⟨zb HB⟩⟩
  case rest =>
    clear HC4
    try clear p2
    try clear c4
    try clear c7
    try clear c8
    try clear c8b0
    try clear hcz11_0
    try clear hcz11_1
    try clear hcz13_0
    try clear hcz13_1
    try clear hcz9_0
    try clear hcz9_1
    try clear hfz11_0
    try clear hfz11_1
    try clear hfz13_0
    try clear hfz13_1
    try clear hfz9_0
    try clear hfz9_1
    obtain ⟨kq, x24_3, rfl, HA, HJ3, BK350, HB⟩ := hcut
    cases kq with
    | zero => exact absurd HA.out (by simp [grottolaw02_RoundNearest.j0])
    | succ kj3 =>
      have H := HA.out
      clear HA
      simp only [grottolaw02_RoundNearest.j0] at H
      by_cases c15 : x24_3 = true
      · subst c15
        have H1 : ((grottolaw02_live.f kj3).bind fun t352 => (some t352)) = some r := by rw [if_pos rfl] at H; exact H
        clear H
        have H := H1
        clear H1
        replace H := Option.bind_eq_some_iff.mp H
        obtain ⟨t352, A160, H⟩ := H
        replace H : (some t352) = some r := H
        have A16 := Aside0.mk A160
        clear A160
        obtain rfl := Option.some.inj H
        go_wp2_with (first | (go_at_call 13; (with_reducible refine (grottolaw02_live.calls kj3  t352 _ A16.out).mono ?_); rintro e w17 ⟨rfl, hb⟩; replace BK350 := zkb BK350 hb; replace HB := zbs HB hb; (try clear hb); (try clear hb2); (try clear hk); (try clear hi)))
        repeat (go_quiet (first | (go_at_call 13; (with_reducible refine (grottolaw02_live.calls kj3  t352 _ A16.out).mono ?_); rintro e w17 ⟨rfl, hb⟩; replace BK350 := zkb BK350 hb; replace HB := zbs HB hb; (try clear hb); (try clear hb2); (try clear hk); (try clear hi))); try go_wp2_with (first | (go_at_call 13; (with_reducible refine (grottolaw02_live.calls kj3  t352 _ A16.out).mono ?_); rintro e w17 ⟨rfl, hb⟩; replace BK350 := zkb BK350 hb; replace HB := zbs HB hb; (try clear hb); (try clear hb2); (try clear hk); (try clear hi))))
        go_ret
        exact ⟨by first | rfl | (simp [errW_none, errW_some] <;> rfl) | (simp [*, errW_none, errW_some] <;> rfl), zb HB⟩
      · replace c15 := Bool.eq_false_iff.mpr c15
        subst c15
        have H1 : ((round_Pack.f kj3 a0_0 a0_1 false 0 (IntKind.u64.wrap (a1)) a2 false).bind fun bt353 => (if 0 ≤ a0_1 then (if 0 ≤ a0_0 then ((grottolaw02_num.f bt353.2).bind fun t355 => (if t355 = 0 then (grottolaw02_RoundNearest.j1 kj3 a1 a2 bt353.1 (shl .i64 (wrap64 ((shl .i64 1 a0_1) - 1)) a0_0) (decide (bt353.1 > (IntKind.u64.wrap (shl .i64 (wrap64 ((shl .i64 1 a0_1) - 1)) a0_0)))) a0_0 a0_1) else (grottolaw02_RoundNearest.j1 kj3 a1 a2 bt353.1 (shl .i64 (wrap64 ((shl .i64 1 a0_1) - 1)) a0_0) true a0_0 a0_1))) else (none)) else (none))) = some r := by rw [if_neg (show ¬ (false = true) by decide)] at H; exact H
        clear H
        have H := H1
        clear H1
        replace H := Option.bind_eq_some_iff.mp H
        obtain ⟨⟨t353, t354⟩, A180, H⟩ := H
        replace H : (if 0 ≤ a0_1 then (if 0 ≤ a0_0 then ((grottolaw02_num.f t354).bind fun t355 => (if t355 = 0 then (grottolaw02_RoundNearest.j1 kj3 a1 a2 t353 (shl .i64 (wrap64 ((shl .i64 1 a0_1) - 1)) a0_0) (decide (t353 > (IntKind.u64.wrap (shl .i64 (wrap64 ((shl .i64 1 a0_1) - 1)) a0_0)))) a0_0 a0_1) else (grottolaw02_RoundNearest.j1 kj3 a1 a2 t353 (shl .i64 (wrap64 ((shl .i64 1 a0_1) - 1)) a0_0) true a0_0 a0_1))) else (none)) else (none)) = some r := H
        have A18 := Aside0.mk A180
        clear A180
        by_cases c19 : 0 ≤ a0_1
        · rw [if_pos c19] at H
          have c19b0 := eq_true c19
          have c19b1 : decide (0 ≤ a0_1) = true := decide_eq_true c19
          clear c19
          obtain ⟨ji20, hji20⟩ : ∃ j_ : Int, (shl .i64 1 a0_1) = j_ := ⟨_, rfl⟩
          replace H : (if 0 ≤ a0_0 then ((grottolaw02_num.f t354).bind fun t355 => (if t355 = 0 then (grottolaw02_RoundNearest.j1 kj3 a1 a2 t353 (shl .i64 (wrap64 ((ji20) - 1)) a0_0) (decide (t353 > (IntKind.u64.wrap (shl .i64 (wrap64 ((ji20) - 1)) a0_0)))) a0_0 a0_1) else (grottolaw02_RoundNearest.j1 kj3 a1 a2 t353 (shl .i64 (wrap64 ((ji20) - 1)) a0_0) true a0_0 a0_1))) else (none)) = some r := by first | (rw [hji20] at H; exact H) | (simp only [hji20] at H ⊢; exact H)
          (try rw [hji20] at A18)
          have hji20_ : (IntKind.i64.wrap (1 * 2 ^ min a0_1.toNat 64)) = ji20 := hji20
          have hji20z : a0_1 ≤ 64 → (IntKind.i64.wrap (1 * 2 ^ a0_1.toNat)) = ji20 := shl_small hji20
          have hji20u : (IntKind.i64.wrap (2 ^ min a0_1.toNat 64)) = ji20 := by have h_ := hji20_; rw [Int.one_mul] at h_; exact h_
          have hji20v : a0_1 ≤ 64 → (IntKind.i64.wrap (2 ^ a0_1.toNat)) = ji20 := fun hle_ => by have h_ := hji20z hle_; rw [Int.one_mul] at h_; exact h_
          have hji20y : (wrap64 (1 * 2 ^ min a0_1.toNat 64)) = ji20 := (i64_w _).symm.trans hji20_
          have hji20x : a0_1 ≤ 64 → (wrap64 (1 * 2 ^ a0_1.toNat)) = ji20 := fun h_ => (i64_w _).symm.trans (hji20z h_)
          by_cases c21 : 0 ≤ a0_0
          · rw [if_pos c21] at H
            have c21b0 := eq_true c21
            have c21b1 : decide (0 ≤ a0_0) = true := decide_eq_true c21
            clear c21
            obtain ⟨ji22, hji22⟩ : ∃ j_ : Int, (shl .i64 (wrap64 ((ji20) - 1)) a0_0) = j_ := ⟨_, rfl⟩
            replace H : ((grottolaw02_num.f t354).bind fun t355 => (if t355 = 0 then (grottolaw02_RoundNearest.j1 kj3 a1 a2 t353 ji22 (decide (t353 > (IntKind.u64.wrap (ji22)))) a0_0 a0_1) else (grottolaw02_RoundNearest.j1 kj3 a1 a2 t353 ji22 true a0_0 a0_1))) = some r := by first | (rw [hji22] at H; exact H) | (simp only [hji22] at H ⊢; exact H)
            (try rw [hji22] at A18)
            have hji22_ : (IntKind.i64.wrap ((wrap64 ((ji20) - 1)) * 2 ^ min a0_0.toNat 64)) = ji22 := hji22
            have hji22z : a0_0 ≤ 64 → (IntKind.i64.wrap ((wrap64 ((ji20) - 1)) * 2 ^ a0_0.toNat)) = ji22 := shl_small hji22
            have hji22y : (wrap64 ((wrap64 ((ji20) - 1)) * 2 ^ min a0_0.toNat 64)) = ji22 := (i64_w _).symm.trans hji22_
            have hji22x : a0_0 ≤ 64 → (wrap64 ((wrap64 ((ji20) - 1)) * 2 ^ a0_0.toNat)) = ji22 := fun h_ => (i64_w _).symm.trans (hji22z h_)
            have HC23 := Aside0.mk H
            clear H
            obtain ⟨hcz24_0, hcz24_1, hfz24_0, hfz24_1⟩ := zc2 BK350
            go_upto_region 5 with (first | (go_at_call 10; (with_reducible refine (round_Pack.calls kj3 a0_0 a0_1 false 0 (IntKind.u64.wrap (a1)) a2 false t353 t354 _ A18.out).mono ?_); rintro e w25 ⟨rfl, hb⟩; replace BK350 := zkb BK350 hb; replace HB := zbs HB hb; (try clear hb); (try clear hb2); (try clear hk); (try clear hi); obtain ⟨hcz26_0, hcz26_1, hfz26_0, hfz26_1⟩ := zc2 BK350))
            repeat (go_quiet (first | (go_at_call 10; (with_reducible refine (round_Pack.calls kj3 a0_0 a0_1 false 0 (IntKind.u64.wrap (a1)) a2 false t353 t354 _ A18.out).mono ?_); rintro e w25 ⟨rfl, hb⟩; replace BK350 := zkb BK350 hb; replace HB := zbs HB hb; (try clear hb); (try clear hb2); (try clear hk); (try clear hi); obtain ⟨hcz26_0, hcz26_1, hfz26_0, hfz26_1⟩ := zc2 BK350)); go_upto_region 5 with (first | (go_at_call 10; (with_reducible refine (round_Pack.calls kj3 a0_0 a0_1 false 0 (IntKind.u64.wrap (a1)) a2 false t353 t354 _ A18.out).mono ?_); rintro e w25 ⟨rfl, hb⟩; replace BK350 := zkb BK350 hb; replace HB := zbs HB hb; (try clear hb); (try clear hb2); (try clear hk); (try clear hi); obtain ⟨hcz26_0, hcz26_1, hfz26_0, hfz26_1⟩ := zc2 BK350)))
            (try simp only [Act.put, List.setIfInBounds_toArray, List.set_cons_zero, List.set_cons_succ])
            go_cut [49] (fun v49 wc => ∃ (kq : Nat) (x49_22 : Bool), v49 = .bool x49_22 ∧ Aside0 (grottolaw02_RoundNearest.j1 kq a1 a2 t353 ji22 x49_22 a0_0 a0_1 = some r) ∧ Aside0 (kq ≤ kj3) ∧ Aside0 (wc.heap[gb350]? = some (.cells #[.int .i64 a0_0, .int .i64 a0_1] 23 (0, 0))) ∧ Aside0 (Below w.heap.size w wc))
            case first =>
              have H := HC23.out
              clear HC23
              replace H := Option.bind_eq_some_iff.mp H
              obtain ⟨t355, A270, H⟩ := H
              replace H : (if t355 = 0 then (grottolaw02_RoundNearest.j1 kj3 a1 a2 t353 ji22 (decide (t353 > (IntKind.u64.wrap (ji22)))) a0_0 a0_1) else (grottolaw02_RoundNearest.j1 kj3 a1 a2 t353 ji22 true a0_0 a0_1)) = some r := H
              have A27 := Aside0.mk A270
              clear A270
              by_cases c28 : t355 = 0
              · rw [if_pos c28] at H
                have c28b0 : (t355 == 0) = true := beq_iff_eq.mpr c28
                have c28b1 : (t355 != 0) = false := bne_eq_false_iff_eq.mpr c28
                clear c28
                (first | rw [c28b0] | (simp only [i64_w, i32_w]; rw [c28b0]) | skip)
                have H' := Aside0.mk H
                clear H
                go_wp2_with (first | (go_at_call 12; (with_reducible refine (grottolaw02_num.calls t354 t355 _ A27.out).mono ?_); rintro e w' ⟨rfl, ⟨nd, rfl⟩⟩; (try first | exact ⟨rfl, _, World.drewN_drewN _ _ _⟩ | exact ⟨rfl, _, Eq.trans (World.drewN_drewN _ _ _) (congrArg (World.drewN _) (Nat.add_assoc _ _ _))⟩)))
                repeat (go_quiet (first | (go_at_call 12; (with_reducible refine (grottolaw02_num.calls t354 t355 _ A27.out).mono ?_); rintro e w' ⟨rfl, ⟨nd, rfl⟩⟩; (try first | exact ⟨rfl, _, World.drewN_drewN _ _ _⟩ | exact ⟨rfl, _, Eq.trans (World.drewN_drewN _ _ _) (congrArg (World.drewN _) (Nat.add_assoc _ _ _))⟩))); try go_wp2_with (first | (go_at_call 12; (with_reducible refine (grottolaw02_num.calls t354 t355 _ A27.out).mono ?_); rintro e w' ⟨rfl, ⟨nd, rfl⟩⟩; (try first | exact ⟨rfl, _, World.drewN_drewN _ _ _⟩ | exact ⟨rfl, _, Eq.trans (World.drewN_drewN _ _ _) (congrArg (World.drewN _) (Nat.add_assoc _ _ _))⟩))))
                go_meet
                case rel => exact ⟨_, (decide (t353 > (IntKind.u64.wrap (ji22)))), (by first | rfl | (simp; done) | (simp only [← hji22] <;> (first | rfl | simp)) | (simp [*]; done)), H', ⟨by have := HJ3.out; first | omega | exact Nat.le_refl _⟩, ⟨zk BK350⟩, ⟨zb HB⟩⟩
              · rw [if_neg c28] at H
                have c28b0 : (t355 == 0) = false := beq_eq_false_iff_ne.mpr c28
                have c28b1 : (t355 != 0) = true := bne_iff_ne.mpr c28
                (first | rw [c28b0] | (simp only [i64_w, i32_w]; rw [c28b0]) | skip)
                have H' := Aside0.mk H
                clear H
                go_wp2_with (first | (go_at_call 12; (with_reducible refine (grottolaw02_num.calls t354 t355 _ A27.out).mono ?_); rintro e w' ⟨rfl, ⟨nd, rfl⟩⟩; (try first | exact ⟨rfl, _, World.drewN_drewN _ _ _⟩ | exact ⟨rfl, _, Eq.trans (World.drewN_drewN _ _ _) (congrArg (World.drewN _) (Nat.add_assoc _ _ _))⟩)))
                repeat (go_quiet (first | (go_at_call 12; (with_reducible refine (grottolaw02_num.calls t354 t355 _ A27.out).mono ?_); rintro e w' ⟨rfl, ⟨nd, rfl⟩⟩; (try first | exact ⟨rfl, _, World.drewN_drewN _ _ _⟩ | exact ⟨rfl, _, Eq.trans (World.drewN_drewN _ _ _) (congrArg (World.drewN _) (Nat.add_assoc _ _ _))⟩))); try go_wp2_with (first | (go_at_call 12; (with_reducible refine (grottolaw02_num.calls t354 t355 _ A27.out).mono ?_); rintro e w' ⟨rfl, ⟨nd, rfl⟩⟩; (try first | exact ⟨rfl, _, World.drewN_drewN _ _ _⟩ | exact ⟨rfl, _, Eq.trans (World.drewN_drewN _ _ _) (congrArg (World.drewN _) (Nat.add_assoc _ _ _))⟩))))
                go_meet
                case rel => exact ⟨_, (true), (by first | rfl | (simp; done) | (simp [*]; done)), H', ⟨by have := HJ3.out; first | omega | exact Nat.le_refl _⟩, ⟨zk BK350⟩, ⟨zb HB⟩⟩
            case rest =>
              clear HC23
              try clear c1
              try clear c2
              try clear p2
              try clear c4
              try clear p6
              try clear c7
              try clear c8
              try clear c8b0
              try clear c15
              try clear c19
              try clear c19b0
              try clear c19b1
              try clear c21
              try clear c21b0
              try clear c21b1
              try clear c28
              try clear c28b0
              try clear c28b1
              try clear hcz11_0
              try clear hcz11_1
              try clear hcz13_0
              try clear hcz13_1
              try clear hcz24_0
              try clear hcz24_1
              try clear hcz26_0
              try clear hcz26_1
              try clear hcz9_0
              try clear hcz9_1
              try clear hfz11_0
              try clear hfz11_1
              try clear hfz13_0
              try clear hfz13_1
              try clear hfz24_0
              try clear hfz24_1
              try clear hfz26_0
              try clear hfz26_1
              try clear hfz9_0
              try clear hfz9_1
              try clear p2
              obtain ⟨kq, x49_22, rfl, HA, HJ22, BK350, HB⟩ := hcut
              cases kq with
              | zero => exact absurd HA.out (by simp [grottolaw02_RoundNearest.j1])
              | succ kj22 =>
                have H := HA.out
                clear HA
                simp only [grottolaw02_RoundNearest.j1] at H
                by_cases c29 : x49_22 = true
                · subst c29
                  have H1 : (some false) = some r := by rw [if_pos rfl] at H; exact H
                  clear H
                  have H := H1
                  clear H1
                  obtain rfl := Option.some.inj H
                  go_wp2
                  repeat (go_quiet (fail); try go_wp2)
                  go_ret
                  exact ⟨by first | rfl | (simp [errW_none, errW_some] <;> rfl) | (simp only [← hji20, ← hji22]; first | rfl | (simp [errW_none, errW_some] <;> rfl)) | (simp [*, errW_none, errW_some] <;> rfl), zb HB⟩
                · replace c29 := Bool.eq_false_iff.mpr c29
                  subst c29
                  have H1 : (if 0 ≤ (wrap64 (24 + a2)) then ((grottolaw02_value.f kj22 a0_0 a0_1 (wrap64 (t353))).bind fun t356 => (if (wrap64 (t353)) = ji22 then ((grottolaw02_value.f kj22 a0_0 a0_1 ji22).bind fun t357 => (grottolaw02_RoundNearest.j2 kj22 t353 ji22 (shl .i64 (wrap64 (a1)) (wrap64 (24 + a2))) (mx (wrap64 ((shl .i64 (wrap64 (a1)) (wrap64 (24 + a2))) - t356)) (wrap64 (-(wrap64 ((shl .i64 (wrap64 (a1)) (wrap64 (24 + a2))) - t356))))) (decide ((shl .i64 (wrap64 (a1)) (wrap64 (24 + a2))) > t357)) a0_0 a0_1)) else (grottolaw02_RoundNearest.j2 kj22 t353 ji22 (shl .i64 (wrap64 (a1)) (wrap64 (24 + a2))) (mx (wrap64 ((shl .i64 (wrap64 (a1)) (wrap64 (24 + a2))) - t356)) (wrap64 (-(wrap64 ((shl .i64 (wrap64 (a1)) (wrap64 (24 + a2))) - t356))))) false a0_0 a0_1))) else (none)) = some r := by rw [if_neg (show ¬ (false = true) by decide)] at H; exact H
                  clear H
                  have H := H1
                  clear H1
                  obtain ⟨ji30, hji30⟩ : ∃ j_ : Int, (wrap64 (24 + a2)) = j_ := ⟨_, rfl⟩
                  replace H : (if 0 ≤ (ji30) then ((grottolaw02_value.f kj22 a0_0 a0_1 (wrap64 (t353))).bind fun t356 => (if (wrap64 (t353)) = ji22 then ((grottolaw02_value.f kj22 a0_0 a0_1 ji22).bind fun t357 => (grottolaw02_RoundNearest.j2 kj22 t353 ji22 (shl .i64 (wrap64 (a1)) (ji30)) (mx (wrap64 ((shl .i64 (wrap64 (a1)) (ji30)) - t356)) (wrap64 (-(wrap64 ((shl .i64 (wrap64 (a1)) (ji30)) - t356))))) (decide ((shl .i64 (wrap64 (a1)) (ji30)) > t357)) a0_0 a0_1)) else (grottolaw02_RoundNearest.j2 kj22 t353 ji22 (shl .i64 (wrap64 (a1)) (ji30)) (mx (wrap64 ((shl .i64 (wrap64 (a1)) (ji30)) - t356)) (wrap64 (-(wrap64 ((shl .i64 (wrap64 (a1)) (ji30)) - t356))))) false a0_0 a0_1))) else (none)) = some r := by first | (rw [hji30] at H; exact H) | (simp only [hji30] at H ⊢; exact H)
                  have hji30w : (IntKind.i64.wrap (24 + a2)) = ji30 := (i64_w _).trans hji30
                  by_cases c31 : 0 ≤ (ji30)
                  · rw [if_pos c31] at H
                    have c31b0 := eq_true c31
                    have c31b1 : decide (0 ≤ (ji30)) = true := decide_eq_true c31
                    clear c31
                    obtain ⟨ji32, hji32⟩ : ∃ j_ : Int, (shl .i64 (wrap64 (a1)) (ji30)) = j_ := ⟨_, rfl⟩
                    replace H : ((grottolaw02_value.f kj22 a0_0 a0_1 (wrap64 (t353))).bind fun t356 => (if (wrap64 (t353)) = ji22 then ((grottolaw02_value.f kj22 a0_0 a0_1 ji22).bind fun t357 => (grottolaw02_RoundNearest.j2 kj22 t353 ji22 ji32 (mx (wrap64 ((ji32) - t356)) (wrap64 (-(wrap64 ((ji32) - t356))))) (decide ((ji32) > t357)) a0_0 a0_1)) else (grottolaw02_RoundNearest.j2 kj22 t353 ji22 ji32 (mx (wrap64 ((ji32) - t356)) (wrap64 (-(wrap64 ((ji32) - t356))))) false a0_0 a0_1))) = some r := by first | (rw [hji32] at H; exact H) | (simp only [hji32] at H ⊢; exact H)
                    have hji32_ : (IntKind.i64.wrap ((wrap64 (a1)) * 2 ^ min (ji30).toNat 64)) = ji32 := hji32
                    have hji32z : (ji30) ≤ 64 → (IntKind.i64.wrap ((wrap64 (a1)) * 2 ^ (ji30).toNat)) = ji32 := shl_small hji32
                    have hji32y : (wrap64 ((wrap64 (a1)) * 2 ^ min (ji30).toNat 64)) = ji32 := (i64_w _).symm.trans hji32_
                    have hji32x : (ji30) ≤ 64 → (wrap64 ((wrap64 (a1)) * 2 ^ (ji30).toNat)) = ji32 := fun h_ => (i64_w _).symm.trans (hji32z h_)
                    replace H := Option.bind_eq_some_iff.mp H
                    obtain ⟨t356, A330, H⟩ := H
                    replace H : (if (wrap64 (t353)) = ji22 then ((grottolaw02_value.f kj22 a0_0 a0_1 ji22).bind fun t357 => (grottolaw02_RoundNearest.j2 kj22 t353 ji22 ji32 (mx (wrap64 ((ji32) - t356)) (wrap64 (-(wrap64 ((ji32) - t356))))) (decide ((ji32) > t357)) a0_0 a0_1)) else (grottolaw02_RoundNearest.j2 kj22 t353 ji22 ji32 (mx (wrap64 ((ji32) - t356)) (wrap64 (-(wrap64 ((ji32) - t356))))) false a0_0 a0_1)) = some r := H
                    have A33 := Aside0.mk A330
                    clear A330
                    obtain ⟨ji34, hji34⟩ : ∃ j_ : Int, (mx (wrap64 ((ji32) - t356)) (wrap64 (-(wrap64 ((ji32) - t356))))) = j_ := ⟨_, rfl⟩
                    replace H : (if (wrap64 (t353)) = ji22 then ((grottolaw02_value.f kj22 a0_0 a0_1 ji22).bind fun t357 => (grottolaw02_RoundNearest.j2 kj22 t353 ji22 ji32 ji34 (decide ((ji32) > t357)) a0_0 a0_1)) else (grottolaw02_RoundNearest.j2 kj22 t353 ji22 ji32 ji34 false a0_0 a0_1)) = some r := by first | (rw [hji34] at H; exact H) | (simp only [hji34] at H ⊢; exact H)
                    (try rw [hji34] at A33)
                    have hji34_ : (if (wrap64 ((ji32) - t356)) < (wrap64 (-(wrap64 ((ji32) - t356)))) then (wrap64 (-(wrap64 ((ji32) - t356)))) else (wrap64 ((ji32) - t356))) = ji34 := hji34
                    have HC35 := Aside0.mk H
                    clear H
                    obtain ⟨hcz36_0, hcz36_1, hfz36_0, hfz36_1⟩ := zc2 BK350
                    go_upto_region 10 with (first | (go_at_call 15; (with_reducible refine (grottolaw02_value.calls kj22 a0_0 a0_1 (wrap64 (t353)) t356 _ A33.out).mono ?_); rintro e w37 ⟨rfl, hb⟩; replace BK350 := zkb BK350 hb; replace HB := zbs HB hb; (try clear hb); (try clear hb2); (try clear hk); (try clear hi)))
                    repeat (go_quiet (first | (go_at_call 15; (with_reducible refine (grottolaw02_value.calls kj22 a0_0 a0_1 (wrap64 (t353)) t356 _ A33.out).mono ?_); rintro e w37 ⟨rfl, hb⟩; replace BK350 := zkb BK350 hb; replace HB := zbs HB hb; (try clear hb); (try clear hb2); (try clear hk); (try clear hi))); go_upto_region 10 with (first | (go_at_call 15; (with_reducible refine (grottolaw02_value.calls kj22 a0_0 a0_1 (wrap64 (t353)) t356 _ A33.out).mono ?_); rintro e w37 ⟨rfl, hb⟩; replace BK350 := zkb BK350 hb; replace HB := zbs HB hb; (try clear hb); (try clear hb2); (try clear hk); (try clear hi))))
                    (try simp only [Act.put, List.setIfInBounds_toArray, List.set_cons_zero, List.set_cons_succ])
                    go_cut [75] (fun v75 wc => ∃ (kq : Nat) (x75_34 : Bool), v75 = .bool x75_34 ∧ Aside0 (grottolaw02_RoundNearest.j2 kq t353 ji22 ji32 ji34 x75_34 a0_0 a0_1 = some r) ∧ Aside0 (kq ≤ kj22) ∧ Aside0 (wc.heap[gb350]? = some (.cells #[.int .i64 a0_0, .int .i64 a0_1] 23 (0, 0))) ∧ Aside0 (Below w.heap.size w wc))
                    case first =>
                      have H := HC35.out
                      clear HC35
                      by_cases c38 : (wrap64 (t353)) = ji22
                      · rw [if_pos c38] at H
                        have c38b0 : ((wrap64 (t353)) == ji22) = true := beq_iff_eq.mpr c38
                        have c38b1 : ((wrap64 (t353)) != ji22) = false := bne_eq_false_iff_eq.mpr c38
                        clear c38
                        (first | rw [c38b0] | (simp only [i64_w, i32_w]; rw [c38b0]) | skip)
                        replace H := Option.bind_eq_some_iff.mp H
                        obtain ⟨t357, A390, H⟩ := H
                        replace H : (grottolaw02_RoundNearest.j2 kj22 t353 ji22 ji32 ji34 (decide ((ji32) > t357)) a0_0 a0_1) = some r := H
                        have A39 := Aside0.mk A390
                        clear A390
                        have H' := Aside0.mk H
                        clear H
                        obtain ⟨hcz40_0, hcz40_1, hfz40_0, hfz40_1⟩ := zc2 BK350
                        go_wp2_with (first | (go_at_call 15; (with_reducible refine (grottolaw02_value.calls kj22 a0_0 a0_1 ji22 t357 _ A39.out).mono ?_); rintro e w41 ⟨rfl, hb⟩; replace BK350 := zkb BK350 hb; replace HB := zbs HB hb; (try clear hb); (try clear hb2); (try clear hk); (try clear hi)))
                        repeat (go_quiet (first | (go_at_call 15; (with_reducible refine (grottolaw02_value.calls kj22 a0_0 a0_1 ji22 t357 _ A39.out).mono ?_); rintro e w41 ⟨rfl, hb⟩; replace BK350 := zkb BK350 hb; replace HB := zbs HB hb; (try clear hb); (try clear hb2); (try clear hk); (try clear hi))); try go_wp2_with (first | (go_at_call 15; (with_reducible refine (grottolaw02_value.calls kj22 a0_0 a0_1 ji22 t357 _ A39.out).mono ?_); rintro e w41 ⟨rfl, hb⟩; replace BK350 := zkb BK350 hb; replace HB := zbs HB hb; (try clear hb); (try clear hb2); (try clear hk); (try clear hi))))
                        go_meet
                        case rel => exact ⟨_, (decide ((ji32) > t357)), (by first | rfl | (simp; done) | (simp only [← hji32] <;> (first | rfl | simp)) | (simp [*]; done)), H', ⟨by have := HJ3.out; have := HJ22.out; first | omega | exact Nat.le_refl _⟩, ⟨zk BK350⟩, ⟨zb HB⟩⟩
                      · rw [if_neg c38] at H
                        have c38b0 : ((wrap64 (t353)) == ji22) = false := beq_eq_false_iff_ne.mpr c38
                        have c38b1 : ((wrap64 (t353)) != ji22) = true := bne_iff_ne.mpr c38
                        (first | rw [c38b0] | (simp only [i64_w, i32_w]; rw [c38b0]) | skip)
                        have H' := Aside0.mk H
                        clear H
                        go_wp2
                        repeat (go_quiet (fail); try go_wp2)
                        go_meet
                        case rel => exact ⟨_, (false), (by first | rfl | (simp; done) | (simp [*]; done)), H', ⟨by have := HJ3.out; have := HJ22.out; first | omega | exact Nat.le_refl _⟩, ⟨zk BK350⟩, ⟨zb HB⟩⟩
                    case rest =>
                      clear HC35
                      try clear c1
                      try clear c2
                      try clear p2
                      try clear c3
                      try clear c4
                      try clear p6
                      try clear c7
                      try clear c8
                      try clear c8b0
                      try clear c15
                      try clear c19
                      try clear c19b0
                      try clear c19b1
                      try clear c21
                      try clear c21b0
                      try clear c21b1
                      try clear c28
                      try clear c28b0
                      try clear c28b1
                      try clear c29
                      try clear c31
                      try clear c31b0
                      try clear c31b1
                      try clear c38
                      try clear c38b0
                      try clear c38b1
                      try clear hcz11_0
                      try clear hcz11_1
                      try clear hcz13_0
                      try clear hcz13_1
                      try clear hcz24_0
                      try clear hcz24_1
                      try clear hcz26_0
                      try clear hcz26_1
                      try clear hcz36_0
                      try clear hcz36_1
                      try clear hcz40_0
                      try clear hcz40_1
                      try clear hcz9_0
                      try clear hcz9_1
                      try clear hfz11_0
                      try clear hfz11_1
                      try clear hfz13_0
                      try clear hfz13_1
                      try clear hfz24_0
                      try clear hfz24_1
                      try clear hfz26_0
                      try clear hfz26_1
                      try clear hfz36_0
                      try clear hfz36_1
                      try clear hfz40_0
                      try clear hfz40_1
                      try clear hfz9_0
                      try clear hfz9_1
                      try clear p2
                      try clear p6
                      obtain ⟨kq, x75_34, rfl, HA, HJ34, BK350, HB⟩ := hcut
                      cases kq with
                      | zero => exact absurd HA.out (by simp [grottolaw02_RoundNearest.j2])
                      | succ kj34 =>
                        have H := HA.out
                        clear HA
                        simp only [grottolaw02_RoundNearest.j2] at H
                        have HC42 := Aside0.mk H
                        clear H
                        go_upto_if 75 with (fail)
                        repeat (go_quiet (fail); go_upto_if 75 with (fail))
                        go_cut [11] (fun v11 wc => ∃ (kq : Nat) (x11_41 : Int), v11 = .int .i64 x11_41 ∧ Aside0 (grottolaw02_RoundNearest.j3 kq t353 ji22 ji32 x11_41 a0_0 a0_1 = some r) ∧ Aside0 (kq ≤ kj34) ∧ Aside0 (wc.heap[gb350]? = some (.cells #[.int .i64 a0_0, .int .i64 a0_1] 23 (0, 0))) ∧ Aside0 (Below w.heap.size w wc))
                        case first =>
                          have H := HC42.out
                          clear HC42
                          by_cases c43 : x75_34 = true
                          · subst c43
                            have H1 : (grottolaw02_RoundNearest.j3 kj34 t353 ji22 ji32 0 a0_0 a0_1) = some r := by rw [if_pos rfl] at H; exact H
                            clear H
                            have H := H1
                            clear H1
                            have H' := Aside0.mk H
                            clear H
                            go_wp2
                            repeat (go_quiet (fail); try go_wp2)
                            go_meet
                            case rel => exact ⟨_, (0), (by first | rfl | (simp; done) | (simp [*]; done)), H', ⟨by have := HJ3.out; have := HJ22.out; have := HJ34.out; first | omega | exact Nat.le_refl _⟩, ⟨zk BK350⟩, ⟨zb HB⟩⟩
                          · replace c43 := Bool.eq_false_iff.mpr c43
                            subst c43
                            have H1 : (grottolaw02_RoundNearest.j3 kj34 t353 ji22 ji32 ji34 a0_0 a0_1) = some r := by rw [if_neg (show ¬ (false = true) by decide)] at H; exact H
                            clear H
                            have H := H1
                            clear H1
                            have H' := Aside0.mk H
                            clear H
                            go_wp2
                            repeat (go_quiet (fail); try go_wp2)
                            go_meet
                            case rel => exact ⟨_, (ji34), (by first | rfl | (simp; done) | (simp only [← hji34] <;> (first | rfl | simp)) | (simp [*]; done)), H', ⟨by have := HJ3.out; have := HJ22.out; have := HJ34.out; first | omega | exact Nat.le_refl _⟩, ⟨zk BK350⟩, ⟨zb HB⟩⟩
                        case rest =>
                          clear HC42
                          try clear c1
                          try clear c2
                          try clear p2
                          try clear c3
                          try clear c4
                          try clear p6
                          try clear c7
                          try clear c8
                          try clear c8b0
                          try clear c15
                          try clear c19
                          try clear c19b0
                          try clear c19b1
                          try clear c21
                          try clear c21b0
                          try clear c21b1
                          try clear c28
                          try clear c28b0
                          try clear c28b1
                          try clear c29
                          try clear c31
                          try clear c31b0
                          try clear c31b1
                          try clear c38
                          try clear c38b0
                          try clear c38b1
                          try clear c43
                          try clear hcz11_0
                          try clear hcz11_1
                          try clear hcz13_0
                          try clear hcz13_1
                          try clear hcz24_0
                          try clear hcz24_1
                          try clear hcz26_0
                          try clear hcz26_1
                          try clear hcz36_0
                          try clear hcz36_1
                          try clear hcz40_0
                          try clear hcz40_1
                          try clear hcz9_0
                          try clear hcz9_1
                          try clear hfz11_0
                          try clear hfz11_1
                          try clear hfz13_0
                          try clear hfz13_1
                          try clear hfz24_0
                          try clear hfz24_1
                          try clear hfz26_0
                          try clear hfz26_1
                          try clear hfz36_0
                          try clear hfz36_1
                          try clear hfz40_0
                          try clear hfz40_1
                          try clear hfz9_0
                          try clear hfz9_1
                          try clear p2
                          try clear p6
                          obtain ⟨kq, x11_41, rfl, HA, HJ41, BK350, HB⟩ := hcut
                          cases kq with
                          | zero => exact absurd HA.out (by simp [grottolaw02_RoundNearest.j3])
                          | succ kj41 =>
                            have H := HA.out
                            clear HA
                            simp only [grottolaw02_RoundNearest.j3] at H
                            have H' := Aside0.mk H
                            clear H
                            go_wp2
                            repeat (go_quiet (fail); try go_wp2)
                            go_loopg [12] kj41 (fun kq v12 w' => ∃ (x12_5 : Int), v12 = .int .i64 x12_5 ∧ Aside0 (grottolaw02_RoundNearest.l0 kq t353 ji22 ji32 x11_41 x12_5 a0_0 a0_1 = some r) ∧ Aside0 (kq ≤ kj41) ∧ Aside0 (w'.heap[gb350]? = some (.cells #[.int .i64 a0_0, .int .i64 a0_1] 23 (0, 0))) ∧ Aside0 (Below w.heap.size w w'))
                            case atStart => exact ⟨(0), (by first | rfl | (simp; done) | (simp [*]; done)), H', ⟨Nat.le_refl _⟩, ⟨zk BK350⟩, ⟨zb HB⟩⟩
                            case round =>
                              clear H'
                              try clear c1
                              try clear c2
                              try clear p2
                              try clear c3
                              try clear c4
                              try clear p6
                              try clear c7
                              try clear c8
                              try clear c8b0
                              try clear c15
                              try clear c19
                              try clear c19b0
                              try clear c19b1
                              try clear c21
                              try clear c21b0
                              try clear c21b1
                              try clear c28
                              try clear c28b0
                              try clear c28b1
                              try clear c29
                              try clear c31
                              try clear c31b0
                              try clear c31b1
                              try clear c38
                              try clear c38b0
                              try clear c38b1
                              try clear c43
                              try clear hcz11_0
                              try clear hcz11_1
                              try clear hcz13_0
                              try clear hcz13_1
                              try clear hcz24_0
                              try clear hcz24_1
                              try clear hcz26_0
                              try clear hcz26_1
                              try clear hcz36_0
                              try clear hcz36_1
                              try clear hcz40_0
                              try clear hcz40_1
                              try clear hcz9_0
                              try clear hcz9_1
                              try clear hfz11_0
                              try clear hfz11_1
                              try clear hfz13_0
                              try clear hfz13_1
                              try clear hfz24_0
                              try clear hfz24_1
                              try clear hfz26_0
                              try clear hfz26_1
                              try clear hfz36_0
                              try clear hfz36_1
                              try clear hfz40_0
                              try clear hfz40_1
                              try clear hfz9_0
                              try clear hfz9_1
                              try clear p2
                              try clear p6
                              obtain ⟨x12_5, rfl, HA, HK5, BK350, HB⟩ := hrel
                              cases gk with
                              | zero => exact absurd HA.out (by simp [grottolaw02_RoundNearest.l0])
                              | succ k5 =>
                                have H := HA.out
                                clear HA
                                simp only [grottolaw02_RoundNearest.l0] at H
                                by_cases c44 : x12_5 ≤ ji22
                                · rw [if_pos c44] at H
                                  have c44b0 : decide (x12_5 ≤ ji22) = true := decide_eq_true c44
                                  clear c44
                                  replace H := Option.bind_eq_some_iff.mp H
                                  obtain ⟨t358, A450, H⟩ := H
                                  replace H : (if x12_5 = (wrap64 (t353)) then (grottolaw02_RoundNearest.l0 k5 t353 ji22 ji32 x11_41 (wrap64 (x12_5 + 1)) a0_0 a0_1) else (if (mx (wrap64 (ji32 - t358)) (wrap64 (-(wrap64 (ji32 - t358))))) < x11_41 then (some false) else (if (mx (wrap64 (ji32 - t358)) (wrap64 (-(wrap64 (ji32 - t358))))) = x11_41 then (if (Int.tmod t353 2) = 1 then (some false) else (grottolaw02_RoundNearest.l0 k5 t353 ji22 ji32 x11_41 (wrap64 (x12_5 + 1)) a0_0 a0_1)) else (grottolaw02_RoundNearest.l0 k5 t353 ji22 ji32 x11_41 (wrap64 (x12_5 + 1)) a0_0 a0_1)))) = some r := H
                                  have A45 := Aside0.mk A450
                                  clear A450
                                  obtain ⟨ji46, hji46⟩ : ∃ j_ : Int, (mx (wrap64 (ji32 - t358)) (wrap64 (-(wrap64 (ji32 - t358))))) = j_ := ⟨_, rfl⟩
                                  replace H : (if x12_5 = (wrap64 (t353)) then (grottolaw02_RoundNearest.l0 k5 t353 ji22 ji32 x11_41 (wrap64 (x12_5 + 1)) a0_0 a0_1) else (if (ji46) < x11_41 then (some false) else (if (ji46) = x11_41 then (if (Int.tmod t353 2) = 1 then (some false) else (grottolaw02_RoundNearest.l0 k5 t353 ji22 ji32 x11_41 (wrap64 (x12_5 + 1)) a0_0 a0_1)) else (grottolaw02_RoundNearest.l0 k5 t353 ji22 ji32 x11_41 (wrap64 (x12_5 + 1)) a0_0 a0_1)))) = some r := by first | (rw [hji46] at H; exact H) | (simp only [hji46] at H ⊢; exact H)
                                  (try rw [hji46] at A45)
                                  have hji46_ : (if (wrap64 (ji32 - t358)) < (wrap64 (-(wrap64 (ji32 - t358)))) then (wrap64 (-(wrap64 (ji32 - t358)))) else (wrap64 (ji32 - t358))) = ji46 := hji46
                                  by_cases c47 : x12_5 = (wrap64 (t353))
                                  · rw [if_pos c47] at H
                                    have c47b0 : (x12_5 == (wrap64 (t353))) = true := beq_iff_eq.mpr c47
                                    have c47b1 : (x12_5 != (wrap64 (t353))) = false := bne_eq_false_iff_eq.mpr c47
                                    clear c47
                                    have H' := Aside0.mk H
                                    clear H
                                    obtain ⟨hcz48_0, hcz48_1, hfz48_0, hfz48_1⟩ := zc2 BK350
                                    go_wp2_with (first | (go_at_call 15; (with_reducible refine (grottolaw02_value.calls k5 a0_0 a0_1 x12_5 t358 _ A45.out).mono ?_); rintro e w49 ⟨rfl, hb⟩; replace BK350 := zkb BK350 hb; replace HB := zbs HB hb; (try clear hb); (try clear hb2); (try clear hk); (try clear hi)))
                                    repeat (go_quiet (first | (go_at_call 15; (with_reducible refine (grottolaw02_value.calls k5 a0_0 a0_1 x12_5 t358 _ A45.out).mono ?_); rintro e w49 ⟨rfl, hb⟩; replace BK350 := zkb BK350 hb; replace HB := zbs HB hb; (try clear hb); (try clear hb2); (try clear hk); (try clear hi))); try go_wp2_with (first | (go_at_call 15; (with_reducible refine (grottolaw02_value.calls k5 a0_0 a0_1 x12_5 t358 _ A45.out).mono ?_); rintro e w49 ⟨rfl, hb⟩; replace BK350 := zkb BK350 hb; replace HB := zbs HB hb; (try clear hb); (try clear hb2); (try clear hk); (try clear hi))))
                                    go_roundg k5
                                    case measure => have := HJ3.out; have := HJ22.out; have := HJ34.out; have := HJ41.out; have := HK5.out; omega
                                    case rel => exact ⟨(wrap64 (x12_5 + 1)), (by first | rfl | (simp; done) | (simp [*]; done)), H', ⟨by have := HJ3.out; have := HJ22.out; have := HJ34.out; have := HJ41.out; have := HK5.out; omega⟩, ⟨zk BK350⟩, ⟨zb HB⟩⟩
                                  · rw [if_neg c47] at H
                                    have c47b0 : (x12_5 == (wrap64 (t353))) = false := beq_eq_false_iff_ne.mpr c47
                                    have c47b1 : (x12_5 != (wrap64 (t353))) = true := bne_iff_ne.mpr c47
                                    by_cases c50 : (ji46) < x11_41
                                    · rw [if_pos c50] at H
                                      have c50b0 : decide ((ji46) < x11_41) = true := decide_eq_true c50
                                      clear c50
                                      obtain rfl := Option.some.inj H
                                      obtain ⟨hcz51_0, hcz51_1, hfz51_0, hfz51_1⟩ := zc2 BK350
                                      go_wp2_with (first | (go_at_call 15; (with_reducible refine (grottolaw02_value.calls k5 a0_0 a0_1 x12_5 t358 _ A45.out).mono ?_); rintro e w52 ⟨rfl, hb⟩; replace BK350 := zkb BK350 hb; replace HB := zbs HB hb; (try clear hb); (try clear hb2); (try clear hk); (try clear hi)))
                                      repeat (go_quiet (first | (go_at_call 15; (with_reducible refine (grottolaw02_value.calls k5 a0_0 a0_1 x12_5 t358 _ A45.out).mono ?_); rintro e w52 ⟨rfl, hb⟩; replace BK350 := zkb BK350 hb; replace HB := zbs HB hb; (try clear hb); (try clear hb2); (try clear hk); (try clear hi))); try go_wp2_with (first | (go_at_call 15; (with_reducible refine (grottolaw02_value.calls k5 a0_0 a0_1 x12_5 t358 _ A45.out).mono ?_); rintro e w52 ⟨rfl, hb⟩; replace BK350 := zkb BK350 hb; replace HB := zbs HB hb; (try clear hb); (try clear hb2); (try clear hk); (try clear hi))))
                                      go_ret
                                      exact ⟨by first | rfl | (simp [errW_none, errW_some] <;> rfl) | (simp only [← hji20, ← hji22, ← hji30, ← hji32, ← hji34, ← hji46]; first | rfl | (simp [errW_none, errW_some] <;> rfl)) | (simp [*, errW_none, errW_some] <;> rfl), zb HB⟩
                                    · rw [if_neg c50] at H
                                      have c50b0 : decide ((ji46) < x11_41) = false := decide_eq_false c50
                                      clear c50
                                      by_cases c53 : (ji46) = x11_41
                                      · rw [if_pos c53] at H
                                        have c53b0 : ((ji46) == x11_41) = true := beq_iff_eq.mpr c53
                                        have c53b1 : ((ji46) != x11_41) = false := bne_eq_false_iff_eq.mpr c53
                                        clear c53
                                        by_cases c54 : (Int.tmod t353 2) = 1
                                        · rw [if_pos c54] at H
                                          have c54b0 : ((Int.tmod t353 2) == 1) = true := beq_iff_eq.mpr c54
                                          have c54b1 : ((Int.tmod t353 2) != 1) = false := bne_eq_false_iff_eq.mpr c54
                                          clear c54
                                          obtain rfl := Option.some.inj H
                                          obtain ⟨hcz55_0, hcz55_1, hfz55_0, hfz55_1⟩ := zc2 BK350
                                          go_wp2_with (first | (go_at_call 15; (with_reducible refine (grottolaw02_value.calls k5 a0_0 a0_1 x12_5 t358 _ A45.out).mono ?_); rintro e w56 ⟨rfl, hb⟩; replace BK350 := zkb BK350 hb; replace HB := zbs HB hb; (try clear hb); (try clear hb2); (try clear hk); (try clear hi)))
                                          repeat (go_quiet (first | (go_at_call 15; (with_reducible refine (grottolaw02_value.calls k5 a0_0 a0_1 x12_5 t358 _ A45.out).mono ?_); rintro e w56 ⟨rfl, hb⟩; replace BK350 := zkb BK350 hb; replace HB := zbs HB hb; (try clear hb); (try clear hb2); (try clear hk); (try clear hi))); try go_wp2_with (first | (go_at_call 15; (with_reducible refine (grottolaw02_value.calls k5 a0_0 a0_1 x12_5 t358 _ A45.out).mono ?_); rintro e w56 ⟨rfl, hb⟩; replace BK350 := zkb BK350 hb; replace HB := zbs HB hb; (try clear hb); (try clear hb2); (try clear hk); (try clear hi))))
                                          go_ret
                                          exact ⟨by first | rfl | (simp [errW_none, errW_some] <;> rfl) | (simp only [← hji20, ← hji22, ← hji30, ← hji32, ← hji34, ← hji46]; first | rfl | (simp [errW_none, errW_some] <;> rfl)) | (simp [*, errW_none, errW_some] <;> rfl), zb HB⟩
                                        · rw [if_neg c54] at H
                                          have c54b0 : ((Int.tmod t353 2) == 1) = false := beq_eq_false_iff_ne.mpr c54
                                          have c54b1 : ((Int.tmod t353 2) != 1) = true := bne_iff_ne.mpr c54
                                          have H' := Aside0.mk H
                                          clear H
                                          obtain ⟨hcz57_0, hcz57_1, hfz57_0, hfz57_1⟩ := zc2 BK350
                                          go_wp2_with (first | (go_at_call 15; (with_reducible refine (grottolaw02_value.calls k5 a0_0 a0_1 x12_5 t358 _ A45.out).mono ?_); rintro e w58 ⟨rfl, hb⟩; replace BK350 := zkb BK350 hb; replace HB := zbs HB hb; (try clear hb); (try clear hb2); (try clear hk); (try clear hi)))
                                          repeat (go_quiet (first | (go_at_call 15; (with_reducible refine (grottolaw02_value.calls k5 a0_0 a0_1 x12_5 t358 _ A45.out).mono ?_); rintro e w58 ⟨rfl, hb⟩; replace BK350 := zkb BK350 hb; replace HB := zbs HB hb; (try clear hb); (try clear hb2); (try clear hk); (try clear hi))); try go_wp2_with (first | (go_at_call 15; (with_reducible refine (grottolaw02_value.calls k5 a0_0 a0_1 x12_5 t358 _ A45.out).mono ?_); rintro e w58 ⟨rfl, hb⟩; replace BK350 := zkb BK350 hb; replace HB := zbs HB hb; (try clear hb); (try clear hb2); (try clear hk); (try clear hi))))
                                          go_roundg k5
                                          case measure => have := HJ3.out; have := HJ22.out; have := HJ34.out; have := HJ41.out; have := HK5.out; omega
                                          case rel => exact ⟨(wrap64 (x12_5 + 1)), (by first | rfl | (simp; done) | (simp [*]; done)), H', ⟨by have := HJ3.out; have := HJ22.out; have := HJ34.out; have := HJ41.out; have := HK5.out; omega⟩, ⟨zk BK350⟩, ⟨zb HB⟩⟩
                                      · rw [if_neg c53] at H
                                        have c53b0 : ((ji46) == x11_41) = false := beq_eq_false_iff_ne.mpr c53
                                        have c53b1 : ((ji46) != x11_41) = true := bne_iff_ne.mpr c53
                                        have H' := Aside0.mk H
                                        clear H
                                        obtain ⟨hcz59_0, hcz59_1, hfz59_0, hfz59_1⟩ := zc2 BK350
                                        go_wp2_with (first | (go_at_call 15; (with_reducible refine (grottolaw02_value.calls k5 a0_0 a0_1 x12_5 t358 _ A45.out).mono ?_); rintro e w60 ⟨rfl, hb⟩; replace BK350 := zkb BK350 hb; replace HB := zbs HB hb; (try clear hb); (try clear hb2); (try clear hk); (try clear hi)))
                                        repeat (go_quiet (first | (go_at_call 15; (with_reducible refine (grottolaw02_value.calls k5 a0_0 a0_1 x12_5 t358 _ A45.out).mono ?_); rintro e w60 ⟨rfl, hb⟩; replace BK350 := zkb BK350 hb; replace HB := zbs HB hb; (try clear hb); (try clear hb2); (try clear hk); (try clear hi))); try go_wp2_with (first | (go_at_call 15; (with_reducible refine (grottolaw02_value.calls k5 a0_0 a0_1 x12_5 t358 _ A45.out).mono ?_); rintro e w60 ⟨rfl, hb⟩; replace BK350 := zkb BK350 hb; replace HB := zbs HB hb; (try clear hb); (try clear hb2); (try clear hk); (try clear hi))))
                                        go_roundg k5
                                        case measure => have := HJ3.out; have := HJ22.out; have := HJ34.out; have := HJ41.out; have := HK5.out; omega
                                        case rel => exact ⟨(wrap64 (x12_5 + 1)), (by first | rfl | (simp; done) | (simp [*]; done)), H', ⟨by have := HJ3.out; have := HJ22.out; have := HJ34.out; have := HJ41.out; have := HK5.out; omega⟩, ⟨zk BK350⟩, ⟨zb HB⟩⟩
                                · rw [if_neg c44] at H
                                  have c44b0 : decide (x12_5 ≤ ji22) = false := decide_eq_false c44
                                  clear c44
                                  replace H := Option.bind_eq_some_iff.mp H
                                  obtain ⟨t359, A610, H⟩ := H
                                  replace H : (some t359) = some r := H
                                  have A61 := Aside0.mk A610
                                  clear A610
                                  obtain rfl := Option.some.inj H
                                  go_wp2_with (first | (go_at_call 13; (with_reducible refine (grottolaw02_live.calls k5  t359 _ A61.out).mono ?_); rintro e w62 ⟨rfl, hb⟩; replace BK350 := zkb BK350 hb; replace HB := zbs HB hb; (try clear hb); (try clear hb2); (try clear hk); (try clear hi)))
                                  repeat (go_quiet (first | (go_at_call 13; (with_reducible refine (grottolaw02_live.calls k5  t359 _ A61.out).mono ?_); rintro e w62 ⟨rfl, hb⟩; replace BK350 := zkb BK350 hb; replace HB := zbs HB hb; (try clear hb); (try clear hb2); (try clear hk); (try clear hi))); try go_wp2_with (first | (go_at_call 13; (with_reducible refine (grottolaw02_live.calls k5  t359 _ A61.out).mono ?_); rintro e w62 ⟨rfl, hb⟩; replace BK350 := zkb BK350 hb; replace HB := zbs HB hb; (try clear hb); (try clear hb2); (try clear hk); (try clear hi))))
                                  go_ret
                                  exact ⟨by first | rfl | (simp [errW_none, errW_some] <;> rfl) | (simp only [← hji20, ← hji22, ← hji30, ← hji32, ← hji34]; first | rfl | (simp [errW_none, errW_some] <;> rfl)) | (simp [*, errW_none, errW_some] <;> rfl), zb HB⟩
                  · rw [if_neg c31] at H
                    exact absurd H (by simp)
          · rw [if_neg c21] at H
            exact absurd H (by simp)
        · rw [if_neg c19] at H
          exact absurd H (by simp)

end Go.Proofs.Ytcfmmkapefpjjaa.PQ
