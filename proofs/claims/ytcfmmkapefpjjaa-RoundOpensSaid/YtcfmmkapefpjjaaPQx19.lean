-- by a program of this claim
import Derived.Test.YtcfmmkapefpjjaaPQx0
import Derived.Test.YtcfmmkapefpjjaaPQx1
import Derived.Test.YtcfmmkapefpjjaaPQx2
import Derived.Test.YtcfmmkapefpjjaaPQx4
import Derived.Test.YtcfmmkapefpjjaaPQx5
import Derived.Test.YtcfmmkapefpjjaaPQx6
import Derived.Test.YtcfmmkapefpjjaaPQx10
import Derived.Test.YtcfmmkapefpjjaaPQx11
namespace Go.Proofs.Ytcfmmkapefpjjaa.PQ
open Go.RowKit Go.Proofs.YtcfmmkapefpjjaaW.PrintWords Go.Proofs.YtcfmmkapefpjjaaW.PrintLast Go.Proofs.YtcfmmkapefpjjaaW.PrintMore Go.Proofs.Ytcfmmkapefpjjaa.Z
attribute [local go_sem] max2_int min2_int max_two min_two max_three min_three max_four min_four   -- for this text's walks alone
set_option linter.unusedVariables false
set_option linter.unusedSimpArgs false

attribute [local go_sem high] eqA42
/-! ### grottolaw02_RoundOpens: function 8 -/
mutual
def grottolaw02_RoundOpens.j0 : Nat → Bool → Int → Bool → Int → Int → Option (Bool)
  | 0, _, _, _, _, _ => none
  | k + 1, x2, x10, x39, x423000, x423001 => if x39 = true then (some false) else (if x10 = 0 then (grottolaw02_RoundOpens.j1 k x2 true x423000 x423001) else ((grottoref02_Check.f x423000 x423001).bind fun t439 => (grottolaw02_RoundOpens.j1 k x2 (t439 == 0) x423000 x423001)))
def grottolaw02_RoundOpens.j1 : Nat → Bool → Bool → Int → Int → Option (Bool)
  | 0, _, _, _, _ => none
  | k + 1, x2, x46, x423000, x423001 => if x46 = true then ((round_NaN.f x423000 x423001).bind fun t440 => ((grottoref02_NaN.f k x423000 x423001).bind fun t441 => (if t440 = t441 then ((round_Inf.f x423000 x423001 x2).bind fun t442 => ((grottoref02_Inf.f k x423000 x423001 x2).bind fun t443 => (if t442 = t443 then ((round_Zero.f x423000 x423001 x2).bind fun t444 => ((grottoref02_Zero.f k x423000 x423001 x2).bind fun t445 => (if t444 = t445 then ((grottolaw02_live.f k).bind fun t446 => (some t446)) else (some false)))) else (some false)))) else (some false)))) else ((round_NaN.f x423000 x423001).bind fun t447 => (if t447 = 0 then ((round_Inf.f x423000 x423001 x2).bind fun t448 => (if t448 = 0 then ((round_Zero.f x423000 x423001 x2).bind fun t449 => (if t449 = 0 then ((grottolaw02_live.f k).bind fun t450 => (some t450)) else (some false))) else (some false))) else (some false)))
end
def grottolaw02_RoundOpens.f (k : Nat) (a0_0 : Int) (a0_1 : Int) (a1 : Int) (a2 : Bool) : Option (Bool) := (round_Open.f k a0_0 a0_1 a1).bind fun bt423 => ((grottoref02_Open.f k a0_0 a0_1 a1).bind fun bt429 => (if (!(bt423.1 == bt429.1) || (!(bt423.2.1 == bt429.2.1) || (!(bt423.2.2.1 == bt429.2.2.1) || (!(bt423.2.2.2.1 == bt429.2.2.2.1))))) = true then (grottolaw02_RoundOpens.j0 k a2 bt429.2.2.2.2 true a0_0 a0_1) else ((grottolaw02_num.f bt423.2.2.2.2).bind fun t435 => (if t435 = bt429.2.2.2.2 then ((round_Check.f a0_0 a0_1).bind fun t436 => ((grottolaw02_num.f t436).bind fun t437 => ((grottoref02_Check.f a0_0 a0_1).bind fun t438 => (grottolaw02_RoundOpens.j0 k a2 bt429.2.2.2.2 (t437 != t438) a0_0 a0_1)))) else (grottolaw02_RoundOpens.j0 k a2 bt429.2.2.2.2 true a0_0 a0_1)))))
theorem grottolaw02_RoundOpens.mono_l : ∀ k, (∀ y0 y1 y2 y3 y4, LeO (grottolaw02_RoundOpens.j0 k y0 y1 y2 y3 y4) (grottolaw02_RoundOpens.j0 (k + 1) y0 y1 y2 y3 y4)) ∧ (∀ y0 y1 y2 y3, LeO (grottolaw02_RoundOpens.j1 k y0 y1 y2 y3) (grottolaw02_RoundOpens.j1 (k + 1) y0 y1 y2 y3))
  | 0 => ⟨fun _ _ _ _ _ r h => by simp [grottolaw02_RoundOpens.j0] at h, fun _ _ _ _ r h => by simp [grottolaw02_RoundOpens.j1] at h⟩
  | k + 1 => by
    obtain ⟨ih0, ih1⟩ := grottolaw02_RoundOpens.mono_l k
    refine ⟨?_, ?_⟩
    · intro y0 y1 y2 y3 y4
      unfold grottolaw02_RoundOpens.j0
      repeat' first
      | (with_reducible exact ih0 _ _ _ _ _)
      | (with_reducible exact ih1 _ _ _ _)
      | (with_reducible exact grottolaw02_live.mono _)
      | (with_reducible exact grottoref02_Inf.mono _ _ _ _)
      | (with_reducible exact grottoref02_NaN.mono _ _ _)
      | (with_reducible exact grottoref02_Open.mono _ _ _ _)
      | (with_reducible exact grottoref02_Zero.mono _ _ _ _)
      | (with_reducible exact round_Open.mono _ _ _ _)
      | (with_reducible exact LeO.refl _)
      | (with_reducible exact LeO.none _)
      | (with_reducible refine LeO.ite ?_ ?_)
      | (with_reducible refine LeO.bind ?_ (fun _ => ?_))
      | exact ih0 _ _ _ _ _
      | exact ih1 _ _ _ _
      | exact grottolaw02_live.mono _
      | exact grottoref02_Inf.mono _ _ _ _
      | exact grottoref02_NaN.mono _ _ _
      | exact grottoref02_Open.mono _ _ _ _
      | exact grottoref02_Zero.mono _ _ _ _
      | exact round_Open.mono _ _ _ _
      | exact LeO.none _
      | refine LeO.ite ?_ ?_
      | refine LeO.bind ?_ (fun _ => ?_)
    · intro y0 y1 y2 y3
      unfold grottolaw02_RoundOpens.j1
      repeat' first
      | (with_reducible exact ih0 _ _ _ _ _)
      | (with_reducible exact ih1 _ _ _ _)
      | (with_reducible exact grottolaw02_live.mono _)
      | (with_reducible exact grottoref02_Inf.mono _ _ _ _)
      | (with_reducible exact grottoref02_NaN.mono _ _ _)
      | (with_reducible exact grottoref02_Open.mono _ _ _ _)
      | (with_reducible exact grottoref02_Zero.mono _ _ _ _)
      | (with_reducible exact round_Open.mono _ _ _ _)
      | (with_reducible exact LeO.refl _)
      | (with_reducible exact LeO.none _)
      | (with_reducible refine LeO.ite ?_ ?_)
      | (with_reducible refine LeO.bind ?_ (fun _ => ?_))
      | exact ih0 _ _ _ _ _
      | exact ih1 _ _ _ _
      | exact grottolaw02_live.mono _
      | exact grottoref02_Inf.mono _ _ _ _
      | exact grottoref02_NaN.mono _ _ _
      | exact grottoref02_Open.mono _ _ _ _
      | exact grottoref02_Zero.mono _ _ _ _
      | exact round_Open.mono _ _ _ _
      | exact LeO.none _
      | refine LeO.ite ?_ ?_
      | refine LeO.bind ?_ (fun _ => ?_)
theorem grottolaw02_RoundOpens.mono : ∀ a0 a1 a2 a3 k, LeO (grottolaw02_RoundOpens.f k a0 a1 a2 a3) (grottolaw02_RoundOpens.f (k + 1) a0 a1 a2 a3) := by
  intro a0 a1 a2 a3 k
  obtain ⟨ih0, ih1⟩ := grottolaw02_RoundOpens.mono_l k
  unfold grottolaw02_RoundOpens.f
  repeat' first
      | (with_reducible exact ih0 _ _ _ _ _)
      | (with_reducible exact ih1 _ _ _ _)
      | (with_reducible exact grottolaw02_live.mono _)
      | (with_reducible exact grottoref02_Inf.mono _ _ _ _)
      | (with_reducible exact grottoref02_NaN.mono _ _ _)
      | (with_reducible exact grottoref02_Open.mono _ _ _ _)
      | (with_reducible exact grottoref02_Zero.mono _ _ _ _)
      | (with_reducible exact round_Open.mono _ _ _ _)
      | (with_reducible exact LeO.refl _)
      | (with_reducible exact LeO.none _)
      | (with_reducible refine LeO.ite ?_ ?_)
      | (with_reducible refine LeO.bind ?_ (fun _ => ?_))
      | exact ih0 _ _ _ _ _
      | exact ih1 _ _ _ _
      | exact grottolaw02_live.mono _
      | exact grottoref02_Inf.mono _ _ _ _
      | exact grottoref02_NaN.mono _ _ _
      | exact grottoref02_Open.mono _ _ _ _
      | exact grottoref02_Zero.mono _ _ _ _
      | exact round_Open.mono _ _ _ _
      | exact LeO.none _
      | refine LeO.ite ?_ ?_
      | refine LeO.bind ?_ (fun _ => ?_)
def grottolaw02_RoundOpens.T3 : Bool × List (List Nat × List Nat) := (true, [([], []), ([], []), ([0, 1], [0, 1]), ([2], [2]), ([3], [3]), ([4, 3, 3], [3, 4]), ([3], [3]), ([5, 6, 3], [3, 5, 6]), ([3, 7], [3, 7]), ([8, 5], [8]), ([9], [9]), ([10, 9, 9], [9, 10]), ([11, 11, 9], [9, 11]), ([9], [9]), ([13, 12, 9], [9, 13]), ([12, 14, 9], [9, 12, 14]), ([9, 15], [9, 15])])
def grottolaw02_RoundOpens.B3 : List Nat := [0, 0, 3, 7, 15, 31, 15, 127, 255, 511, 1023, 2047, 4095, 1023, 16383, 32767, 65535]
theorem grottolaw02_RoundOpens.tab3 : rtab .any (opsOf Try.f8 3) = grottolaw02_RoundOpens.T3 := by kernel_rfl
theorem grottolaw02_RoundOpens.bits3 : waitsOk grottolaw02_RoundOpens.T3.2 grottolaw02_RoundOpens.B3 = true := by kernel_rfl
def grottolaw02_RoundOpens.T6 : Bool × List (List Nat × List Nat) := (true, [([], []), ([0], [0]), ([], []), ([2, 1], [2]), ([1, 3], [1, 3]), ([4, 3], [4]), ([5], [5]), ([5], [5]), ([6, 7, 5, 5], [5, 6, 7]), ([5], [5]), ([5], [5]), ([9, 10, 8, 5], [5, 9, 10]), ([8, 11, 5], [5, 8, 11]), ([5, 12], [5, 12]), ([13, 11], [13]), ([14], [14]), ([14], [14]), ([15, 16, 14, 14], [14, 15, 16]), ([14], [14]), ([14], [14]), ([18, 19, 17, 14], [14, 18, 19]), ([17, 20, 14], [14, 17, 20]), ([14, 21], [14, 21]), ([22, 20], [22]), ([23, 23], [23]), ([23, 24], [23, 24]), ([25, 24, 0, 1, 2, 3, 4, 5, 6, 7, 8, 9, 10, 11, 12, 13, 14, 15, 16, 17, 18, 19, 20, 21, 22, 23, 24, 25], [25])])
def grottolaw02_RoundOpens.B6 : List Nat := [0, 1, 0, 7, 15, 31, 63, 63, 255, 63, 63, 2047, 4095, 8191, 16383, 32767, 32767, 131071, 32767, 32767, 1048575, 2097151, 4194303, 8388607, 16777215, 33554431, 67108863]
theorem grottolaw02_RoundOpens.tab6 : rtab .any (opsOf Try.f8 6) = grottolaw02_RoundOpens.T6 := by kernel_rfl
theorem grottolaw02_RoundOpens.bits6 : waitsOk grottolaw02_RoundOpens.T6.2 grottolaw02_RoundOpens.B6 = true := by kernel_rfl
set_option maxHeartbeats 8000000 in
set_option maxRecDepth 100000 in
theorem grottolaw02_RoundOpens.calls (k : Nat) (a0_0 : Int) (a0_1 : Int) (a1 : Int) (a2 : Bool) (r : Bool) (w : World) (h : grottolaw02_RoundOpens.f k a0_0 a0_1 a1 a2 = some r) :
    Calls Try.prog 8 #[.agg #[.int .i64 a0_0, .int .i64 a0_1], .int .u64 a1, .bool a2] w fun e w' => e = .returned (.bool r) ∧ Below w.heap.size w w' := by
  have hu23 := Try.underlying23
  have hu42 := Try.underlying42
  have HB := Aside0.mk (Below.refl w.heap.size w)
  have H : ((round_Open.f k a0_0 a0_1 a1).bind fun bt423 => ((grottoref02_Open.f k a0_0 a0_1 a1).bind fun bt429 => (if (!(bt423.1 == bt429.1) || (!(bt423.2.1 == bt429.2.1) || (!(bt423.2.2.1 == bt429.2.2.1) || (!(bt423.2.2.2.1 == bt429.2.2.2.1))))) = true then (grottolaw02_RoundOpens.j0 k a2 bt429.2.2.2.2 true a0_0 a0_1) else ((grottolaw02_num.f bt423.2.2.2.2).bind fun t435 => (if t435 = bt429.2.2.2.2 then ((round_Check.f a0_0 a0_1).bind fun t436 => ((grottolaw02_num.f t436).bind fun t437 => ((grottoref02_Check.f a0_0 a0_1).bind fun t438 => (grottolaw02_RoundOpens.j0 k a2 bt429.2.2.2.2 (t437 != t438) a0_0 a0_1)))) else (grottolaw02_RoundOpens.j0 k a2 bt429.2.2.2.2 true a0_0 a0_1)))))) = some r := h
  clear h
  replace H := Option.bind_eq_some_iff.mp H
  obtain ⟨⟨t423, t424, t425, t426, t427⟩, A40, H⟩ := H
  replace H : ((grottoref02_Open.f k a0_0 a0_1 a1).bind fun bt429 => (if (!(t423 == bt429.1) || (!(t424 == bt429.2.1) || (!(t425 == bt429.2.2.1) || (!(t426 == bt429.2.2.2.1))))) = true then (grottolaw02_RoundOpens.j0 k a2 bt429.2.2.2.2 true a0_0 a0_1) else ((grottolaw02_num.f t427).bind fun t435 => (if t435 = bt429.2.2.2.2 then ((round_Check.f a0_0 a0_1).bind fun t436 => ((grottolaw02_num.f t436).bind fun t437 => ((grottoref02_Check.f a0_0 a0_1).bind fun t438 => (grottolaw02_RoundOpens.j0 k a2 bt429.2.2.2.2 (t437 != t438) a0_0 a0_1)))) else (grottolaw02_RoundOpens.j0 k a2 bt429.2.2.2.2 true a0_0 a0_1))))) = some r := H
  have A4 := Aside0.mk A40
  clear A40
  replace H := Option.bind_eq_some_iff.mp H
  obtain ⟨⟨t429, t430, t431, t432, t433⟩, A50, H⟩ := H
  replace H : (if (!(t423 == t429) || (!(t424 == t430) || (!(t425 == t431) || (!(t426 == t432))))) = true then (grottolaw02_RoundOpens.j0 k a2 t433 true a0_0 a0_1) else ((grottolaw02_num.f t427).bind fun t435 => (if t435 = t433 then ((round_Check.f a0_0 a0_1).bind fun t436 => ((grottolaw02_num.f t436).bind fun t437 => ((grottoref02_Check.f a0_0 a0_1).bind fun t438 => (grottolaw02_RoundOpens.j0 k a2 t433 (t437 != t438) a0_0 a0_1)))) else (grottolaw02_RoundOpens.j0 k a2 t433 true a0_0 a0_1)))) = some r := H
  have A5 := Aside0.mk A50
  clear A50
  have HC6 := Aside0.mk H
  clear H
  go_enter Try.func8, Try.ntmps8
  go_upto_region 3 with (first | ((with_reducible refine gate_dst (N := 3) rfl ?_); refine zbox (N := 3) (cs := #[.int .i64 a0_0, .int .i64 a0_1]) (t := 23) ?_; intro gb422 hg w7 hbox hb; have BK422 := Aside0.mk hbox; have GW422 := zge hg HB; have GE422 := zge hg HB; replace HB := zbs HB hb; clear hb hbox hg; obtain ⟨hcz8_0, hcz8_1, hfz8_0, hfz8_1⟩ := zc2 BK422) | ((with_reducible refine gate_callee (f := 16) rfl ?_); refine zgo (some 14) Try.func16 #[.agg #[.int .i64 a0_0, .int .i64 a0_1], .int .u64 a1] ?_; (with_reducible refine (round_Open.calls k a0_0 a0_1 a1 t423 t424 t425 t426 t427 _ A4.out).mono ?_); rintro e w9 ⟨rfl, hb⟩; refine ⟨_, rfl, ?_⟩; replace BK422 := zkb BK422 hb; replace HB := zbs HB hb; (try clear hb); (try clear hb2); (try clear hk); (try clear hi)) | ((with_reducible refine gate_dst (N := 7) rfl ?_); refine zbox (N := 7) (cs := #[.int .i64 0, .bool false, .int .i64 0, .int .u64 0]) (t := 42) ?_; intro gb428 hg w10 hbox hb; have BK428 := Aside0.mk hbox; have GW428 := zge hg HB; have GE428 := zge hg HB; have NB422_428 := znl hg BK422; have NB428_422 := zng hg BK422; replace BK422 := zkb BK422 hb; replace HB := zbs HB hb; clear hb hbox hg; have hnb11 := NB428_422.out; have hnc11 := NB422_428.out; obtain ⟨hcz12_0, hcz12_1, hcz12_2, hcz12_3, hfz12_0, hfz12_1, hfz12_2, hfz12_3⟩ := zc4 BK428; obtain ⟨hcz13_0, hcz13_1, hfz13_0, hfz13_1⟩ := zc2 BK422) | ((with_reducible refine gate_callee (f := 17) rfl ?_); refine zgo (some 20) Try.func17 #[.agg #[.int .i64 a0_0, .int .i64 a0_1], .int .u64 a1] ?_; (with_reducible refine (grottoref02_Open.calls k a0_0 a0_1 a1 t429 t430 t431 t432 t433 _ A5.out).mono ?_); rintro e w14 ⟨rfl, hb⟩; refine ⟨_, rfl, ?_⟩; replace BK422 := zkb BK422 hb; replace BK428 := zkbo (o := .cells #[.int .i64 t423, .bool t424, .int .i64 t425, .int .u64 t426] 42 (0, 0)) BK428 hb; replace HB := zbs HB hb; (try clear hb); (try clear hb2); (try clear hk); (try clear hi)) | ((with_reducible refine gate_dst (N := 9) rfl ?_); refine zbox (N := 9) (cs := #[.int .i64 0, .bool false, .int .i64 0, .int .u64 0]) (t := 42) ?_; intro gb434 hg w15 hbox hb; have BK434 := Aside0.mk hbox; have GW434 := zge hg HB; have GE434 := zge hg HB; have NB422_434 := znl hg BK422; have NB434_422 := zng hg BK422; have NB428_434 := znl hg BK428; have NB434_428 := zng hg BK428; replace BK422 := zkb BK422 hb; replace BK428 := zkb BK428 hb; replace HB := zbs HB hb; clear hb hbox hg; have hnb16 := NB434_422.out; have hnc16 := NB422_434.out; have hnb17 := NB434_428.out; have hnc17 := NB428_434.out; obtain ⟨hcz18_0, hcz18_1, hcz18_2, hcz18_3, hfz18_0, hfz18_1, hfz18_2, hfz18_3⟩ := zc4 BK434))
  (try simp only [Act.put, List.setIfInBounds_toArray, List.set_cons_zero, List.set_cons_succ])
  go_cut [39] (fun v39 wc => ∃ (kq : Nat) (x39_5 : Bool), v39 = .bool x39_5 ∧ Aside0 (grottolaw02_RoundOpens.j0 kq a2 t433 x39_5 a0_0 a0_1 = some r) ∧ Aside0 (kq ≤ k) ∧ Aside0 (wc.heap[gb422]? = some (.cells #[.int .i64 a0_0, .int .i64 a0_1] 23 (0, 0))) ∧ Aside0 (wc.heap[gb428]? = some (.cells #[.int .i64 t423, .bool t424, .int .i64 t425, .int .u64 t426] 42 (0, 0))) ∧ Aside0 (wc.heap[gb434]? = some (.cells #[.int .i64 t429, .bool t430, .int .i64 t431, .int .u64 t432] 42 (0, 0))) ∧ Aside0 (Below w.heap.size w wc))
  case first =>
    have H := HC6.out
    clear HC6
    by_cases c19 : (!(t423 == t429) || (!(t424 == t430) || (!(t425 == t431) || (!(t426 == t432))))) = true
    · rw [if_pos c19] at H
      have c19b0 : (!(t423 == t429) || (!(t424 == t430) || (!(t425 == t431) || (!(t426 == t432))))) = true := c19
      clear c19
      (first | rw [c19b0] | (simp only [i64_w, i32_w]; rw [c19b0]) | skip)
      have H' := Aside0.mk H
      clear H
      try go_wp2
      have n0_ : Aside0 (((((w15.setCell ⟨gb434, 0, none⟩ (.int .i64 t429)).setCell ⟨gb434, 1, none⟩ (.bool t430)).setCell ⟨gb434, 2, none⟩ (.int .i64 t431)).setCell ⟨gb434, 3, none⟩ (.int .u64 t432)).heap[gb422]? = some (.cells #[.int .i64 a0_0, .int .i64 a0_1] 23 (0, 0))) := ⟨zk BK422⟩
      have n1_ : Aside0 (((((w15.setCell ⟨gb434, 0, none⟩ (.int .i64 t429)).setCell ⟨gb434, 1, none⟩ (.bool t430)).setCell ⟨gb434, 2, none⟩ (.int .i64 t431)).setCell ⟨gb434, 3, none⟩ (.int .u64 t432)).heap[gb428]? = some (.cells #[.int .i64 t423, .bool t424, .int .i64 t425, .int .u64 t426] 42 (0, 0))) := ⟨zk BK428⟩
      have n2_ : Aside0 (((((w15.setCell ⟨gb434, 0, none⟩ (.int .i64 t429)).setCell ⟨gb434, 1, none⟩ (.bool t430)).setCell ⟨gb434, 2, none⟩ (.int .i64 t431)).setCell ⟨gb434, 3, none⟩ (.int .u64 t432)).heap[gb434]? = some (.cells #[.int .i64 t429, .bool t430, .int .i64 t431, .int .u64 t432] 42 (0, 0))) := ⟨zkp BK434⟩
      have n3_ : Aside0 (Below w.heap.size w ((((w15.setCell ⟨gb434, 0, none⟩ (.int .i64 t429)).setCell ⟨gb434, 1, none⟩ (.bool t430)).setCell ⟨gb434, 2, none⟩ (.int .i64 t431)).setCell ⟨gb434, 3, none⟩ (.int .u64 t432))) := ⟨zb HB⟩
      (try clear BK422)
      (try clear BK428)
      (try clear BK434)
      (try clear HB)
      generalize ((((w15.setCell ⟨gb434, 0, none⟩ (.int .i64 t429)).setCell ⟨gb434, 1, none⟩ (.bool t430)).setCell ⟨gb434, 2, none⟩ (.int .i64 t431)).setCell ⟨gb434, 3, none⟩ (.int .u64 t432)) = w20 at n0_ n1_ n2_ n3_ ⊢
      have BK422 := n0_
      have BK428 := n1_
      have BK434 := n2_
      have HB := n3_
      clear n0_ n1_ n2_ n3_
      replace BK422 := Aside0.mk (blk_drew BK422.out)
      replace BK428 := Aside0.mk (blk_drew BK428.out)
      replace BK434 := Aside0.mk (blk_drew BK434.out)
      replace HB := Aside0.mk (below_drew1 HB.out)
      refine start_ (n := 17) (S := fun w' => w'.cell? ⟨gb428, 0, none⟩ = some (.int .i64 t423) ∧ w'.cell? ⟨gb428, 1, none⟩ = some (.bool t424) ∧ w'.cell? ⟨gb428, 2, none⟩ = some (.int .i64 t425) ∧ w'.cell? ⟨gb428, 3, none⟩ = some (.int .u64 t426) ∧ w'.cell? ⟨gb434, 0, none⟩ = some (.int .i64 t429) ∧ w'.cell? ⟨gb434, 1, none⟩ = some (.bool t430) ∧ w'.cell? ⟨gb434, 2, none⟩ = some (.int .i64 t431) ∧ w'.cell? ⟨gb434, 3, none⟩ = some (.int .u64 t432)) (ds := []) #[false, false, false, false, false, false, false, false, false, false, false, false, false, false, false, false, false] (by kernel_rfl) rfl rfl ⟨(blk_cell BK428.out 0).trans rfl, (blk_cell BK428.out 1).trans rfl, (blk_cell BK428.out 2).trans rfl, (blk_cell BK428.out 3).trans rfl, (blk_cell BK434.out 0).trans rfl, (blk_cell BK434.out 1).trans rfl, (blk_cell BK434.out 2).trans rfl, (blk_cell BK434.out 3).trans rfl⟩ (fun hHeld => ?_); refine with_tabW grottolaw02_RoundOpens.tab3 grottolaw02_RoundOpens.bits3 (fun HT_ HW_ => ?_)
      generalize w20.drew = w21 at BK422 BK428 BK434 HB hHeld ⊢
      refine ztake_ (i := 0) (N := some 23) #[true, false, false, false, false, false, false, false, false, false, false, false, false, false, false, false, false] rfl (take_ofW HT_.out HW_.out (by kernel_rfl)) hHeld (Or.inl ⟨by rfl, by rintro w' ⟨s0, s1, s2, s3, s4, s5, s6, s7⟩; go_simp; with_reducible rfl⟩) ?_
      refine ztake_ (i := 1) (N := some 24) #[true, true, false, false, false, false, false, false, false, false, false, false, false, false, false, false, false] rfl (take_ofW HT_.out HW_.out (by kernel_rfl)) hHeld (Or.inl ⟨by rfl, by rintro w' ⟨s0, s1, s2, s3, s4, s5, s6, s7⟩; go_simp; with_reducible rfl⟩) ?_
      refine zpure_ (i := 2) (N := some 25) #[true, true, true, false, false, false, false, false, false, false, false, false, false, false, false, false, false] (any_of HT_.out (by kernel_rfl)) ?_
      refine zpure_ (i := 3) (N := some 26) #[true, true, true, true, false, false, false, false, false, false, false, false, false, false, false, false, false] (any_of HT_.out (by kernel_rfl)) ?_
      refine pure_ (i := 4) (N := some 27) (v := undef) (a' := ?_) #[true, true, true, true, true, false, false, false, false, false, false, false, false, false, false, false, false] rfl rfl (any_of HT_.out (by kernel_rfl)) (fun _ _ _ h => h) (Or.inr ⟨by rfl, rfl⟩) ?_ ?_
      rotate_left
      · simp only [Act.put, List.setIfInBounds_toArray, List.set_cons_zero, List.set_cons_succ, i64_w, i32_w]
        rfl
      refine pure_ (i := 5) (N := some 28) (v := undef) (a' := ?_) #[true, true, true, true, true, true, false, false, false, false, false, false, false, false, false, false, false] rfl rfl (any_of HT_.out (by kernel_rfl)) (fun _ _ _ h => h) (Or.inr ⟨by rfl, rfl⟩) ?_ ?_
      rotate_left
      · simp only [Act.put, List.setIfInBounds_toArray, List.set_cons_zero, List.set_cons_succ, i64_w, i32_w]
        rfl
      refine pure_ (i := 6) (N := some 29) (v := undef) (a' := ?_) #[true, true, true, true, true, true, true, false, false, false, false, false, false, false, false, false, false] rfl rfl (any_of HT_.out (by kernel_rfl)) (fun _ _ _ h => h) (Or.inr ⟨by rfl, rfl⟩) ?_ ?_
      rotate_left
      · simp only [Act.put, List.setIfInBounds_toArray, List.set_cons_zero, List.set_cons_succ, i64_w, i32_w]
        rfl
      refine pure_ (i := 7) (N := some 30) (v := undef) (a' := ?_) #[true, true, true, true, true, true, true, true, false, false, false, false, false, false, false, false, false] rfl rfl (any_of HT_.out (by kernel_rfl)) (fun _ _ _ h => h) (Or.inr ⟨by rfl, rfl⟩) ?_ ?_
      rotate_left
      · simp only [Act.put, List.setIfInBounds_toArray, List.set_cons_zero, List.set_cons_succ, i64_w, i32_w]
        rfl
      refine zpure_ (i := 8) (N := some 31) #[true, true, true, true, true, true, true, true, true, false, false, false, false, false, false, false, false] (any_of HT_.out (by kernel_rfl)) ?_
      refine zpure_ (i := 9) (N := some 32) #[true, true, true, true, true, true, true, true, true, true, false, false, false, false, false, false, false] (any_of HT_.out (by kernel_rfl)) ?_
      refine pure_ (i := 10) (N := some 33) (v := undef) (a' := ?_) #[true, true, true, true, true, true, true, true, true, true, true, false, false, false, false, false, false] rfl rfl (any_of HT_.out (by kernel_rfl)) (fun _ _ _ h => h) (Or.inr ⟨by rfl, rfl⟩) ?_ ?_
      rotate_left
      · simp only [Act.put, List.setIfInBounds_toArray, List.set_cons_zero, List.set_cons_succ, i64_w, i32_w]
        rfl
      refine pure_ (i := 11) (N := some 34) (v := undef) (a' := ?_) #[true, true, true, true, true, true, true, true, true, true, true, true, false, false, false, false, false] rfl rfl (any_of HT_.out (by kernel_rfl)) (fun _ _ _ h => h) (Or.inr ⟨by rfl, rfl⟩) ?_ ?_
      rotate_left
      · simp only [Act.put, List.setIfInBounds_toArray, List.set_cons_zero, List.set_cons_succ, i64_w, i32_w]
        rfl
      refine pure_ (i := 12) (N := some 35) (v := undef) (a' := ?_) #[true, true, true, true, true, true, true, true, true, true, true, true, true, false, false, false, false] rfl rfl (any_of HT_.out (by kernel_rfl)) (fun _ _ _ h => h) (Or.inr ⟨by rfl, rfl⟩) ?_ ?_
      rotate_left
      · simp only [Act.put, List.setIfInBounds_toArray, List.set_cons_zero, List.set_cons_succ, i64_w, i32_w]
        rfl
      refine pure_ (i := 13) (N := some 36) (v := undef) (a' := ?_) #[true, true, true, true, true, true, true, true, true, true, true, true, true, true, false, false, false] rfl rfl (any_of HT_.out (by kernel_rfl)) (fun _ _ _ h => h) (Or.inr ⟨by rfl, rfl⟩) ?_ ?_
      rotate_left
      · simp only [Act.put, List.setIfInBounds_toArray, List.set_cons_zero, List.set_cons_succ, i64_w, i32_w]
        rfl
      refine pure_ (i := 14) (N := some 37) (v := undef) (a' := ?_) #[true, true, true, true, true, true, true, true, true, true, true, true, true, true, true, false, false] rfl rfl (any_of HT_.out (by kernel_rfl)) (fun _ _ _ h => h) (Or.inr ⟨by rfl, rfl⟩) ?_ ?_
      rotate_left
      · simp only [Act.put, List.setIfInBounds_toArray, List.set_cons_zero, List.set_cons_succ, i64_w, i32_w]
        rfl
      refine pure_ (i := 15) (N := some 38) (v := undef) (a' := ?_) #[true, true, true, true, true, true, true, true, true, true, true, true, true, true, true, true, false] rfl rfl (any_of HT_.out (by kernel_rfl)) (fun _ _ _ h => h) (Or.inr ⟨by rfl, rfl⟩) ?_ ?_
      rotate_left
      · simp only [Act.put, List.setIfInBounds_toArray, List.set_cons_zero, List.set_cons_succ, i64_w, i32_w]
        rfl
      refine zpure_ (i := 16) (N := some 39) #[true, true, true, true, true, true, true, true, true, true, true, true, true, true, true, true, true] (any_of HT_.out (by kernel_rfl)) ?_
      refine done_ (done_of HT_.out (by kernel_rfl)) ?_
      try go_wp2
      go_meet
      case rel => exact ⟨_, (true), (by first | rfl | (simp; done) | (simp [*]; done)), H', ⟨by first | omega | exact Nat.le_refl _⟩, ⟨zk BK422⟩, ⟨zk BK428⟩, ⟨zk BK434⟩, ⟨zb HB⟩⟩
    · rw [if_neg c19] at H
      have c19b0 : (!(t423 == t429) || (!(t424 == t430) || (!(t425 == t431) || (!(t426 == t432))))) = false := by simpa using c19
      clear c19
      (first | rw [c19b0] | (simp only [i64_w, i32_w]; rw [c19b0]) | skip)
      replace H := Option.bind_eq_some_iff.mp H
      obtain ⟨t435, A220, H⟩ := H
      replace H : (if t435 = t433 then ((round_Check.f a0_0 a0_1).bind fun t436 => ((grottolaw02_num.f t436).bind fun t437 => ((grottoref02_Check.f a0_0 a0_1).bind fun t438 => (grottolaw02_RoundOpens.j0 k a2 t433 (t437 != t438) a0_0 a0_1)))) else (grottolaw02_RoundOpens.j0 k a2 t433 true a0_0 a0_1)) = some r := H
      have A22 := Aside0.mk A220
      clear A220
      by_cases c23 : t435 = t433
      · rw [if_pos c23] at H
        have c23b0 : (t435 == t433) = true := beq_iff_eq.mpr c23
        have c23b1 : (t435 != t433) = false := bne_eq_false_iff_eq.mpr c23
        clear c23
        replace H := Option.bind_eq_some_iff.mp H
        obtain ⟨t436, A240, H⟩ := H
        replace H : ((grottolaw02_num.f t436).bind fun t437 => ((grottoref02_Check.f a0_0 a0_1).bind fun t438 => (grottolaw02_RoundOpens.j0 k a2 t433 (t437 != t438) a0_0 a0_1))) = some r := H
        have A24 := Aside0.mk A240
        clear A240
        replace H := Option.bind_eq_some_iff.mp H
        obtain ⟨t437, A250, H⟩ := H
        replace H : ((grottoref02_Check.f a0_0 a0_1).bind fun t438 => (grottolaw02_RoundOpens.j0 k a2 t433 (t437 != t438) a0_0 a0_1)) = some r := H
        have A25 := Aside0.mk A250
        clear A250
        replace H := Option.bind_eq_some_iff.mp H
        obtain ⟨t438, A260, H⟩ := H
        replace H : (grottolaw02_RoundOpens.j0 k a2 t433 (t437 != t438) a0_0 a0_1) = some r := H
        have A26 := Aside0.mk A260
        clear A260
        have H' := Aside0.mk H
        clear H
        try go_wp2
        have n0_ : Aside0 (((((w15.setCell ⟨gb434, 0, none⟩ (.int .i64 t429)).setCell ⟨gb434, 1, none⟩ (.bool t430)).setCell ⟨gb434, 2, none⟩ (.int .i64 t431)).setCell ⟨gb434, 3, none⟩ (.int .u64 t432)).heap[gb422]? = some (.cells #[.int .i64 a0_0, .int .i64 a0_1] 23 (0, 0))) := ⟨zk BK422⟩
        have n1_ : Aside0 (((((w15.setCell ⟨gb434, 0, none⟩ (.int .i64 t429)).setCell ⟨gb434, 1, none⟩ (.bool t430)).setCell ⟨gb434, 2, none⟩ (.int .i64 t431)).setCell ⟨gb434, 3, none⟩ (.int .u64 t432)).heap[gb428]? = some (.cells #[.int .i64 t423, .bool t424, .int .i64 t425, .int .u64 t426] 42 (0, 0))) := ⟨zk BK428⟩
        have n2_ : Aside0 (((((w15.setCell ⟨gb434, 0, none⟩ (.int .i64 t429)).setCell ⟨gb434, 1, none⟩ (.bool t430)).setCell ⟨gb434, 2, none⟩ (.int .i64 t431)).setCell ⟨gb434, 3, none⟩ (.int .u64 t432)).heap[gb434]? = some (.cells #[.int .i64 t429, .bool t430, .int .i64 t431, .int .u64 t432] 42 (0, 0))) := ⟨zkp BK434⟩
        have n3_ : Aside0 (Below w.heap.size w ((((w15.setCell ⟨gb434, 0, none⟩ (.int .i64 t429)).setCell ⟨gb434, 1, none⟩ (.bool t430)).setCell ⟨gb434, 2, none⟩ (.int .i64 t431)).setCell ⟨gb434, 3, none⟩ (.int .u64 t432))) := ⟨zb HB⟩
        (try clear BK422)
        (try clear BK428)
        (try clear BK434)
        (try clear HB)
        generalize ((((w15.setCell ⟨gb434, 0, none⟩ (.int .i64 t429)).setCell ⟨gb434, 1, none⟩ (.bool t430)).setCell ⟨gb434, 2, none⟩ (.int .i64 t431)).setCell ⟨gb434, 3, none⟩ (.int .u64 t432)) = w27 at n0_ n1_ n2_ n3_ ⊢
        have BK422 := n0_
        have BK428 := n1_
        have BK434 := n2_
        have HB := n3_
        clear n0_ n1_ n2_ n3_
        replace BK422 := Aside0.mk (blk_drew BK422.out)
        replace BK428 := Aside0.mk (blk_drew BK428.out)
        replace BK434 := Aside0.mk (blk_drew BK434.out)
        replace HB := Aside0.mk (below_drew1 HB.out)
        refine start_ (n := 17) (S := fun w' => w'.cell? ⟨gb428, 0, none⟩ = some (.int .i64 t423) ∧ w'.cell? ⟨gb428, 1, none⟩ = some (.bool t424) ∧ w'.cell? ⟨gb428, 2, none⟩ = some (.int .i64 t425) ∧ w'.cell? ⟨gb428, 3, none⟩ = some (.int .u64 t426) ∧ w'.cell? ⟨gb434, 0, none⟩ = some (.int .i64 t429) ∧ w'.cell? ⟨gb434, 1, none⟩ = some (.bool t430) ∧ w'.cell? ⟨gb434, 2, none⟩ = some (.int .i64 t431) ∧ w'.cell? ⟨gb434, 3, none⟩ = some (.int .u64 t432) ∧ w'.cell? ⟨gb422, 0, none⟩ = some (.int .i64 a0_0) ∧ w'.cell? ⟨gb422, 1, none⟩ = some (.int .i64 a0_1)) (ds := []) #[false, false, false, false, false, false, false, false, false, false, false, false, false, false, false, false, false] (by kernel_rfl) rfl rfl ⟨(blk_cell BK428.out 0).trans rfl, (blk_cell BK428.out 1).trans rfl, (blk_cell BK428.out 2).trans rfl, (blk_cell BK428.out 3).trans rfl, (blk_cell BK434.out 0).trans rfl, (blk_cell BK434.out 1).trans rfl, (blk_cell BK434.out 2).trans rfl, (blk_cell BK434.out 3).trans rfl, (blk_cell BK422.out 0).trans rfl, (blk_cell BK422.out 1).trans rfl⟩ (fun hHeld => ?_); refine with_tabW grottolaw02_RoundOpens.tab3 grottolaw02_RoundOpens.bits3 (fun HT_ HW_ => ?_)
        generalize w27.drew = w28 at BK422 BK428 BK434 HB hHeld ⊢
        refine ztake_ (i := 0) (N := some 23) #[true, false, false, false, false, false, false, false, false, false, false, false, false, false, false, false, false] rfl (take_ofW HT_.out HW_.out (by kernel_rfl)) hHeld (Or.inl ⟨by rfl, by rintro w' ⟨s0, s1, s2, s3, s4, s5, s6, s7, s8, s9⟩; go_simp; with_reducible rfl⟩) ?_
        refine ztake_ (i := 1) (N := some 24) #[true, true, false, false, false, false, false, false, false, false, false, false, false, false, false, false, false] rfl (take_ofW HT_.out HW_.out (by kernel_rfl)) hHeld (Or.inl ⟨by rfl, by rintro w' ⟨s0, s1, s2, s3, s4, s5, s6, s7, s8, s9⟩; go_simp; with_reducible rfl⟩) ?_
        refine zpure_ (i := 2) (N := some 25) #[true, true, true, false, false, false, false, false, false, false, false, false, false, false, false, false, false] (any_of HT_.out (by kernel_rfl)) ?_
        refine zpure_ (i := 3) (N := some 26) #[true, true, true, true, false, false, false, false, false, false, false, false, false, false, false, false, false] (any_of HT_.out (by kernel_rfl)) ?_
        refine zpure_ (i := 4) (N := some 27) #[true, true, true, true, true, false, false, false, false, false, false, false, false, false, false, false, false] (any_of HT_.out (by kernel_rfl)) ?_
        refine zpure_ (i := 6) (N := some 29) #[true, true, true, true, true, false, true, false, false, false, false, false, false, false, false, false, false] (any_of HT_.out (by kernel_rfl)) ?_
        refine one_ (i := 5) (N := some 28) #[true, true, true, true, true, true, true, false, false, false, false, false, false, false, false, false, false] rfl rfl (one_of HT_.out (by kernel_rfl)) (by decide) (fun K hK => ?_)
        refine goes_ Try.func12 (by kernel_rfl) rfl #[.int .i64 t427] (by rfl) rfl rfl (by (try simp only [List.map_toArray, List.map_cons, List.map_nil]); first | done | rfl | (simp only [List.length_drop, List.length_take]; rfl)) ?_
        with_reducible refine (grottolaw02_num.calls t427 t435 _ A22.out).mono ?_
        rintro e w' ⟨rfl, ⟨nd, rfl⟩⟩
        refine ⟨_, rfl, ?_⟩
        refine hK.out _ _ ⟨(blk_cell BK428.out 0).trans rfl, (blk_cell BK428.out 1).trans rfl, (blk_cell BK428.out 2).trans rfl, (blk_cell BK428.out 3).trans rfl, (blk_cell BK434.out 0).trans rfl, (blk_cell BK434.out 1).trans rfl, (blk_cell BK434.out 2).trans rfl, (blk_cell BK434.out 3).trans rfl, (blk_cell BK422.out 0).trans rfl, (blk_cell BK422.out 1).trans rfl⟩ (fun hHeld => ?_)
        clear hK K
        refine norm_ (a' := ?_) ?_ ?_
        rotate_left
        · show Act.put _ (some 28) _ = _
          simp only [Act.put, List.setIfInBounds_toArray, List.set_cons_zero, List.set_cons_succ, i64_w, i32_w]
          rfl
        refine zpure_ (i := 7) (N := some 30) #[true, true, true, true, true, true, true, true, false, false, false, false, false, false, false, false, false] (any_of HT_.out (by kernel_rfl)) ?_
        refine zpure_ (i := 8) (N := some 31) #[true, true, true, true, true, true, true, true, true, false, false, false, false, false, false, false, false] (any_of HT_.out (by kernel_rfl)) ?_
        refine zpure_ (i := 9) (N := some 32) #[true, true, true, true, true, true, true, true, true, true, false, false, false, false, false, false, false] (any_of HT_.out (by kernel_rfl)) ?_
        refine ztake_ (i := 10) (N := some 33) #[true, true, true, true, true, true, true, true, true, true, true, false, false, false, false, false, false] rfl (take_ofW HT_.out HW_.out (by kernel_rfl)) hHeld (Or.inl ⟨by rfl, by rintro w' ⟨s0, s1, s2, s3, s4, s5, s6, s7, s8, s9⟩; go_simp; with_reducible rfl⟩) ?_
        refine ztake_ (i := 13) (N := some 36) #[true, true, true, true, true, true, true, true, true, true, true, false, false, true, false, false, false] rfl (take_ofW HT_.out HW_.out (by kernel_rfl)) hHeld (Or.inl ⟨by rfl, by rintro w' ⟨s0, s1, s2, s3, s4, s5, s6, s7, s8, s9⟩; go_simp; with_reducible rfl⟩) ?_
        refine one_ (i := 11) (N := some 34) #[true, true, true, true, true, true, true, true, true, true, true, true, false, true, false, false, false] rfl rfl (one_of HT_.out (by kernel_rfl)) (by decide) (fun K hK => ?_)
        refine goes_ Try.func18 (by kernel_rfl) rfl #[.agg #[.int .i64 a0_0, .int .i64 a0_1]] (by rfl) rfl rfl (by (try simp only [List.map_toArray, List.map_cons, List.map_nil]); first | done | rfl | (simp only [List.length_drop, List.length_take]; rfl)) ?_
        with_reducible refine (round_Check.calls a0_0 a0_1 t436 _ A24.out).mono ?_
        rintro e w29 ⟨rfl, hb⟩
        refine ⟨_, rfl, ?_⟩
        replace BK422 := zkb BK422 hb
        replace BK428 := zkb BK428 hb
        replace BK434 := zkb BK434 hb
        replace HB := zbs HB hb
        (try clear hb)
        (try clear hb2)
        (try clear hk)
        (try clear hi)
        refine hK.out _ _ ⟨(blk_cell BK428.out 0).trans rfl, (blk_cell BK428.out 1).trans rfl, (blk_cell BK428.out 2).trans rfl, (blk_cell BK428.out 3).trans rfl, (blk_cell BK434.out 0).trans rfl, (blk_cell BK434.out 1).trans rfl, (blk_cell BK434.out 2).trans rfl, (blk_cell BK434.out 3).trans rfl, (blk_cell BK422.out 0).trans rfl, (blk_cell BK422.out 1).trans rfl⟩ (fun hHeld => ?_)
        clear hK K
        refine norm_ (a' := ?_) ?_ ?_
        rotate_left
        · show Act.put _ (some 34) _ = _
          simp only [Act.put, List.setIfInBounds_toArray, List.set_cons_zero, List.set_cons_succ, i64_w, i32_w]
          rfl
        refine one_ (i := 12) (N := some 35) #[true, true, true, true, true, true, true, true, true, true, true, true, true, true, false, false, false] rfl rfl (one_of HT_.out (by kernel_rfl)) (by decide) (fun K hK => ?_)
        refine goes_ Try.func12 (by kernel_rfl) rfl #[.int .i64 t436] (by rfl) rfl rfl (by (try simp only [List.map_toArray, List.map_cons, List.map_nil]); first | done | rfl | (simp only [List.length_drop, List.length_take]; rfl)) ?_
        with_reducible refine (grottolaw02_num.calls t436 t437 _ A25.out).mono ?_
        rintro e w' ⟨rfl, ⟨nd, rfl⟩⟩
        refine ⟨_, rfl, ?_⟩
        refine hK.out _ _ ⟨(blk_cell BK428.out 0).trans rfl, (blk_cell BK428.out 1).trans rfl, (blk_cell BK428.out 2).trans rfl, (blk_cell BK428.out 3).trans rfl, (blk_cell BK434.out 0).trans rfl, (blk_cell BK434.out 1).trans rfl, (blk_cell BK434.out 2).trans rfl, (blk_cell BK434.out 3).trans rfl, (blk_cell BK422.out 0).trans rfl, (blk_cell BK422.out 1).trans rfl⟩ (fun hHeld => ?_)
        clear hK K
        refine norm_ (a' := ?_) ?_ ?_
        rotate_left
        · show Act.put _ (some 35) _ = _
          simp only [Act.put, List.setIfInBounds_toArray, List.set_cons_zero, List.set_cons_succ, i64_w, i32_w]
          rfl
        refine one_ (i := 14) (N := some 37) #[true, true, true, true, true, true, true, true, true, true, true, true, true, true, true, false, false] rfl rfl (one_of HT_.out (by kernel_rfl)) (by decide) (fun K hK => ?_)
        refine goes_ Try.func19 (by kernel_rfl) rfl #[.agg #[.int .i64 a0_0, .int .i64 a0_1]] (by rfl) rfl rfl (by (try simp only [List.map_toArray, List.map_cons, List.map_nil]); first | done | rfl | (simp only [List.length_drop, List.length_take]; rfl)) ?_
        with_reducible refine (grottoref02_Check.calls a0_0 a0_1 t438 _ A26.out).mono ?_
        rintro e w30 ⟨rfl, hb⟩
        refine ⟨_, rfl, ?_⟩
        replace BK422 := zkb BK422 hb
        replace BK428 := zkb BK428 hb
        replace BK434 := zkb BK434 hb
        replace HB := zbs HB hb
        (try clear hb)
        (try clear hb2)
        (try clear hk)
        (try clear hi)
        refine hK.out _ _ ⟨(blk_cell BK428.out 0).trans rfl, (blk_cell BK428.out 1).trans rfl, (blk_cell BK428.out 2).trans rfl, (blk_cell BK428.out 3).trans rfl, (blk_cell BK434.out 0).trans rfl, (blk_cell BK434.out 1).trans rfl, (blk_cell BK434.out 2).trans rfl, (blk_cell BK434.out 3).trans rfl, (blk_cell BK422.out 0).trans rfl, (blk_cell BK422.out 1).trans rfl⟩ (fun hHeld => ?_)
        clear hK K
        refine norm_ (a' := ?_) ?_ ?_
        rotate_left
        · show Act.put _ (some 37) _ = _
          simp only [Act.put, List.setIfInBounds_toArray, List.set_cons_zero, List.set_cons_succ, i64_w, i32_w]
          rfl
        refine zpure_ (i := 15) (N := some 38) #[true, true, true, true, true, true, true, true, true, true, true, true, true, true, true, true, false] (any_of HT_.out (by kernel_rfl)) ?_
        refine zpure_ (i := 16) (N := some 39) #[true, true, true, true, true, true, true, true, true, true, true, true, true, true, true, true, true] (any_of HT_.out (by kernel_rfl)) ?_
        refine done_ (done_of HT_.out (by kernel_rfl)) ?_
        try go_wp2
        go_meet
        case rel => exact ⟨_, ((t437 != t438)), (by first | rfl | (simp; done) | (simp [*]; done)), H', ⟨by first | omega | exact Nat.le_refl _⟩, ⟨zk BK422⟩, ⟨zk BK428⟩, ⟨zk BK434⟩, ⟨zb HB⟩⟩
      · rw [if_neg c23] at H
        have c23b0 : (t435 == t433) = false := beq_eq_false_iff_ne.mpr c23
        have c23b1 : (t435 != t433) = true := bne_iff_ne.mpr c23
        have H' := Aside0.mk H
        clear H
        try go_wp2
        have n0_ : Aside0 (((((w15.setCell ⟨gb434, 0, none⟩ (.int .i64 t429)).setCell ⟨gb434, 1, none⟩ (.bool t430)).setCell ⟨gb434, 2, none⟩ (.int .i64 t431)).setCell ⟨gb434, 3, none⟩ (.int .u64 t432)).heap[gb422]? = some (.cells #[.int .i64 a0_0, .int .i64 a0_1] 23 (0, 0))) := ⟨zk BK422⟩
        have n1_ : Aside0 (((((w15.setCell ⟨gb434, 0, none⟩ (.int .i64 t429)).setCell ⟨gb434, 1, none⟩ (.bool t430)).setCell ⟨gb434, 2, none⟩ (.int .i64 t431)).setCell ⟨gb434, 3, none⟩ (.int .u64 t432)).heap[gb428]? = some (.cells #[.int .i64 t423, .bool t424, .int .i64 t425, .int .u64 t426] 42 (0, 0))) := ⟨zk BK428⟩
        have n2_ : Aside0 (((((w15.setCell ⟨gb434, 0, none⟩ (.int .i64 t429)).setCell ⟨gb434, 1, none⟩ (.bool t430)).setCell ⟨gb434, 2, none⟩ (.int .i64 t431)).setCell ⟨gb434, 3, none⟩ (.int .u64 t432)).heap[gb434]? = some (.cells #[.int .i64 t429, .bool t430, .int .i64 t431, .int .u64 t432] 42 (0, 0))) := ⟨zkp BK434⟩
        have n3_ : Aside0 (Below w.heap.size w ((((w15.setCell ⟨gb434, 0, none⟩ (.int .i64 t429)).setCell ⟨gb434, 1, none⟩ (.bool t430)).setCell ⟨gb434, 2, none⟩ (.int .i64 t431)).setCell ⟨gb434, 3, none⟩ (.int .u64 t432))) := ⟨zb HB⟩
        (try clear BK422)
        (try clear BK428)
        (try clear BK434)
        (try clear HB)
        generalize ((((w15.setCell ⟨gb434, 0, none⟩ (.int .i64 t429)).setCell ⟨gb434, 1, none⟩ (.bool t430)).setCell ⟨gb434, 2, none⟩ (.int .i64 t431)).setCell ⟨gb434, 3, none⟩ (.int .u64 t432)) = w31 at n0_ n1_ n2_ n3_ ⊢
        have BK422 := n0_
        have BK428 := n1_
        have BK434 := n2_
        have HB := n3_
        clear n0_ n1_ n2_ n3_
        replace BK422 := Aside0.mk (blk_drew BK422.out)
        replace BK428 := Aside0.mk (blk_drew BK428.out)
        replace BK434 := Aside0.mk (blk_drew BK434.out)
        replace HB := Aside0.mk (below_drew1 HB.out)
        refine start_ (n := 17) (S := fun w' => w'.cell? ⟨gb428, 0, none⟩ = some (.int .i64 t423) ∧ w'.cell? ⟨gb428, 1, none⟩ = some (.bool t424) ∧ w'.cell? ⟨gb428, 2, none⟩ = some (.int .i64 t425) ∧ w'.cell? ⟨gb428, 3, none⟩ = some (.int .u64 t426) ∧ w'.cell? ⟨gb434, 0, none⟩ = some (.int .i64 t429) ∧ w'.cell? ⟨gb434, 1, none⟩ = some (.bool t430) ∧ w'.cell? ⟨gb434, 2, none⟩ = some (.int .i64 t431) ∧ w'.cell? ⟨gb434, 3, none⟩ = some (.int .u64 t432)) (ds := []) #[false, false, false, false, false, false, false, false, false, false, false, false, false, false, false, false, false] (by kernel_rfl) rfl rfl ⟨(blk_cell BK428.out 0).trans rfl, (blk_cell BK428.out 1).trans rfl, (blk_cell BK428.out 2).trans rfl, (blk_cell BK428.out 3).trans rfl, (blk_cell BK434.out 0).trans rfl, (blk_cell BK434.out 1).trans rfl, (blk_cell BK434.out 2).trans rfl, (blk_cell BK434.out 3).trans rfl⟩ (fun hHeld => ?_); refine with_tabW grottolaw02_RoundOpens.tab3 grottolaw02_RoundOpens.bits3 (fun HT_ HW_ => ?_)
        generalize w31.drew = w32 at BK422 BK428 BK434 HB hHeld ⊢
        refine ztake_ (i := 0) (N := some 23) #[true, false, false, false, false, false, false, false, false, false, false, false, false, false, false, false, false] rfl (take_ofW HT_.out HW_.out (by kernel_rfl)) hHeld (Or.inl ⟨by rfl, by rintro w' ⟨s0, s1, s2, s3, s4, s5, s6, s7⟩; go_simp; with_reducible rfl⟩) ?_
        refine ztake_ (i := 1) (N := some 24) #[true, true, false, false, false, false, false, false, false, false, false, false, false, false, false, false, false] rfl (take_ofW HT_.out HW_.out (by kernel_rfl)) hHeld (Or.inl ⟨by rfl, by rintro w' ⟨s0, s1, s2, s3, s4, s5, s6, s7⟩; go_simp; with_reducible rfl⟩) ?_
        refine zpure_ (i := 2) (N := some 25) #[true, true, true, false, false, false, false, false, false, false, false, false, false, false, false, false, false] (any_of HT_.out (by kernel_rfl)) ?_
        refine zpure_ (i := 3) (N := some 26) #[true, true, true, true, false, false, false, false, false, false, false, false, false, false, false, false, false] (any_of HT_.out (by kernel_rfl)) ?_
        refine zpure_ (i := 4) (N := some 27) #[true, true, true, true, true, false, false, false, false, false, false, false, false, false, false, false, false] (any_of HT_.out (by kernel_rfl)) ?_
        refine zpure_ (i := 6) (N := some 29) #[true, true, true, true, true, false, true, false, false, false, false, false, false, false, false, false, false] (any_of HT_.out (by kernel_rfl)) ?_
        refine one_ (i := 5) (N := some 28) #[true, true, true, true, true, true, true, false, false, false, false, false, false, false, false, false, false] rfl rfl (one_of HT_.out (by kernel_rfl)) (by decide) (fun K hK => ?_)
        refine goes_ Try.func12 (by kernel_rfl) rfl #[.int .i64 t427] (by rfl) rfl rfl (by (try simp only [List.map_toArray, List.map_cons, List.map_nil]); first | done | rfl | (simp only [List.length_drop, List.length_take]; rfl)) ?_
        with_reducible refine (grottolaw02_num.calls t427 t435 _ A22.out).mono ?_
        rintro e w' ⟨rfl, ⟨nd, rfl⟩⟩
        refine ⟨_, rfl, ?_⟩
        refine hK.out _ _ ⟨(blk_cell BK428.out 0).trans rfl, (blk_cell BK428.out 1).trans rfl, (blk_cell BK428.out 2).trans rfl, (blk_cell BK428.out 3).trans rfl, (blk_cell BK434.out 0).trans rfl, (blk_cell BK434.out 1).trans rfl, (blk_cell BK434.out 2).trans rfl, (blk_cell BK434.out 3).trans rfl⟩ (fun hHeld => ?_)
        clear hK K
        refine norm_ (a' := ?_) ?_ ?_
        rotate_left
        · show Act.put _ (some 28) _ = _
          simp only [Act.put, List.setIfInBounds_toArray, List.set_cons_zero, List.set_cons_succ, i64_w, i32_w]
          rfl
        refine zpure_ (i := 7) (N := some 30) #[true, true, true, true, true, true, true, true, false, false, false, false, false, false, false, false, false] (any_of HT_.out (by kernel_rfl)) ?_
        refine zpure_ (i := 8) (N := some 31) #[true, true, true, true, true, true, true, true, true, false, false, false, false, false, false, false, false] (any_of HT_.out (by kernel_rfl)) ?_
        refine zpure_ (i := 9) (N := some 32) #[true, true, true, true, true, true, true, true, true, true, false, false, false, false, false, false, false] (any_of HT_.out (by kernel_rfl)) ?_
        refine pure_ (i := 10) (N := some 33) (v := undef) (a' := ?_) #[true, true, true, true, true, true, true, true, true, true, true, false, false, false, false, false, false] rfl rfl (any_of HT_.out (by kernel_rfl)) (fun _ _ _ h => h) (Or.inr ⟨by rfl, rfl⟩) ?_ ?_
        rotate_left
        · simp only [Act.put, List.setIfInBounds_toArray, List.set_cons_zero, List.set_cons_succ, i64_w, i32_w]
          rfl
        refine pure_ (i := 11) (N := some 34) (v := undef) (a' := ?_) #[true, true, true, true, true, true, true, true, true, true, true, true, false, false, false, false, false] rfl rfl (any_of HT_.out (by kernel_rfl)) (fun _ _ _ h => h) (Or.inr ⟨by rfl, rfl⟩) ?_ ?_
        rotate_left
        · simp only [Act.put, List.setIfInBounds_toArray, List.set_cons_zero, List.set_cons_succ, i64_w, i32_w]
          rfl
        refine pure_ (i := 12) (N := some 35) (v := undef) (a' := ?_) #[true, true, true, true, true, true, true, true, true, true, true, true, true, false, false, false, false] rfl rfl (any_of HT_.out (by kernel_rfl)) (fun _ _ _ h => h) (Or.inr ⟨by rfl, rfl⟩) ?_ ?_
        rotate_left
        · simp only [Act.put, List.setIfInBounds_toArray, List.set_cons_zero, List.set_cons_succ, i64_w, i32_w]
          rfl
        refine pure_ (i := 13) (N := some 36) (v := undef) (a' := ?_) #[true, true, true, true, true, true, true, true, true, true, true, true, true, true, false, false, false] rfl rfl (any_of HT_.out (by kernel_rfl)) (fun _ _ _ h => h) (Or.inr ⟨by rfl, rfl⟩) ?_ ?_
        rotate_left
        · simp only [Act.put, List.setIfInBounds_toArray, List.set_cons_zero, List.set_cons_succ, i64_w, i32_w]
          rfl
        refine pure_ (i := 14) (N := some 37) (v := undef) (a' := ?_) #[true, true, true, true, true, true, true, true, true, true, true, true, true, true, true, false, false] rfl rfl (any_of HT_.out (by kernel_rfl)) (fun _ _ _ h => h) (Or.inr ⟨by rfl, rfl⟩) ?_ ?_
        rotate_left
        · simp only [Act.put, List.setIfInBounds_toArray, List.set_cons_zero, List.set_cons_succ, i64_w, i32_w]
          rfl
        refine pure_ (i := 15) (N := some 38) (v := undef) (a' := ?_) #[true, true, true, true, true, true, true, true, true, true, true, true, true, true, true, true, false] rfl rfl (any_of HT_.out (by kernel_rfl)) (fun _ _ _ h => h) (Or.inr ⟨by rfl, rfl⟩) ?_ ?_
        rotate_left
        · simp only [Act.put, List.setIfInBounds_toArray, List.set_cons_zero, List.set_cons_succ, i64_w, i32_w]
          rfl
        refine zpure_ (i := 16) (N := some 39) #[true, true, true, true, true, true, true, true, true, true, true, true, true, true, true, true, true] (any_of HT_.out (by kernel_rfl)) ?_
        refine done_ (done_of HT_.out (by kernel_rfl)) ?_
        try go_wp2
        go_meet
        case rel => exact ⟨_, (true), (by first | rfl | (simp; done) | (simp [*]; done)), H', ⟨by first | omega | exact Nat.le_refl _⟩, ⟨zk BK422⟩, ⟨zk BK428⟩, ⟨zk BK434⟩, ⟨zb HB⟩⟩
  case rest =>
    clear HC6
    try clear c1
    try clear c2
    try clear p2
    try clear c8
    try clear c11
    try clear c12
    try clear c16
    try clear c17
    try clear c18
    try clear c19
    try clear c19b0
    try clear c23
    try clear c23b0
    try clear c23b1
    try clear hcz12_0
    try clear hcz12_1
    try clear hcz12_2
    try clear hcz12_3
    try clear hcz13_0
    try clear hcz13_1
    try clear hcz18_0
    try clear hcz18_1
    try clear hcz18_2
    try clear hcz18_3
    try clear hcz8_0
    try clear hcz8_1
    try clear hfz12_0
    try clear hfz12_1
    try clear hfz12_2
    try clear hfz12_3
    try clear hfz13_0
    try clear hfz13_1
    try clear hfz18_0
    try clear hfz18_1
    try clear hfz18_2
    try clear hfz18_3
    try clear hfz8_0
    try clear hfz8_1
    obtain ⟨kq, x39_5, rfl, HA, HJ5, BK422, BK428, BK434, HB⟩ := hcut
    cases kq with
    | zero => exact absurd HA.out (by simp [grottolaw02_RoundOpens.j0])
    | succ kj5 =>
      have H := HA.out
      clear HA
      simp only [grottolaw02_RoundOpens.j0] at H
      by_cases c33 : x39_5 = true
      · subst c33
        have H1 : (some false) = some r := by rw [if_pos rfl] at H; exact H
        clear H
        have H := H1
        clear H1
        obtain rfl := Option.some.inj H
        go_wp2
        go_ret
        exact ⟨by first | rfl | (simp [errW_none, errW_some] <;> rfl) | (simp [*, errW_none, errW_some] <;> rfl), zb HB⟩
      · replace c33 := Bool.eq_false_iff.mpr c33
        subst c33
        have H1 : (if t433 = 0 then (grottolaw02_RoundOpens.j1 kj5 a2 true a0_0 a0_1) else ((grottoref02_Check.f a0_0 a0_1).bind fun t439 => (grottolaw02_RoundOpens.j1 kj5 a2 (t439 == 0) a0_0 a0_1))) = some r := by rw [if_neg (show ¬ (false = true) by decide)] at H; exact H
        clear H
        have H := H1
        clear H1
        have HC34 := Aside0.mk H
        clear H
        go_upto_region 5 with (fail)
        go_cut [46] (fun v46 wc => ∃ (kq : Nat) (x46_33 : Bool), v46 = .bool x46_33 ∧ Aside0 (grottolaw02_RoundOpens.j1 kq a2 x46_33 a0_0 a0_1 = some r) ∧ Aside0 (kq ≤ kj5) ∧ Aside0 (wc.heap[gb422]? = some (.cells #[.int .i64 a0_0, .int .i64 a0_1] 23 (0, 0))) ∧ Aside0 (wc.heap[gb428]? = some (.cells #[.int .i64 t423, .bool t424, .int .i64 t425, .int .u64 t426] 42 (0, 0))) ∧ Aside0 (wc.heap[gb434]? = some (.cells #[.int .i64 t429, .bool t430, .int .i64 t431, .int .u64 t432] 42 (0, 0))) ∧ Aside0 (Below w.heap.size w wc))
        case first =>
          have H := HC34.out
          clear HC34
          by_cases c35 : t433 = 0
          · rw [if_pos c35] at H
            have c35b0 : (t433 == 0) = true := beq_iff_eq.mpr c35
            have c35b1 : (t433 != 0) = false := bne_eq_false_iff_eq.mpr c35
            clear c35
            (first | rw [c35b0] | (simp only [i64_w, i32_w]; rw [c35b0]) | skip)
            have H' := Aside0.mk H
            clear H
            go_wp2
            go_meet
            case rel => exact ⟨_, (true), (by first | rfl | (simp; done) | (simp [*]; done)), H', ⟨by have := HJ5.out; first | omega | exact Nat.le_refl _⟩, ⟨zk BK422⟩, ⟨zk BK428⟩, ⟨zk BK434⟩, ⟨zb HB⟩⟩
          · rw [if_neg c35] at H
            have c35b0 : (t433 == 0) = false := beq_eq_false_iff_ne.mpr c35
            have c35b1 : (t433 != 0) = true := bne_iff_ne.mpr c35
            (first | rw [c35b0] | (simp only [i64_w, i32_w]; rw [c35b0]) | skip)
            replace H := Option.bind_eq_some_iff.mp H
            obtain ⟨t439, A360, H⟩ := H
            replace H : (grottolaw02_RoundOpens.j1 kj5 a2 (t439 == 0) a0_0 a0_1) = some r := H
            have A36 := Aside0.mk A360
            clear A360
            have H' := Aside0.mk H
            clear H
            have hnb37 := NB422_428.out
            have hnc37 := NB428_422.out
            have hnb38 := NB422_434.out
            have hnc38 := NB434_422.out
            obtain ⟨hcz39_0, hcz39_1, hfz39_0, hfz39_1⟩ := zc2 BK422
            go_wp2_with (first | (go_at_call 19; (with_reducible refine (grottoref02_Check.calls a0_0 a0_1 t439 _ A36.out).mono ?_); rintro e w40 ⟨rfl, hb⟩; replace BK422 := zkb BK422 hb; replace BK428 := zkb BK428 hb; replace BK434 := zkb BK434 hb; replace HB := zbs HB hb; (try clear hb); (try clear hb2); (try clear hk); (try clear hi)))
            go_meet
            case rel => exact ⟨_, ((t439 == 0)), (by first | rfl | (simp; done) | (simp [*]; done)), H', ⟨by have := HJ5.out; first | omega | exact Nat.le_refl _⟩, ⟨zk BK422⟩, ⟨zk BK428⟩, ⟨zk BK434⟩, ⟨zb HB⟩⟩
        case rest =>
          clear HC34
          try clear c1
          try clear c2
          try clear p2
          try clear c3
          try clear c8
          try clear c11
          try clear c12
          try clear c16
          try clear c17
          try clear c18
          try clear c19
          try clear c19b0
          try clear c23
          try clear c23b0
          try clear c23b1
          try clear c33
          try clear c35
          try clear c35b0
          try clear c35b1
          try clear c37
          try clear c38
          try clear hcz12_0
          try clear hcz12_1
          try clear hcz12_2
          try clear hcz12_3
          try clear hcz13_0
          try clear hcz13_1
          try clear hcz18_0
          try clear hcz18_1
          try clear hcz18_2
          try clear hcz18_3
          try clear hcz39_0
          try clear hcz39_1
          try clear hcz8_0
          try clear hcz8_1
          try clear hfz12_0
          try clear hfz12_1
          try clear hfz12_2
          try clear hfz12_3
          try clear hfz13_0
          try clear hfz13_1
          try clear hfz18_0
          try clear hfz18_1
          try clear hfz18_2
          try clear hfz18_3
          try clear hfz39_0
          try clear hfz39_1
          try clear hfz8_0
          try clear hfz8_1
          try clear p2
          obtain ⟨kq, x46_33, rfl, HA, HJ33, BK422, BK428, BK434, HB⟩ := hcut
          cases kq with
          | zero => exact absurd HA.out (by simp [grottolaw02_RoundOpens.j1])
          | succ kj33 =>
            have H := HA.out
            clear HA
            simp only [grottolaw02_RoundOpens.j1] at H
            by_cases c41 : x46_33 = true
            · subst c41
              have H1 : ((round_NaN.f a0_0 a0_1).bind fun t440 => ((grottoref02_NaN.f kj33 a0_0 a0_1).bind fun t441 => (if t440 = t441 then ((round_Inf.f a0_0 a0_1 a2).bind fun t442 => ((grottoref02_Inf.f kj33 a0_0 a0_1 a2).bind fun t443 => (if t442 = t443 then ((round_Zero.f a0_0 a0_1 a2).bind fun t444 => ((grottoref02_Zero.f kj33 a0_0 a0_1 a2).bind fun t445 => (if t444 = t445 then ((grottolaw02_live.f kj33).bind fun t446 => (some t446)) else (some false)))) else (some false)))) else (some false)))) = some r := by rw [if_pos rfl] at H; exact H
              clear H
              have H := H1
              clear H1
              replace H := Option.bind_eq_some_iff.mp H
              obtain ⟨t440, A420, H⟩ := H
              replace H : ((grottoref02_NaN.f kj33 a0_0 a0_1).bind fun t441 => (if t440 = t441 then ((round_Inf.f a0_0 a0_1 a2).bind fun t442 => ((grottoref02_Inf.f kj33 a0_0 a0_1 a2).bind fun t443 => (if t442 = t443 then ((round_Zero.f a0_0 a0_1 a2).bind fun t444 => ((grottoref02_Zero.f kj33 a0_0 a0_1 a2).bind fun t445 => (if t444 = t445 then ((grottolaw02_live.f kj33).bind fun t446 => (some t446)) else (some false)))) else (some false)))) else (some false))) = some r := H
              have A42 := Aside0.mk A420
              clear A420
              replace H := Option.bind_eq_some_iff.mp H
              obtain ⟨t441, A430, H⟩ := H
              replace H : (if t440 = t441 then ((round_Inf.f a0_0 a0_1 a2).bind fun t442 => ((grottoref02_Inf.f kj33 a0_0 a0_1 a2).bind fun t443 => (if t442 = t443 then ((round_Zero.f a0_0 a0_1 a2).bind fun t444 => ((grottoref02_Zero.f kj33 a0_0 a0_1 a2).bind fun t445 => (if t444 = t445 then ((grottolaw02_live.f kj33).bind fun t446 => (some t446)) else (some false)))) else (some false)))) else (some false)) = some r := H
              have A43 := Aside0.mk A430
              clear A430
              by_cases c44 : t440 = t441
              · rw [if_pos c44] at H
                have c44b0 : (t440 == t441) = true := beq_iff_eq.mpr c44
                have c44b1 : (t440 != t441) = false := bne_eq_false_iff_eq.mpr c44
                clear c44
                replace H := Option.bind_eq_some_iff.mp H
                obtain ⟨t442, A450, H⟩ := H
                replace H : ((grottoref02_Inf.f kj33 a0_0 a0_1 a2).bind fun t443 => (if t442 = t443 then ((round_Zero.f a0_0 a0_1 a2).bind fun t444 => ((grottoref02_Zero.f kj33 a0_0 a0_1 a2).bind fun t445 => (if t444 = t445 then ((grottolaw02_live.f kj33).bind fun t446 => (some t446)) else (some false)))) else (some false))) = some r := H
                have A45 := Aside0.mk A450
                clear A450
                replace H := Option.bind_eq_some_iff.mp H
                obtain ⟨t443, A460, H⟩ := H
                replace H : (if t442 = t443 then ((round_Zero.f a0_0 a0_1 a2).bind fun t444 => ((grottoref02_Zero.f kj33 a0_0 a0_1 a2).bind fun t445 => (if t444 = t445 then ((grottolaw02_live.f kj33).bind fun t446 => (some t446)) else (some false)))) else (some false)) = some r := H
                have A46 := Aside0.mk A460
                clear A460
                by_cases c47 : t442 = t443
                · rw [if_pos c47] at H
                  have c47b0 : (t442 == t443) = true := beq_iff_eq.mpr c47
                  have c47b1 : (t442 != t443) = false := bne_eq_false_iff_eq.mpr c47
                  clear c47
                  replace H := Option.bind_eq_some_iff.mp H
                  obtain ⟨t444, A480, H⟩ := H
                  replace H : ((grottoref02_Zero.f kj33 a0_0 a0_1 a2).bind fun t445 => (if t444 = t445 then ((grottolaw02_live.f kj33).bind fun t446 => (some t446)) else (some false))) = some r := H
                  have A48 := Aside0.mk A480
                  clear A480
                  replace H := Option.bind_eq_some_iff.mp H
                  obtain ⟨t445, A490, H⟩ := H
                  replace H : (if t444 = t445 then ((grottolaw02_live.f kj33).bind fun t446 => (some t446)) else (some false)) = some r := H
                  have A49 := Aside0.mk A490
                  clear A490
                  by_cases c50 : t444 = t445
                  · rw [if_pos c50] at H
                    have c50b0 : (t444 == t445) = true := beq_iff_eq.mpr c50
                    have c50b1 : (t444 != t445) = false := bne_eq_false_iff_eq.mpr c50
                    clear c50
                    replace H := Option.bind_eq_some_iff.mp H
                    obtain ⟨t446, A510, H⟩ := H
                    replace H : (some t446) = some r := H
                    have A51 := Aside0.mk A510
                    clear A510
                    obtain rfl := Option.some.inj H
                    try go_wp2
                    replace BK422 := Aside0.mk (blk_drew BK422.out)
                    replace BK428 := Aside0.mk (blk_drew BK428.out)
                    replace BK434 := Aside0.mk (blk_drew BK434.out)
                    replace HB := Aside0.mk (below_drew1 HB.out)
                    refine start_ (n := 27) (S := fun w' => w'.cell? ⟨gb422, 0, none⟩ = some (.int .i64 a0_0) ∧ w'.cell? ⟨gb422, 1, none⟩ = some (.int .i64 a0_1)) (ds := []) #[false, false, false, false, false, false, false, false, false, false, false, false, false, false, false, false, false, false, false, false, false, false, false, false, false, false, false] (by kernel_rfl) rfl rfl ⟨(blk_cell BK422.out 0).trans rfl, (blk_cell BK422.out 1).trans rfl⟩ (fun hHeld => ?_); refine with_tabW grottolaw02_RoundOpens.tab6 grottolaw02_RoundOpens.bits6 (fun HT_ HW_ => ?_)
                    generalize wc.drew = w52 at BK422 BK428 BK434 HB hHeld ⊢
                    refine ztake_ (i := 0) (N := some 47) #[true, false, false, false, false, false, false, false, false, false, false, false, false, false, false, false, false, false, false, false, false, false, false, false, false, false, false] rfl (take_ofW HT_.out HW_.out (by kernel_rfl)) hHeld (Or.inl ⟨by rfl, by rintro w' ⟨s0, s1⟩; go_simp; with_reducible rfl⟩) ?_
                    refine ztake_ (i := 2) (N := some 49) #[true, false, true, false, false, false, false, false, false, false, false, false, false, false, false, false, false, false, false, false, false, false, false, false, false, false, false] rfl (take_ofW HT_.out HW_.out (by kernel_rfl)) hHeld (Or.inl ⟨by rfl, by rintro w' ⟨s0, s1⟩; go_simp; with_reducible rfl⟩) ?_
                    refine one_ (i := 1) (N := some 48) #[true, true, true, false, false, false, false, false, false, false, false, false, false, false, false, false, false, false, false, false, false, false, false, false, false, false, false] rfl rfl (one_of HT_.out (by kernel_rfl)) (by decide) (fun K hK => ?_)
                    refine goes_ Try.func20 (by kernel_rfl) rfl #[.agg #[.int .i64 a0_0, .int .i64 a0_1]] (by rfl) rfl rfl (by (try simp only [List.map_toArray, List.map_cons, List.map_nil]); first | done | rfl | (simp only [List.length_drop, List.length_take]; rfl)) ?_
                    with_reducible refine (round_NaN.calls a0_0 a0_1 t440 _ A42.out).mono ?_
                    rintro e w53 ⟨rfl, hb⟩
                    refine ⟨_, rfl, ?_⟩
                    replace BK422 := zkb BK422 hb
                    replace BK428 := zkb BK428 hb
                    replace BK434 := zkb BK434 hb
                    replace HB := zbs HB hb
                    (try clear hb)
                    (try clear hb2)
                    (try clear hk)
                    (try clear hi)
                    refine hK.out _ _ ⟨(blk_cell BK422.out 0).trans rfl, (blk_cell BK422.out 1).trans rfl⟩ (fun hHeld => ?_)
                    clear hK K
                    refine norm_ (a' := ?_) ?_ ?_
                    rotate_left
                    · show Act.put _ (some 48) _ = _
                      simp only [Act.put, List.setIfInBounds_toArray, List.set_cons_zero, List.set_cons_succ, i64_w, i32_w]
                      rfl
                    refine one_ (i := 3) (N := some 50) #[true, true, true, true, false, false, false, false, false, false, false, false, false, false, false, false, false, false, false, false, false, false, false, false, false, false, false] rfl rfl (one_of HT_.out (by kernel_rfl)) (by decide) (fun K hK => ?_)
                    refine goes_ Try.func21 (by kernel_rfl) rfl #[.agg #[.int .i64 a0_0, .int .i64 a0_1]] (by rfl) rfl rfl (by (try simp only [List.map_toArray, List.map_cons, List.map_nil]); first | done | rfl | (simp only [List.length_drop, List.length_take]; rfl)) ?_
                    with_reducible refine (grottoref02_NaN.calls kj33 a0_0 a0_1 t441 _ A43.out).mono ?_
                    rintro e w54 ⟨rfl, hb⟩
                    refine ⟨_, rfl, ?_⟩
                    replace BK422 := zkb BK422 hb
                    replace BK428 := zkb BK428 hb
                    replace BK434 := zkb BK434 hb
                    replace HB := zbs HB hb
                    (try clear hb)
                    (try clear hb2)
                    (try clear hk)
                    (try clear hi)
                    refine hK.out _ _ ⟨(blk_cell BK422.out 0).trans rfl, (blk_cell BK422.out 1).trans rfl⟩ (fun hHeld => ?_)
                    clear hK K
                    refine norm_ (a' := ?_) ?_ ?_
                    rotate_left
                    · show Act.put _ (some 50) _ = _
                      simp only [Act.put, List.setIfInBounds_toArray, List.set_cons_zero, List.set_cons_succ, i64_w, i32_w]
                      rfl
                    refine zpure_ (i := 4) (N := some 51) #[true, true, true, true, true, false, false, false, false, false, false, false, false, false, false, false, false, false, false, false, false, false, false, false, false, false, false] (any_of HT_.out (by kernel_rfl)) ?_
                    refine zpure_ (i := 5) (N := some 52) #[true, true, true, true, true, true, false, false, false, false, false, false, false, false, false, false, false, false, false, false, false, false, false, false, false, false, false] (any_of HT_.out (by kernel_rfl)) ?_
                    refine zpure_ (i := 7) (N := some 54) #[true, true, true, true, true, true, false, true, false, false, false, false, false, false, false, false, false, false, false, false, false, false, false, false, false, false, false] (any_of HT_.out (by kernel_rfl)) ?_
                    refine zpure_ (i := 10) (N := some 57) #[true, true, true, true, true, true, false, true, false, false, true, false, false, false, false, false, false, false, false, false, false, false, false, false, false, false, false] (any_of HT_.out (by kernel_rfl)) ?_
                    refine ztake_ (i := 6) (N := some 53) #[true, true, true, true, true, true, true, true, false, false, true, false, false, false, false, false, false, false, false, false, false, false, false, false, false, false, false] rfl (take_ofW HT_.out HW_.out (by kernel_rfl)) hHeld (Or.inl ⟨by rfl, by rintro w' ⟨s0, s1⟩; go_simp; with_reducible rfl⟩) ?_
                    refine ztake_ (i := 9) (N := some 56) #[true, true, true, true, true, true, true, true, false, true, true, false, false, false, false, false, false, false, false, false, false, false, false, false, false, false, false] rfl (take_ofW HT_.out HW_.out (by kernel_rfl)) hHeld (Or.inl ⟨by rfl, by rintro w' ⟨s0, s1⟩; go_simp; with_reducible rfl⟩) ?_
                    refine one_ (i := 8) (N := some 55) #[true, true, true, true, true, true, true, true, true, true, true, false, false, false, false, false, false, false, false, false, false, false, false, false, false, false, false] rfl rfl (one_of HT_.out (by kernel_rfl)) (by decide) (fun K hK => ?_)
                    refine goes_ Try.func22 (by kernel_rfl) rfl #[.agg #[.int .i64 a0_0, .int .i64 a0_1], .bool a2] (by rfl) rfl rfl (by (try simp only [List.map_toArray, List.map_cons, List.map_nil]); first | done | rfl | (simp only [List.length_drop, List.length_take]; rfl)) ?_
                    with_reducible refine (round_Inf.calls a0_0 a0_1 a2 t442 _ A45.out).mono ?_
                    rintro e w55 ⟨rfl, hb⟩
                    refine ⟨_, rfl, ?_⟩
                    replace BK422 := zkb BK422 hb
                    replace BK428 := zkb BK428 hb
                    replace BK434 := zkb BK434 hb
                    replace HB := zbs HB hb
                    (try clear hb)
                    (try clear hb2)
                    (try clear hk)
                    (try clear hi)
                    refine hK.out _ _ ⟨(blk_cell BK422.out 0).trans rfl, (blk_cell BK422.out 1).trans rfl⟩ (fun hHeld => ?_)
                    clear hK K
                    refine norm_ (a' := ?_) ?_ ?_
                    rotate_left
                    · show Act.put _ (some 55) _ = _
                      simp only [Act.put, List.setIfInBounds_toArray, List.set_cons_zero, List.set_cons_succ, i64_w, i32_w]
                      rfl
                    refine one_ (i := 11) (N := some 58) #[true, true, true, true, true, true, true, true, true, true, true, true, false, false, false, false, false, false, false, false, false, false, false, false, false, false, false] rfl rfl (one_of HT_.out (by kernel_rfl)) (by decide) (fun K hK => ?_)
                    refine goes_ Try.func23 (by kernel_rfl) rfl #[.agg #[.int .i64 a0_0, .int .i64 a0_1], .bool a2] (by rfl) rfl rfl (by (try simp only [List.map_toArray, List.map_cons, List.map_nil]); first | done | rfl | (simp only [List.length_drop, List.length_take]; rfl)) ?_
                    with_reducible refine (grottoref02_Inf.calls kj33 a0_0 a0_1 a2 t443 _ A46.out).mono ?_
                    rintro e w56 ⟨rfl, hb⟩
                    refine ⟨_, rfl, ?_⟩
                    replace BK422 := zkb BK422 hb
                    replace BK428 := zkb BK428 hb
                    replace BK434 := zkb BK434 hb
                    replace HB := zbs HB hb
                    (try clear hb)
                    (try clear hb2)
                    (try clear hk)
                    (try clear hi)
                    refine hK.out _ _ ⟨(blk_cell BK422.out 0).trans rfl, (blk_cell BK422.out 1).trans rfl⟩ (fun hHeld => ?_)
                    clear hK K
                    refine norm_ (a' := ?_) ?_ ?_
                    rotate_left
                    · show Act.put _ (some 58) _ = _
                      simp only [Act.put, List.setIfInBounds_toArray, List.set_cons_zero, List.set_cons_succ, i64_w, i32_w]
                      rfl
                    refine zpure_ (i := 12) (N := some 59) #[true, true, true, true, true, true, true, true, true, true, true, true, true, false, false, false, false, false, false, false, false, false, false, false, false, false, false] (any_of HT_.out (by kernel_rfl)) ?_
                    refine zpure_ (i := 13) (N := some 60) #[true, true, true, true, true, true, true, true, true, true, true, true, true, true, false, false, false, false, false, false, false, false, false, false, false, false, false] (any_of HT_.out (by kernel_rfl)) ?_
                    refine zpure_ (i := 14) (N := some 61) #[true, true, true, true, true, true, true, true, true, true, true, true, true, true, true, false, false, false, false, false, false, false, false, false, false, false, false] (any_of HT_.out (by kernel_rfl)) ?_
                    refine zpure_ (i := 16) (N := some 63) #[true, true, true, true, true, true, true, true, true, true, true, true, true, true, true, false, true, false, false, false, false, false, false, false, false, false, false] (any_of HT_.out (by kernel_rfl)) ?_
                    refine zpure_ (i := 19) (N := some 66) #[true, true, true, true, true, true, true, true, true, true, true, true, true, true, true, false, true, false, false, true, false, false, false, false, false, false, false] (any_of HT_.out (by kernel_rfl)) ?_
                    refine ztake_ (i := 15) (N := some 62) #[true, true, true, true, true, true, true, true, true, true, true, true, true, true, true, true, true, false, false, true, false, false, false, false, false, false, false] rfl (take_ofW HT_.out HW_.out (by kernel_rfl)) hHeld (Or.inl ⟨by rfl, by rintro w' ⟨s0, s1⟩; go_simp; with_reducible rfl⟩) ?_
                    refine ztake_ (i := 18) (N := some 65) #[true, true, true, true, true, true, true, true, true, true, true, true, true, true, true, true, true, false, true, true, false, false, false, false, false, false, false] rfl (take_ofW HT_.out HW_.out (by kernel_rfl)) hHeld (Or.inl ⟨by rfl, by rintro w' ⟨s0, s1⟩; go_simp; with_reducible rfl⟩) ?_
                    refine one_ (i := 17) (N := some 64) #[true, true, true, true, true, true, true, true, true, true, true, true, true, true, true, true, true, true, true, true, false, false, false, false, false, false, false] rfl rfl (one_of HT_.out (by kernel_rfl)) (by decide) (fun K hK => ?_)
                    refine goes_ Try.func24 (by kernel_rfl) rfl #[.agg #[.int .i64 a0_0, .int .i64 a0_1], .bool a2] (by rfl) rfl rfl (by (try simp only [List.map_toArray, List.map_cons, List.map_nil]); first | done | rfl | (simp only [List.length_drop, List.length_take]; rfl)) ?_
                    with_reducible refine (round_Zero.calls a0_0 a0_1 a2 t444 _ A48.out).mono ?_
                    rintro e w57 ⟨rfl, hb⟩
                    refine ⟨_, rfl, ?_⟩
                    replace BK422 := zkb BK422 hb
                    replace BK428 := zkb BK428 hb
                    replace BK434 := zkb BK434 hb
                    replace HB := zbs HB hb
                    (try clear hb)
                    (try clear hb2)
                    (try clear hk)
                    (try clear hi)
                    refine hK.out _ _ ⟨(blk_cell BK422.out 0).trans rfl, (blk_cell BK422.out 1).trans rfl⟩ (fun hHeld => ?_)
                    clear hK K
                    refine norm_ (a' := ?_) ?_ ?_
                    rotate_left
                    · show Act.put _ (some 64) _ = _
                      simp only [Act.put, List.setIfInBounds_toArray, List.set_cons_zero, List.set_cons_succ, i64_w, i32_w]
                      rfl
                    refine one_ (i := 20) (N := some 67) #[true, true, true, true, true, true, true, true, true, true, true, true, true, true, true, true, true, true, true, true, true, false, false, false, false, false, false] rfl rfl (one_of HT_.out (by kernel_rfl)) (by decide) (fun K hK => ?_)
                    refine goes_ Try.func25 (by kernel_rfl) rfl #[.agg #[.int .i64 a0_0, .int .i64 a0_1], .bool a2] (by rfl) rfl rfl (by (try simp only [List.map_toArray, List.map_cons, List.map_nil]); first | done | rfl | (simp only [List.length_drop, List.length_take]; rfl)) ?_
                    with_reducible refine (grottoref02_Zero.calls kj33 a0_0 a0_1 a2 t445 _ A49.out).mono ?_
                    rintro e w58 ⟨rfl, hb⟩
                    refine ⟨_, rfl, ?_⟩
                    replace BK422 := zkb BK422 hb
                    replace BK428 := zkb BK428 hb
                    replace BK434 := zkb BK434 hb
                    replace HB := zbs HB hb
                    (try clear hb)
                    (try clear hb2)
                    (try clear hk)
                    (try clear hi)
                    refine hK.out _ _ ⟨(blk_cell BK422.out 0).trans rfl, (blk_cell BK422.out 1).trans rfl⟩ (fun hHeld => ?_)
                    clear hK K
                    refine norm_ (a' := ?_) ?_ ?_
                    rotate_left
                    · show Act.put _ (some 67) _ = _
                      simp only [Act.put, List.setIfInBounds_toArray, List.set_cons_zero, List.set_cons_succ, i64_w, i32_w]
                      rfl
                    refine zpure_ (i := 21) (N := some 68) #[true, true, true, true, true, true, true, true, true, true, true, true, true, true, true, true, true, true, true, true, true, true, false, false, false, false, false] (any_of HT_.out (by kernel_rfl)) ?_
                    refine zpure_ (i := 22) (N := some 69) #[true, true, true, true, true, true, true, true, true, true, true, true, true, true, true, true, true, true, true, true, true, true, true, false, false, false, false] (any_of HT_.out (by kernel_rfl)) ?_
                    refine zpure_ (i := 23) (N := some 70) #[true, true, true, true, true, true, true, true, true, true, true, true, true, true, true, true, true, true, true, true, true, true, true, true, false, false, false] (any_of HT_.out (by kernel_rfl)) ?_
                    refine one_ (i := 24) (N := some 71) #[true, true, true, true, true, true, true, true, true, true, true, true, true, true, true, true, true, true, true, true, true, true, true, true, true, false, false] rfl rfl (one_of HT_.out (by kernel_rfl)) (by decide) (fun K hK => ?_)
                    refine goes_ Try.func13 (by kernel_rfl) rfl #[] (by rfl) rfl rfl (by (try simp only [List.map_toArray, List.map_cons, List.map_nil]); first | done | rfl | (simp only [List.length_drop, List.length_take]; rfl)) ?_
                    with_reducible refine (grottolaw02_live.calls kj33  t446 _ A51.out).mono ?_
                    rintro e w59 ⟨rfl, hb⟩
                    refine ⟨_, rfl, ?_⟩
                    replace BK422 := zkb BK422 hb
                    replace BK428 := zkb BK428 hb
                    replace BK434 := zkb BK434 hb
                    replace HB := zbs HB hb
                    (try clear hb)
                    (try clear hb2)
                    (try clear hk)
                    (try clear hi)
                    refine hK.out _ _ ⟨(blk_cell BK422.out 0).trans rfl, (blk_cell BK422.out 1).trans rfl⟩ (fun hHeld => ?_)
                    clear hK K
                    refine norm_ (a' := ?_) ?_ ?_
                    rotate_left
                    · show Act.put _ (some 71) _ = _
                      simp only [Act.put, List.setIfInBounds_toArray, List.set_cons_zero, List.set_cons_succ, i64_w, i32_w]
                      rfl
                    refine zpure_ (i := 25) (N := some 72) #[true, true, true, true, true, true, true, true, true, true, true, true, true, true, true, true, true, true, true, true, true, true, true, true, true, true, false] (any_of HT_.out (by kernel_rfl)) ?_
                    refine zpure_ (i := 26) (N := some 6) #[true, true, true, true, true, true, true, true, true, true, true, true, true, true, true, true, true, true, true, true, true, true, true, true, true, true, true] (any_of HT_.out (by kernel_rfl)) ?_
                    refine done_ (done_of HT_.out (by kernel_rfl)) ?_
                    try go_wp2
                    go_ret
                    exact ⟨by first | rfl | (simp [errW_none, errW_some] <;> rfl) | (simp [*, errW_none, errW_some] <;> rfl), zb HB⟩
                  · rw [if_neg c50] at H
                    have c50b0 : (t444 == t445) = false := beq_eq_false_iff_ne.mpr c50
                    have c50b1 : (t444 != t445) = true := bne_iff_ne.mpr c50
                    obtain rfl := Option.some.inj H
                    try go_wp2
                    replace BK422 := Aside0.mk (blk_drew BK422.out)
                    replace BK428 := Aside0.mk (blk_drew BK428.out)
                    replace BK434 := Aside0.mk (blk_drew BK434.out)
                    replace HB := Aside0.mk (below_drew1 HB.out)
                    refine start_ (n := 27) (S := fun w' => w'.cell? ⟨gb422, 0, none⟩ = some (.int .i64 a0_0) ∧ w'.cell? ⟨gb422, 1, none⟩ = some (.int .i64 a0_1)) (ds := []) #[false, false, false, false, false, false, false, false, false, false, false, false, false, false, false, false, false, false, false, false, false, false, false, false, false, false, false] (by kernel_rfl) rfl rfl ⟨(blk_cell BK422.out 0).trans rfl, (blk_cell BK422.out 1).trans rfl⟩ (fun hHeld => ?_); refine with_tabW grottolaw02_RoundOpens.tab6 grottolaw02_RoundOpens.bits6 (fun HT_ HW_ => ?_)
                    generalize wc.drew = w60 at BK422 BK428 BK434 HB hHeld ⊢
                    refine ztake_ (i := 0) (N := some 47) #[true, false, false, false, false, false, false, false, false, false, false, false, false, false, false, false, false, false, false, false, false, false, false, false, false, false, false] rfl (take_ofW HT_.out HW_.out (by kernel_rfl)) hHeld (Or.inl ⟨by rfl, by rintro w' ⟨s0, s1⟩; go_simp; with_reducible rfl⟩) ?_
                    refine ztake_ (i := 2) (N := some 49) #[true, false, true, false, false, false, false, false, false, false, false, false, false, false, false, false, false, false, false, false, false, false, false, false, false, false, false] rfl (take_ofW HT_.out HW_.out (by kernel_rfl)) hHeld (Or.inl ⟨by rfl, by rintro w' ⟨s0, s1⟩; go_simp; with_reducible rfl⟩) ?_
                    refine one_ (i := 1) (N := some 48) #[true, true, true, false, false, false, false, false, false, false, false, false, false, false, false, false, false, false, false, false, false, false, false, false, false, false, false] rfl rfl (one_of HT_.out (by kernel_rfl)) (by decide) (fun K hK => ?_)
                    refine goes_ Try.func20 (by kernel_rfl) rfl #[.agg #[.int .i64 a0_0, .int .i64 a0_1]] (by rfl) rfl rfl (by (try simp only [List.map_toArray, List.map_cons, List.map_nil]); first | done | rfl | (simp only [List.length_drop, List.length_take]; rfl)) ?_
                    with_reducible refine (round_NaN.calls a0_0 a0_1 t440 _ A42.out).mono ?_
                    rintro e w61 ⟨rfl, hb⟩
                    refine ⟨_, rfl, ?_⟩
                    replace BK422 := zkb BK422 hb
                    replace BK428 := zkb BK428 hb
                    replace BK434 := zkb BK434 hb
                    replace HB := zbs HB hb
                    (try clear hb)
                    (try clear hb2)
                    (try clear hk)
                    (try clear hi)
                    refine hK.out _ _ ⟨(blk_cell BK422.out 0).trans rfl, (blk_cell BK422.out 1).trans rfl⟩ (fun hHeld => ?_)
                    clear hK K
                    refine norm_ (a' := ?_) ?_ ?_
                    rotate_left
                    · show Act.put _ (some 48) _ = _
                      simp only [Act.put, List.setIfInBounds_toArray, List.set_cons_zero, List.set_cons_succ, i64_w, i32_w]
                      rfl
                    refine one_ (i := 3) (N := some 50) #[true, true, true, true, false, false, false, false, false, false, false, false, false, false, false, false, false, false, false, false, false, false, false, false, false, false, false] rfl rfl (one_of HT_.out (by kernel_rfl)) (by decide) (fun K hK => ?_)
                    refine goes_ Try.func21 (by kernel_rfl) rfl #[.agg #[.int .i64 a0_0, .int .i64 a0_1]] (by rfl) rfl rfl (by (try simp only [List.map_toArray, List.map_cons, List.map_nil]); first | done | rfl | (simp only [List.length_drop, List.length_take]; rfl)) ?_
                    with_reducible refine (grottoref02_NaN.calls kj33 a0_0 a0_1 t441 _ A43.out).mono ?_
                    rintro e w62 ⟨rfl, hb⟩
                    refine ⟨_, rfl, ?_⟩
                    replace BK422 := zkb BK422 hb
                    replace BK428 := zkb BK428 hb
                    replace BK434 := zkb BK434 hb
                    replace HB := zbs HB hb
                    (try clear hb)
                    (try clear hb2)
                    (try clear hk)
                    (try clear hi)
                    refine hK.out _ _ ⟨(blk_cell BK422.out 0).trans rfl, (blk_cell BK422.out 1).trans rfl⟩ (fun hHeld => ?_)
                    clear hK K
                    refine norm_ (a' := ?_) ?_ ?_
                    rotate_left
                    · show Act.put _ (some 50) _ = _
                      simp only [Act.put, List.setIfInBounds_toArray, List.set_cons_zero, List.set_cons_succ, i64_w, i32_w]
                      rfl
                    refine zpure_ (i := 4) (N := some 51) #[true, true, true, true, true, false, false, false, false, false, false, false, false, false, false, false, false, false, false, false, false, false, false, false, false, false, false] (any_of HT_.out (by kernel_rfl)) ?_
                    refine zpure_ (i := 5) (N := some 52) #[true, true, true, true, true, true, false, false, false, false, false, false, false, false, false, false, false, false, false, false, false, false, false, false, false, false, false] (any_of HT_.out (by kernel_rfl)) ?_
                    refine zpure_ (i := 7) (N := some 54) #[true, true, true, true, true, true, false, true, false, false, false, false, false, false, false, false, false, false, false, false, false, false, false, false, false, false, false] (any_of HT_.out (by kernel_rfl)) ?_
                    refine zpure_ (i := 10) (N := some 57) #[true, true, true, true, true, true, false, true, false, false, true, false, false, false, false, false, false, false, false, false, false, false, false, false, false, false, false] (any_of HT_.out (by kernel_rfl)) ?_
                    refine ztake_ (i := 6) (N := some 53) #[true, true, true, true, true, true, true, true, false, false, true, false, false, false, false, false, false, false, false, false, false, false, false, false, false, false, false] rfl (take_ofW HT_.out HW_.out (by kernel_rfl)) hHeld (Or.inl ⟨by rfl, by rintro w' ⟨s0, s1⟩; go_simp; with_reducible rfl⟩) ?_
                    refine ztake_ (i := 9) (N := some 56) #[true, true, true, true, true, true, true, true, false, true, true, false, false, false, false, false, false, false, false, false, false, false, false, false, false, false, false] rfl (take_ofW HT_.out HW_.out (by kernel_rfl)) hHeld (Or.inl ⟨by rfl, by rintro w' ⟨s0, s1⟩; go_simp; with_reducible rfl⟩) ?_
                    refine one_ (i := 8) (N := some 55) #[true, true, true, true, true, true, true, true, true, true, true, false, false, false, false, false, false, false, false, false, false, false, false, false, false, false, false] rfl rfl (one_of HT_.out (by kernel_rfl)) (by decide) (fun K hK => ?_)
                    refine goes_ Try.func22 (by kernel_rfl) rfl #[.agg #[.int .i64 a0_0, .int .i64 a0_1], .bool a2] (by rfl) rfl rfl (by (try simp only [List.map_toArray, List.map_cons, List.map_nil]); first | done | rfl | (simp only [List.length_drop, List.length_take]; rfl)) ?_
                    with_reducible refine (round_Inf.calls a0_0 a0_1 a2 t442 _ A45.out).mono ?_
                    rintro e w63 ⟨rfl, hb⟩
                    refine ⟨_, rfl, ?_⟩
                    replace BK422 := zkb BK422 hb
                    replace BK428 := zkb BK428 hb
                    replace BK434 := zkb BK434 hb
                    replace HB := zbs HB hb
                    (try clear hb)
                    (try clear hb2)
                    (try clear hk)
                    (try clear hi)
                    refine hK.out _ _ ⟨(blk_cell BK422.out 0).trans rfl, (blk_cell BK422.out 1).trans rfl⟩ (fun hHeld => ?_)
                    clear hK K
                    refine norm_ (a' := ?_) ?_ ?_
                    rotate_left
                    · show Act.put _ (some 55) _ = _
                      simp only [Act.put, List.setIfInBounds_toArray, List.set_cons_zero, List.set_cons_succ, i64_w, i32_w]
                      rfl
                    refine one_ (i := 11) (N := some 58) #[true, true, true, true, true, true, true, true, true, true, true, true, false, false, false, false, false, false, false, false, false, false, false, false, false, false, false] rfl rfl (one_of HT_.out (by kernel_rfl)) (by decide) (fun K hK => ?_)
                    refine goes_ Try.func23 (by kernel_rfl) rfl #[.agg #[.int .i64 a0_0, .int .i64 a0_1], .bool a2] (by rfl) rfl rfl (by (try simp only [List.map_toArray, List.map_cons, List.map_nil]); first | done | rfl | (simp only [List.length_drop, List.length_take]; rfl)) ?_
                    with_reducible refine (grottoref02_Inf.calls kj33 a0_0 a0_1 a2 t443 _ A46.out).mono ?_
                    rintro e w64 ⟨rfl, hb⟩
                    refine ⟨_, rfl, ?_⟩
                    replace BK422 := zkb BK422 hb
                    replace BK428 := zkb BK428 hb
                    replace BK434 := zkb BK434 hb
                    replace HB := zbs HB hb
                    (try clear hb)
                    (try clear hb2)
                    (try clear hk)
                    (try clear hi)
                    refine hK.out _ _ ⟨(blk_cell BK422.out 0).trans rfl, (blk_cell BK422.out 1).trans rfl⟩ (fun hHeld => ?_)
                    clear hK K
                    refine norm_ (a' := ?_) ?_ ?_
                    rotate_left
                    · show Act.put _ (some 58) _ = _
                      simp only [Act.put, List.setIfInBounds_toArray, List.set_cons_zero, List.set_cons_succ, i64_w, i32_w]
                      rfl
                    refine zpure_ (i := 12) (N := some 59) #[true, true, true, true, true, true, true, true, true, true, true, true, true, false, false, false, false, false, false, false, false, false, false, false, false, false, false] (any_of HT_.out (by kernel_rfl)) ?_
                    refine zpure_ (i := 13) (N := some 60) #[true, true, true, true, true, true, true, true, true, true, true, true, true, true, false, false, false, false, false, false, false, false, false, false, false, false, false] (any_of HT_.out (by kernel_rfl)) ?_
                    refine zpure_ (i := 14) (N := some 61) #[true, true, true, true, true, true, true, true, true, true, true, true, true, true, true, false, false, false, false, false, false, false, false, false, false, false, false] (any_of HT_.out (by kernel_rfl)) ?_
                    refine zpure_ (i := 16) (N := some 63) #[true, true, true, true, true, true, true, true, true, true, true, true, true, true, true, false, true, false, false, false, false, false, false, false, false, false, false] (any_of HT_.out (by kernel_rfl)) ?_
                    refine zpure_ (i := 19) (N := some 66) #[true, true, true, true, true, true, true, true, true, true, true, true, true, true, true, false, true, false, false, true, false, false, false, false, false, false, false] (any_of HT_.out (by kernel_rfl)) ?_
                    refine ztake_ (i := 15) (N := some 62) #[true, true, true, true, true, true, true, true, true, true, true, true, true, true, true, true, true, false, false, true, false, false, false, false, false, false, false] rfl (take_ofW HT_.out HW_.out (by kernel_rfl)) hHeld (Or.inl ⟨by rfl, by rintro w' ⟨s0, s1⟩; go_simp; with_reducible rfl⟩) ?_
                    refine ztake_ (i := 18) (N := some 65) #[true, true, true, true, true, true, true, true, true, true, true, true, true, true, true, true, true, false, true, true, false, false, false, false, false, false, false] rfl (take_ofW HT_.out HW_.out (by kernel_rfl)) hHeld (Or.inl ⟨by rfl, by rintro w' ⟨s0, s1⟩; go_simp; with_reducible rfl⟩) ?_
                    refine one_ (i := 17) (N := some 64) #[true, true, true, true, true, true, true, true, true, true, true, true, true, true, true, true, true, true, true, true, false, false, false, false, false, false, false] rfl rfl (one_of HT_.out (by kernel_rfl)) (by decide) (fun K hK => ?_)
                    refine goes_ Try.func24 (by kernel_rfl) rfl #[.agg #[.int .i64 a0_0, .int .i64 a0_1], .bool a2] (by rfl) rfl rfl (by (try simp only [List.map_toArray, List.map_cons, List.map_nil]); first | done | rfl | (simp only [List.length_drop, List.length_take]; rfl)) ?_
                    with_reducible refine (round_Zero.calls a0_0 a0_1 a2 t444 _ A48.out).mono ?_
                    rintro e w65 ⟨rfl, hb⟩
                    refine ⟨_, rfl, ?_⟩
                    replace BK422 := zkb BK422 hb
                    replace BK428 := zkb BK428 hb
                    replace BK434 := zkb BK434 hb
                    replace HB := zbs HB hb
                    (try clear hb)
                    (try clear hb2)
                    (try clear hk)
                    (try clear hi)
                    refine hK.out _ _ ⟨(blk_cell BK422.out 0).trans rfl, (blk_cell BK422.out 1).trans rfl⟩ (fun hHeld => ?_)
                    clear hK K
                    refine norm_ (a' := ?_) ?_ ?_
                    rotate_left
                    · show Act.put _ (some 64) _ = _
                      simp only [Act.put, List.setIfInBounds_toArray, List.set_cons_zero, List.set_cons_succ, i64_w, i32_w]
                      rfl
                    refine one_ (i := 20) (N := some 67) #[true, true, true, true, true, true, true, true, true, true, true, true, true, true, true, true, true, true, true, true, true, false, false, false, false, false, false] rfl rfl (one_of HT_.out (by kernel_rfl)) (by decide) (fun K hK => ?_)
                    refine goes_ Try.func25 (by kernel_rfl) rfl #[.agg #[.int .i64 a0_0, .int .i64 a0_1], .bool a2] (by rfl) rfl rfl (by (try simp only [List.map_toArray, List.map_cons, List.map_nil]); first | done | rfl | (simp only [List.length_drop, List.length_take]; rfl)) ?_
                    with_reducible refine (grottoref02_Zero.calls kj33 a0_0 a0_1 a2 t445 _ A49.out).mono ?_
                    rintro e w66 ⟨rfl, hb⟩
                    refine ⟨_, rfl, ?_⟩
                    replace BK422 := zkb BK422 hb
                    replace BK428 := zkb BK428 hb
                    replace BK434 := zkb BK434 hb
                    replace HB := zbs HB hb
                    (try clear hb)
                    (try clear hb2)
                    (try clear hk)
                    (try clear hi)
                    refine hK.out _ _ ⟨(blk_cell BK422.out 0).trans rfl, (blk_cell BK422.out 1).trans rfl⟩ (fun hHeld => ?_)
                    clear hK K
                    refine norm_ (a' := ?_) ?_ ?_
                    rotate_left
                    · show Act.put _ (some 67) _ = _
                      simp only [Act.put, List.setIfInBounds_toArray, List.set_cons_zero, List.set_cons_succ, i64_w, i32_w]
                      rfl
                    refine zpure_ (i := 21) (N := some 68) #[true, true, true, true, true, true, true, true, true, true, true, true, true, true, true, true, true, true, true, true, true, true, false, false, false, false, false] (any_of HT_.out (by kernel_rfl)) ?_
                    refine zpure_ (i := 22) (N := some 69) #[true, true, true, true, true, true, true, true, true, true, true, true, true, true, true, true, true, true, true, true, true, true, true, false, false, false, false] (any_of HT_.out (by kernel_rfl)) ?_
                    refine zpure_ (i := 23) (N := some 70) #[true, true, true, true, true, true, true, true, true, true, true, true, true, true, true, true, true, true, true, true, true, true, true, true, false, false, false] (any_of HT_.out (by kernel_rfl)) ?_
                    refine pure_ (i := 24) (N := some 71) (v := undef) (a' := ?_) #[true, true, true, true, true, true, true, true, true, true, true, true, true, true, true, true, true, true, true, true, true, true, true, true, true, false, false] rfl rfl (any_of HT_.out (by kernel_rfl)) (fun _ _ _ h => h) (Or.inr ⟨by rfl, rfl⟩) ?_ ?_
                    rotate_left
                    · simp only [Act.put, List.setIfInBounds_toArray, List.set_cons_zero, List.set_cons_succ, i64_w, i32_w]
                      rfl
                    refine zpure_ (i := 25) (N := some 72) #[true, true, true, true, true, true, true, true, true, true, true, true, true, true, true, true, true, true, true, true, true, true, true, true, true, true, false] (any_of HT_.out (by kernel_rfl)) ?_
                    refine zpure_ (i := 26) (N := some 6) #[true, true, true, true, true, true, true, true, true, true, true, true, true, true, true, true, true, true, true, true, true, true, true, true, true, true, true] (any_of HT_.out (by kernel_rfl)) ?_
                    refine done_ (done_of HT_.out (by kernel_rfl)) ?_
                    try go_wp2
                    go_ret
                    exact ⟨by first | rfl | (simp [errW_none, errW_some] <;> rfl) | (simp [*, errW_none, errW_some] <;> rfl), zb HB⟩
                · rw [if_neg c47] at H
                  have c47b0 : (t442 == t443) = false := beq_eq_false_iff_ne.mpr c47
                  have c47b1 : (t442 != t443) = true := bne_iff_ne.mpr c47
                  obtain rfl := Option.some.inj H
                  try go_wp2
                  replace BK422 := Aside0.mk (blk_drew BK422.out)
                  replace BK428 := Aside0.mk (blk_drew BK428.out)
                  replace BK434 := Aside0.mk (blk_drew BK434.out)
                  replace HB := Aside0.mk (below_drew1 HB.out)
                  refine start_ (n := 27) (S := fun w' => w'.cell? ⟨gb422, 0, none⟩ = some (.int .i64 a0_0) ∧ w'.cell? ⟨gb422, 1, none⟩ = some (.int .i64 a0_1)) (ds := []) #[false, false, false, false, false, false, false, false, false, false, false, false, false, false, false, false, false, false, false, false, false, false, false, false, false, false, false] (by kernel_rfl) rfl rfl ⟨(blk_cell BK422.out 0).trans rfl, (blk_cell BK422.out 1).trans rfl⟩ (fun hHeld => ?_); refine with_tabW grottolaw02_RoundOpens.tab6 grottolaw02_RoundOpens.bits6 (fun HT_ HW_ => ?_)
                  generalize wc.drew = w67 at BK422 BK428 BK434 HB hHeld ⊢
                  refine ztake_ (i := 0) (N := some 47) #[true, false, false, false, false, false, false, false, false, false, false, false, false, false, false, false, false, false, false, false, false, false, false, false, false, false, false] rfl (take_ofW HT_.out HW_.out (by kernel_rfl)) hHeld (Or.inl ⟨by rfl, by rintro w' ⟨s0, s1⟩; go_simp; with_reducible rfl⟩) ?_
                  refine ztake_ (i := 2) (N := some 49) #[true, false, true, false, false, false, false, false, false, false, false, false, false, false, false, false, false, false, false, false, false, false, false, false, false, false, false] rfl (take_ofW HT_.out HW_.out (by kernel_rfl)) hHeld (Or.inl ⟨by rfl, by rintro w' ⟨s0, s1⟩; go_simp; with_reducible rfl⟩) ?_
                  refine one_ (i := 1) (N := some 48) #[true, true, true, false, false, false, false, false, false, false, false, false, false, false, false, false, false, false, false, false, false, false, false, false, false, false, false] rfl rfl (one_of HT_.out (by kernel_rfl)) (by decide) (fun K hK => ?_)
                  refine goes_ Try.func20 (by kernel_rfl) rfl #[.agg #[.int .i64 a0_0, .int .i64 a0_1]] (by rfl) rfl rfl (by (try simp only [List.map_toArray, List.map_cons, List.map_nil]); first | done | rfl | (simp only [List.length_drop, List.length_take]; rfl)) ?_
                  with_reducible refine (round_NaN.calls a0_0 a0_1 t440 _ A42.out).mono ?_
                  rintro e w68 ⟨rfl, hb⟩
                  refine ⟨_, rfl, ?_⟩
                  replace BK422 := zkb BK422 hb
                  replace BK428 := zkb BK428 hb
                  replace BK434 := zkb BK434 hb
                  replace HB := zbs HB hb
                  (try clear hb)
                  (try clear hb2)
                  (try clear hk)
                  (try clear hi)
                  refine hK.out _ _ ⟨(blk_cell BK422.out 0).trans rfl, (blk_cell BK422.out 1).trans rfl⟩ (fun hHeld => ?_)
                  clear hK K
                  refine norm_ (a' := ?_) ?_ ?_
                  rotate_left
                  · show Act.put _ (some 48) _ = _
                    simp only [Act.put, List.setIfInBounds_toArray, List.set_cons_zero, List.set_cons_succ, i64_w, i32_w]
                    rfl
                  refine one_ (i := 3) (N := some 50) #[true, true, true, true, false, false, false, false, false, false, false, false, false, false, false, false, false, false, false, false, false, false, false, false, false, false, false] rfl rfl (one_of HT_.out (by kernel_rfl)) (by decide) (fun K hK => ?_)
                  refine goes_ Try.func21 (by kernel_rfl) rfl #[.agg #[.int .i64 a0_0, .int .i64 a0_1]] (by rfl) rfl rfl (by (try simp only [List.map_toArray, List.map_cons, List.map_nil]); first | done | rfl | (simp only [List.length_drop, List.length_take]; rfl)) ?_
                  with_reducible refine (grottoref02_NaN.calls kj33 a0_0 a0_1 t441 _ A43.out).mono ?_
                  rintro e w69 ⟨rfl, hb⟩
                  refine ⟨_, rfl, ?_⟩
                  replace BK422 := zkb BK422 hb
                  replace BK428 := zkb BK428 hb
                  replace BK434 := zkb BK434 hb
                  replace HB := zbs HB hb
                  (try clear hb)
                  (try clear hb2)
                  (try clear hk)
                  (try clear hi)
                  refine hK.out _ _ ⟨(blk_cell BK422.out 0).trans rfl, (blk_cell BK422.out 1).trans rfl⟩ (fun hHeld => ?_)
                  clear hK K
                  refine norm_ (a' := ?_) ?_ ?_
                  rotate_left
                  · show Act.put _ (some 50) _ = _
                    simp only [Act.put, List.setIfInBounds_toArray, List.set_cons_zero, List.set_cons_succ, i64_w, i32_w]
                    rfl
                  refine zpure_ (i := 4) (N := some 51) #[true, true, true, true, true, false, false, false, false, false, false, false, false, false, false, false, false, false, false, false, false, false, false, false, false, false, false] (any_of HT_.out (by kernel_rfl)) ?_
                  refine zpure_ (i := 5) (N := some 52) #[true, true, true, true, true, true, false, false, false, false, false, false, false, false, false, false, false, false, false, false, false, false, false, false, false, false, false] (any_of HT_.out (by kernel_rfl)) ?_
                  refine zpure_ (i := 7) (N := some 54) #[true, true, true, true, true, true, false, true, false, false, false, false, false, false, false, false, false, false, false, false, false, false, false, false, false, false, false] (any_of HT_.out (by kernel_rfl)) ?_
                  refine zpure_ (i := 10) (N := some 57) #[true, true, true, true, true, true, false, true, false, false, true, false, false, false, false, false, false, false, false, false, false, false, false, false, false, false, false] (any_of HT_.out (by kernel_rfl)) ?_
                  refine ztake_ (i := 6) (N := some 53) #[true, true, true, true, true, true, true, true, false, false, true, false, false, false, false, false, false, false, false, false, false, false, false, false, false, false, false] rfl (take_ofW HT_.out HW_.out (by kernel_rfl)) hHeld (Or.inl ⟨by rfl, by rintro w' ⟨s0, s1⟩; go_simp; with_reducible rfl⟩) ?_
                  refine ztake_ (i := 9) (N := some 56) #[true, true, true, true, true, true, true, true, false, true, true, false, false, false, false, false, false, false, false, false, false, false, false, false, false, false, false] rfl (take_ofW HT_.out HW_.out (by kernel_rfl)) hHeld (Or.inl ⟨by rfl, by rintro w' ⟨s0, s1⟩; go_simp; with_reducible rfl⟩) ?_
                  refine one_ (i := 8) (N := some 55) #[true, true, true, true, true, true, true, true, true, true, true, false, false, false, false, false, false, false, false, false, false, false, false, false, false, false, false] rfl rfl (one_of HT_.out (by kernel_rfl)) (by decide) (fun K hK => ?_)
                  refine goes_ Try.func22 (by kernel_rfl) rfl #[.agg #[.int .i64 a0_0, .int .i64 a0_1], .bool a2] (by rfl) rfl rfl (by (try simp only [List.map_toArray, List.map_cons, List.map_nil]); first | done | rfl | (simp only [List.length_drop, List.length_take]; rfl)) ?_
                  with_reducible refine (round_Inf.calls a0_0 a0_1 a2 t442 _ A45.out).mono ?_
                  rintro e w70 ⟨rfl, hb⟩
                  refine ⟨_, rfl, ?_⟩
                  replace BK422 := zkb BK422 hb
                  replace BK428 := zkb BK428 hb
                  replace BK434 := zkb BK434 hb
                  replace HB := zbs HB hb
                  (try clear hb)
                  (try clear hb2)
                  (try clear hk)
                  (try clear hi)
                  refine hK.out _ _ ⟨(blk_cell BK422.out 0).trans rfl, (blk_cell BK422.out 1).trans rfl⟩ (fun hHeld => ?_)
                  clear hK K
                  refine norm_ (a' := ?_) ?_ ?_
                  rotate_left
                  · show Act.put _ (some 55) _ = _
                    simp only [Act.put, List.setIfInBounds_toArray, List.set_cons_zero, List.set_cons_succ, i64_w, i32_w]
                    rfl
                  refine one_ (i := 11) (N := some 58) #[true, true, true, true, true, true, true, true, true, true, true, true, false, false, false, false, false, false, false, false, false, false, false, false, false, false, false] rfl rfl (one_of HT_.out (by kernel_rfl)) (by decide) (fun K hK => ?_)
                  refine goes_ Try.func23 (by kernel_rfl) rfl #[.agg #[.int .i64 a0_0, .int .i64 a0_1], .bool a2] (by rfl) rfl rfl (by (try simp only [List.map_toArray, List.map_cons, List.map_nil]); first | done | rfl | (simp only [List.length_drop, List.length_take]; rfl)) ?_
                  with_reducible refine (grottoref02_Inf.calls kj33 a0_0 a0_1 a2 t443 _ A46.out).mono ?_
                  rintro e w71 ⟨rfl, hb⟩
                  refine ⟨_, rfl, ?_⟩
                  replace BK422 := zkb BK422 hb
                  replace BK428 := zkb BK428 hb
                  replace BK434 := zkb BK434 hb
                  replace HB := zbs HB hb
                  (try clear hb)
                  (try clear hb2)
                  (try clear hk)
                  (try clear hi)
                  refine hK.out _ _ ⟨(blk_cell BK422.out 0).trans rfl, (blk_cell BK422.out 1).trans rfl⟩ (fun hHeld => ?_)
                  clear hK K
                  refine norm_ (a' := ?_) ?_ ?_
                  rotate_left
                  · show Act.put _ (some 58) _ = _
                    simp only [Act.put, List.setIfInBounds_toArray, List.set_cons_zero, List.set_cons_succ, i64_w, i32_w]
                    rfl
                  refine zpure_ (i := 12) (N := some 59) #[true, true, true, true, true, true, true, true, true, true, true, true, true, false, false, false, false, false, false, false, false, false, false, false, false, false, false] (any_of HT_.out (by kernel_rfl)) ?_
                  refine zpure_ (i := 13) (N := some 60) #[true, true, true, true, true, true, true, true, true, true, true, true, true, true, false, false, false, false, false, false, false, false, false, false, false, false, false] (any_of HT_.out (by kernel_rfl)) ?_
                  refine zpure_ (i := 14) (N := some 61) #[true, true, true, true, true, true, true, true, true, true, true, true, true, true, true, false, false, false, false, false, false, false, false, false, false, false, false] (any_of HT_.out (by kernel_rfl)) ?_
                  refine pure_ (i := 15) (N := some 62) (v := undef) (a' := ?_) #[true, true, true, true, true, true, true, true, true, true, true, true, true, true, true, true, false, false, false, false, false, false, false, false, false, false, false] rfl rfl (any_of HT_.out (by kernel_rfl)) (fun _ _ _ h => h) (Or.inr ⟨by rfl, rfl⟩) ?_ ?_
                  rotate_left
                  · simp only [Act.put, List.setIfInBounds_toArray, List.set_cons_zero, List.set_cons_succ, i64_w, i32_w]
                    rfl
                  refine pure_ (i := 16) (N := some 63) (v := undef) (a' := ?_) #[true, true, true, true, true, true, true, true, true, true, true, true, true, true, true, true, true, false, false, false, false, false, false, false, false, false, false] rfl rfl (any_of HT_.out (by kernel_rfl)) (fun _ _ _ h => h) (Or.inr ⟨by rfl, rfl⟩) ?_ ?_
                  rotate_left
                  · simp only [Act.put, List.setIfInBounds_toArray, List.set_cons_zero, List.set_cons_succ, i64_w, i32_w]
                    rfl
                  refine pure_ (i := 17) (N := some 64) (v := undef) (a' := ?_) #[true, true, true, true, true, true, true, true, true, true, true, true, true, true, true, true, true, true, false, false, false, false, false, false, false, false, false] rfl rfl (any_of HT_.out (by kernel_rfl)) (fun _ _ _ h => h) (Or.inr ⟨by rfl, rfl⟩) ?_ ?_
                  rotate_left
                  · simp only [Act.put, List.setIfInBounds_toArray, List.set_cons_zero, List.set_cons_succ, i64_w, i32_w]
                    rfl
                  refine pure_ (i := 18) (N := some 65) (v := undef) (a' := ?_) #[true, true, true, true, true, true, true, true, true, true, true, true, true, true, true, true, true, true, true, false, false, false, false, false, false, false, false] rfl rfl (any_of HT_.out (by kernel_rfl)) (fun _ _ _ h => h) (Or.inr ⟨by rfl, rfl⟩) ?_ ?_
                  rotate_left
                  · simp only [Act.put, List.setIfInBounds_toArray, List.set_cons_zero, List.set_cons_succ, i64_w, i32_w]
                    rfl
                  refine pure_ (i := 19) (N := some 66) (v := undef) (a' := ?_) #[true, true, true, true, true, true, true, true, true, true, true, true, true, true, true, true, true, true, true, true, false, false, false, false, false, false, false] rfl rfl (any_of HT_.out (by kernel_rfl)) (fun _ _ _ h => h) (Or.inr ⟨by rfl, rfl⟩) ?_ ?_
                  rotate_left
                  · simp only [Act.put, List.setIfInBounds_toArray, List.set_cons_zero, List.set_cons_succ, i64_w, i32_w]
                    rfl
                  refine pure_ (i := 20) (N := some 67) (v := undef) (a' := ?_) #[true, true, true, true, true, true, true, true, true, true, true, true, true, true, true, true, true, true, true, true, true, false, false, false, false, false, false] rfl rfl (any_of HT_.out (by kernel_rfl)) (fun _ _ _ h => h) (Or.inr ⟨by rfl, rfl⟩) ?_ ?_
                  rotate_left
                  · simp only [Act.put, List.setIfInBounds_toArray, List.set_cons_zero, List.set_cons_succ, i64_w, i32_w]
                    rfl
                  refine pure_ (i := 21) (N := some 68) (v := undef) (a' := ?_) #[true, true, true, true, true, true, true, true, true, true, true, true, true, true, true, true, true, true, true, true, true, true, false, false, false, false, false] rfl rfl (any_of HT_.out (by kernel_rfl)) (fun _ _ _ h => h) (Or.inr ⟨by rfl, rfl⟩) ?_ ?_
                  rotate_left
                  · simp only [Act.put, List.setIfInBounds_toArray, List.set_cons_zero, List.set_cons_succ, i64_w, i32_w]
                    rfl
                  refine zpure_ (i := 22) (N := some 69) #[true, true, true, true, true, true, true, true, true, true, true, true, true, true, true, true, true, true, true, true, true, true, true, false, false, false, false] (any_of HT_.out (by kernel_rfl)) ?_
                  refine zpure_ (i := 23) (N := some 70) #[true, true, true, true, true, true, true, true, true, true, true, true, true, true, true, true, true, true, true, true, true, true, true, true, false, false, false] (any_of HT_.out (by kernel_rfl)) ?_
                  refine pure_ (i := 24) (N := some 71) (v := undef) (a' := ?_) #[true, true, true, true, true, true, true, true, true, true, true, true, true, true, true, true, true, true, true, true, true, true, true, true, true, false, false] rfl rfl (any_of HT_.out (by kernel_rfl)) (fun _ _ _ h => h) (Or.inr ⟨by rfl, rfl⟩) ?_ ?_
                  rotate_left
                  · simp only [Act.put, List.setIfInBounds_toArray, List.set_cons_zero, List.set_cons_succ, i64_w, i32_w]
                    rfl
                  refine zpure_ (i := 25) (N := some 72) #[true, true, true, true, true, true, true, true, true, true, true, true, true, true, true, true, true, true, true, true, true, true, true, true, true, true, false] (any_of HT_.out (by kernel_rfl)) ?_
                  refine zpure_ (i := 26) (N := some 6) #[true, true, true, true, true, true, true, true, true, true, true, true, true, true, true, true, true, true, true, true, true, true, true, true, true, true, true] (any_of HT_.out (by kernel_rfl)) ?_
                  refine done_ (done_of HT_.out (by kernel_rfl)) ?_
                  try go_wp2
                  go_ret
                  exact ⟨by first | rfl | (simp [errW_none, errW_some] <;> rfl) | (simp [*, errW_none, errW_some] <;> rfl), zb HB⟩
              · rw [if_neg c44] at H
                have c44b0 : (t440 == t441) = false := beq_eq_false_iff_ne.mpr c44
                have c44b1 : (t440 != t441) = true := bne_iff_ne.mpr c44
                obtain rfl := Option.some.inj H
                try go_wp2
                replace BK422 := Aside0.mk (blk_drew BK422.out)
                replace BK428 := Aside0.mk (blk_drew BK428.out)
                replace BK434 := Aside0.mk (blk_drew BK434.out)
                replace HB := Aside0.mk (below_drew1 HB.out)
                refine start_ (n := 27) (S := fun w' => w'.cell? ⟨gb422, 0, none⟩ = some (.int .i64 a0_0) ∧ w'.cell? ⟨gb422, 1, none⟩ = some (.int .i64 a0_1)) (ds := []) #[false, false, false, false, false, false, false, false, false, false, false, false, false, false, false, false, false, false, false, false, false, false, false, false, false, false, false] (by kernel_rfl) rfl rfl ⟨(blk_cell BK422.out 0).trans rfl, (blk_cell BK422.out 1).trans rfl⟩ (fun hHeld => ?_); refine with_tabW grottolaw02_RoundOpens.tab6 grottolaw02_RoundOpens.bits6 (fun HT_ HW_ => ?_)
                generalize wc.drew = w72 at BK422 BK428 BK434 HB hHeld ⊢
                refine ztake_ (i := 0) (N := some 47) #[true, false, false, false, false, false, false, false, false, false, false, false, false, false, false, false, false, false, false, false, false, false, false, false, false, false, false] rfl (take_ofW HT_.out HW_.out (by kernel_rfl)) hHeld (Or.inl ⟨by rfl, by rintro w' ⟨s0, s1⟩; go_simp; with_reducible rfl⟩) ?_
                refine ztake_ (i := 2) (N := some 49) #[true, false, true, false, false, false, false, false, false, false, false, false, false, false, false, false, false, false, false, false, false, false, false, false, false, false, false] rfl (take_ofW HT_.out HW_.out (by kernel_rfl)) hHeld (Or.inl ⟨by rfl, by rintro w' ⟨s0, s1⟩; go_simp; with_reducible rfl⟩) ?_
                refine one_ (i := 1) (N := some 48) #[true, true, true, false, false, false, false, false, false, false, false, false, false, false, false, false, false, false, false, false, false, false, false, false, false, false, false] rfl rfl (one_of HT_.out (by kernel_rfl)) (by decide) (fun K hK => ?_)
                refine goes_ Try.func20 (by kernel_rfl) rfl #[.agg #[.int .i64 a0_0, .int .i64 a0_1]] (by rfl) rfl rfl (by (try simp only [List.map_toArray, List.map_cons, List.map_nil]); first | done | rfl | (simp only [List.length_drop, List.length_take]; rfl)) ?_
                with_reducible refine (round_NaN.calls a0_0 a0_1 t440 _ A42.out).mono ?_
                rintro e w73 ⟨rfl, hb⟩
                refine ⟨_, rfl, ?_⟩
                replace BK422 := zkb BK422 hb
                replace BK428 := zkb BK428 hb
                replace BK434 := zkb BK434 hb
                replace HB := zbs HB hb
                (try clear hb)
                (try clear hb2)
                (try clear hk)
                (try clear hi)
                refine hK.out _ _ ⟨(blk_cell BK422.out 0).trans rfl, (blk_cell BK422.out 1).trans rfl⟩ (fun hHeld => ?_)
                clear hK K
                refine norm_ (a' := ?_) ?_ ?_
                rotate_left
                · show Act.put _ (some 48) _ = _
                  simp only [Act.put, List.setIfInBounds_toArray, List.set_cons_zero, List.set_cons_succ, i64_w, i32_w]
                  rfl
                refine one_ (i := 3) (N := some 50) #[true, true, true, true, false, false, false, false, false, false, false, false, false, false, false, false, false, false, false, false, false, false, false, false, false, false, false] rfl rfl (one_of HT_.out (by kernel_rfl)) (by decide) (fun K hK => ?_)
                refine goes_ Try.func21 (by kernel_rfl) rfl #[.agg #[.int .i64 a0_0, .int .i64 a0_1]] (by rfl) rfl rfl (by (try simp only [List.map_toArray, List.map_cons, List.map_nil]); first | done | rfl | (simp only [List.length_drop, List.length_take]; rfl)) ?_
                with_reducible refine (grottoref02_NaN.calls kj33 a0_0 a0_1 t441 _ A43.out).mono ?_
                rintro e w74 ⟨rfl, hb⟩
                refine ⟨_, rfl, ?_⟩
                replace BK422 := zkb BK422 hb
                replace BK428 := zkb BK428 hb
                replace BK434 := zkb BK434 hb
                replace HB := zbs HB hb
                (try clear hb)
                (try clear hb2)
                (try clear hk)
                (try clear hi)
                refine hK.out _ _ ⟨(blk_cell BK422.out 0).trans rfl, (blk_cell BK422.out 1).trans rfl⟩ (fun hHeld => ?_)
                clear hK K
                refine norm_ (a' := ?_) ?_ ?_
                rotate_left
                · show Act.put _ (some 50) _ = _
                  simp only [Act.put, List.setIfInBounds_toArray, List.set_cons_zero, List.set_cons_succ, i64_w, i32_w]
                  rfl
                refine zpure_ (i := 4) (N := some 51) #[true, true, true, true, true, false, false, false, false, false, false, false, false, false, false, false, false, false, false, false, false, false, false, false, false, false, false] (any_of HT_.out (by kernel_rfl)) ?_
                refine zpure_ (i := 5) (N := some 52) #[true, true, true, true, true, true, false, false, false, false, false, false, false, false, false, false, false, false, false, false, false, false, false, false, false, false, false] (any_of HT_.out (by kernel_rfl)) ?_
                refine pure_ (i := 6) (N := some 53) (v := undef) (a' := ?_) #[true, true, true, true, true, true, true, false, false, false, false, false, false, false, false, false, false, false, false, false, false, false, false, false, false, false, false] rfl rfl (any_of HT_.out (by kernel_rfl)) (fun _ _ _ h => h) (Or.inr ⟨by rfl, rfl⟩) ?_ ?_
                rotate_left
                · simp only [Act.put, List.setIfInBounds_toArray, List.set_cons_zero, List.set_cons_succ, i64_w, i32_w]
                  rfl
                refine pure_ (i := 7) (N := some 54) (v := undef) (a' := ?_) #[true, true, true, true, true, true, true, true, false, false, false, false, false, false, false, false, false, false, false, false, false, false, false, false, false, false, false] rfl rfl (any_of HT_.out (by kernel_rfl)) (fun _ _ _ h => h) (Or.inr ⟨by rfl, rfl⟩) ?_ ?_
                rotate_left
                · simp only [Act.put, List.setIfInBounds_toArray, List.set_cons_zero, List.set_cons_succ, i64_w, i32_w]
                  rfl
                refine pure_ (i := 8) (N := some 55) (v := undef) (a' := ?_) #[true, true, true, true, true, true, true, true, true, false, false, false, false, false, false, false, false, false, false, false, false, false, false, false, false, false, false] rfl rfl (any_of HT_.out (by kernel_rfl)) (fun _ _ _ h => h) (Or.inr ⟨by rfl, rfl⟩) ?_ ?_
                rotate_left
                · simp only [Act.put, List.setIfInBounds_toArray, List.set_cons_zero, List.set_cons_succ, i64_w, i32_w]
                  rfl
                refine pure_ (i := 9) (N := some 56) (v := undef) (a' := ?_) #[true, true, true, true, true, true, true, true, true, true, false, false, false, false, false, false, false, false, false, false, false, false, false, false, false, false, false] rfl rfl (any_of HT_.out (by kernel_rfl)) (fun _ _ _ h => h) (Or.inr ⟨by rfl, rfl⟩) ?_ ?_
                rotate_left
                · simp only [Act.put, List.setIfInBounds_toArray, List.set_cons_zero, List.set_cons_succ, i64_w, i32_w]
                  rfl
                refine pure_ (i := 10) (N := some 57) (v := undef) (a' := ?_) #[true, true, true, true, true, true, true, true, true, true, true, false, false, false, false, false, false, false, false, false, false, false, false, false, false, false, false] rfl rfl (any_of HT_.out (by kernel_rfl)) (fun _ _ _ h => h) (Or.inr ⟨by rfl, rfl⟩) ?_ ?_
                rotate_left
                · simp only [Act.put, List.setIfInBounds_toArray, List.set_cons_zero, List.set_cons_succ, i64_w, i32_w]
                  rfl
                refine pure_ (i := 11) (N := some 58) (v := undef) (a' := ?_) #[true, true, true, true, true, true, true, true, true, true, true, true, false, false, false, false, false, false, false, false, false, false, false, false, false, false, false] rfl rfl (any_of HT_.out (by kernel_rfl)) (fun _ _ _ h => h) (Or.inr ⟨by rfl, rfl⟩) ?_ ?_
                rotate_left
                · simp only [Act.put, List.setIfInBounds_toArray, List.set_cons_zero, List.set_cons_succ, i64_w, i32_w]
                  rfl
                refine pure_ (i := 12) (N := some 59) (v := undef) (a' := ?_) #[true, true, true, true, true, true, true, true, true, true, true, true, true, false, false, false, false, false, false, false, false, false, false, false, false, false, false] rfl rfl (any_of HT_.out (by kernel_rfl)) (fun _ _ _ h => h) (Or.inr ⟨by rfl, rfl⟩) ?_ ?_
                rotate_left
                · simp only [Act.put, List.setIfInBounds_toArray, List.set_cons_zero, List.set_cons_succ, i64_w, i32_w]
                  rfl
                refine zpure_ (i := 13) (N := some 60) #[true, true, true, true, true, true, true, true, true, true, true, true, true, true, false, false, false, false, false, false, false, false, false, false, false, false, false] (any_of HT_.out (by kernel_rfl)) ?_
                refine zpure_ (i := 14) (N := some 61) #[true, true, true, true, true, true, true, true, true, true, true, true, true, true, true, false, false, false, false, false, false, false, false, false, false, false, false] (any_of HT_.out (by kernel_rfl)) ?_
                refine pure_ (i := 15) (N := some 62) (v := undef) (a' := ?_) #[true, true, true, true, true, true, true, true, true, true, true, true, true, true, true, true, false, false, false, false, false, false, false, false, false, false, false] rfl rfl (any_of HT_.out (by kernel_rfl)) (fun _ _ _ h => h) (Or.inr ⟨by rfl, rfl⟩) ?_ ?_
                rotate_left
                · simp only [Act.put, List.setIfInBounds_toArray, List.set_cons_zero, List.set_cons_succ, i64_w, i32_w]
                  rfl
                refine pure_ (i := 16) (N := some 63) (v := undef) (a' := ?_) #[true, true, true, true, true, true, true, true, true, true, true, true, true, true, true, true, true, false, false, false, false, false, false, false, false, false, false] rfl rfl (any_of HT_.out (by kernel_rfl)) (fun _ _ _ h => h) (Or.inr ⟨by rfl, rfl⟩) ?_ ?_
                rotate_left
                · simp only [Act.put, List.setIfInBounds_toArray, List.set_cons_zero, List.set_cons_succ, i64_w, i32_w]
                  rfl
                refine pure_ (i := 17) (N := some 64) (v := undef) (a' := ?_) #[true, true, true, true, true, true, true, true, true, true, true, true, true, true, true, true, true, true, false, false, false, false, false, false, false, false, false] rfl rfl (any_of HT_.out (by kernel_rfl)) (fun _ _ _ h => h) (Or.inr ⟨by rfl, rfl⟩) ?_ ?_
                rotate_left
                · simp only [Act.put, List.setIfInBounds_toArray, List.set_cons_zero, List.set_cons_succ, i64_w, i32_w]
                  rfl
                refine pure_ (i := 18) (N := some 65) (v := undef) (a' := ?_) #[true, true, true, true, true, true, true, true, true, true, true, true, true, true, true, true, true, true, true, false, false, false, false, false, false, false, false] rfl rfl (any_of HT_.out (by kernel_rfl)) (fun _ _ _ h => h) (Or.inr ⟨by rfl, rfl⟩) ?_ ?_
                rotate_left
                · simp only [Act.put, List.setIfInBounds_toArray, List.set_cons_zero, List.set_cons_succ, i64_w, i32_w]
                  rfl
                refine pure_ (i := 19) (N := some 66) (v := undef) (a' := ?_) #[true, true, true, true, true, true, true, true, true, true, true, true, true, true, true, true, true, true, true, true, false, false, false, false, false, false, false] rfl rfl (any_of HT_.out (by kernel_rfl)) (fun _ _ _ h => h) (Or.inr ⟨by rfl, rfl⟩) ?_ ?_
                rotate_left
                · simp only [Act.put, List.setIfInBounds_toArray, List.set_cons_zero, List.set_cons_succ, i64_w, i32_w]
                  rfl
                refine pure_ (i := 20) (N := some 67) (v := undef) (a' := ?_) #[true, true, true, true, true, true, true, true, true, true, true, true, true, true, true, true, true, true, true, true, true, false, false, false, false, false, false] rfl rfl (any_of HT_.out (by kernel_rfl)) (fun _ _ _ h => h) (Or.inr ⟨by rfl, rfl⟩) ?_ ?_
                rotate_left
                · simp only [Act.put, List.setIfInBounds_toArray, List.set_cons_zero, List.set_cons_succ, i64_w, i32_w]
                  rfl
                refine pure_ (i := 21) (N := some 68) (v := undef) (a' := ?_) #[true, true, true, true, true, true, true, true, true, true, true, true, true, true, true, true, true, true, true, true, true, true, false, false, false, false, false] rfl rfl (any_of HT_.out (by kernel_rfl)) (fun _ _ _ h => h) (Or.inr ⟨by rfl, rfl⟩) ?_ ?_
                rotate_left
                · simp only [Act.put, List.setIfInBounds_toArray, List.set_cons_zero, List.set_cons_succ, i64_w, i32_w]
                  rfl
                refine zpure_ (i := 22) (N := some 69) #[true, true, true, true, true, true, true, true, true, true, true, true, true, true, true, true, true, true, true, true, true, true, true, false, false, false, false] (any_of HT_.out (by kernel_rfl)) ?_
                refine zpure_ (i := 23) (N := some 70) #[true, true, true, true, true, true, true, true, true, true, true, true, true, true, true, true, true, true, true, true, true, true, true, true, false, false, false] (any_of HT_.out (by kernel_rfl)) ?_
                refine pure_ (i := 24) (N := some 71) (v := undef) (a' := ?_) #[true, true, true, true, true, true, true, true, true, true, true, true, true, true, true, true, true, true, true, true, true, true, true, true, true, false, false] rfl rfl (any_of HT_.out (by kernel_rfl)) (fun _ _ _ h => h) (Or.inr ⟨by rfl, rfl⟩) ?_ ?_
                rotate_left
                · simp only [Act.put, List.setIfInBounds_toArray, List.set_cons_zero, List.set_cons_succ, i64_w, i32_w]
                  rfl
                refine zpure_ (i := 25) (N := some 72) #[true, true, true, true, true, true, true, true, true, true, true, true, true, true, true, true, true, true, true, true, true, true, true, true, true, true, false] (any_of HT_.out (by kernel_rfl)) ?_
                refine zpure_ (i := 26) (N := some 6) #[true, true, true, true, true, true, true, true, true, true, true, true, true, true, true, true, true, true, true, true, true, true, true, true, true, true, true] (any_of HT_.out (by kernel_rfl)) ?_
                refine done_ (done_of HT_.out (by kernel_rfl)) ?_
                try go_wp2
                go_ret
                exact ⟨by first | rfl | (simp [errW_none, errW_some] <;> rfl) | (simp [*, errW_none, errW_some] <;> rfl), zb HB⟩
            · replace c41 := Bool.eq_false_iff.mpr c41
              subst c41
              have H1 : ((round_NaN.f a0_0 a0_1).bind fun t447 => (if t447 = 0 then ((round_Inf.f a0_0 a0_1 a2).bind fun t448 => (if t448 = 0 then ((round_Zero.f a0_0 a0_1 a2).bind fun t449 => (if t449 = 0 then ((grottolaw02_live.f kj33).bind fun t450 => (some t450)) else (some false))) else (some false))) else (some false))) = some r := by rw [if_neg (show ¬ (false = true) by decide)] at H; exact H
              clear H
              have H := H1
              clear H1
              replace H := Option.bind_eq_some_iff.mp H
              obtain ⟨t447, A750, H⟩ := H
              replace H : (if t447 = 0 then ((round_Inf.f a0_0 a0_1 a2).bind fun t448 => (if t448 = 0 then ((round_Zero.f a0_0 a0_1 a2).bind fun t449 => (if t449 = 0 then ((grottolaw02_live.f kj33).bind fun t450 => (some t450)) else (some false))) else (some false))) else (some false)) = some r := H
              have A75 := Aside0.mk A750
              clear A750
              by_cases c76 : t447 = 0
              · rw [if_pos c76] at H
                have c76b0 : (t447 == 0) = true := beq_iff_eq.mpr c76
                have c76b1 : (t447 != 0) = false := bne_eq_false_iff_eq.mpr c76
                clear c76
                replace H := Option.bind_eq_some_iff.mp H
                obtain ⟨t448, A770, H⟩ := H
                replace H : (if t448 = 0 then ((round_Zero.f a0_0 a0_1 a2).bind fun t449 => (if t449 = 0 then ((grottolaw02_live.f kj33).bind fun t450 => (some t450)) else (some false))) else (some false)) = some r := H
                have A77 := Aside0.mk A770
                clear A770
                by_cases c78 : t448 = 0
                · rw [if_pos c78] at H
                  have c78b0 : (t448 == 0) = true := beq_iff_eq.mpr c78
                  have c78b1 : (t448 != 0) = false := bne_eq_false_iff_eq.mpr c78
                  clear c78
                  replace H := Option.bind_eq_some_iff.mp H
                  obtain ⟨t449, A790, H⟩ := H
                  replace H : (if t449 = 0 then ((grottolaw02_live.f kj33).bind fun t450 => (some t450)) else (some false)) = some r := H
                  have A79 := Aside0.mk A790
                  clear A790
                  by_cases c80 : t449 = 0
                  · rw [if_pos c80] at H
                    have c80b0 : (t449 == 0) = true := beq_iff_eq.mpr c80
                    have c80b1 : (t449 != 0) = false := bne_eq_false_iff_eq.mpr c80
                    clear c80
                    replace H := Option.bind_eq_some_iff.mp H
                    obtain ⟨t450, A810, H⟩ := H
                    replace H : (some t450) = some r := H
                    have A81 := Aside0.mk A810
                    clear A810
                    obtain rfl := Option.some.inj H
                    have hnb82 := NB422_428.out
                    have hnc82 := NB428_422.out
                    have hnb83 := NB422_434.out
                    have hnc83 := NB434_422.out
                    obtain ⟨hcz84_0, hcz84_1, hfz84_0, hfz84_1⟩ := zc2 BK422
                    go_wp2_with (first | ((with_reducible refine gate_callee (f := 20) rfl ?_); refine zgo (some 74) Try.func20 #[.agg #[.int .i64 a0_0, .int .i64 a0_1]] ?_; (with_reducible refine (round_NaN.calls a0_0 a0_1 t447 _ A75.out).mono ?_); rintro e w85 ⟨rfl, hb⟩; refine ⟨_, rfl, ?_⟩; replace BK422 := zkb BK422 hb; replace BK428 := zkb BK428 hb; replace BK434 := zkb BK434 hb; replace HB := zbs HB hb; (try clear hb); (try clear hb2); (try clear hk); (try clear hi); obtain ⟨hcz86_0, hcz86_1, hfz86_0, hfz86_1⟩ := zc2 BK422) | (go_at_call 22; (with_reducible refine (round_Inf.calls a0_0 a0_1 a2 t448 _ A77.out).mono ?_); rintro e w87 ⟨rfl, hb⟩; replace BK422 := zkb BK422 hb; replace BK428 := zkb BK428 hb; replace BK434 := zkb BK434 hb; replace HB := zbs HB hb; (try clear hb); (try clear hb2); (try clear hk); (try clear hi); obtain ⟨hcz88_0, hcz88_1, hfz88_0, hfz88_1⟩ := zc2 BK422) | (go_at_call 24; (with_reducible refine (round_Zero.calls a0_0 a0_1 a2 t449 _ A79.out).mono ?_); rintro e w89 ⟨rfl, hb⟩; replace BK422 := zkb BK422 hb; replace BK428 := zkb BK428 hb; replace BK434 := zkb BK434 hb; replace HB := zbs HB hb; (try clear hb); (try clear hb2); (try clear hk); (try clear hi)) | (go_at_call 13; (with_reducible refine (grottolaw02_live.calls kj33  t450 _ A81.out).mono ?_); rintro e w90 ⟨rfl, hb⟩; replace BK422 := zkb BK422 hb; replace BK428 := zkb BK428 hb; replace BK434 := zkb BK434 hb; replace HB := zbs HB hb; (try clear hb); (try clear hb2); (try clear hk); (try clear hi)))
                    go_ret
                    exact ⟨by first | rfl | (simp [errW_none, errW_some] <;> rfl) | (simp [*, errW_none, errW_some] <;> rfl), zb HB⟩
                  · rw [if_neg c80] at H
                    have c80b0 : (t449 == 0) = false := beq_eq_false_iff_ne.mpr c80
                    have c80b1 : (t449 != 0) = true := bne_iff_ne.mpr c80
                    obtain rfl := Option.some.inj H
                    have hnb91 := NB422_428.out
                    have hnc91 := NB428_422.out
                    have hnb92 := NB422_434.out
                    have hnc92 := NB434_422.out
                    obtain ⟨hcz93_0, hcz93_1, hfz93_0, hfz93_1⟩ := zc2 BK422
                    go_wp2_with (first | ((with_reducible refine gate_callee (f := 20) rfl ?_); refine zgo (some 74) Try.func20 #[.agg #[.int .i64 a0_0, .int .i64 a0_1]] ?_; (with_reducible refine (round_NaN.calls a0_0 a0_1 t447 _ A75.out).mono ?_); rintro e w94 ⟨rfl, hb⟩; refine ⟨_, rfl, ?_⟩; replace BK422 := zkb BK422 hb; replace BK428 := zkb BK428 hb; replace BK434 := zkb BK434 hb; replace HB := zbs HB hb; (try clear hb); (try clear hb2); (try clear hk); (try clear hi); obtain ⟨hcz95_0, hcz95_1, hfz95_0, hfz95_1⟩ := zc2 BK422) | (go_at_call 22; (with_reducible refine (round_Inf.calls a0_0 a0_1 a2 t448 _ A77.out).mono ?_); rintro e w96 ⟨rfl, hb⟩; replace BK422 := zkb BK422 hb; replace BK428 := zkb BK428 hb; replace BK434 := zkb BK434 hb; replace HB := zbs HB hb; (try clear hb); (try clear hb2); (try clear hk); (try clear hi); obtain ⟨hcz97_0, hcz97_1, hfz97_0, hfz97_1⟩ := zc2 BK422) | (go_at_call 24; (with_reducible refine (round_Zero.calls a0_0 a0_1 a2 t449 _ A79.out).mono ?_); rintro e w98 ⟨rfl, hb⟩; replace BK422 := zkb BK422 hb; replace BK428 := zkb BK428 hb; replace BK434 := zkb BK434 hb; replace HB := zbs HB hb; (try clear hb); (try clear hb2); (try clear hk); (try clear hi)))
                    go_ret
                    exact ⟨by first | rfl | (simp [errW_none, errW_some] <;> rfl) | (simp [*, errW_none, errW_some] <;> rfl), zb HB⟩
                · rw [if_neg c78] at H
                  have c78b0 : (t448 == 0) = false := beq_eq_false_iff_ne.mpr c78
                  have c78b1 : (t448 != 0) = true := bne_iff_ne.mpr c78
                  obtain rfl := Option.some.inj H
                  have hnb99 := NB422_428.out
                  have hnc99 := NB428_422.out
                  have hnb100 := NB422_434.out
                  have hnc100 := NB434_422.out
                  obtain ⟨hcz101_0, hcz101_1, hfz101_0, hfz101_1⟩ := zc2 BK422
                  go_wp2_with (first | ((with_reducible refine gate_callee (f := 20) rfl ?_); refine zgo (some 74) Try.func20 #[.agg #[.int .i64 a0_0, .int .i64 a0_1]] ?_; (with_reducible refine (round_NaN.calls a0_0 a0_1 t447 _ A75.out).mono ?_); rintro e w102 ⟨rfl, hb⟩; refine ⟨_, rfl, ?_⟩; replace BK422 := zkb BK422 hb; replace BK428 := zkb BK428 hb; replace BK434 := zkb BK434 hb; replace HB := zbs HB hb; (try clear hb); (try clear hb2); (try clear hk); (try clear hi); obtain ⟨hcz103_0, hcz103_1, hfz103_0, hfz103_1⟩ := zc2 BK422) | (go_at_call 22; (with_reducible refine (round_Inf.calls a0_0 a0_1 a2 t448 _ A77.out).mono ?_); rintro e w104 ⟨rfl, hb⟩; replace BK422 := zkb BK422 hb; replace BK428 := zkb BK428 hb; replace BK434 := zkb BK434 hb; replace HB := zbs HB hb; (try clear hb); (try clear hb2); (try clear hk); (try clear hi)))
                  go_ret
                  exact ⟨by first | rfl | (simp [errW_none, errW_some] <;> rfl) | (simp [*, errW_none, errW_some] <;> rfl), zb HB⟩
              · rw [if_neg c76] at H
                have c76b0 : (t447 == 0) = false := beq_eq_false_iff_ne.mpr c76
                have c76b1 : (t447 != 0) = true := bne_iff_ne.mpr c76
                obtain rfl := Option.some.inj H
                have hnb105 := NB422_428.out
                have hnc105 := NB428_422.out
                have hnb106 := NB422_434.out
                have hnc106 := NB434_422.out
                obtain ⟨hcz107_0, hcz107_1, hfz107_0, hfz107_1⟩ := zc2 BK422
                go_wp2_with (first | ((with_reducible refine gate_callee (f := 20) rfl ?_); refine zgo (some 74) Try.func20 #[.agg #[.int .i64 a0_0, .int .i64 a0_1]] ?_; (with_reducible refine (round_NaN.calls a0_0 a0_1 t447 _ A75.out).mono ?_); rintro e w108 ⟨rfl, hb⟩; refine ⟨_, rfl, ?_⟩; replace BK422 := zkb BK422 hb; replace BK428 := zkb BK428 hb; replace BK434 := zkb BK434 hb; replace HB := zbs HB hb; (try clear hb); (try clear hb2); (try clear hk); (try clear hi)))
                go_ret
                exact ⟨by first | rfl | (simp [errW_none, errW_some] <;> rfl) | (simp [*, errW_none, errW_some] <;> rfl), zb HB⟩

end Go.Proofs.Ytcfmmkapefpjjaa.PQ
