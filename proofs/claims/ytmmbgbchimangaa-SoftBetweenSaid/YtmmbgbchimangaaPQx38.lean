-- by a program of this claim
import Derived.Test.YtmmbgbchimangaaPQx0
import Derived.Test.YtmmbgbchimangaaPQx3
import Derived.Test.YtmmbgbchimangaaPQx4
import Derived.Test.YtmmbgbchimangaaPQx7
import Derived.Test.YtmmbgbchimangaaPQx8
import Derived.Test.YtmmbgbchimangaaPQx34
import Derived.Test.YtmmbgbchimangaaPQx37
namespace Go.Proofs.Ytmmbgbchimangaa.PQ
open Go.RowKit Go.Proofs.YtmmbgbchimangaaW.PrintWords Go.Proofs.YtmmbgbchimangaaW.PrintLast Go.Proofs.YtmmbgbchimangaaW.PrintMore Go.Proofs.Ytmmbgbchimangaa.Z
attribute [local go_sem] max2_int min2_int max_two min_two max_three min_three max_four min_four   -- for this text's walks alone
set_option linter.unusedVariables false
set_option linter.unusedSimpArgs false

/-! ### grottolaw03_SoftBetween: function 12 -/
mutual
def grottolaw03_SoftBetween.j0 : Nat → Int → Bool → Int → Int → Option (Bool)
 | 0, _, _, _, _ => none
 | k + 1, x1, x37, x1093000, x1093001 => if x37 = true then ((grottolaw03_live.f k).bind fun t1095 => (some t1095)) else ((grottoref02_Open.f k x1093000 x1093001 x1).bind fun bt1096 => ((soft_Floor.f k x1093000 x1093001 x1).bind fun bt1102 => ((soft_Ceil.f k x1093000 x1093001 x1).bind fun bt1104 => (if bt1096.2.2.2.2 = 0 then (if bt1096.1 = 4 then ((grottoref02_NaN.f k x1093000 x1093001).bind fun t1109 => (if bt1102.1 = t1109 then (if bt1104.1 = bt1102.1 then ((grottolaw03_num.f bt1102.2).bind fun t1110 => ((grottolaw03_num.f bt1104.2).bind fun t1111 => (if (wrap64 (t1110 + t1111)) = 0 then ((grottolaw03_live.f k).bind fun t1112 => (some t1112)) else (some false)))) else (some false)) else (some false))) else ((soft_Cmp.f k x1093000 x1093001 bt1102.1 x1).bind fun bt1113 => ((soft_Cmp.f k x1093000 x1093001 x1 bt1104.1).bind fun bt1116 => ((soft_Floor.f k x1093000 x1093001 bt1102.1).bind fun bt1119 => ((soft_Ceil.f k x1093000 x1093001 bt1104.1).bind fun bt1121 => ((grottoref02_Pack.f k x1093000 x1093001 false 0 1 0 false).bind fun bt1123 => ((soft_Add.f k x1093000 x1093001 bt1102.1 bt1123.1).bind fun bt1125 => ((grottolaw03_num.f bt1102.2).bind fun t1127 => ((grottolaw03_num.f bt1104.2).bind fun t1128 => ((grottolaw03_num.f bt1113.2.2).bind fun t1129 => ((grottolaw03_num.f bt1116.2.2).bind fun t1130 => ((grottolaw03_num.f bt1119.2).bind fun t1131 => ((grottolaw03_num.f bt1121.2).bind fun t1132 => ((grottolaw03_num.f bt1125.2).bind fun t1133 => (if (wrap64 ((wrap64 ((wrap64 ((wrap64 ((wrap64 ((wrap64 (t1127 + t1128)) + t1129)) + t1130)) + t1131)) + t1132)) + t1133)) = 0 then (if bt1113.1 > 0 then (grottolaw03_SoftBetween.j1 k x1 bt1102.1 bt1104.1 bt1125.1 true x1093000 x1093001) else (if bt1116.1 > 0 then (grottolaw03_SoftBetween.j1 k x1 bt1102.1 bt1104.1 bt1125.1 true x1093000 x1093001) else (if bt1119.1 = bt1102.1 then (grottolaw03_SoftBetween.j1 k x1 bt1102.1 bt1104.1 bt1125.1 (bt1121.1 != bt1104.1) x1093000 x1093001) else (grottolaw03_SoftBetween.j1 k x1 bt1102.1 bt1104.1 bt1125.1 true x1093000 x1093001)))) else (grottolaw03_SoftBetween.j1 k x1 bt1102.1 bt1104.1 bt1125.1 true x1093000 x1093001)))))))))))))))) else ((grottolaw03_num.f bt1102.2).bind fun t1106 => (if t1106 = 1 then ((grottolaw03_num.f bt1104.2).bind fun t1107 => (if t1107 = 1 then (if bt1102.1 = 0 then (if bt1104.1 = 0 then ((grottolaw03_live.f k).bind fun t1108 => (some t1108)) else (some false)) else (some false)) else (some false))) else (some false)))))))
def grottolaw03_SoftBetween.j1 : Nat → Int → Int → Int → Int → Bool → Int → Int → Option (Bool)
 | 0, _, _, _, _, _, _, _ => none
 | k + 1, x1, x7, x9, x23, x179, x1093000, x1093001 => if x179 = true then (some false) else ((soft_Cmp.f k x1093000 x1093001 x23 x9).bind fun bt1134 => (if x7 = x9 then (if x7 = x1 then ((grottolaw03_live.f k).bind fun t1137 => (some t1137)) else (if bt1134.1 = 0 then ((grottolaw03_live.f k).bind fun t1138 => (some t1138)) else (some false))) else (if bt1134.1 = 0 then ((grottolaw03_live.f k).bind fun t1139 => (some t1139)) else (some false))))
end
def grottolaw03_SoftBetween.f (k : Nat) (a0_0 : Int) (a0_1 : Int) (a1 : Int) : Option (Bool) := (grottoref02_Check.f a0_0 a0_1).bind fun t1093 => (if t1093 = 0 then ((grottoref02_Bias.f k a0_0 a0_1).bind fun t1094 => (grottolaw03_SoftBetween.j0 k a1 (decide (t1094 ≤ a0_0)) a0_0 a0_1)) else (grottolaw03_SoftBetween.j0 k a1 false a0_0 a0_1))
theorem grottolaw03_SoftBetween.mono_l : ∀ k, (∀ y0 y1 y2 y3, LeO (grottolaw03_SoftBetween.j0 k y0 y1 y2 y3) (grottolaw03_SoftBetween.j0 (k + 1) y0 y1 y2 y3)) ∧ (∀ y0 y1 y2 y3 y4 y5 y6, LeO (grottolaw03_SoftBetween.j1 k y0 y1 y2 y3 y4 y5 y6) (grottolaw03_SoftBetween.j1 (k + 1) y0 y1 y2 y3 y4 y5 y6))
 | 0 => ⟨fun _ _ _ _ r h => by simp [grottolaw03_SoftBetween.j0] at h, fun _ _ _ _ _ _ _ r h => by simp [grottolaw03_SoftBetween.j1] at h⟩
 | k + 1 => by
  obtain ⟨ih0, ih1⟩ := grottolaw03_SoftBetween.mono_l k
  refine ⟨?_, ?_⟩
  ·intro y0 y1 y2 y3
   unfold grottolaw03_SoftBetween.j0
   repeat' first
   | (with_reducible exact ih0 _ _ _ _)
   | (with_reducible exact ih1 _ _ _ _ _ _ _)
   | (with_reducible exact grottolaw03_live.mono _)
   | (with_reducible exact grottoref02_Bias.mono _ _ _)
   | (with_reducible exact grottoref02_NaN.mono _ _ _)
   | (with_reducible exact grottoref02_Open.mono _ _ _ _)
   | (with_reducible exact grottoref02_Pack.mono _ _ _ _ _ _ _ _)
   | (with_reducible exact soft_Add.mono _ _ _ _ _)
   | (with_reducible exact soft_Ceil.mono _ _ _ _)
   | (with_reducible exact soft_Cmp.mono _ _ _ _ _)
   | (with_reducible exact soft_Floor.mono _ _ _ _)
   | (with_reducible exact LeO.refl _)
   | (with_reducible exact LeO.none _)
   | (with_reducible refine LeO.ite ?_ ?_)
   | (with_reducible refine LeO.bind ?_ (fun _ => ?_))
   | exact ih0 _ _ _ _
   | exact ih1 _ _ _ _ _ _ _
   | exact grottolaw03_live.mono _
   | exact grottoref02_Bias.mono _ _ _
   | exact grottoref02_NaN.mono _ _ _
   | exact grottoref02_Open.mono _ _ _ _
   | exact grottoref02_Pack.mono _ _ _ _ _ _ _ _
   | exact soft_Add.mono _ _ _ _ _
   | exact soft_Ceil.mono _ _ _ _
   | exact soft_Cmp.mono _ _ _ _ _
   | exact soft_Floor.mono _ _ _ _
   | exact LeO.none _
   | refine LeO.ite ?_ ?_
   | refine LeO.bind ?_ (fun _ => ?_)
  ·intro y0 y1 y2 y3 y4 y5 y6
   unfold grottolaw03_SoftBetween.j1
   repeat' first
   | (with_reducible exact ih0 _ _ _ _)
   | (with_reducible exact ih1 _ _ _ _ _ _ _)
   | (with_reducible exact grottolaw03_live.mono _)
   | (with_reducible exact grottoref02_Bias.mono _ _ _)
   | (with_reducible exact grottoref02_NaN.mono _ _ _)
   | (with_reducible exact grottoref02_Open.mono _ _ _ _)
   | (with_reducible exact grottoref02_Pack.mono _ _ _ _ _ _ _ _)
   | (with_reducible exact soft_Add.mono _ _ _ _ _)
   | (with_reducible exact soft_Ceil.mono _ _ _ _)
   | (with_reducible exact soft_Cmp.mono _ _ _ _ _)
   | (with_reducible exact soft_Floor.mono _ _ _ _)
   | (with_reducible exact LeO.refl _)
   | (with_reducible exact LeO.none _)
   | (with_reducible refine LeO.ite ?_ ?_)
   | (with_reducible refine LeO.bind ?_ (fun _ => ?_))
   | exact ih0 _ _ _ _
   | exact ih1 _ _ _ _ _ _ _
   | exact grottolaw03_live.mono _
   | exact grottoref02_Bias.mono _ _ _
   | exact grottoref02_NaN.mono _ _ _
   | exact grottoref02_Open.mono _ _ _ _
   | exact grottoref02_Pack.mono _ _ _ _ _ _ _ _
   | exact soft_Add.mono _ _ _ _ _
   | exact soft_Ceil.mono _ _ _ _
   | exact soft_Cmp.mono _ _ _ _ _
   | exact soft_Floor.mono _ _ _ _
   | exact LeO.none _
   | refine LeO.ite ?_ ?_
   | refine LeO.bind ?_ (fun _ => ?_)
theorem grottolaw03_SoftBetween.mono : ∀ a0 a1 a2 k, LeO (grottolaw03_SoftBetween.f k a0 a1 a2) (grottolaw03_SoftBetween.f (k + 1) a0 a1 a2) := by
 intro a0 a1 a2 k
 obtain ⟨ih0, ih1⟩ := grottolaw03_SoftBetween.mono_l k
 unfold grottolaw03_SoftBetween.f
 repeat' first
   | (with_reducible exact ih0 _ _ _ _)
   | (with_reducible exact ih1 _ _ _ _ _ _ _)
   | (with_reducible exact grottolaw03_live.mono _)
   | (with_reducible exact grottoref02_Bias.mono _ _ _)
   | (with_reducible exact grottoref02_NaN.mono _ _ _)
   | (with_reducible exact grottoref02_Open.mono _ _ _ _)
   | (with_reducible exact grottoref02_Pack.mono _ _ _ _ _ _ _ _)
   | (with_reducible exact soft_Add.mono _ _ _ _ _)
   | (with_reducible exact soft_Ceil.mono _ _ _ _)
   | (with_reducible exact soft_Cmp.mono _ _ _ _ _)
   | (with_reducible exact soft_Floor.mono _ _ _ _)
   | (with_reducible exact LeO.refl _)
   | (with_reducible exact LeO.none _)
   | (with_reducible refine LeO.ite ?_ ?_)
   | (with_reducible refine LeO.bind ?_ (fun _ => ?_))
   | exact ih0 _ _ _ _
   | exact ih1 _ _ _ _ _ _ _
   | exact grottolaw03_live.mono _
   | exact grottoref02_Bias.mono _ _ _
   | exact grottoref02_NaN.mono _ _ _
   | exact grottoref02_Open.mono _ _ _ _
   | exact grottoref02_Pack.mono _ _ _ _ _ _ _ _
   | exact soft_Add.mono _ _ _ _ _
   | exact soft_Ceil.mono _ _ _ _
   | exact soft_Cmp.mono _ _ _ _ _
   | exact soft_Floor.mono _ _ _ _
   | exact LeO.none _
   | refine LeO.ite ?_ ?_
   | refine LeO.bind ?_ (fun _ => ?_)
def grottolaw03_SoftBetween.T1 : Bool × List (List Nat × List Nat) := (true, [([], []), ([0], [0]), ([1], [1]), ([2, 1], [2]), ([3], [3]), ([4, 3, 3], [3, 4]), ([3], [3]), ([6, 3], [3, 6]), ([5, 7, 3], [3, 5, 7]), ([3, 8], [3, 8])])
def grottolaw03_SoftBetween.B1 : List Nat := [0, 1, 3, 7, 15, 31, 15, 79, 255, 511]
theorem grottolaw03_SoftBetween.tab1 : rtab .any (opsOf Try.f12 1) = grottolaw03_SoftBetween.T1 := by kernel_rfl
theorem grottolaw03_SoftBetween.bits1 : waitsOk grottolaw03_SoftBetween.T1.2 grottolaw03_SoftBetween.B1 = true := by kernel_rfl
set_option maxHeartbeats 8000000 in
set_option maxRecDepth 100000 in
theorem grottolaw03_SoftBetween.calls {k : Nat} {g : Int} {m : Int} {a1 : Int} {r : Bool} {w : World} (h : grottolaw03_SoftBetween.f k g m a1 = some r) :
  Calls Try.prog 12 #[.agg #[.int .i64 g, .int .i64 m], .int .u64 a1] w fun e w' => e = .returned (.bool r) ∧ Below w.heap.size w w' := by
 have hu23 := Try.underlying23
 have hu34 := Try.underlying34
 have HB := Aside0.mk (Below.refl w.heap.size w)
 have H : ((grottoref02_Check.f g m).bind fun aq => (if aq = 0 then ((grottoref02_Bias.f k g m).bind fun ar => (grottolaw03_SoftBetween.j0 k a1 (decide (ar ≤ g)) g m)) else (grottolaw03_SoftBetween.j0 k a1 false g m))) = some r := h
 clear h
 have b3 := Aside0.mk H
 clear H
 go_enter Try.func12, Try.ntmps12
 go_upto_region 1 with (first | ((with_reducible refine gate_dst (N := 2) rfl ?_); refine zbox (N := 2) (cs := #[.int .i64 g, .int .i64 m]) (t := 23) ?_; intro B hg w4 hbox hb; have a := Aside0.mk hbox; have gJ := zge hg HB; have gK := zge hg HB; replace HB := zbs HB hb; clear hb hbox hg))
 (try simp only [Act.put, List.setIfInBounds_toArray, List.set_cons_zero, List.set_cons_succ])
 go_cut [37] (fun v37 wc => ∃ (kq : Nat) (W : Bool), v37 = .bool W ∧ Aside0 (grottolaw03_SoftBetween.j0 kq a1 W g m = some r) ∧ Aside0 (kq ≤ k) ∧ Aside0 (wc.heap[B]? = some (.cells #[.int .i64 g, .int .i64 m] 23 (0, 0))) ∧ Aside0 (Below w.heap.size w wc))
 case first =>
  have H := b3.out
  clear b3
  obtain ⟨aq, A5, H⟩ := oB H
  by_cases c6 : aq = 0
  ·rw [if_pos c6] at H
   obtain ⟨T, b1⟩ := zt c6
   clear c6
   (first | rw [T] | (simp only [i64_w, i32_w]; rw [T]) | skip)
   obtain ⟨ar, A7, H⟩ := oB H
   have H' := Aside0.mk H
   clear H
   try go_wp2
   replace a := Aside0.mk (blk_drew a.out)
   replace HB := Aside0.mk (below_drew1 HB.out)
   refine start_ (n := 10) (S := fun w' => w'.cell? ⟨B, 0, none⟩ = some (.int .i64 g) ∧ w'.cell? ⟨B, 1, none⟩ = some (.int .i64 m)) (ds := []) #[false, false, false, false, false, false, false, false, false, false] (by kernel_rfl) rfl rfl ⟨(blk_cell a.out 0).trans rfl, (blk_cell a.out 1).trans rfl⟩ (fun hHeld => ?_); refine with_tabW grottolaw03_SoftBetween.tab1 grottolaw03_SoftBetween.bits1 (fun HT_ HW_ => ?_)
   generalize w4.drew = w8 at a HB hHeld ⊢
   refine ztake_ (i := 0) (N := some 28) #[true, false, false, false, false, false, false, false, false, false] rfl (take_ofW HT_.out HW_.out (by kernel_rfl)) hHeld (Or.inl ⟨by rfl, by rintro w' ⟨s0, s1⟩; go_simp; with_reducible rfl⟩) ?_
   refine one_ (i := 1) (N := some 29) #[true, true, false, false, false, false, false, false, false, false] rfl rfl (one_of HT_.out (by kernel_rfl)) (by decide) (fun K hK => ?_)
   refine goes_ Try.func38 (by kernel_rfl) rfl #[.agg #[.int .i64 g, .int .i64 m]] (by rfl) rfl rfl (by (try simp only [List.map_toArray, List.map_cons, List.map_nil]); first | done | rfl | (simp only [List.length_drop, List.length_take]; rfl)) ?_
   with_reducible refine (grottoref02_Check.calls A5.out).mono ?_
   rintro e w9 ⟨rfl, hb⟩
   refine ⟨_, rfl, ?_⟩
   obtain ⟨a, HB⟩ := zu1 a HB hb
   try clear hb
   refine hK.out _ _ ⟨(blk_cell a.out 0).trans rfl, (blk_cell a.out 1).trans rfl⟩ (fun hHeld => ?_)
   clear hK K
   refine norm_ (a' := ?_) ?_ ?_
   rotate_left
   ·show Act.put _ (some 29) _ = _
    simp only [Act.put, List.setIfInBounds_toArray, List.set_cons_zero, List.set_cons_succ, i64_w, i32_w]
    rfl
   refine zpure_ (i := 2) (N := some 30) #[true, true, true, false, false, false, false, false, false, false] (any_of HT_.out (by kernel_rfl)) ?_
   refine zpure_ (i := 3) (N := some 31) #[true, true, true, true, false, false, false, false, false, false] (any_of HT_.out (by kernel_rfl)) ?_
   refine zpure_ (i := 6) (N := some 34) #[true, true, true, true, false, false, true, false, false, false] (any_of HT_.out (by kernel_rfl)) ?_
   refine ztake_ (i := 4) (N := some 32) #[true, true, true, true, true, false, true, false, false, false] rfl (take_ofW HT_.out HW_.out (by kernel_rfl)) hHeld (Or.inl ⟨by rfl, by rintro w' ⟨s0, s1⟩; go_simp; with_reducible rfl⟩) ?_
   refine ztake_ (i := 7) (N := some 35) #[true, true, true, true, true, false, true, true, false, false] rfl (take_ofW HT_.out HW_.out (by kernel_rfl)) hHeld (Or.inl ⟨by rfl, by rintro w' ⟨s0, s1⟩; go_simp; with_reducible rfl⟩) ?_
   refine one_ (i := 5) (N := some 33) #[true, true, true, true, true, true, true, true, false, false] rfl rfl (one_of HT_.out (by kernel_rfl)) (by decide) (fun K hK => ?_)
   refine goes_ Try.func36 (by kernel_rfl) rfl #[.agg #[.int .i64 g, .int .i64 m]] (by rfl) rfl rfl (by (try simp only [List.map_toArray, List.map_cons, List.map_nil]); first | done | rfl | (simp only [List.length_drop, List.length_take]; rfl)) ?_
   with_reducible refine (grottoref02_Bias.calls A7.out).mono ?_
   rintro e h6 ⟨rfl, hb⟩
   refine ⟨_, rfl, ?_⟩
   obtain ⟨a, HB⟩ := zu1 a HB hb
   try clear hb
   refine hK.out _ _ ⟨(blk_cell a.out 0).trans rfl, (blk_cell a.out 1).trans rfl⟩ (fun hHeld => ?_)
   clear hK K
   refine norm_ (a' := ?_) ?_ ?_
   rotate_left
   ·show Act.put _ (some 33) _ = _
    simp only [Act.put, List.setIfInBounds_toArray, List.set_cons_zero, List.set_cons_succ, i64_w, i32_w]
    rfl
   refine zpure_ (i := 8) (N := some 36) #[true, true, true, true, true, true, true, true, true, false] (any_of HT_.out (by kernel_rfl)) ?_
   refine zpure_ (i := 9) (N := some 37) #[true, true, true, true, true, true, true, true, true, true] (any_of HT_.out (by kernel_rfl)) ?_
   refine done_ (done_of HT_.out (by kernel_rfl)) ?_
   try go_wp2
   go_meet
   case rel => exact ⟨_, (decide (ar ≤ g)), (by first | rfl | (simp [*]; done)), H', ⟨by omega⟩, ⟨zk a⟩, ⟨zb HB⟩⟩
  ·rw [if_neg c6] at H
   obtain ⟨T, b1⟩ := zf c6
   (first | rw [T] | (simp only [i64_w, i32_w]; rw [T]) | skip)
   have H' := Aside0.mk H
   clear H
   try go_wp2
   replace a := Aside0.mk (blk_drew a.out)
   replace HB := Aside0.mk (below_drew1 HB.out)
   refine start_ (n := 10) (S := fun w' => w'.cell? ⟨B, 0, none⟩ = some (.int .i64 g) ∧ w'.cell? ⟨B, 1, none⟩ = some (.int .i64 m)) (ds := []) #[false, false, false, false, false, false, false, false, false, false] (by kernel_rfl) rfl rfl ⟨(blk_cell a.out 0).trans rfl, (blk_cell a.out 1).trans rfl⟩ (fun hHeld => ?_); refine with_tabW grottolaw03_SoftBetween.tab1 grottolaw03_SoftBetween.bits1 (fun HT_ HW_ => ?_)
   generalize w4.drew = h7 at a HB hHeld ⊢
   refine ztake_ (i := 0) (N := some 28) #[true, false, false, false, false, false, false, false, false, false] rfl (take_ofW HT_.out HW_.out (by kernel_rfl)) hHeld (Or.inl ⟨by rfl, by rintro w' ⟨s0, s1⟩; go_simp; with_reducible rfl⟩) ?_
   refine one_ (i := 1) (N := some 29) #[true, true, false, false, false, false, false, false, false, false] rfl rfl (one_of HT_.out (by kernel_rfl)) (by decide) (fun K hK => ?_)
   refine goes_ Try.func38 (by kernel_rfl) rfl #[.agg #[.int .i64 g, .int .i64 m]] (by rfl) rfl rfl (by (try simp only [List.map_toArray, List.map_cons, List.map_nil]); first | done | rfl | (simp only [List.length_drop, List.length_take]; rfl)) ?_
   with_reducible refine (grottoref02_Check.calls A5.out).mono ?_
   rintro e h8 ⟨rfl, hb⟩
   refine ⟨_, rfl, ?_⟩
   obtain ⟨a, HB⟩ := zu1 a HB hb
   try clear hb
   refine hK.out _ _ ⟨(blk_cell a.out 0).trans rfl, (blk_cell a.out 1).trans rfl⟩ (fun hHeld => ?_)
   clear hK K
   refine norm_ (a' := ?_) ?_ ?_
   rotate_left
   ·show Act.put _ (some 29) _ = _
    simp only [Act.put, List.setIfInBounds_toArray, List.set_cons_zero, List.set_cons_succ, i64_w, i32_w]
    rfl
   refine zpure_ (i := 2) (N := some 30) #[true, true, true, false, false, false, false, false, false, false] (any_of HT_.out (by kernel_rfl)) ?_
   refine zpure_ (i := 3) (N := some 31) #[true, true, true, true, false, false, false, false, false, false] (any_of HT_.out (by kernel_rfl)) ?_
   refine pure_ (i := 4) (N := some 32) (v := undef) (a' := ?_) #[true, true, true, true, true, false, false, false, false, false] rfl rfl (any_of HT_.out (by kernel_rfl)) (fun _ _ _ h => h) (Or.inr ⟨by rfl, rfl⟩) ?_ ?_
   rotate_left
   ·simp only [Act.put, List.setIfInBounds_toArray, List.set_cons_zero, List.set_cons_succ, i64_w, i32_w]
    rfl
   refine pure_ (i := 5) (N := some 33) (v := undef) (a' := ?_) #[true, true, true, true, true, true, false, false, false, false] rfl rfl (any_of HT_.out (by kernel_rfl)) (fun _ _ _ h => h) (Or.inr ⟨by rfl, rfl⟩) ?_ ?_
   rotate_left
   ·simp only [Act.put, List.setIfInBounds_toArray, List.set_cons_zero, List.set_cons_succ, i64_w, i32_w]
    rfl
   refine pure_ (i := 6) (N := some 34) (v := undef) (a' := ?_) #[true, true, true, true, true, true, true, false, false, false] rfl rfl (any_of HT_.out (by kernel_rfl)) (fun _ _ _ h => h) (Or.inr ⟨by rfl, rfl⟩) ?_ ?_
   rotate_left
   ·simp only [Act.put, List.setIfInBounds_toArray, List.set_cons_zero, List.set_cons_succ, i64_w, i32_w]
    rfl
   refine pure_ (i := 7) (N := some 35) (v := undef) (a' := ?_) #[true, true, true, true, true, true, true, true, false, false] rfl rfl (any_of HT_.out (by kernel_rfl)) (fun _ _ _ h => h) (Or.inr ⟨by rfl, rfl⟩) ?_ ?_
   rotate_left
   ·simp only [Act.put, List.setIfInBounds_toArray, List.set_cons_zero, List.set_cons_succ, i64_w, i32_w]
    rfl
   refine pure_ (i := 8) (N := some 36) (v := undef) (a' := ?_) #[true, true, true, true, true, true, true, true, true, false] rfl rfl (any_of HT_.out (by kernel_rfl)) (fun _ _ _ h => h) (Or.inr ⟨by rfl, rfl⟩) ?_ ?_
   rotate_left
   ·simp only [Act.put, List.setIfInBounds_toArray, List.set_cons_zero, List.set_cons_succ, i64_w, i32_w]
    rfl
   refine zpure_ (i := 9) (N := some 37) #[true, true, true, true, true, true, true, true, true, true] (any_of HT_.out (by kernel_rfl)) ?_
   refine done_ (done_of HT_.out (by kernel_rfl)) ?_
   try go_wp2
   go_meet
   case rel => exact ⟨_, (false), (by first | rfl | (simp [*]; done)), H', ⟨by omega⟩, ⟨zk a⟩, ⟨zb HB⟩⟩
 case rest =>
  clear b3
  obtain ⟨kq, W, rfl, HA, aL, a, HB⟩ := hcut
  cases kq with
  | zero => exact absurd HA.out (by simp [grottolaw03_SoftBetween.j0])
  | succ bE =>
   have H := HA.out
   clear HA
   simp only [grottolaw03_SoftBetween.j0] at H
   by_cases aM : W = true
   ·subst aM
    rw [if_pos rfl] at H
    obtain ⟨b4, g5, H⟩ := oB H
    obtain rfl := Option.some.inj H
    go_wp2_with (first | ((with_reducible refine gate_callee (f := 19) rfl ?_); refine zgc (some 38) Try.func19 (grottolaw03_live.calls bE  b4 _ g5.out) ?_; intro h9 hb; obtain ⟨a, HB⟩ := zu1 a HB hb; clear hb))
    go_ret
    exact zr HB
   ·replace aM := Bool.eq_false_iff.mpr aM
    subst aM
    rw [if_neg nft] at H
    obtain ⟨⟨l, s, u, y, b5⟩, P, H⟩ := oB H
    try dsimp only at H
    obtain ⟨⟨C, z⟩, Q, H⟩ := oB H
    try dsimp only at H
    obtain ⟨⟨F, G⟩, R, H⟩ := oB H
    try dsimp only at H
    by_cases aN : b5 = 0
    ·rw [if_pos aN] at H
     obtain ⟨aO, aP⟩ := zt aN
     clear aN
     by_cases ay : l = 4
     ·rw [if_pos ay] at H
      obtain ⟨aQ, aR⟩ := zt ay
      clear ay
      obtain ⟨b6, bF, H⟩ := oB H
      by_cases aS : C = b6
      ·rw [if_pos aS] at H
       obtain ⟨b7, b8⟩ := zt aS
       clear aS
       by_cases aT : F = C
       ·rw [if_pos aT] at H
        obtain ⟨b9, ca⟩ := zt aT
        clear aT
        obtain ⟨cb, ez, H⟩ := oB H
        obtain ⟨cc, eA, H⟩ := oB H
        by_cases aU : (wrap64 (cb + cc)) = 0
        ·rw [if_pos aU] at H
         obtain ⟨cd, ce⟩ := zt aU
         clear aU
         obtain ⟨cf, g6, H⟩ := oB H
         obtain rfl := Option.some.inj H
         obtain ⟨eB, eC, eD, eE⟩ := zc2 a
         go_wp2_with (first | ((with_reducible refine gate_callee (f := 20) rfl ?_); refine zgc (some 42) Try.func20 (grottoref02_Open.calls P.out) ?_; intro ia hb; obtain ⟨a, HB⟩ := zu1 a HB hb; clear hb) | ((with_reducible refine gate_dst (N := 5) rfl ?_); refine zbox (N := 5) (cs := #[.int .i64 0, .bool false, .int .i64 0, .int .u64 0]) (t := 34) ?_; intro j hg ib hbox hb; have b := Aside0.mk hbox; have p := zge hg HB; have q := zge hg HB; have d := znl hg a; have c := zng hg a; obtain ⟨a, HB⟩ := zu1 a HB hb; clear hb hbox hg; obtain ⟨g7, g8⟩ := z2 c; obtain ⟨eF, eG, eH, eI, eJ, eK, eL, eM⟩ := zc4 b; obtain ⟨eN, eO, eP, eQ⟩ := zc2 a) | ((with_reducible refine gate_callee (f := 39) rfl ?_); refine zgc (some 48) Try.func39 (soft_Floor.calls Q.out) ?_; intro ic hb; replace a := zkb a hb; replace b := zkbo (o := .cells #[.int .i64 l, .bool s, .int .i64 u, .int .u64 y] 34 (0, 0)) b hb; replace HB := zbs HB hb; clear hb; obtain ⟨eR, eS, eT, eU⟩ := zc2 a) | ((with_reducible refine gate_callee (f := 40) rfl ?_); refine zgc (some 54) Try.func40 (soft_Ceil.calls R.out) ?_; intro ie hb; obtain ⟨a, b, HB⟩ := zu2 a b HB hb; clear hb; obtain ⟨eV, eW, eX, eY, eZ, e0, e1, e2⟩ := zc4 b; obtain ⟨e3, e4, e5, e6⟩ := zc2 a) | ((with_reducible refine gate_callee (f := 21) rfl ?_); refine zgc (some 83) Try.func21 (grottoref02_NaN.calls bF.out) ?_; intro ig hb; obtain ⟨a, b, HB⟩ := zu2 a b HB hb; clear hb) | (go_at_call 18; (with_reducible refine (grottolaw03_num.calls ez.out).mono ?_); rintro e w' ⟨rfl, ⟨nd, rfl⟩⟩) | (go_at_call 18; (with_reducible refine (grottolaw03_num.calls eA.out).mono ?_); rintro e w' ⟨rfl, ⟨nd, rfl⟩⟩) | (go_at_call 19; (with_reducible refine (grottolaw03_live.calls bE  cf _ g6.out).mono ?_); rintro e ih ⟨rfl, hb⟩; obtain ⟨a, b, HB⟩ := zu2 a b HB hb; clear hb))
         go_ret
         exact zr HB
        ·rw [if_neg aU] at H
         obtain ⟨cd, ce⟩ := zf aU
         obtain rfl := Option.some.inj H
         obtain ⟨e7, e8, e9, fa⟩ := zc2 a
         go_wp2_with (first | ((with_reducible refine gate_callee (f := 20) rfl ?_); refine zgc (some 42) Try.func20 (grottoref02_Open.calls P.out) ?_; intro ii hb; obtain ⟨a, HB⟩ := zu1 a HB hb; clear hb) | ((with_reducible refine gate_dst (N := 5) rfl ?_); refine zbox (N := 5) (cs := #[.int .i64 0, .bool false, .int .i64 0, .int .u64 0]) (t := 34) ?_; intro j hg ij hbox hb; have b := Aside0.mk hbox; have p := zge hg HB; have q := zge hg HB; have d := znl hg a; have c := zng hg a; obtain ⟨a, HB⟩ := zu1 a HB hb; clear hb hbox hg; obtain ⟨g9, ha⟩ := z2 c; obtain ⟨fb, fc, fd, fe, ff, fg, fh, fi⟩ := zc4 b; obtain ⟨fj, fk, fl, fm⟩ := zc2 a) | ((with_reducible refine gate_callee (f := 39) rfl ?_); refine zgc (some 48) Try.func39 (soft_Floor.calls Q.out) ?_; intro ik hb; replace a := zkb a hb; replace b := zkbo (o := .cells #[.int .i64 l, .bool s, .int .i64 u, .int .u64 y] 34 (0, 0)) b hb; replace HB := zbs HB hb; clear hb; obtain ⟨fn, fo, fp, fq⟩ := zc2 a) | ((with_reducible refine gate_callee (f := 40) rfl ?_); refine zgc (some 54) Try.func40 (soft_Ceil.calls R.out) ?_; intro il hb; obtain ⟨a, b, HB⟩ := zu2 a b HB hb; clear hb; obtain ⟨fr, fs, ft, fu, fv, fw, fx, fy⟩ := zc4 b; obtain ⟨fz, fA, fB, fC⟩ := zc2 a) | ((with_reducible refine gate_callee (f := 21) rfl ?_); refine zgc (some 83) Try.func21 (grottoref02_NaN.calls bF.out) ?_; intro im hb; obtain ⟨a, b, HB⟩ := zu2 a b HB hb; clear hb) | (go_at_call 18; (with_reducible refine (grottolaw03_num.calls ez.out).mono ?_); rintro e w' ⟨rfl, ⟨nd, rfl⟩⟩) | (go_at_call 18; (with_reducible refine (grottolaw03_num.calls eA.out).mono ?_); rintro e w' ⟨rfl, ⟨nd, rfl⟩⟩))
         go_ret
         exact zr HB
       ·rw [if_neg aT] at H
        obtain ⟨b9, ca⟩ := zf aT
        obtain rfl := Option.some.inj H
        obtain ⟨fD, fE, fF, fG⟩ := zc2 a
        go_wp2_with (first | ((with_reducible refine gate_callee (f := 20) rfl ?_); refine zgc (some 42) Try.func20 (grottoref02_Open.calls P.out) ?_; intro io hb; obtain ⟨a, HB⟩ := zu1 a HB hb; clear hb) | ((with_reducible refine gate_dst (N := 5) rfl ?_); refine zbox (N := 5) (cs := #[.int .i64 0, .bool false, .int .i64 0, .int .u64 0]) (t := 34) ?_; intro j hg ip hbox hb; have b := Aside0.mk hbox; have p := zge hg HB; have q := zge hg HB; have d := znl hg a; have c := zng hg a; obtain ⟨a, HB⟩ := zu1 a HB hb; clear hb hbox hg; obtain ⟨hc, hd⟩ := z2 c; obtain ⟨fH, fI, fJ, fK, fL, fM, fN, fO⟩ := zc4 b; obtain ⟨fP, fQ, fR, fS⟩ := zc2 a) | ((with_reducible refine gate_callee (f := 39) rfl ?_); refine zgc (some 48) Try.func39 (soft_Floor.calls Q.out) ?_; intro iq hb; replace a := zkb a hb; replace b := zkbo (o := .cells #[.int .i64 l, .bool s, .int .i64 u, .int .u64 y] 34 (0, 0)) b hb; replace HB := zbs HB hb; clear hb; obtain ⟨fT, fU, fV, fW⟩ := zc2 a) | ((with_reducible refine gate_callee (f := 40) rfl ?_); refine zgc (some 54) Try.func40 (soft_Ceil.calls R.out) ?_; intro ir hb; obtain ⟨a, b, HB⟩ := zu2 a b HB hb; clear hb; obtain ⟨fX, fY, fZ, f0, f1, f2, f3, f4⟩ := zc4 b; obtain ⟨f5, f6, f7, f8⟩ := zc2 a) | ((with_reducible refine gate_callee (f := 21) rfl ?_); refine zgc (some 83) Try.func21 (grottoref02_NaN.calls bF.out) ?_; intro it hb; obtain ⟨a, b, HB⟩ := zu2 a b HB hb; clear hb))
        go_ret
        exact zr HB
      ·rw [if_neg aS] at H
       obtain ⟨b7, b8⟩ := zf aS
       obtain rfl := Option.some.inj H
       obtain ⟨f9, ga, gb, gc⟩ := zc2 a
       go_wp2_with (first | ((with_reducible refine gate_callee (f := 20) rfl ?_); refine zgc (some 42) Try.func20 (grottoref02_Open.calls P.out) ?_; intro iu hb; obtain ⟨a, HB⟩ := zu1 a HB hb; clear hb) | ((with_reducible refine gate_dst (N := 5) rfl ?_); refine zbox (N := 5) (cs := #[.int .i64 0, .bool false, .int .i64 0, .int .u64 0]) (t := 34) ?_; intro j hg iv hbox hb; have b := Aside0.mk hbox; have p := zge hg HB; have q := zge hg HB; have d := znl hg a; have c := zng hg a; obtain ⟨a, HB⟩ := zu1 a HB hb; clear hb hbox hg; obtain ⟨he, hf⟩ := z2 c; obtain ⟨gd, ge, gf, gg, gh, gi, gj, gk⟩ := zc4 b; obtain ⟨gl, gm, gn, go⟩ := zc2 a) | ((with_reducible refine gate_callee (f := 39) rfl ?_); refine zgc (some 48) Try.func39 (soft_Floor.calls Q.out) ?_; intro iw hb; replace a := zkb a hb; replace b := zkbo (o := .cells #[.int .i64 l, .bool s, .int .i64 u, .int .u64 y] 34 (0, 0)) b hb; replace HB := zbs HB hb; clear hb; obtain ⟨gp, gq, gr, gs⟩ := zc2 a) | ((with_reducible refine gate_callee (f := 40) rfl ?_); refine zgc (some 54) Try.func40 (soft_Ceil.calls R.out) ?_; intro ix hb; obtain ⟨a, b, HB⟩ := zu2 a b HB hb; clear hb; obtain ⟨gt, gu, gv, gw, gx, gy, gz, gA⟩ := zc4 b; obtain ⟨gB, gC, gD, gE⟩ := zc2 a) | ((with_reducible refine gate_callee (f := 21) rfl ?_); refine zgc (some 83) Try.func21 (grottoref02_NaN.calls bF.out) ?_; intro iy hb; obtain ⟨a, b, HB⟩ := zu2 a b HB hb; clear hb))
       go_ret
       exact zr HB
     ·rw [if_neg ay] at H
      obtain ⟨aQ, aR⟩ := zf ay
      obtain ⟨⟨au, hh, I⟩, hi, H⟩ := oB H
      try dsimp only at H
      obtain ⟨⟨av, hj, J⟩, hk, H⟩ := oB H
      try dsimp only at H
      obtain ⟨⟨cg, L⟩, hl, H⟩ := oB H
      try dsimp only at H
      obtain ⟨⟨ch, M⟩, hm, H⟩ := oB H
      try dsimp only at H
      obtain ⟨⟨hn, ho⟩, hp, H⟩ := oB H
      try dsimp only at H
      obtain ⟨⟨ci, O⟩, hq, H⟩ := oB H
      try dsimp only at H
      have aV := Aside0.mk H
      clear H
      obtain ⟨aW, aX, aY, aZ⟩ := zc2 a
      go_upto_region 16 with (first | ((with_reducible refine gate_callee (f := 20) rfl ?_); refine zgc (some 42) Try.func20 (grottoref02_Open.calls P.out) ?_; intro iz hb; obtain ⟨a, HB⟩ := zu1 a HB hb; clear hb) | ((with_reducible refine gate_dst (N := 5) rfl ?_); refine zbox (N := 5) (cs := #[.int .i64 0, .bool false, .int .i64 0, .int .u64 0]) (t := 34) ?_; intro j hg iA hbox hb; have b := Aside0.mk hbox; have p := zge hg HB; have q := zge hg HB; have d := znl hg a; have c := zng hg a; obtain ⟨a, HB⟩ := zu1 a HB hb; clear hb hbox hg; obtain ⟨hr, hs⟩ := z2 c; obtain ⟨a0, a2, a3, a4, a5, a6, a7, a8⟩ := zc4 b; obtain ⟨a9, ba, bb, bc⟩ := zc2 a) | ((with_reducible refine gate_callee (f := 39) rfl ?_); refine zgc (some 48) Try.func39 (soft_Floor.calls Q.out) ?_; intro iB hb; replace a := zkb a hb; replace b := zkbo (o := .cells #[.int .i64 l, .bool s, .int .i64 u, .int .u64 y] 34 (0, 0)) b hb; replace HB := zbs HB hb; clear hb; obtain ⟨bd, be, bf, bg⟩ := zc2 a) | ((with_reducible refine gate_callee (f := 40) rfl ?_); refine zgc (some 54) Try.func40 (soft_Ceil.calls R.out) ?_; intro iC hb; obtain ⟨a, b, HB⟩ := zu2 a b HB hb; clear hb; obtain ⟨bh, bi, bj, bk, bl, bm, bn, bo⟩ := zc4 b; obtain ⟨bp, bq, br, bs⟩ := zc2 a) | ((with_reducible refine gate_callee (f := 37) rfl ?_); refine zgc (some 105) Try.func37 (soft_Cmp.calls hi.out) ?_; intro iD hb; obtain ⟨a, b, HB⟩ := zu2 a b HB hb; clear hb; obtain ⟨bt, bu, bv, bw⟩ := zc2 a) | ((with_reducible refine gate_callee (f := 37) rfl ?_); refine zgc (some 113) Try.func37 (soft_Cmp.calls hk.out) ?_; intro iE hb; obtain ⟨a, b, HB⟩ := zu2 a b HB hb; clear hb; obtain ⟨bx, bz, bA, bB⟩ := zc2 a) | ((with_reducible refine gate_callee (f := 39) rfl ?_); refine zgc (some 120) Try.func39 (soft_Floor.calls hl.out) ?_; intro iF hb; obtain ⟨a, b, HB⟩ := zu2 a b HB hb; clear hb; obtain ⟨az, aA, aB, aC⟩ := zc2 a) | ((with_reducible refine gate_callee (f := 40) rfl ?_); refine zgc (some 126) Try.func40 (soft_Ceil.calls hm.out) ?_; intro hx hb; obtain ⟨a, b, HB⟩ := zu2 a b HB hb; clear hb; obtain ⟨aD, aE, aF, aG⟩ := zc2 a) | ((with_reducible refine gate_callee (f := 41) rfl ?_); refine zgc (some 131) Try.func41 (grottoref02_Pack.calls hp.out) ?_; intro hy hb; obtain ⟨a, b, HB⟩ := zu2 a b HB hb; clear hb; obtain ⟨aH, aI, aJ, aK⟩ := zc2 a) | ((with_reducible refine gate_callee (f := 24) rfl ?_); refine zgc (some 138) Try.func24 (soft_Add.calls hq.out) ?_; intro hz hb; obtain ⟨a, b, HB⟩ := zu2 a b HB hb; clear hb))
      (try simp only [Act.put, List.setIfInBounds_toArray, List.set_cons_zero, List.set_cons_succ])
      go_cut [179] (fun v179 wc => ∃ (kq : Nat) (D : Bool), v179 = .bool D ∧ Aside0 (grottolaw03_SoftBetween.j1 kq a1 C F ci D g m = some r) ∧ Aside0 (kq ≤ bE) ∧ Aside0 (wc.heap[B]? = some (.cells #[.int .i64 g, .int .i64 m] 23 (0, 0))) ∧ Aside0 (wc.heap[j]? = some (.cells #[.int .i64 l, .bool s, .int .i64 u, .int .u64 y] 34 (0, 0))) ∧ Aside0 (Below w.heap.size w wc))
      case first =>
       have H := aV.out
       clear aV
       obtain ⟨cj, X, H⟩ := oB H
       obtain ⟨ck, Y, H⟩ := oB H
       obtain ⟨cl, Z, H⟩ := oB H
       obtain ⟨cm, aa, H⟩ := oB H
       obtain ⟨cn, ab, H⟩ := oB H
       obtain ⟨co, ac, H⟩ := oB H
       obtain ⟨cp, ad, H⟩ := oB H
       by_cases ae : (wrap64 ((wrap64 ((wrap64 ((wrap64 ((wrap64 ((wrap64 (cj + ck)) + cl)) + cm)) + cn)) + co)) + cp)) = 0
       ·rw [if_pos ae] at H
        obtain ⟨E, bG⟩ := zt ae
        clear ae
        (first | rw [E] | (simp only [i64_w, i32_w]; rw [E]) | skip)
        by_cases U : au > 0
        ·rw [if_pos U] at H
         have bH : decide (0 < au) = true := decide_eq_true U
         clear U
         have H' := Aside0.mk H
         clear H
         go_wp2_with (first | ((with_reducible refine gate_callee (f := 18) rfl ?_); refine zgo (some 142) Try.func18 #[.int .i64 z] ?_; (with_reducible refine (grottolaw03_num.calls X.out).mono ?_); rintro e w' ⟨rfl, ⟨nd, rfl⟩⟩; refine ⟨_, rfl, ?_⟩) | ((with_reducible refine gate_callee (f := 18) rfl ?_); refine zgo (some 144) Try.func18 #[.int .i64 G] ?_; (with_reducible refine (grottolaw03_num.calls Y.out).mono ?_); rintro e w' ⟨rfl, ⟨nd, rfl⟩⟩; refine ⟨_, rfl, ?_⟩) | ((with_reducible refine gate_callee (f := 18) rfl ?_); refine zgo (some 147) Try.func18 #[.int .i64 I] ?_; (with_reducible refine (grottolaw03_num.calls Z.out).mono ?_); rintro e w' ⟨rfl, ⟨nd, rfl⟩⟩; refine ⟨_, rfl, ?_⟩) | ((with_reducible refine gate_callee (f := 18) rfl ?_); refine zgo (some 150) Try.func18 #[.int .i64 J] ?_; (with_reducible refine (grottolaw03_num.calls aa.out).mono ?_); rintro e w' ⟨rfl, ⟨nd, rfl⟩⟩; refine ⟨_, rfl, ?_⟩) | ((with_reducible refine gate_callee (f := 18) rfl ?_); refine zgo (some 153) Try.func18 #[.int .i64 L] ?_; (with_reducible refine (grottolaw03_num.calls ab.out).mono ?_); rintro e w' ⟨rfl, ⟨nd, rfl⟩⟩; refine ⟨_, rfl, ?_⟩) | ((with_reducible refine gate_callee (f := 18) rfl ?_); refine zgo (some 156) Try.func18 #[.int .i64 M] ?_; (with_reducible refine (grottolaw03_num.calls ac.out).mono ?_); rintro e w' ⟨rfl, ⟨nd, rfl⟩⟩; refine ⟨_, rfl, ?_⟩) | ((with_reducible refine gate_callee (f := 18) rfl ?_); refine zgo (some 159) Try.func18 #[.int .i64 O] ?_; (with_reducible refine (grottolaw03_num.calls ad.out).mono ?_); rintro e w' ⟨rfl, ⟨nd, rfl⟩⟩; refine ⟨_, rfl, ?_⟩))
         go_meet
         case rel => exact ⟨_, (true), (by first | rfl | (simp [*]; done)), H', ⟨by have := aL.out; first | omega | exact Nat.le_refl _⟩, ⟨zk a⟩, ⟨zk b⟩, ⟨zb HB⟩⟩
        ·rw [if_neg U] at H
         have bH : decide (0 < au) = false := decide_eq_false U
         clear U
         by_cases V : av > 0
         ·rw [if_pos V] at H
          have bI : decide (0 < av) = true := decide_eq_true V
          clear V
          have H' := Aside0.mk H
          clear H
          go_wp2_with (first | ((with_reducible refine gate_callee (f := 18) rfl ?_); refine zgo (some 142) Try.func18 #[.int .i64 z] ?_; (with_reducible refine (grottolaw03_num.calls X.out).mono ?_); rintro e w' ⟨rfl, ⟨nd, rfl⟩⟩; refine ⟨_, rfl, ?_⟩) | ((with_reducible refine gate_callee (f := 18) rfl ?_); refine zgo (some 144) Try.func18 #[.int .i64 G] ?_; (with_reducible refine (grottolaw03_num.calls Y.out).mono ?_); rintro e w' ⟨rfl, ⟨nd, rfl⟩⟩; refine ⟨_, rfl, ?_⟩) | ((with_reducible refine gate_callee (f := 18) rfl ?_); refine zgo (some 147) Try.func18 #[.int .i64 I] ?_; (with_reducible refine (grottolaw03_num.calls Z.out).mono ?_); rintro e w' ⟨rfl, ⟨nd, rfl⟩⟩; refine ⟨_, rfl, ?_⟩) | ((with_reducible refine gate_callee (f := 18) rfl ?_); refine zgo (some 150) Try.func18 #[.int .i64 J] ?_; (with_reducible refine (grottolaw03_num.calls aa.out).mono ?_); rintro e w' ⟨rfl, ⟨nd, rfl⟩⟩; refine ⟨_, rfl, ?_⟩) | ((with_reducible refine gate_callee (f := 18) rfl ?_); refine zgo (some 153) Try.func18 #[.int .i64 L] ?_; (with_reducible refine (grottolaw03_num.calls ab.out).mono ?_); rintro e w' ⟨rfl, ⟨nd, rfl⟩⟩; refine ⟨_, rfl, ?_⟩) | ((with_reducible refine gate_callee (f := 18) rfl ?_); refine zgo (some 156) Try.func18 #[.int .i64 M] ?_; (with_reducible refine (grottolaw03_num.calls ac.out).mono ?_); rintro e w' ⟨rfl, ⟨nd, rfl⟩⟩; refine ⟨_, rfl, ?_⟩) | ((with_reducible refine gate_callee (f := 18) rfl ?_); refine zgo (some 159) Try.func18 #[.int .i64 O] ?_; (with_reducible refine (grottolaw03_num.calls ad.out).mono ?_); rintro e w' ⟨rfl, ⟨nd, rfl⟩⟩; refine ⟨_, rfl, ?_⟩))
          go_meet
          case rel => exact ⟨_, (true), (by first | rfl | (simp [*]; done)), H', ⟨by have := aL.out; first | omega | exact Nat.le_refl _⟩, ⟨zk a⟩, ⟨zk b⟩, ⟨zb HB⟩⟩
         ·rw [if_neg V] at H
          have bI : decide (0 < av) = false := decide_eq_false V
          clear V
          by_cases af : cg = C
          ·rw [if_pos af] at H
           obtain ⟨bJ, bK⟩ := zt af
           clear af
           have H' := Aside0.mk H
           clear H
           go_wp2_with (first | ((with_reducible refine gate_callee (f := 18) rfl ?_); refine zgo (some 142) Try.func18 #[.int .i64 z] ?_; (with_reducible refine (grottolaw03_num.calls X.out).mono ?_); rintro e w' ⟨rfl, ⟨nd, rfl⟩⟩; refine ⟨_, rfl, ?_⟩) | ((with_reducible refine gate_callee (f := 18) rfl ?_); refine zgo (some 144) Try.func18 #[.int .i64 G] ?_; (with_reducible refine (grottolaw03_num.calls Y.out).mono ?_); rintro e w' ⟨rfl, ⟨nd, rfl⟩⟩; refine ⟨_, rfl, ?_⟩) | ((with_reducible refine gate_callee (f := 18) rfl ?_); refine zgo (some 147) Try.func18 #[.int .i64 I] ?_; (with_reducible refine (grottolaw03_num.calls Z.out).mono ?_); rintro e w' ⟨rfl, ⟨nd, rfl⟩⟩; refine ⟨_, rfl, ?_⟩) | ((with_reducible refine gate_callee (f := 18) rfl ?_); refine zgo (some 150) Try.func18 #[.int .i64 J] ?_; (with_reducible refine (grottolaw03_num.calls aa.out).mono ?_); rintro e w' ⟨rfl, ⟨nd, rfl⟩⟩; refine ⟨_, rfl, ?_⟩) | ((with_reducible refine gate_callee (f := 18) rfl ?_); refine zgo (some 153) Try.func18 #[.int .i64 L] ?_; (with_reducible refine (grottolaw03_num.calls ab.out).mono ?_); rintro e w' ⟨rfl, ⟨nd, rfl⟩⟩; refine ⟨_, rfl, ?_⟩) | ((with_reducible refine gate_callee (f := 18) rfl ?_); refine zgo (some 156) Try.func18 #[.int .i64 M] ?_; (with_reducible refine (grottolaw03_num.calls ac.out).mono ?_); rintro e w' ⟨rfl, ⟨nd, rfl⟩⟩; refine ⟨_, rfl, ?_⟩) | ((with_reducible refine gate_callee (f := 18) rfl ?_); refine zgo (some 159) Try.func18 #[.int .i64 O] ?_; (with_reducible refine (grottolaw03_num.calls ad.out).mono ?_); rintro e w' ⟨rfl, ⟨nd, rfl⟩⟩; refine ⟨_, rfl, ?_⟩))
           go_meet
           case rel => exact ⟨_, ((ch != F)), (by first | rfl | (simp [*]; done)), H', ⟨by have := aL.out; first | omega | exact Nat.le_refl _⟩, ⟨zk a⟩, ⟨zk b⟩, ⟨zb HB⟩⟩
          ·rw [if_neg af] at H
           obtain ⟨bJ, bK⟩ := zf af
           have H' := Aside0.mk H
           clear H
           go_wp2_with (first | ((with_reducible refine gate_callee (f := 18) rfl ?_); refine zgo (some 142) Try.func18 #[.int .i64 z] ?_; (with_reducible refine (grottolaw03_num.calls X.out).mono ?_); rintro e w' ⟨rfl, ⟨nd, rfl⟩⟩; refine ⟨_, rfl, ?_⟩) | ((with_reducible refine gate_callee (f := 18) rfl ?_); refine zgo (some 144) Try.func18 #[.int .i64 G] ?_; (with_reducible refine (grottolaw03_num.calls Y.out).mono ?_); rintro e w' ⟨rfl, ⟨nd, rfl⟩⟩; refine ⟨_, rfl, ?_⟩) | ((with_reducible refine gate_callee (f := 18) rfl ?_); refine zgo (some 147) Try.func18 #[.int .i64 I] ?_; (with_reducible refine (grottolaw03_num.calls Z.out).mono ?_); rintro e w' ⟨rfl, ⟨nd, rfl⟩⟩; refine ⟨_, rfl, ?_⟩) | ((with_reducible refine gate_callee (f := 18) rfl ?_); refine zgo (some 150) Try.func18 #[.int .i64 J] ?_; (with_reducible refine (grottolaw03_num.calls aa.out).mono ?_); rintro e w' ⟨rfl, ⟨nd, rfl⟩⟩; refine ⟨_, rfl, ?_⟩) | ((with_reducible refine gate_callee (f := 18) rfl ?_); refine zgo (some 153) Try.func18 #[.int .i64 L] ?_; (with_reducible refine (grottolaw03_num.calls ab.out).mono ?_); rintro e w' ⟨rfl, ⟨nd, rfl⟩⟩; refine ⟨_, rfl, ?_⟩) | ((with_reducible refine gate_callee (f := 18) rfl ?_); refine zgo (some 156) Try.func18 #[.int .i64 M] ?_; (with_reducible refine (grottolaw03_num.calls ac.out).mono ?_); rintro e w' ⟨rfl, ⟨nd, rfl⟩⟩; refine ⟨_, rfl, ?_⟩) | ((with_reducible refine gate_callee (f := 18) rfl ?_); refine zgo (some 159) Try.func18 #[.int .i64 O] ?_; (with_reducible refine (grottolaw03_num.calls ad.out).mono ?_); rintro e w' ⟨rfl, ⟨nd, rfl⟩⟩; refine ⟨_, rfl, ?_⟩))
           go_meet
           case rel => exact ⟨_, (true), (by first | rfl | (simp [*]; done)), H', ⟨by have := aL.out; first | omega | exact Nat.le_refl _⟩, ⟨zk a⟩, ⟨zk b⟩, ⟨zb HB⟩⟩
       ·rw [if_neg ae] at H
        obtain ⟨E, bG⟩ := zf ae
        (first | rw [E] | (simp only [i64_w, i32_w]; rw [E]) | skip)
        have H' := Aside0.mk H
        clear H
        go_wp2_with (first | ((with_reducible refine gate_callee (f := 18) rfl ?_); refine zgo (some 142) Try.func18 #[.int .i64 z] ?_; (with_reducible refine (grottolaw03_num.calls X.out).mono ?_); rintro e w' ⟨rfl, ⟨nd, rfl⟩⟩; refine ⟨_, rfl, ?_⟩) | ((with_reducible refine gate_callee (f := 18) rfl ?_); refine zgo (some 144) Try.func18 #[.int .i64 G] ?_; (with_reducible refine (grottolaw03_num.calls Y.out).mono ?_); rintro e w' ⟨rfl, ⟨nd, rfl⟩⟩; refine ⟨_, rfl, ?_⟩) | ((with_reducible refine gate_callee (f := 18) rfl ?_); refine zgo (some 147) Try.func18 #[.int .i64 I] ?_; (with_reducible refine (grottolaw03_num.calls Z.out).mono ?_); rintro e w' ⟨rfl, ⟨nd, rfl⟩⟩; refine ⟨_, rfl, ?_⟩) | ((with_reducible refine gate_callee (f := 18) rfl ?_); refine zgo (some 150) Try.func18 #[.int .i64 J] ?_; (with_reducible refine (grottolaw03_num.calls aa.out).mono ?_); rintro e w' ⟨rfl, ⟨nd, rfl⟩⟩; refine ⟨_, rfl, ?_⟩) | ((with_reducible refine gate_callee (f := 18) rfl ?_); refine zgo (some 153) Try.func18 #[.int .i64 L] ?_; (with_reducible refine (grottolaw03_num.calls ab.out).mono ?_); rintro e w' ⟨rfl, ⟨nd, rfl⟩⟩; refine ⟨_, rfl, ?_⟩) | ((with_reducible refine gate_callee (f := 18) rfl ?_); refine zgo (some 156) Try.func18 #[.int .i64 M] ?_; (with_reducible refine (grottolaw03_num.calls ac.out).mono ?_); rintro e w' ⟨rfl, ⟨nd, rfl⟩⟩; refine ⟨_, rfl, ?_⟩) | ((with_reducible refine gate_callee (f := 18) rfl ?_); refine zgo (some 159) Try.func18 #[.int .i64 O] ?_; (with_reducible refine (grottolaw03_num.calls ad.out).mono ?_); rintro e w' ⟨rfl, ⟨nd, rfl⟩⟩; refine ⟨_, rfl, ?_⟩))
        go_meet
        case rel => exact ⟨_, (true), (by first | rfl | (simp [*]; done)), H', ⟨by have := aL.out; first | omega | exact Nat.le_refl _⟩, ⟨zk a⟩, ⟨zk b⟩, ⟨zb HB⟩⟩
      case rest =>
       clear aV
       try clear c1 p2 c3 c6 T b1 iH aM aO aP ay aQ aR az aA aD aE aH aI aW aX a0 a2 a3 a4 a9 ba bd be bh bi bj bk bp bq bt bu bx bz aB aC aF aG aJ aK aY aZ a5 a6 a7 a8 bb bc bf bg bl bm bn bo br bs bv bw bA bB p2
       obtain ⟨kq, D, rfl, HA, hA, a, b, HB⟩ := hcut
       cases kq with
       | zero => exact absurd HA.out (by simp [grottolaw03_SoftBetween.j1])
       | succ bC =>
        have H := HA.out
        clear HA
        simp only [grottolaw03_SoftBetween.j1] at H
        by_cases aw : D = true
        ·subst aw
         rw [if_pos rfl] at H
         obtain rfl := Option.some.inj H
         go_wp2
         go_ret
         exact zr HB
        ·replace aw := Bool.eq_false_iff.mpr aw
         subst aw
         rw [if_neg nft] at H
         obtain ⟨⟨bD, ht, hu⟩, ag, H⟩ := oB H
         try dsimp only at H
         by_cases ah : C = F
         ·rw [if_pos ah] at H
          obtain ⟨bL, bM⟩ := zt ah
          clear ah
          by_cases ai : C = a1
          ·rw [if_pos ai] at H
           obtain ⟨bN, bO⟩ := zt ai
           clear ai
           obtain ⟨cq, gF, H⟩ := oB H
           obtain rfl := Option.some.inj H
           obtain ⟨gL, gM⟩ := z2 d
           obtain ⟨cy, cz, cA, cB⟩ := zc2 a
           go_wp2_with (first | ((with_reducible refine gate_callee (f := 37) rfl ?_); refine zgc (some 184) Try.func37 (soft_Cmp.calls ag.out) ?_; intro hB hb; obtain ⟨a, b, HB⟩ := zu2 a b HB hb; clear hb) | (go_at_call 19; (with_reducible refine (grottolaw03_live.calls bC  cq _ gF.out).mono ?_); rintro e hC ⟨rfl, hb⟩; obtain ⟨a, b, HB⟩ := zu2 a b HB hb; clear hb))
           go_ret
           exact zr HB
          ·rw [if_neg ai] at H
           obtain ⟨bN, bO⟩ := zf ai
           by_cases aj : bD = 0
           ·rw [if_pos aj] at H
            obtain ⟨bP, bQ⟩ := zt aj
            clear aj
            obtain ⟨cr, gG, H⟩ := oB H
            obtain rfl := Option.some.inj H
            obtain ⟨gN, gO⟩ := z2 d
            obtain ⟨cC, cD, cE, cF⟩ := zc2 a
            go_wp2_with (first | ((with_reducible refine gate_callee (f := 37) rfl ?_); refine zgc (some 184) Try.func37 (soft_Cmp.calls ag.out) ?_; intro hD hb; obtain ⟨a, b, HB⟩ := zu2 a b HB hb; clear hb) | (go_at_call 19; (with_reducible refine (grottolaw03_live.calls bC  cr _ gG.out).mono ?_); rintro e hE ⟨rfl, hb⟩; obtain ⟨a, b, HB⟩ := zu2 a b HB hb; clear hb))
            go_ret
            exact zr HB
           ·rw [if_neg aj] at H
            obtain ⟨bP, bQ⟩ := zf aj
            obtain rfl := Option.some.inj H
            obtain ⟨gP, gQ⟩ := z2 d
            obtain ⟨cG, cH, cI, cJ⟩ := zc2 a
            go_wp2_with (first | ((with_reducible refine gate_callee (f := 37) rfl ?_); refine zgc (some 184) Try.func37 (soft_Cmp.calls ag.out) ?_; intro hF hb; obtain ⟨a, b, HB⟩ := zu2 a b HB hb; clear hb))
            go_ret
            exact zr HB
         ·rw [if_neg ah] at H
          obtain ⟨bL, bM⟩ := zf ah
          by_cases ak : bD = 0
          ·rw [if_pos ak] at H
           obtain ⟨bR, bS⟩ := zt ak
           clear ak
           obtain ⟨ct, gH, H⟩ := oB H
           obtain rfl := Option.some.inj H
           obtain ⟨gR, gS⟩ := z2 d
           obtain ⟨cK, cL, cM, cN⟩ := zc2 a
           go_wp2_with (first | ((with_reducible refine gate_callee (f := 37) rfl ?_); refine zgc (some 184) Try.func37 (soft_Cmp.calls ag.out) ?_; intro hG hb; obtain ⟨a, b, HB⟩ := zu2 a b HB hb; clear hb) | (go_at_call 19; (with_reducible refine (grottolaw03_live.calls bC  ct _ gH.out).mono ?_); rintro e hH ⟨rfl, hb⟩; obtain ⟨a, b, HB⟩ := zu2 a b HB hb; clear hb))
           go_ret
           exact zr HB
          ·rw [if_neg ak] at H
           obtain ⟨bR, bS⟩ := zf ak
           obtain rfl := Option.some.inj H
           obtain ⟨gT, gU⟩ := z2 d
           obtain ⟨cO, cP, cQ, cR⟩ := zc2 a
           go_wp2_with (first | ((with_reducible refine gate_callee (f := 37) rfl ?_); refine zgc (some 184) Try.func37 (soft_Cmp.calls ag.out) ?_; intro hI hb; obtain ⟨a, b, HB⟩ := zu2 a b HB hb; clear hb))
           go_ret
           exact zr HB
    ·rw [if_neg aN] at H
     obtain ⟨aO, aP⟩ := zf aN
     obtain ⟨cu, al, H⟩ := oB H
     by_cases am : cu = 1
     ·rw [if_pos am] at H
      obtain ⟨bT, bU⟩ := zt am
      clear am
      obtain ⟨cv, ax, H⟩ := oB H
      by_cases an : cv = 1
      ·rw [if_pos an] at H
       obtain ⟨bV, bW⟩ := zt an
       clear an
       by_cases ao : C = 0
       ·rw [if_pos ao] at H
        obtain ⟨bX, bY⟩ := zt ao
        clear ao
        by_cases ap : F = 0
        ·rw [if_pos ap] at H
         obtain ⟨bZ, b0⟩ := zt ap
         clear ap
         obtain ⟨cw, gI, H⟩ := oB H
         obtain rfl := Option.some.inj H
         obtain ⟨cS, cT, cU, cV⟩ := zc2 a
         go_wp2_with (first | ((with_reducible refine gate_callee (f := 20) rfl ?_); refine zgc (some 42) Try.func20 (grottoref02_Open.calls P.out) ?_; intro hJ hb; obtain ⟨a, HB⟩ := zu1 a HB hb; clear hb) | ((with_reducible refine gate_dst (N := 5) rfl ?_); refine zbox (N := 5) (cs := #[.int .i64 0, .bool false, .int .i64 0, .int .u64 0]) (t := 34) ?_; intro j hg hL hbox hb; have b := Aside0.mk hbox; have p := zge hg HB; have q := zge hg HB; have d := znl hg a; have c := zng hg a; obtain ⟨a, HB⟩ := zu1 a HB hb; clear hb hbox hg; obtain ⟨gV, gW⟩ := z2 c; obtain ⟨cW, cX, cY, cZ, c0, c2, c4, c5⟩ := zc4 b; obtain ⟨c7, c8, c9, da⟩ := zc2 a) | ((with_reducible refine gate_callee (f := 39) rfl ?_); refine zgc (some 48) Try.func39 (soft_Floor.calls Q.out) ?_; intro hM hb; replace a := zkb a hb; replace b := zkbo (o := .cells #[.int .i64 l, .bool s, .int .i64 u, .int .u64 y] 34 (0, 0)) b hb; replace HB := zbs HB hb; clear hb; obtain ⟨db, dc, dd, de⟩ := zc2 a) | ((with_reducible refine gate_callee (f := 40) rfl ?_); refine zgc (some 54) Try.func40 (soft_Ceil.calls R.out) ?_; intro hN hb; obtain ⟨a, b, HB⟩ := zu2 a b HB hb; clear hb) | ((with_reducible refine gate_callee (f := 18) rfl ?_); refine zgo (some 60) Try.func18 #[.int .i64 z] ?_; (with_reducible refine (grottolaw03_num.calls al.out).mono ?_); rintro e w' ⟨rfl, ⟨nd, rfl⟩⟩; refine ⟨_, rfl, ?_⟩) | (go_at_call 18; (with_reducible refine (grottolaw03_num.calls ax.out).mono ?_); rintro e w' ⟨rfl, ⟨nd, rfl⟩⟩) | (go_at_call 19; (with_reducible refine (grottolaw03_live.calls bE  cw _ gI.out).mono ?_); rintro e hO ⟨rfl, hb⟩; obtain ⟨a, b, HB⟩ := zu2 a b HB hb; clear hb))
         go_ret
         exact zr HB
        ·rw [if_neg ap] at H
         obtain ⟨bZ, b0⟩ := zf ap
         obtain rfl := Option.some.inj H
         obtain ⟨df, dg, dh, di⟩ := zc2 a
         go_wp2_with (first | ((with_reducible refine gate_callee (f := 20) rfl ?_); refine zgc (some 42) Try.func20 (grottoref02_Open.calls P.out) ?_; intro hP hb; obtain ⟨a, HB⟩ := zu1 a HB hb; clear hb) | ((with_reducible refine gate_dst (N := 5) rfl ?_); refine zbox (N := 5) (cs := #[.int .i64 0, .bool false, .int .i64 0, .int .u64 0]) (t := 34) ?_; intro j hg hQ hbox hb; have b := Aside0.mk hbox; have p := zge hg HB; have q := zge hg HB; have d := znl hg a; have c := zng hg a; obtain ⟨a, HB⟩ := zu1 a HB hb; clear hb hbox hg; obtain ⟨gX, gY⟩ := z2 c; obtain ⟨dj, dk, dl, dm, dn, dp, dq, dr⟩ := zc4 b; obtain ⟨dt, du, dv, dw⟩ := zc2 a) | ((with_reducible refine gate_callee (f := 39) rfl ?_); refine zgc (some 48) Try.func39 (soft_Floor.calls Q.out) ?_; intro hR hb; replace a := zkb a hb; replace b := zkbo (o := .cells #[.int .i64 l, .bool s, .int .i64 u, .int .u64 y] 34 (0, 0)) b hb; replace HB := zbs HB hb; clear hb; obtain ⟨dx, dy, dz, dA⟩ := zc2 a) | ((with_reducible refine gate_callee (f := 40) rfl ?_); refine zgc (some 54) Try.func40 (soft_Ceil.calls R.out) ?_; intro hS hb; obtain ⟨a, b, HB⟩ := zu2 a b HB hb; clear hb) | ((with_reducible refine gate_callee (f := 18) rfl ?_); refine zgo (some 60) Try.func18 #[.int .i64 z] ?_; (with_reducible refine (grottolaw03_num.calls al.out).mono ?_); rintro e w' ⟨rfl, ⟨nd, rfl⟩⟩; refine ⟨_, rfl, ?_⟩) | (go_at_call 18; (with_reducible refine (grottolaw03_num.calls ax.out).mono ?_); rintro e w' ⟨rfl, ⟨nd, rfl⟩⟩))
         go_ret
         exact zr HB
       ·rw [if_neg ao] at H
        obtain ⟨bX, bY⟩ := zf ao
        obtain rfl := Option.some.inj H
        obtain ⟨dB, dC, dD, dE⟩ := zc2 a
        go_wp2_with (first | ((with_reducible refine gate_callee (f := 20) rfl ?_); refine zgc (some 42) Try.func20 (grottoref02_Open.calls P.out) ?_; intro hT hb; obtain ⟨a, HB⟩ := zu1 a HB hb; clear hb) | ((with_reducible refine gate_dst (N := 5) rfl ?_); refine zbox (N := 5) (cs := #[.int .i64 0, .bool false, .int .i64 0, .int .u64 0]) (t := 34) ?_; intro j hg hU hbox hb; have b := Aside0.mk hbox; have p := zge hg HB; have q := zge hg HB; have d := znl hg a; have c := zng hg a; obtain ⟨a, HB⟩ := zu1 a HB hb; clear hb hbox hg; obtain ⟨gZ, g0⟩ := z2 c; obtain ⟨dF, dG, dH, dI, dJ, dK, dL, dM⟩ := zc4 b; obtain ⟨dN, dO, dP, dQ⟩ := zc2 a) | ((with_reducible refine gate_callee (f := 39) rfl ?_); refine zgc (some 48) Try.func39 (soft_Floor.calls Q.out) ?_; intro hV hb; replace a := zkb a hb; replace b := zkbo (o := .cells #[.int .i64 l, .bool s, .int .i64 u, .int .u64 y] 34 (0, 0)) b hb; replace HB := zbs HB hb; clear hb; obtain ⟨dR, dS, dT, dU⟩ := zc2 a) | ((with_reducible refine gate_callee (f := 40) rfl ?_); refine zgc (some 54) Try.func40 (soft_Ceil.calls R.out) ?_; intro hW hb; obtain ⟨a, b, HB⟩ := zu2 a b HB hb; clear hb) | ((with_reducible refine gate_callee (f := 18) rfl ?_); refine zgo (some 60) Try.func18 #[.int .i64 z] ?_; (with_reducible refine (grottolaw03_num.calls al.out).mono ?_); rintro e w' ⟨rfl, ⟨nd, rfl⟩⟩; refine ⟨_, rfl, ?_⟩) | (go_at_call 18; (with_reducible refine (grottolaw03_num.calls ax.out).mono ?_); rintro e w' ⟨rfl, ⟨nd, rfl⟩⟩))
        go_ret
        exact zr HB
      ·rw [if_neg an] at H
       obtain ⟨bV, bW⟩ := zf an
       obtain rfl := Option.some.inj H
       obtain ⟨dV, dW, dX, dY⟩ := zc2 a
       go_wp2_with (first | ((with_reducible refine gate_callee (f := 20) rfl ?_); refine zgc (some 42) Try.func20 (grottoref02_Open.calls P.out) ?_; intro hX hb; obtain ⟨a, HB⟩ := zu1 a HB hb; clear hb) | ((with_reducible refine gate_dst (N := 5) rfl ?_); refine zbox (N := 5) (cs := #[.int .i64 0, .bool false, .int .i64 0, .int .u64 0]) (t := 34) ?_; intro j hg hY hbox hb; have b := Aside0.mk hbox; have p := zge hg HB; have q := zge hg HB; have d := znl hg a; have c := zng hg a; obtain ⟨a, HB⟩ := zu1 a HB hb; clear hb hbox hg; obtain ⟨g1, g2⟩ := z2 c; obtain ⟨dZ, d0, d1, d2, d3, d4, d5, d6⟩ := zc4 b; obtain ⟨d7, d8, d9, ea⟩ := zc2 a) | ((with_reducible refine gate_callee (f := 39) rfl ?_); refine zgc (some 48) Try.func39 (soft_Floor.calls Q.out) ?_; intro hZ hb; replace a := zkb a hb; replace b := zkbo (o := .cells #[.int .i64 l, .bool s, .int .i64 u, .int .u64 y] 34 (0, 0)) b hb; replace HB := zbs HB hb; clear hb; obtain ⟨eb, ec, ed, ee⟩ := zc2 a) | ((with_reducible refine gate_callee (f := 40) rfl ?_); refine zgc (some 54) Try.func40 (soft_Ceil.calls R.out) ?_; intro h0 hb; obtain ⟨a, b, HB⟩ := zu2 a b HB hb; clear hb) | ((with_reducible refine gate_callee (f := 18) rfl ?_); refine zgo (some 60) Try.func18 #[.int .i64 z] ?_; (with_reducible refine (grottolaw03_num.calls al.out).mono ?_); rintro e w' ⟨rfl, ⟨nd, rfl⟩⟩; refine ⟨_, rfl, ?_⟩) | (go_at_call 18; (with_reducible refine (grottolaw03_num.calls ax.out).mono ?_); rintro e w' ⟨rfl, ⟨nd, rfl⟩⟩))
       go_ret
       exact zr HB
     ·rw [if_neg am] at H
      obtain ⟨bT, bU⟩ := zf am
      obtain rfl := Option.some.inj H
      obtain ⟨ef, eg, eh, ei⟩ := zc2 a
      go_wp2_with (first | ((with_reducible refine gate_callee (f := 20) rfl ?_); refine zgc (some 42) Try.func20 (grottoref02_Open.calls P.out) ?_; intro h1 hb; obtain ⟨a, HB⟩ := zu1 a HB hb; clear hb) | ((with_reducible refine gate_dst (N := 5) rfl ?_); refine zbox (N := 5) (cs := #[.int .i64 0, .bool false, .int .i64 0, .int .u64 0]) (t := 34) ?_; intro j hg h2 hbox hb; have b := Aside0.mk hbox; have p := zge hg HB; have q := zge hg HB; have d := znl hg a; have c := zng hg a; obtain ⟨a, HB⟩ := zu1 a HB hb; clear hb hbox hg; obtain ⟨g3, g4⟩ := z2 c; obtain ⟨ej, ek, el, em, en, eo, ep, eq⟩ := zc4 b; obtain ⟨er, es, et, eu⟩ := zc2 a) | ((with_reducible refine gate_callee (f := 39) rfl ?_); refine zgc (some 48) Try.func39 (soft_Floor.calls Q.out) ?_; intro h3 hb; replace a := zkb a hb; replace b := zkbo (o := .cells #[.int .i64 l, .bool s, .int .i64 u, .int .u64 y] 34 (0, 0)) b hb; replace HB := zbs HB hb; clear hb; obtain ⟨ev, ew, ex, ey⟩ := zc2 a) | ((with_reducible refine gate_callee (f := 40) rfl ?_); refine zgc (some 54) Try.func40 (soft_Ceil.calls R.out) ?_; intro h4 hb; obtain ⟨a, b, HB⟩ := zu2 a b HB hb; clear hb) | ((with_reducible refine gate_callee (f := 18) rfl ?_); refine zgo (some 60) Try.func18 #[.int .i64 z] ?_; (with_reducible refine (grottolaw03_num.calls al.out).mono ?_); rintro e w' ⟨rfl, ⟨nd, rfl⟩⟩; refine ⟨_, rfl, ?_⟩))
      go_ret
      exact zr HB

end Go.Proofs.Ytmmbgbchimangaa.PQ
