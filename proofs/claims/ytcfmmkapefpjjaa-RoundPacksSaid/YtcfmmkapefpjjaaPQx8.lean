-- by a program of this claim
import Derived.Test.YtcfmmkapefpjjaaPQx0
import Derived.Test.YtcfmmkapefpjjaaPQx6
import Derived.Test.YtcfmmkapefpjjaaPQx7
namespace Go.Proofs.Ytcfmmkapefpjjaa.PQ
open Go.RowKit Go.Proofs.YtcfmmkapefpjjaaW.PrintWords Go.Proofs.YtcfmmkapefpjjaaW.PrintLast Go.Proofs.YtcfmmkapefpjjaaW.PrintMore Go.Proofs.Ytcfmmkapefpjjaa.Z
attribute [local go_sem] max2_int min2_int max_two min_two max_three min_three max_four min_four   -- for this text's walks alone
set_option linter.unusedVariables false
set_option linter.unusedSimpArgs false

/-! ### grottoref02_Near: function 34 -/
mutual
def grottoref02_Near.l0 : Nat → Bool → List Int → List Int → Int → Int → Int → Int → Option (Int)
  | 0, _, _, _, _, _, _, _ => none
  | k + 1, x1, x2, x3, x4, x11, x238000, x238001 => if x11 > x4 then ((grottoref02_Up.f k x3 (wrap64 (x11 - x4))).bind fun t245 => (grottoref02_Near.j1 k x1 x2 x3 x4 x11 t245 x2 x238000 x238001)) else ((grottoref02_Up.f k x2 (wrap64 (x4 - x11))).bind fun t248 => (grottoref02_Near.j1 k x1 x2 x3 x4 x11 x3 t248 x238000 x238001))
def grottoref02_Near.j1 : Nat → Bool → List Int → List Int → Int → Int → List Int → List Int → Int → Int → Option (Int)
  | 0, _, _, _, _, _, _, _, _, _ => none
  | k + 1, x1, x2, x3, x4, x11, x14, x15, x238000, x238001 => (grottoref02_Quo.f k x15 x14).bind fun bt251 => ((grottoref02_Bits.f k bt251.1).bind fun t257 => (if t257 ≤ (wrap64 (x238000 + 1)) then ((grottoref02_Small.f k bt251.1).bind fun t258 => ((grottoref02_Up.f k bt251.2 1).bind fun t259 => ((grottoref02_Cmp.f k t259 x14).bind fun t262 => (if t262 > 0 then (grottoref02_Near.j2 k x1 x11 t258 true x238000 x238001) else (if t262 = 0 then (grottoref02_Near.j2 k x1 x11 t258 ((Int.tmod t258 2) == 1) x238000 x238001) else (grottoref02_Near.j2 k x1 x11 t258 false x238000 x238001)))))) else (grottoref02_Near.l0 k x1 x2 x3 x4 (wrap64 (x11 + 1)) x238000 x238001)))
def grottoref02_Near.j2 : Nat → Bool → Int → Int → Bool → Int → Int → Option (Int)
  | 0, _, _, _, _, _, _ => none
  | k + 1, x1, x11, x16, x85, x238000, x238001 => if x85 = true then (grottoref02_Near.j3 k x1 x11 (IntKind.u64.wrap (x16 + 1)) x238000 x238001) else (grottoref02_Near.j3 k x1 x11 x16 x238000 x238001)
def grottoref02_Near.j3 : Nat → Bool → Int → Int → Int → Int → Option (Int)
  | 0, _, _, _, _, _ => none
  | k + 1, x1, x11, x16, x238000, x238001 => (grottoref02_power.f k (wrap64 (x238000 + 1))).bind fun t263 => (if x16 = t263 then (grottoref02_Near.j4 k x1 (wrap64 (x11 + 1)) (IntKind.u64.wrap (Int.tdiv x16 2)) x238000 x238001) else (grottoref02_Near.j4 k x1 x11 x16 x238000 x238001))
def grottoref02_Near.j4 : Nat → Bool → Int → Int → Int → Int → Option (Int)
  | 0, _, _, _, _, _ => none
  | k + 1, x1, x11, x16, x238000, x238001 => (grottoref02_power.f k x238000).bind fun t264 => (if x16 < t264 then ((grottoref02_Whole.f k x238000 x238001 x1 0 x16).bind fun t265 => (some t265)) else ((grottoref02_Least.f k x238000 x238001).bind fun t266 => ((grottoref02_power.f k x238001).bind fun t267 => (if (wrap64 ((wrap64 (x11 - t266)) + 1)) ≥ (wrap64 ((wrap64 (t267)) - 1)) then ((grottoref02_Inf.f k x238000 x238001 x1).bind fun t268 => (some t268)) else ((grottoref02_power.f k x238000).bind fun t269 => ((grottoref02_Whole.f k x238000 x238001 x1 (IntKind.u64.wrap (wrap64 ((wrap64 (x11 - t266)) + 1))) (IntKind.u64.wrap (x16 - t269))).bind fun t270 => (some t270)))))))
end
def grottoref02_Near.f (k : Nat) (a0_0 : Int) (a0_1 : Int) (a1 : Bool) (l2 : List Int) (l3 : List Int) (a4 : Int) : Option (Int) := (grottoref02_trim.f k l2).bind fun t238 => (if (t238.length : Int) = 0 then ((grottoref02_Zero.f k a0_0 a0_1 a1).bind fun t241 => (some t241)) else ((grottoref02_Bits.f k l2).bind fun t242 => ((grottoref02_Bits.f k l3).bind fun t243 => ((grottoref02_Least.f k a0_0 a0_1).bind fun t244 => (grottoref02_Near.l0 k a1 l2 l3 a4 (mx (wrap64 ((wrap64 ((wrap64 ((wrap64 (t242 - t243)) + a4)) - a0_0)) - 1)) t244) a0_0 a0_1)))))
theorem grottoref02_Near.mono_l : ∀ k, (∀ y0 y1 y2 y3 y4 y5 y6, LeO (grottoref02_Near.l0 k y0 y1 y2 y3 y4 y5 y6) (grottoref02_Near.l0 (k + 1) y0 y1 y2 y3 y4 y5 y6)) ∧ (∀ y0 y1 y2 y3 y4 y5 y6 y7 y8, LeO (grottoref02_Near.j1 k y0 y1 y2 y3 y4 y5 y6 y7 y8) (grottoref02_Near.j1 (k + 1) y0 y1 y2 y3 y4 y5 y6 y7 y8)) ∧ (∀ y0 y1 y2 y3 y4 y5, LeO (grottoref02_Near.j2 k y0 y1 y2 y3 y4 y5) (grottoref02_Near.j2 (k + 1) y0 y1 y2 y3 y4 y5)) ∧ (∀ y0 y1 y2 y3 y4, LeO (grottoref02_Near.j3 k y0 y1 y2 y3 y4) (grottoref02_Near.j3 (k + 1) y0 y1 y2 y3 y4)) ∧ (∀ y0 y1 y2 y3 y4, LeO (grottoref02_Near.j4 k y0 y1 y2 y3 y4) (grottoref02_Near.j4 (k + 1) y0 y1 y2 y3 y4))
  | 0 => ⟨fun _ _ _ _ _ _ _ r h => by simp [grottoref02_Near.l0] at h, fun _ _ _ _ _ _ _ _ _ r h => by simp [grottoref02_Near.j1] at h, fun _ _ _ _ _ _ r h => by simp [grottoref02_Near.j2] at h, fun _ _ _ _ _ r h => by simp [grottoref02_Near.j3] at h, fun _ _ _ _ _ r h => by simp [grottoref02_Near.j4] at h⟩
  | k + 1 => by
    obtain ⟨ih0, ih1, ih2, ih3, ih4⟩ := grottoref02_Near.mono_l k
    refine ⟨?_, ?_, ?_, ?_, ?_⟩
    · intro y0 y1 y2 y3 y4 y5 y6
      unfold grottoref02_Near.l0
      repeat' first
      | (with_reducible exact ih0 _ _ _ _ _ _ _)
      | (with_reducible exact ih1 _ _ _ _ _ _ _ _ _)
      | (with_reducible exact ih2 _ _ _ _ _ _)
      | (with_reducible exact ih3 _ _ _ _ _)
      | (with_reducible exact ih4 _ _ _ _ _)
      | (with_reducible exact grottoref02_Bits.mono _ _)
      | (with_reducible exact grottoref02_Cmp.mono _ _ _)
      | (with_reducible exact grottoref02_Inf.mono _ _ _ _)
      | (with_reducible exact grottoref02_Least.mono _ _ _)
      | (with_reducible exact grottoref02_Quo.mono _ _ _)
      | (with_reducible exact grottoref02_Small.mono _ _)
      | (with_reducible exact grottoref02_Up.mono _ _ _)
      | (with_reducible exact grottoref02_Whole.mono _ _ _ _ _ _)
      | (with_reducible exact grottoref02_Zero.mono _ _ _ _)
      | (with_reducible exact grottoref02_power.mono _ _)
      | (with_reducible exact grottoref02_trim.mono _ _)
      | (with_reducible exact LeO.refl _)
      | (with_reducible exact LeO.none _)
      | (with_reducible refine LeO.ite ?_ ?_)
      | (with_reducible refine LeO.bind ?_ (fun _ => ?_))
      | exact ih0 _ _ _ _ _ _ _
      | exact ih1 _ _ _ _ _ _ _ _ _
      | exact ih2 _ _ _ _ _ _
      | exact ih3 _ _ _ _ _
      | exact ih4 _ _ _ _ _
      | exact grottoref02_Bits.mono _ _
      | exact grottoref02_Cmp.mono _ _ _
      | exact grottoref02_Inf.mono _ _ _ _
      | exact grottoref02_Least.mono _ _ _
      | exact grottoref02_Quo.mono _ _ _
      | exact grottoref02_Small.mono _ _
      | exact grottoref02_Up.mono _ _ _
      | exact grottoref02_Whole.mono _ _ _ _ _ _
      | exact grottoref02_Zero.mono _ _ _ _
      | exact grottoref02_power.mono _ _
      | exact grottoref02_trim.mono _ _
      | exact LeO.none _
      | refine LeO.ite ?_ ?_
      | refine LeO.bind ?_ (fun _ => ?_)
    · intro y0 y1 y2 y3 y4 y5 y6 y7 y8
      unfold grottoref02_Near.j1
      repeat' first
      | (with_reducible exact ih0 _ _ _ _ _ _ _)
      | (with_reducible exact ih1 _ _ _ _ _ _ _ _ _)
      | (with_reducible exact ih2 _ _ _ _ _ _)
      | (with_reducible exact ih3 _ _ _ _ _)
      | (with_reducible exact ih4 _ _ _ _ _)
      | (with_reducible exact grottoref02_Bits.mono _ _)
      | (with_reducible exact grottoref02_Cmp.mono _ _ _)
      | (with_reducible exact grottoref02_Inf.mono _ _ _ _)
      | (with_reducible exact grottoref02_Least.mono _ _ _)
      | (with_reducible exact grottoref02_Quo.mono _ _ _)
      | (with_reducible exact grottoref02_Small.mono _ _)
      | (with_reducible exact grottoref02_Up.mono _ _ _)
      | (with_reducible exact grottoref02_Whole.mono _ _ _ _ _ _)
      | (with_reducible exact grottoref02_Zero.mono _ _ _ _)
      | (with_reducible exact grottoref02_power.mono _ _)
      | (with_reducible exact grottoref02_trim.mono _ _)
      | (with_reducible exact LeO.refl _)
      | (with_reducible exact LeO.none _)
      | (with_reducible refine LeO.ite ?_ ?_)
      | (with_reducible refine LeO.bind ?_ (fun _ => ?_))
      | exact ih0 _ _ _ _ _ _ _
      | exact ih1 _ _ _ _ _ _ _ _ _
      | exact ih2 _ _ _ _ _ _
      | exact ih3 _ _ _ _ _
      | exact ih4 _ _ _ _ _
      | exact grottoref02_Bits.mono _ _
      | exact grottoref02_Cmp.mono _ _ _
      | exact grottoref02_Inf.mono _ _ _ _
      | exact grottoref02_Least.mono _ _ _
      | exact grottoref02_Quo.mono _ _ _
      | exact grottoref02_Small.mono _ _
      | exact grottoref02_Up.mono _ _ _
      | exact grottoref02_Whole.mono _ _ _ _ _ _
      | exact grottoref02_Zero.mono _ _ _ _
      | exact grottoref02_power.mono _ _
      | exact grottoref02_trim.mono _ _
      | exact LeO.none _
      | refine LeO.ite ?_ ?_
      | refine LeO.bind ?_ (fun _ => ?_)
    · intro y0 y1 y2 y3 y4 y5
      unfold grottoref02_Near.j2
      repeat' first
      | (with_reducible exact ih0 _ _ _ _ _ _ _)
      | (with_reducible exact ih1 _ _ _ _ _ _ _ _ _)
      | (with_reducible exact ih2 _ _ _ _ _ _)
      | (with_reducible exact ih3 _ _ _ _ _)
      | (with_reducible exact ih4 _ _ _ _ _)
      | (with_reducible exact grottoref02_Bits.mono _ _)
      | (with_reducible exact grottoref02_Cmp.mono _ _ _)
      | (with_reducible exact grottoref02_Inf.mono _ _ _ _)
      | (with_reducible exact grottoref02_Least.mono _ _ _)
      | (with_reducible exact grottoref02_Quo.mono _ _ _)
      | (with_reducible exact grottoref02_Small.mono _ _)
      | (with_reducible exact grottoref02_Up.mono _ _ _)
      | (with_reducible exact grottoref02_Whole.mono _ _ _ _ _ _)
      | (with_reducible exact grottoref02_Zero.mono _ _ _ _)
      | (with_reducible exact grottoref02_power.mono _ _)
      | (with_reducible exact grottoref02_trim.mono _ _)
      | (with_reducible exact LeO.refl _)
      | (with_reducible exact LeO.none _)
      | (with_reducible refine LeO.ite ?_ ?_)
      | (with_reducible refine LeO.bind ?_ (fun _ => ?_))
      | exact ih0 _ _ _ _ _ _ _
      | exact ih1 _ _ _ _ _ _ _ _ _
      | exact ih2 _ _ _ _ _ _
      | exact ih3 _ _ _ _ _
      | exact ih4 _ _ _ _ _
      | exact grottoref02_Bits.mono _ _
      | exact grottoref02_Cmp.mono _ _ _
      | exact grottoref02_Inf.mono _ _ _ _
      | exact grottoref02_Least.mono _ _ _
      | exact grottoref02_Quo.mono _ _ _
      | exact grottoref02_Small.mono _ _
      | exact grottoref02_Up.mono _ _ _
      | exact grottoref02_Whole.mono _ _ _ _ _ _
      | exact grottoref02_Zero.mono _ _ _ _
      | exact grottoref02_power.mono _ _
      | exact grottoref02_trim.mono _ _
      | exact LeO.none _
      | refine LeO.ite ?_ ?_
      | refine LeO.bind ?_ (fun _ => ?_)
    · intro y0 y1 y2 y3 y4
      unfold grottoref02_Near.j3
      repeat' first
      | (with_reducible exact ih0 _ _ _ _ _ _ _)
      | (with_reducible exact ih1 _ _ _ _ _ _ _ _ _)
      | (with_reducible exact ih2 _ _ _ _ _ _)
      | (with_reducible exact ih3 _ _ _ _ _)
      | (with_reducible exact ih4 _ _ _ _ _)
      | (with_reducible exact grottoref02_Bits.mono _ _)
      | (with_reducible exact grottoref02_Cmp.mono _ _ _)
      | (with_reducible exact grottoref02_Inf.mono _ _ _ _)
      | (with_reducible exact grottoref02_Least.mono _ _ _)
      | (with_reducible exact grottoref02_Quo.mono _ _ _)
      | (with_reducible exact grottoref02_Small.mono _ _)
      | (with_reducible exact grottoref02_Up.mono _ _ _)
      | (with_reducible exact grottoref02_Whole.mono _ _ _ _ _ _)
      | (with_reducible exact grottoref02_Zero.mono _ _ _ _)
      | (with_reducible exact grottoref02_power.mono _ _)
      | (with_reducible exact grottoref02_trim.mono _ _)
      | (with_reducible exact LeO.refl _)
      | (with_reducible exact LeO.none _)
      | (with_reducible refine LeO.ite ?_ ?_)
      | (with_reducible refine LeO.bind ?_ (fun _ => ?_))
      | exact ih0 _ _ _ _ _ _ _
      | exact ih1 _ _ _ _ _ _ _ _ _
      | exact ih2 _ _ _ _ _ _
      | exact ih3 _ _ _ _ _
      | exact ih4 _ _ _ _ _
      | exact grottoref02_Bits.mono _ _
      | exact grottoref02_Cmp.mono _ _ _
      | exact grottoref02_Inf.mono _ _ _ _
      | exact grottoref02_Least.mono _ _ _
      | exact grottoref02_Quo.mono _ _ _
      | exact grottoref02_Small.mono _ _
      | exact grottoref02_Up.mono _ _ _
      | exact grottoref02_Whole.mono _ _ _ _ _ _
      | exact grottoref02_Zero.mono _ _ _ _
      | exact grottoref02_power.mono _ _
      | exact grottoref02_trim.mono _ _
      | exact LeO.none _
      | refine LeO.ite ?_ ?_
      | refine LeO.bind ?_ (fun _ => ?_)
    · intro y0 y1 y2 y3 y4
      unfold grottoref02_Near.j4
      repeat' first
      | (with_reducible exact ih0 _ _ _ _ _ _ _)
      | (with_reducible exact ih1 _ _ _ _ _ _ _ _ _)
      | (with_reducible exact ih2 _ _ _ _ _ _)
      | (with_reducible exact ih3 _ _ _ _ _)
      | (with_reducible exact ih4 _ _ _ _ _)
      | (with_reducible exact grottoref02_Bits.mono _ _)
      | (with_reducible exact grottoref02_Cmp.mono _ _ _)
      | (with_reducible exact grottoref02_Inf.mono _ _ _ _)
      | (with_reducible exact grottoref02_Least.mono _ _ _)
      | (with_reducible exact grottoref02_Quo.mono _ _ _)
      | (with_reducible exact grottoref02_Small.mono _ _)
      | (with_reducible exact grottoref02_Up.mono _ _ _)
      | (with_reducible exact grottoref02_Whole.mono _ _ _ _ _ _)
      | (with_reducible exact grottoref02_Zero.mono _ _ _ _)
      | (with_reducible exact grottoref02_power.mono _ _)
      | (with_reducible exact grottoref02_trim.mono _ _)
      | (with_reducible exact LeO.refl _)
      | (with_reducible exact LeO.none _)
      | (with_reducible refine LeO.ite ?_ ?_)
      | (with_reducible refine LeO.bind ?_ (fun _ => ?_))
      | exact ih0 _ _ _ _ _ _ _
      | exact ih1 _ _ _ _ _ _ _ _ _
      | exact ih2 _ _ _ _ _ _
      | exact ih3 _ _ _ _ _
      | exact ih4 _ _ _ _ _
      | exact grottoref02_Bits.mono _ _
      | exact grottoref02_Cmp.mono _ _ _
      | exact grottoref02_Inf.mono _ _ _ _
      | exact grottoref02_Least.mono _ _ _
      | exact grottoref02_Quo.mono _ _ _
      | exact grottoref02_Small.mono _ _
      | exact grottoref02_Up.mono _ _ _
      | exact grottoref02_Whole.mono _ _ _ _ _ _
      | exact grottoref02_Zero.mono _ _ _ _
      | exact grottoref02_power.mono _ _
      | exact grottoref02_trim.mono _ _
      | exact LeO.none _
      | refine LeO.ite ?_ ?_
      | refine LeO.bind ?_ (fun _ => ?_)
theorem grottoref02_Near.mono : ∀ a0 a1 a2 a3 a4 a5 k, LeO (grottoref02_Near.f k a0 a1 a2 a3 a4 a5) (grottoref02_Near.f (k + 1) a0 a1 a2 a3 a4 a5) := by
  intro a0 a1 a2 a3 a4 a5 k
  obtain ⟨ih0, ih1, ih2, ih3, ih4⟩ := grottoref02_Near.mono_l k
  unfold grottoref02_Near.f
  repeat' first
      | (with_reducible exact ih0 _ _ _ _ _ _ _)
      | (with_reducible exact ih1 _ _ _ _ _ _ _ _ _)
      | (with_reducible exact ih2 _ _ _ _ _ _)
      | (with_reducible exact ih3 _ _ _ _ _)
      | (with_reducible exact ih4 _ _ _ _ _)
      | (with_reducible exact grottoref02_Bits.mono _ _)
      | (with_reducible exact grottoref02_Cmp.mono _ _ _)
      | (with_reducible exact grottoref02_Inf.mono _ _ _ _)
      | (with_reducible exact grottoref02_Least.mono _ _ _)
      | (with_reducible exact grottoref02_Quo.mono _ _ _)
      | (with_reducible exact grottoref02_Small.mono _ _)
      | (with_reducible exact grottoref02_Up.mono _ _ _)
      | (with_reducible exact grottoref02_Whole.mono _ _ _ _ _ _)
      | (with_reducible exact grottoref02_Zero.mono _ _ _ _)
      | (with_reducible exact grottoref02_power.mono _ _)
      | (with_reducible exact grottoref02_trim.mono _ _)
      | (with_reducible exact LeO.refl _)
      | (with_reducible exact LeO.none _)
      | (with_reducible refine LeO.ite ?_ ?_)
      | (with_reducible refine LeO.bind ?_ (fun _ => ?_))
      | exact ih0 _ _ _ _ _ _ _
      | exact ih1 _ _ _ _ _ _ _ _ _
      | exact ih2 _ _ _ _ _ _
      | exact ih3 _ _ _ _ _
      | exact ih4 _ _ _ _ _
      | exact grottoref02_Bits.mono _ _
      | exact grottoref02_Cmp.mono _ _ _
      | exact grottoref02_Inf.mono _ _ _ _
      | exact grottoref02_Least.mono _ _ _
      | exact grottoref02_Quo.mono _ _ _
      | exact grottoref02_Small.mono _ _
      | exact grottoref02_Up.mono _ _ _
      | exact grottoref02_Whole.mono _ _ _ _ _ _
      | exact grottoref02_Zero.mono _ _ _ _
      | exact grottoref02_power.mono _ _
      | exact grottoref02_trim.mono _ _
      | exact LeO.none _
      | refine LeO.ite ?_ ?_
      | refine LeO.bind ?_ (fun _ => ?_)
def grottoref02_Near.T3 : Bool × List (List Nat × List Nat) := (true, [([], []), ([0], [0]), ([], []), ([2, 1], [2]), ([1, 3], [1, 3]), ([], []), ([4, 5], [4, 5]), ([], []), ([7], [7]), ([6, 8], [6, 8]), ([9], [9]), ([], []), ([11, 3], [11]), ([10, 12], [10, 12]), ([13, 12, 0, 1, 2, 3, 4, 5, 6, 7, 8, 9, 10, 11, 12, 13], [13])])
def grottoref02_Near.B3 : List Nat := [0, 1, 0, 7, 15, 0, 63, 0, 128, 511, 1023, 0, 2063, 8191, 16383]
theorem grottoref02_Near.tab3 : rtab .any (opsOf Try.f34 3) = grottoref02_Near.T3 := by kernel_rfl
theorem grottoref02_Near.bits3 : waitsOk grottoref02_Near.T3.2 grottoref02_Near.B3 = true := by kernel_rfl
def grottoref02_Near.T25 : Bool × List (List Nat × List Nat) := (true, [([], []), ([], []), ([], []), ([2], [2]), ([], []), ([], []), ([5], [5]), ([6], [6]), ([4, 7], [4, 7]), ([0, 1, 3, 8, 7], [0, 1, 3, 8]), ([9, 9, 0, 1, 2, 3, 4, 5, 6, 7, 8, 9], [9])])
def grottoref02_Near.B25 : List Nat := [0, 0, 0, 4, 0, 0, 32, 96, 240, 511, 1023]
theorem grottoref02_Near.tab25 : rtab .any (opsOf Try.f34 25) = grottoref02_Near.T25 := by kernel_rfl
theorem grottoref02_Near.bits25 : waitsOk grottoref02_Near.T25.2 grottoref02_Near.B25 = true := by kernel_rfl
set_option maxHeartbeats 8000000 in
set_option maxRecDepth 100000 in
theorem grottoref02_Near.calls (k : Nat) (a0_0 : Int) (a0_1 : Int) (a1 : Bool) (P2_ : Nat → Prop) (A2 : Option Addr) (c2 : Nat) (l2 : List Int) (P3_ : Nat → Prop) (A3 : Option Addr) (c3 : Nat) (l3 : List Int) (a4 : Int) (r : Int) (w : World) (hs2 : Kd.V (Kd.int .i64) 3 w w.heap.size (fun k_ => P2_ k_) (.slice A2 l2.length c2) l2) (hs3 : Kd.V (Kd.int .i64) 3 w w.heap.size (fun k_ => P3_ k_) (.slice A3 l3.length c3) l3) (h : grottoref02_Near.f k a0_0 a0_1 a1 l2 l3 a4 = some r) :
    Calls Try.prog 34 #[.agg #[.int .i64 a0_0, .int .i64 a0_1], .bool a1, .slice A2 l2.length c2, .slice A3 l3.length c3, .int .i64 a4] w fun e w' => e = .returned (.int .u64 r) ∧ Below w.heap.size w w' := by
  have hu23 := Try.underlying23
  have HO2 := Aside0.mk (show Kd.V (Kd.int .i64) 3 w w.heap.size (fun k_ => ((P2_ k_ ∨ P3_ k_) ∨ w.heap.size ≤ k_)) (.slice A2 l2.length c2) l2 from Kd.V_mono hs2 (fun k_ hk => .inl (.inl hk)))
  have HO3 := Aside0.mk (show Kd.V (Kd.int .i64) 3 w w.heap.size (fun k_ => ((P2_ k_ ∨ P3_ k_) ∨ w.heap.size ≤ k_)) (.slice A3 l3.length c3) l3 from Kd.V_mono hs3 (fun k_ hk => .inl (.inr hk)))
  have HB := Aside0.mk (Below.refl w.heap.size w)
  have H : ((grottoref02_trim.f k l2).bind fun t238 => (if (t238.length : Int) = 0 then ((grottoref02_Zero.f k a0_0 a0_1 a1).bind fun t241 => (some t241)) else ((grottoref02_Bits.f k l2).bind fun t242 => ((grottoref02_Bits.f k l3).bind fun t243 => ((grottoref02_Least.f k a0_0 a0_1).bind fun t244 => (grottoref02_Near.l0 k a1 l2 l3 a4 (mx (wrap64 ((wrap64 ((wrap64 ((wrap64 (t242 - t243)) + a4)) - a0_0)) - 1)) t244) a0_0 a0_1)))))) = some r := h
  clear h
  replace H := Option.bind_eq_some_iff.mp H
  obtain ⟨t238, A60, H⟩ := H
  replace H : (if (t238.length : Int) = 0 then ((grottoref02_Zero.f k a0_0 a0_1 a1).bind fun t241 => (some t241)) else ((grottoref02_Bits.f k l2).bind fun t242 => ((grottoref02_Bits.f k l3).bind fun t243 => ((grottoref02_Least.f k a0_0 a0_1).bind fun t244 => (grottoref02_Near.l0 k a1 l2 l3 a4 (mx (wrap64 ((wrap64 ((wrap64 ((wrap64 (t242 - t243)) + a4)) - a0_0)) - 1)) t244) a0_0 a0_1))))) = some r := H
  have A6 := Aside0.mk A60
  clear A60
  by_cases c7 : (t238.length : Int) = 0
  · rw [if_pos c7] at H
    have c7b0 : ((t238.length : Int) == 0) = true := beq_iff_eq.mpr c7
    have c7b1 : ((t238.length : Int) != 0) = false := bne_eq_false_iff_eq.mpr c7
    clear c7
    replace H := Option.bind_eq_some_iff.mp H
    obtain ⟨t241, A80, H⟩ := H
    replace H : (some t241) = some r := H
    have A8 := Aside0.mk A80
    clear A80
    obtain rfl := Option.some.inj H
    go_enter Try.func34, Try.ntmps34
    go_wp2_with (first | ((with_reducible refine gate_dst (N := 5) rfl ?_); refine zbox (N := 5) (cs := #[.int .i64 a0_0, .int .i64 a0_1]) (t := 23) ?_; intro gb237 hg w9 hbox hb; have BK237 := Aside0.mk hbox; have GW237 := zge hg HB; have GE237 := zge hg HB; replace HO2 := Aside0.mk (Kd.V_below (Kd.V_elderB (by (with_reducible repeat (first | apply Kd.V_alloc | apply Kd.V_drewN | apply Kd.V_drew)); exact HO2.out) gb237 (Nat.le_of_eq hg.symm)) hb); replace HO3 := Aside0.mk (Kd.V_below (Kd.V_elderB (by (with_reducible repeat (first | apply Kd.V_alloc | apply Kd.V_drewN | apply Kd.V_drew)); exact HO3.out) gb237 (Nat.le_of_eq hg.symm)) hb); replace HB := zbs HB hb; clear hb hbox hg) | ((with_reducible refine gate_callee (f := 42) rfl ?_); refine zgo (some 20) Try.func42 #[.slice A2 l2.length c2] ?_; (with_reducible refine (grottoref02_trim.calls k (fun k_ => (((P2_ k_ ∨ P3_ k_) ∨ w.heap.size ≤ k_) ∧ k_ ≠ gb237)) _ _ l2 t238 _ ?side1 A6.out).mono ?_); (case side1 => exact HO2.out); rintro e w10 ⟨v239, rfl, ho0, hb⟩; refine ⟨_, rfl, ?_⟩; have HO240 := Aside0.mk (Kd.V_lower (Kd.V_mono (ok' := fun k_ => ((P2_ k_ ∨ P3_ k_) ∨ w.heap.size ≤ k_) ∧ k_ ≠ gb237) ho0 (fun k_ hk_ => ⟨Or.elim hk_ (fun hs_ => hs_.1) (fun hn_ => (.inr (Nat.le_trans (below_size (zb HB)) hn_))), Or.elim hk_ (fun hs_ => hs_.2) (fun hn_ => (Kd.freshB (g := gb237) (o := .cells #[.int .i64 a0_0, .int .i64 a0_1] 23 (0, 0)) (zk BK237) k_ hn_))⟩)) (below_size (zb HB))); replace HO2 := Aside0.mk (Kd.V_below (by (with_reducible repeat (first | apply Kd.V_alloc | apply Kd.V_drewN | apply Kd.V_drew)); exact HO2.out) hb); replace HO3 := Aside0.mk (Kd.V_below (by (with_reducible repeat (first | apply Kd.V_alloc | apply Kd.V_drewN | apply Kd.V_drew)); exact HO3.out) hb); replace BK237 := zkb BK237 hb; replace HB := zbs HB hb; (try clear hb); (try clear hb2); (try clear hk); (try clear hi); (try clear ho0); obtain ⟨Ao11, co11, eo11⟩ := Kd.V_slice HO240.out; subst eo11; obtain ⟨hcz12_0, hcz12_1, hfz12_0, hfz12_1⟩ := zc2 BK237) | ((with_reducible refine gate_callee (f := 25) rfl ?_); refine zgo (some 25) Try.func25 #[.agg #[.int .i64 a0_0, .int .i64 a0_1], .bool a1] ?_; (with_reducible refine (grottoref02_Zero.calls k a0_0 a0_1 a1 t241 _ A8.out).mono ?_); rintro e w13 ⟨rfl, hb⟩; refine ⟨_, rfl, ?_⟩; replace HO2 := Aside0.mk (Kd.V_below (by (with_reducible repeat (first | apply Kd.V_alloc | apply Kd.V_drewN | apply Kd.V_drew)); exact HO2.out) hb); replace HO3 := Aside0.mk (Kd.V_below (by (with_reducible repeat (first | apply Kd.V_alloc | apply Kd.V_drewN | apply Kd.V_drew)); exact HO3.out) hb); replace HO240 := Aside0.mk (Kd.V_below (by (with_reducible repeat (first | apply Kd.V_alloc | apply Kd.V_drewN | apply Kd.V_drew)); exact HO240.out) hb); replace BK237 := zkb BK237 hb; replace HB := zbs HB hb; (try clear hb); (try clear hb2); (try clear hk); (try clear hi)))
    go_ret
    exact ⟨by first | rfl | (simp [errW_none, errW_some] <;> rfl) | (simp [*, errW_none, errW_some] <;> rfl), zb HB⟩
  · rw [if_neg c7] at H
    have c7b0 : ((t238.length : Int) == 0) = false := beq_eq_false_iff_ne.mpr c7
    have c7b1 : ((t238.length : Int) != 0) = true := bne_iff_ne.mpr c7
    have c7b2 : ¬ (t238 = []) := fun h_ => c7 (by rw [h_]; rfl)
    replace H := Option.bind_eq_some_iff.mp H
    obtain ⟨t242, A140, H⟩ := H
    replace H : ((grottoref02_Bits.f k l3).bind fun t243 => ((grottoref02_Least.f k a0_0 a0_1).bind fun t244 => (grottoref02_Near.l0 k a1 l2 l3 a4 (mx (wrap64 ((wrap64 ((wrap64 ((wrap64 (t242 - t243)) + a4)) - a0_0)) - 1)) t244) a0_0 a0_1))) = some r := H
    have A14 := Aside0.mk A140
    clear A140
    replace H := Option.bind_eq_some_iff.mp H
    obtain ⟨t243, A150, H⟩ := H
    replace H : ((grottoref02_Least.f k a0_0 a0_1).bind fun t244 => (grottoref02_Near.l0 k a1 l2 l3 a4 (mx (wrap64 ((wrap64 ((wrap64 ((wrap64 (t242 - t243)) + a4)) - a0_0)) - 1)) t244) a0_0 a0_1)) = some r := H
    have A15 := Aside0.mk A150
    clear A150
    replace H := Option.bind_eq_some_iff.mp H
    obtain ⟨t244, A160, H⟩ := H
    replace H : (grottoref02_Near.l0 k a1 l2 l3 a4 (mx (wrap64 ((wrap64 ((wrap64 ((wrap64 (t242 - t243)) + a4)) - a0_0)) - 1)) t244) a0_0 a0_1) = some r := H
    have A16 := Aside0.mk A160
    clear A160
    obtain ⟨ji17, hji17⟩ : ∃ j_ : Int, (mx (wrap64 ((wrap64 ((wrap64 ((wrap64 (t242 - t243)) + a4)) - a0_0)) - 1)) t244) = j_ := ⟨_, rfl⟩
    replace H : (grottoref02_Near.l0 k a1 l2 l3 a4 ji17 a0_0 a0_1) = some r := by first | (rw [hji17] at H; exact H) | (simp only [hji17] at H ⊢; exact H)
    (try rw [hji17] at A6)
    (try rw [hji17] at A14)
    (try rw [hji17] at A15)
    (try rw [hji17] at A16)
    have hji17_ : (if (wrap64 ((wrap64 ((wrap64 ((wrap64 (t242 - t243)) + a4)) - a0_0)) - 1)) < t244 then t244 else (wrap64 ((wrap64 ((wrap64 ((wrap64 (t242 - t243)) + a4)) - a0_0)) - 1))) = ji17 := hji17
    have H' := Aside0.mk H
    clear H
    go_enter Try.func34, Try.ntmps34
    try go_wp2_with (first | ((with_reducible refine gate_dst (N := 5) rfl ?_); refine zbox (N := 5) (cs := #[.int .i64 a0_0, .int .i64 a0_1]) (t := 23) ?_; intro gb237 hg w18 hbox hb; have BK237 := Aside0.mk hbox; have GW237 := zge hg HB; have GE237 := zge hg HB; replace HO2 := Aside0.mk (Kd.V_below (Kd.V_elderB (by (with_reducible repeat (first | apply Kd.V_alloc | apply Kd.V_drewN | apply Kd.V_drew)); exact HO2.out) gb237 (Nat.le_of_eq hg.symm)) hb); replace HO3 := Aside0.mk (Kd.V_below (Kd.V_elderB (by (with_reducible repeat (first | apply Kd.V_alloc | apply Kd.V_drewN | apply Kd.V_drew)); exact HO3.out) gb237 (Nat.le_of_eq hg.symm)) hb); replace HB := zbs HB hb; clear hb hbox hg) | ((with_reducible refine gate_callee (f := 42) rfl ?_); refine zgo (some 20) Try.func42 #[.slice A2 l2.length c2] ?_; (with_reducible refine (grottoref02_trim.calls k (fun k_ => (((P2_ k_ ∨ P3_ k_) ∨ w.heap.size ≤ k_) ∧ k_ ≠ gb237)) _ _ l2 t238 _ ?side1 A6.out).mono ?_); (case side1 => exact HO2.out); rintro e w19 ⟨v239, rfl, ho0, hb⟩; refine ⟨_, rfl, ?_⟩; have HO240 := Aside0.mk (Kd.V_lower (Kd.V_mono (ok' := fun k_ => ((P2_ k_ ∨ P3_ k_) ∨ w.heap.size ≤ k_) ∧ k_ ≠ gb237) ho0 (fun k_ hk_ => ⟨Or.elim hk_ (fun hs_ => hs_.1) (fun hn_ => (.inr (Nat.le_trans (below_size (zb HB)) hn_))), Or.elim hk_ (fun hs_ => hs_.2) (fun hn_ => (Kd.freshB (g := gb237) (o := .cells #[.int .i64 a0_0, .int .i64 a0_1] 23 (0, 0)) (zk BK237) k_ hn_))⟩)) (below_size (zb HB))); replace HO2 := Aside0.mk (Kd.V_below (by (with_reducible repeat (first | apply Kd.V_alloc | apply Kd.V_drewN | apply Kd.V_drew)); exact HO2.out) hb); replace HO3 := Aside0.mk (Kd.V_below (by (with_reducible repeat (first | apply Kd.V_alloc | apply Kd.V_drewN | apply Kd.V_drew)); exact HO3.out) hb); replace BK237 := zkb BK237 hb; replace HB := zbs HB hb; (try clear hb); (try clear hb2); (try clear hk); (try clear hi); (try clear ho0); obtain ⟨Ao20, co20, eo20⟩ := Kd.V_slice HO240.out; subst eo20))
    replace HO2 := Aside0.mk (Kd.V_drew HO2.out)
    replace HO3 := Aside0.mk (Kd.V_drew HO3.out)
    replace HO240 := Aside0.mk (Kd.V_drew HO240.out)
    replace BK237 := Aside0.mk (blk_drew BK237.out)
    replace HB := Aside0.mk (below_drew1 HB.out)
    refine start_ (n := 15) (S := fun w' => w'.cell? ⟨gb237, 0, none⟩ = some (.int .i64 a0_0) ∧ w'.cell? ⟨gb237, 1, none⟩ = some (.int .i64 a0_1)) (ds := []) #[false, false, false, false, false, false, false, false, false, false, false, false, false, false, false] (by kernel_rfl) rfl rfl ⟨(blk_cell BK237.out 0).trans rfl, (blk_cell BK237.out 1).trans rfl⟩ (fun hHeld => ?_); refine with_tabW grottoref02_Near.tab3 grottoref02_Near.bits3 (fun HT_ HW_ => ?_)
    generalize w19.drew = w21 at HO2 HO3 HO240 BK237 HB hHeld ⊢
    refine zpure_ (i := 0) (N := some 26) #[true, false, false, false, false, false, false, false, false, false, false, false, false, false, false] (any_of HT_.out (by kernel_rfl)) ?_
    refine zpure_ (i := 2) (N := some 28) #[true, false, true, false, false, false, false, false, false, false, false, false, false, false, false] (any_of HT_.out (by kernel_rfl)) ?_
    refine zpure_ (i := 5) (N := some 31) #[true, false, true, false, false, true, false, false, false, false, false, false, false, false, false] (any_of HT_.out (by kernel_rfl)) ?_
    refine zpure_ (i := 7) (N := some 33) #[true, false, true, false, false, true, false, true, false, false, false, false, false, false, false] (any_of HT_.out (by kernel_rfl)) ?_
    refine ztake_ (i := 8) (N := some 34) #[true, false, true, false, false, true, false, true, true, false, false, false, false, false, false] rfl (take_ofW HT_.out HW_.out (by kernel_rfl)) hHeld (Or.inl ⟨by rfl, by rintro w' ⟨s0, s1⟩; go_simp; with_reducible rfl⟩) ?_
    refine ztake_ (i := 11) (N := some 37) #[true, false, true, false, false, true, false, true, true, false, false, true, false, false, false] rfl (take_ofW HT_.out HW_.out (by kernel_rfl)) hHeld (Or.inl ⟨by rfl, by rintro w' ⟨s0, s1⟩; go_simp; with_reducible rfl⟩) ?_
    refine one_ (i := 1) (N := some 27) #[true, true, true, false, false, true, false, true, true, false, false, true, false, false, false] rfl rfl (one_of HT_.out (by kernel_rfl)) (by decide) (fun K hK => ?_)
    refine goes_ Try.func33 (by kernel_rfl) rfl #[.slice A2 l2.length c2] (by rfl) rfl rfl (by (try simp only [List.map_toArray, List.map_cons, List.map_nil]); first | done | rfl | (simp only [List.length_drop, List.length_take]; rfl)) ?_
    with_reducible refine (grottoref02_Bits.calls k _ _ l2 t242 _ ?side1 ?side2 A14.out).mono ?_
    (case side1 => repeat (first | exact (Kd.V_reads' HO2.out).2.2 | (with_reducible refine Kd.C_alloc ?_ _) | (with_reducible refine Kd.C_drewN ?_ _) | (with_reducible refine Kd.C_drew ?_)))
    (case side2 => exact (Kd.V_reads' HO2.out).2.1)
    rintro e w22 ⟨rfl, hb⟩
    refine ⟨_, rfl, ?_⟩
    replace HO2 := Aside0.mk (Kd.V_below (by (with_reducible repeat (first | apply Kd.V_alloc | apply Kd.V_drewN | apply Kd.V_drew)); exact HO2.out) hb)
    replace HO3 := Aside0.mk (Kd.V_below (by (with_reducible repeat (first | apply Kd.V_alloc | apply Kd.V_drewN | apply Kd.V_drew)); exact HO3.out) hb)
    replace HO240 := Aside0.mk (Kd.V_below (by (with_reducible repeat (first | apply Kd.V_alloc | apply Kd.V_drewN | apply Kd.V_drew)); exact HO240.out) hb)
    replace BK237 := zkb BK237 hb
    replace HB := zbs HB hb
    (try clear hb)
    (try clear hb2)
    (try clear hk)
    (try clear hi)
    refine hK.out _ _ ⟨(blk_cell BK237.out 0).trans rfl, (blk_cell BK237.out 1).trans rfl⟩ (fun hHeld => ?_)
    clear hK K
    refine norm_ (a' := ?_) ?_ ?_
    rotate_left
    · show Act.put _ (some 27) _ = _
      simp only [Act.put, List.setIfInBounds_toArray, List.set_cons_zero, List.set_cons_succ, i64_w, i32_w]
      rfl
    refine one_ (i := 3) (N := some 29) #[true, true, true, true, false, true, false, true, true, false, false, true, false, false, false] rfl rfl (one_of HT_.out (by kernel_rfl)) (by decide) (fun K hK => ?_)
    refine goes_ Try.func33 (by kernel_rfl) rfl #[.slice A3 l3.length c3] (by rfl) rfl rfl (by (try simp only [List.map_toArray, List.map_cons, List.map_nil]); first | done | rfl | (simp only [List.length_drop, List.length_take]; rfl)) ?_
    with_reducible refine (grottoref02_Bits.calls k _ _ l3 t243 _ ?side1 ?side2 A15.out).mono ?_
    (case side1 => repeat (first | exact (Kd.V_reads' HO3.out).2.2 | (with_reducible refine Kd.C_alloc ?_ _) | (with_reducible refine Kd.C_drewN ?_ _) | (with_reducible refine Kd.C_drew ?_)))
    (case side2 => exact (Kd.V_reads' HO3.out).2.1)
    rintro e w23 ⟨rfl, hb⟩
    refine ⟨_, rfl, ?_⟩
    replace HO2 := Aside0.mk (Kd.V_below (by (with_reducible repeat (first | apply Kd.V_alloc | apply Kd.V_drewN | apply Kd.V_drew)); exact HO2.out) hb)
    replace HO3 := Aside0.mk (Kd.V_below (by (with_reducible repeat (first | apply Kd.V_alloc | apply Kd.V_drewN | apply Kd.V_drew)); exact HO3.out) hb)
    replace HO240 := Aside0.mk (Kd.V_below (by (with_reducible repeat (first | apply Kd.V_alloc | apply Kd.V_drewN | apply Kd.V_drew)); exact HO240.out) hb)
    replace BK237 := zkb BK237 hb
    replace HB := zbs HB hb
    (try clear hb)
    (try clear hb2)
    (try clear hk)
    (try clear hi)
    refine hK.out _ _ ⟨(blk_cell BK237.out 0).trans rfl, (blk_cell BK237.out 1).trans rfl⟩ (fun hHeld => ?_)
    clear hK K
    refine norm_ (a' := ?_) ?_ ?_
    rotate_left
    · show Act.put _ (some 29) _ = _
      simp only [Act.put, List.setIfInBounds_toArray, List.set_cons_zero, List.set_cons_succ, i64_w, i32_w]
      rfl
    refine zpure_ (i := 4) (N := some 30) #[true, true, true, true, true, true, false, true, true, false, false, true, false, false, false] (any_of HT_.out (by kernel_rfl)) ?_
    refine zpure_ (i := 6) (N := some 32) #[true, true, true, true, true, true, true, true, true, false, false, true, false, false, false] (any_of HT_.out (by kernel_rfl)) ?_
    refine zpure_ (i := 9) (N := some 35) #[true, true, true, true, true, true, true, true, true, true, false, true, false, false, false] (any_of HT_.out (by kernel_rfl)) ?_
    refine zpure_ (i := 10) (N := some 36) #[true, true, true, true, true, true, true, true, true, true, true, true, false, false, false] (any_of HT_.out (by kernel_rfl)) ?_
    refine one_ (i := 12) (N := some 38) #[true, true, true, true, true, true, true, true, true, true, true, true, true, false, false] rfl rfl (one_of HT_.out (by kernel_rfl)) (by decide) (fun K hK => ?_)
    refine goes_ Try.func36 (by kernel_rfl) rfl #[.agg #[.int .i64 a0_0, .int .i64 a0_1]] (by rfl) rfl rfl (by (try simp only [List.map_toArray, List.map_cons, List.map_nil]); first | done | rfl | (simp only [List.length_drop, List.length_take]; rfl)) ?_
    with_reducible refine (grottoref02_Least.calls k a0_0 a0_1 t244 _ A16.out).mono ?_
    rintro e w24 ⟨rfl, hb⟩
    refine ⟨_, rfl, ?_⟩
    replace HO2 := Aside0.mk (Kd.V_below (by (with_reducible repeat (first | apply Kd.V_alloc | apply Kd.V_drewN | apply Kd.V_drew)); exact HO2.out) hb)
    replace HO3 := Aside0.mk (Kd.V_below (by (with_reducible repeat (first | apply Kd.V_alloc | apply Kd.V_drewN | apply Kd.V_drew)); exact HO3.out) hb)
    replace HO240 := Aside0.mk (Kd.V_below (by (with_reducible repeat (first | apply Kd.V_alloc | apply Kd.V_drewN | apply Kd.V_drew)); exact HO240.out) hb)
    replace BK237 := zkb BK237 hb
    replace HB := zbs HB hb
    (try clear hb)
    (try clear hb2)
    (try clear hk)
    (try clear hi)
    refine hK.out _ _ ⟨(blk_cell BK237.out 0).trans rfl, (blk_cell BK237.out 1).trans rfl⟩ (fun hHeld => ?_)
    clear hK K
    refine norm_ (a' := ?_) ?_ ?_
    rotate_left
    · show Act.put _ (some 38) _ = _
      simp only [Act.put, List.setIfInBounds_toArray, List.set_cons_zero, List.set_cons_succ, i64_w, i32_w]
      rfl
    refine zpure_ (i := 13) (N := some 39) #[true, true, true, true, true, true, true, true, true, true, true, true, true, true, false] (any_of HT_.out (by kernel_rfl)) ?_
    refine zpure_ (i := 14) (N := some 11) #[true, true, true, true, true, true, true, true, true, true, true, true, true, true, true] (any_of HT_.out (by kernel_rfl)) ?_
    refine done_ (done_of HT_.out (by kernel_rfl)) ?_
    try go_wp2
    go_loopg [11] k (fun kq v11 w' => ∃ (x11_1 : Int), v11 = .int .i64 x11_1 ∧ Aside0 (grottoref02_Near.l0 kq a1 l2 l3 a4 x11_1 a0_0 a0_1 = some r) ∧ Aside0 (kq ≤ k) ∧ Aside0 (Kd.V (Kd.int .i64) 3 w' w.heap.size (fun k_ => ((P2_ k_ ∨ P3_ k_) ∨ w.heap.size ≤ k_) ∧ k_ ≠ gb237) (.slice A2 l2.length c2) l2) ∧ Aside0 (Kd.V (Kd.int .i64) 3 w' w.heap.size (fun k_ => ((P2_ k_ ∨ P3_ k_) ∨ w.heap.size ≤ k_) ∧ k_ ≠ gb237) (.slice A3 l3.length c3) l3) ∧ Aside0 (w'.heap[gb237]? = some (.cells #[.int .i64 a0_0, .int .i64 a0_1] 23 (0, 0))) ∧ Aside0 (Below w.heap.size w w'))
    case atStart => exact ⟨(ji17), (by first | rfl | (simp; done) | (simp only [← hji17] <;> (first | rfl | simp)) | (simp [*]; done)), H', ⟨Nat.le_refl _⟩, ⟨by (with_reducible repeat (first | apply Kd.V_alloc | apply Kd.V_drewN | apply Kd.V_drew)); exact HO2.out⟩, ⟨by (with_reducible repeat (first | apply Kd.V_alloc | apply Kd.V_drewN | apply Kd.V_drew)); exact HO3.out⟩, ⟨zk BK237⟩, ⟨zb HB⟩⟩
    case round =>
      clear H'
      try clear c2
      try clear p2
      try clear c3
      try clear c4
      try clear p6
      try clear c7
      try clear c7b0
      try clear c7b1
      try clear c7b2
      try clear hcz12_0
      try clear hcz12_1
      try clear hfz12_0
      try clear hfz12_1
      obtain ⟨x11_1, rfl, HA, HK1, HO_2, HO_3, BK237, HB⟩ := hrel
      cases gk with
      | zero => exact absurd HA.out (by simp [grottoref02_Near.l0])
      | succ k1 =>
        have H := HA.out
        clear HA
        simp only [grottoref02_Near.l0] at H
        have HC25 := Aside0.mk H
        clear H
        go_upto_if 44 with (fail)
        go_cut [14, 15] (fun v14 v15 wc => ∃ (kq : Nat) (x14_24 : List Int) (x15_24 : List Int), Aside0 (grottoref02_Near.j1 kq a1 l2 l3 a4 x11_1 x14_24 x15_24 a0_0 a0_1 = some r) ∧ Aside0 (kq ≤ k1) ∧ Aside0 (Kd.V (Kd.int .i64) 3 wc w.heap.size (fun k_ => ((P2_ k_ ∨ P3_ k_) ∨ w.heap.size ≤ k_) ∧ k_ ≠ gb237) (.slice A2 l2.length c2) l2) ∧ Aside0 (Kd.V (Kd.int .i64) 3 wc w.heap.size (fun k_ => ((P2_ k_ ∨ P3_ k_) ∨ w.heap.size ≤ k_) ∧ k_ ≠ gb237) (.slice A3 l3.length c3) l3) ∧ Aside0 (Kd.V (Kd.int .i64) 3 wc w.heap.size (fun k_ => ((P2_ k_ ∨ P3_ k_) ∨ w.heap.size ≤ k_) ∧ k_ ≠ gb237) v14 x14_24) ∧ Aside0 (Kd.V (Kd.int .i64) 3 wc w.heap.size (fun k_ => ((P2_ k_ ∨ P3_ k_) ∨ w.heap.size ≤ k_) ∧ k_ ≠ gb237) v15 x15_24) ∧ Aside0 (wc.heap[gb237]? = some (.cells #[.int .i64 a0_0, .int .i64 a0_1] 23 (0, 0))) ∧ Aside0 (Below w.heap.size w wc))
        case first =>
          have H := HC25.out
          clear HC25
          by_cases c26 : x11_1 > a4
          · rw [if_pos c26] at H
            have c26b0 : decide (a4 < x11_1) = true := decide_eq_true c26
            clear c26
            (first | rw [c26b0] | (simp only [i64_w, i32_w]; rw [c26b0]) | skip)
            replace H := Option.bind_eq_some_iff.mp H
            obtain ⟨t245, A270, H⟩ := H
            replace H : (grottoref02_Near.j1 k1 a1 l2 l3 a4 x11_1 t245 l2 a0_0 a0_1) = some r := H
            have A27 := Aside0.mk A270
            clear A270
            have H' := Aside0.mk H
            clear H
            go_wp2_with (first | ((with_reducible refine gate_callee (f := 31) rfl ?_); refine zgo (some 49) Try.func31 #[.slice A3 l3.length c3, .int .i64 (wrap64 (x11_1 - a4))] ?_; (with_reducible refine (grottoref02_Up.calls k1 _ _ l3 (wrap64 (x11_1 - a4)) t245 _ ?side1 ?side2 A27.out).mono ?_); (case side1 => repeat (first | exact (Kd.V_reads' HO_3.out).2.2 | (with_reducible refine Kd.C_alloc ?_ _) | (with_reducible refine Kd.C_drewN ?_ _) | (with_reducible refine Kd.C_drew ?_))); (case side2 => exact (Kd.V_reads' HO_3.out).2.1); rintro e w28 ⟨v246, rfl, ho0, hb⟩; refine ⟨_, rfl, ?_⟩; have HO247 := Aside0.mk (Kd.V_lower (Kd.V_mono (ok' := fun k_ => ((P2_ k_ ∨ P3_ k_) ∨ w.heap.size ≤ k_) ∧ k_ ≠ gb237) ho0 (fun k_ hk_ => ⟨(.inr (Nat.le_trans (below_size (zb HB)) hk_)), (Kd.freshB (g := gb237) (o := .cells #[.int .i64 a0_0, .int .i64 a0_1] 23 (0, 0)) (zk BK237) k_ hk_)⟩)) (below_size (zb HB))); replace HO_2 := Aside0.mk (Kd.V_below (by (with_reducible repeat (first | apply Kd.V_alloc | apply Kd.V_drewN | apply Kd.V_drew)); exact HO_2.out) hb); replace HO_3 := Aside0.mk (Kd.V_below (by (with_reducible repeat (first | apply Kd.V_alloc | apply Kd.V_drewN | apply Kd.V_drew)); exact HO_3.out) hb); replace BK237 := zkb BK237 hb; replace HB := zbs HB hb; (try clear hb); (try clear hb2); (try clear hk); (try clear hi); (try clear ho0)))
            go_meet
            case rel => exact ⟨_, (t245), (l2), H', ⟨by have := HK1.out; first | omega | exact Nat.le_refl _⟩, ⟨by (with_reducible repeat (first | apply Kd.V_alloc | apply Kd.V_drewN | apply Kd.V_drew)); exact HO_2.out⟩, ⟨by (with_reducible repeat (first | apply Kd.V_alloc | apply Kd.V_drewN | apply Kd.V_drew)); exact HO_3.out⟩, ⟨by (with_reducible repeat (first | apply Kd.V_alloc | apply Kd.V_drewN | apply Kd.V_drew)); exact HO247.out⟩, ⟨by (with_reducible repeat (first | apply Kd.V_alloc | apply Kd.V_drewN | apply Kd.V_drew)); exact HO_2.out⟩, ⟨zk BK237⟩, ⟨zb HB⟩⟩
          · rw [if_neg c26] at H
            have c26b0 : decide (a4 < x11_1) = false := decide_eq_false c26
            clear c26
            (first | rw [c26b0] | (simp only [i64_w, i32_w]; rw [c26b0]) | skip)
            replace H := Option.bind_eq_some_iff.mp H
            obtain ⟨t248, A290, H⟩ := H
            replace H : (grottoref02_Near.j1 k1 a1 l2 l3 a4 x11_1 l3 t248 a0_0 a0_1) = some r := H
            have A29 := Aside0.mk A290
            clear A290
            have H' := Aside0.mk H
            clear H
            go_wp2_with (first | ((with_reducible refine gate_callee (f := 31) rfl ?_); refine zgo (some 54) Try.func31 #[.slice A2 l2.length c2, .int .i64 (wrap64 (a4 - x11_1))] ?_; (with_reducible refine (grottoref02_Up.calls k1 _ _ l2 (wrap64 (a4 - x11_1)) t248 _ ?side1 ?side2 A29.out).mono ?_); (case side1 => repeat (first | exact (Kd.V_reads' HO_2.out).2.2 | (with_reducible refine Kd.C_alloc ?_ _) | (with_reducible refine Kd.C_drewN ?_ _) | (with_reducible refine Kd.C_drew ?_))); (case side2 => exact (Kd.V_reads' HO_2.out).2.1); rintro e w30 ⟨v249, rfl, ho0, hb⟩; refine ⟨_, rfl, ?_⟩; have HO250 := Aside0.mk (Kd.V_lower (Kd.V_mono (ok' := fun k_ => ((P2_ k_ ∨ P3_ k_) ∨ w.heap.size ≤ k_) ∧ k_ ≠ gb237) ho0 (fun k_ hk_ => ⟨(.inr (Nat.le_trans (below_size (zb HB)) hk_)), (Kd.freshB (g := gb237) (o := .cells #[.int .i64 a0_0, .int .i64 a0_1] 23 (0, 0)) (zk BK237) k_ hk_)⟩)) (below_size (zb HB))); replace HO_2 := Aside0.mk (Kd.V_below (by (with_reducible repeat (first | apply Kd.V_alloc | apply Kd.V_drewN | apply Kd.V_drew)); exact HO_2.out) hb); replace HO_3 := Aside0.mk (Kd.V_below (by (with_reducible repeat (first | apply Kd.V_alloc | apply Kd.V_drewN | apply Kd.V_drew)); exact HO_3.out) hb); replace BK237 := zkb BK237 hb; replace HB := zbs HB hb; (try clear hb); (try clear hb2); (try clear hk); (try clear hi); (try clear ho0)))
            go_meet
            case rel => exact ⟨_, (l3), (t248), H', ⟨by have := HK1.out; first | omega | exact Nat.le_refl _⟩, ⟨by (with_reducible repeat (first | apply Kd.V_alloc | apply Kd.V_drewN | apply Kd.V_drew)); exact HO_2.out⟩, ⟨by (with_reducible repeat (first | apply Kd.V_alloc | apply Kd.V_drewN | apply Kd.V_drew)); exact HO_3.out⟩, ⟨by (with_reducible repeat (first | apply Kd.V_alloc | apply Kd.V_drewN | apply Kd.V_drew)); exact HO_3.out⟩, ⟨by (with_reducible repeat (first | apply Kd.V_alloc | apply Kd.V_drewN | apply Kd.V_drew)); exact HO250.out⟩, ⟨zk BK237⟩, ⟨zb HB⟩⟩
        case rest =>
          clear HC25
          try clear c2
          try clear p2
          try clear c3
          try clear c4
          try clear p6
          try clear c7
          try clear c7b0
          try clear c7b1
          try clear c7b2
          try clear c25
          try clear c26
          try clear c26b0
          try clear hcz12_0
          try clear hcz12_1
          try clear hfz12_0
          try clear hfz12_1
          try clear p2
          try clear p6
          obtain ⟨kq, x14_24, x15_24, HA, HJ24, HO_2, HO_3, HO_14, HO_15, BK237, HB⟩ := hcut
          cases kq with
          | zero => exact absurd HA.out (by simp [grottoref02_Near.j1])
          | succ kj24 =>
            have H := HA.out
            clear HA
            simp only [grottoref02_Near.j1] at H
            replace H := Option.bind_eq_some_iff.mp H
            obtain ⟨⟨t251, t254⟩, A310, H⟩ := H
            replace H : ((grottoref02_Bits.f kj24 t251).bind fun t257 => (if t257 ≤ (wrap64 (a0_0 + 1)) then ((grottoref02_Small.f kj24 t251).bind fun t258 => ((grottoref02_Up.f kj24 t254 1).bind fun t259 => ((grottoref02_Cmp.f kj24 t259 x14_24).bind fun t262 => (if t262 > 0 then (grottoref02_Near.j2 kj24 a1 x11_1 t258 true a0_0 a0_1) else (if t262 = 0 then (grottoref02_Near.j2 kj24 a1 x11_1 t258 ((Int.tmod t258 2) == 1) a0_0 a0_1) else (grottoref02_Near.j2 kj24 a1 x11_1 t258 false a0_0 a0_1)))))) else (grottoref02_Near.l0 kj24 a1 l2 l3 a4 (wrap64 (x11_1 + 1)) a0_0 a0_1))) = some r := H
            have A31 := Aside0.mk A310
            clear A310
            replace H := Option.bind_eq_some_iff.mp H
            obtain ⟨t257, A320, H⟩ := H
            replace H : (if t257 ≤ (wrap64 (a0_0 + 1)) then ((grottoref02_Small.f kj24 t251).bind fun t258 => ((grottoref02_Up.f kj24 t254 1).bind fun t259 => ((grottoref02_Cmp.f kj24 t259 x14_24).bind fun t262 => (if t262 > 0 then (grottoref02_Near.j2 kj24 a1 x11_1 t258 true a0_0 a0_1) else (if t262 = 0 then (grottoref02_Near.j2 kj24 a1 x11_1 t258 ((Int.tmod t258 2) == 1) a0_0 a0_1) else (grottoref02_Near.j2 kj24 a1 x11_1 t258 false a0_0 a0_1)))))) else (grottoref02_Near.l0 kj24 a1 l2 l3 a4 (wrap64 (x11_1 + 1)) a0_0 a0_1)) = some r := H
            have A32 := Aside0.mk A320
            clear A320
            by_cases c33 : t257 ≤ (wrap64 (a0_0 + 1))
            · rw [if_pos c33] at H
              have c33b0 : decide (t257 ≤ (wrap64 (a0_0 + 1))) = true := decide_eq_true c33
              clear c33
              replace H := Option.bind_eq_some_iff.mp H
              obtain ⟨t258, A340, H⟩ := H
              replace H : ((grottoref02_Up.f kj24 t254 1).bind fun t259 => ((grottoref02_Cmp.f kj24 t259 x14_24).bind fun t262 => (if t262 > 0 then (grottoref02_Near.j2 kj24 a1 x11_1 t258 true a0_0 a0_1) else (if t262 = 0 then (grottoref02_Near.j2 kj24 a1 x11_1 t258 ((Int.tmod t258 2) == 1) a0_0 a0_1) else (grottoref02_Near.j2 kj24 a1 x11_1 t258 false a0_0 a0_1))))) = some r := H
              have A34 := Aside0.mk A340
              clear A340
              replace H := Option.bind_eq_some_iff.mp H
              obtain ⟨t259, A350, H⟩ := H
              replace H : ((grottoref02_Cmp.f kj24 t259 x14_24).bind fun t262 => (if t262 > 0 then (grottoref02_Near.j2 kj24 a1 x11_1 t258 true a0_0 a0_1) else (if t262 = 0 then (grottoref02_Near.j2 kj24 a1 x11_1 t258 ((Int.tmod t258 2) == 1) a0_0 a0_1) else (grottoref02_Near.j2 kj24 a1 x11_1 t258 false a0_0 a0_1)))) = some r := H
              have A35 := Aside0.mk A350
              clear A350
              replace H := Option.bind_eq_some_iff.mp H
              obtain ⟨t262, A360, H⟩ := H
              replace H : (if t262 > 0 then (grottoref02_Near.j2 kj24 a1 x11_1 t258 true a0_0 a0_1) else (if t262 = 0 then (grottoref02_Near.j2 kj24 a1 x11_1 t258 ((Int.tmod t258 2) == 1) a0_0 a0_1) else (grottoref02_Near.j2 kj24 a1 x11_1 t258 false a0_0 a0_1))) = some r := H
              have A36 := Aside0.mk A360
              clear A360
              have HC37 := Aside0.mk H
              clear H
              obtain ⟨Ao38, co38, eo38⟩ := Kd.V_slice HO_15.out
              subst eo38
              obtain ⟨Ao39, co39, eo39⟩ := Kd.V_slice HO_14.out
              subst eo39
              try go_wp2_with (first | ((with_reducible refine gate_callee (f := 43) rfl ?_); refine zgo (some 58) Try.func43 #[.slice Ao38 x15_24.length co38, .slice Ao39 x14_24.length co39] ?_; (with_reducible refine (grottoref02_Quo.calls kj24 (fun k_ => (((P2_ k_ ∨ P3_ k_) ∨ w.heap.size ≤ k_) ∧ k_ ≠ gb237)) _ _ x15_24 _ _ x14_24 t251 t254 _ ?side1 ?side2 ?side3 A31.out).mono ?_); (case side1 => exact HO_15.out); (case side2 => repeat (first | exact (Kd.V_reads' HO_14.out).2.2 | (with_reducible refine Kd.C_alloc ?_ _) | (with_reducible refine Kd.C_drewN ?_ _) | (with_reducible refine Kd.C_drew ?_))); (case side3 => exact (Kd.V_reads' HO_14.out).2.1); rintro e w40 ⟨v252, v255, rfl, ho0, ho1, hb⟩; refine ⟨_, rfl, ?_⟩; have HO253 := Aside0.mk (Kd.V_lower (Kd.V_mono (ok' := fun k_ => ((P2_ k_ ∨ P3_ k_) ∨ w.heap.size ≤ k_) ∧ k_ ≠ gb237) ho0 (fun k_ hk_ => ⟨Or.elim hk_ (fun hs_ => hs_.1) (fun hn_ => (.inr (Nat.le_trans (below_size (zb HB)) hn_))), Or.elim hk_ (fun hs_ => hs_.2) (fun hn_ => (Kd.freshB (g := gb237) (o := .cells #[.int .i64 a0_0, .int .i64 a0_1] 23 (0, 0)) (zk BK237) k_ hn_))⟩)) (below_size (zb HB))); have HO256 := Aside0.mk (Kd.V_lower (Kd.V_mono (ok' := fun k_ => ((P2_ k_ ∨ P3_ k_) ∨ w.heap.size ≤ k_) ∧ k_ ≠ gb237) ho1 (fun k_ hk_ => ⟨Or.elim hk_ (fun hs_ => hs_.1) (fun hn_ => (.inr (Nat.le_trans (below_size (zb HB)) hn_))), Or.elim hk_ (fun hs_ => hs_.2) (fun hn_ => (Kd.freshB (g := gb237) (o := .cells #[.int .i64 a0_0, .int .i64 a0_1] 23 (0, 0)) (zk BK237) k_ hn_))⟩)) (below_size (zb HB))); replace HO_2 := Aside0.mk (Kd.V_below (by (with_reducible repeat (first | apply Kd.V_alloc | apply Kd.V_drewN | apply Kd.V_drew)); exact HO_2.out) hb); replace HO_3 := Aside0.mk (Kd.V_below (by (with_reducible repeat (first | apply Kd.V_alloc | apply Kd.V_drewN | apply Kd.V_drew)); exact HO_3.out) hb); replace HO_14 := Aside0.mk (Kd.V_below (by (with_reducible repeat (first | apply Kd.V_alloc | apply Kd.V_drewN | apply Kd.V_drew)); exact HO_14.out) hb); replace HO_15 := Aside0.mk (Kd.V_below (by (with_reducible repeat (first | apply Kd.V_alloc | apply Kd.V_drewN | apply Kd.V_drew)); exact HO_15.out) hb); replace BK237 := zkb BK237 hb; replace HB := zbs HB hb; (try clear hb); (try clear hb2); (try clear hk); (try clear hi); (try clear ho0); (try clear ho1)))
              replace HO_2 := Aside0.mk (Kd.V_drew HO_2.out)
              replace HO_3 := Aside0.mk (Kd.V_drew HO_3.out)
              replace HO_14 := Aside0.mk (Kd.V_drew HO_14.out)
              replace HO_15 := Aside0.mk (Kd.V_drew HO_15.out)
              replace HO253 := Aside0.mk (Kd.V_drew HO253.out)
              replace HO256 := Aside0.mk (Kd.V_drew HO256.out)
              replace BK237 := Aside0.mk (blk_drew BK237.out)
              replace HB := Aside0.mk (below_drew1 HB.out)
              obtain ⟨Ao42, co42, eo42⟩ := Kd.V_slice HO253.out
              (first | subst eo42 | (injection eo42 with f1_ f2_ f3_; have f4_ := f1_.symm; have f5_ := f3_.symm; clear f1_ f2_ f3_; subst f4_; subst f5_))
              refine start_ (n := 6) (S := fun w' => w'.cell? ⟨gb237, 0, none⟩ = some (.int .i64 a0_0) ∧ w'.cell? ⟨gb237, 1, none⟩ = some (.int .i64 a0_1)) (ds := []) #[false, false, false, false, false, false] (by kernel_rfl) rfl rfl ⟨(blk_cell BK237.out 0).trans rfl, (blk_cell BK237.out 1).trans rfl⟩ (fun hHeld => ?_)
              generalize w40.drew = w41 at HO_2 HO_3 HO_14 HO_15 HO253 HO256 BK237 HB hHeld ⊢
              refine zpure_ (i := 0) (N := some 61) #[true, false, false, false, false, false] (by kernel_rfl) ?_
              refine zpure_ (i := 2) (N := some 63) #[true, false, true, false, false, false] (by kernel_rfl) ?_
              refine ztake_ (i := 3) (N := some 64) #[true, false, true, true, false, false] rfl (by kernel_rfl) hHeld (Or.inl ⟨by rfl, by rintro w' ⟨s0, s1⟩; go_simp; with_reducible rfl⟩) ?_
              refine zpure_ (i := 4) (N := some 65) #[true, false, true, true, true, false] (by kernel_rfl) ?_
              refine one_ (i := 1) (N := some 62) #[true, true, true, true, true, false] rfl rfl (by kernel_rfl) (by decide) (fun K hK => ?_)
              refine goes_ Try.func33 (by kernel_rfl) rfl #[.slice Ao42 t251.length co42] (by rfl) rfl rfl (by (try simp only [List.map_toArray, List.map_cons, List.map_nil]); first | done | rfl | (simp only [List.length_drop, List.length_take]; rfl)) ?_
              with_reducible refine (grottoref02_Bits.calls kj24 _ _ t251 t257 _ ?side1 ?side2 A32.out).mono ?_
              (case side1 => repeat (first | exact (Kd.V_reads' HO253.out).2.2 | (with_reducible refine Kd.C_alloc ?_ _) | (with_reducible refine Kd.C_drewN ?_ _) | (with_reducible refine Kd.C_drew ?_)))
              (case side2 => exact (Kd.V_reads' HO253.out).2.1)
              rintro e w43 ⟨rfl, hb⟩
              refine ⟨_, rfl, ?_⟩
              replace HO_2 := Aside0.mk (Kd.V_below (by (with_reducible repeat (first | apply Kd.V_alloc | apply Kd.V_drewN | apply Kd.V_drew)); exact HO_2.out) hb)
              replace HO_3 := Aside0.mk (Kd.V_below (by (with_reducible repeat (first | apply Kd.V_alloc | apply Kd.V_drewN | apply Kd.V_drew)); exact HO_3.out) hb)
              replace HO_14 := Aside0.mk (Kd.V_below (by (with_reducible repeat (first | apply Kd.V_alloc | apply Kd.V_drewN | apply Kd.V_drew)); exact HO_14.out) hb)
              replace HO_15 := Aside0.mk (Kd.V_below (by (with_reducible repeat (first | apply Kd.V_alloc | apply Kd.V_drewN | apply Kd.V_drew)); exact HO_15.out) hb)
              replace HO253 := Aside0.mk (Kd.V_below (by (with_reducible repeat (first | apply Kd.V_alloc | apply Kd.V_drewN | apply Kd.V_drew)); exact HO253.out) hb)
              replace HO256 := Aside0.mk (Kd.V_below (by (with_reducible repeat (first | apply Kd.V_alloc | apply Kd.V_drewN | apply Kd.V_drew)); exact HO256.out) hb)
              replace BK237 := zkb BK237 hb
              replace HB := zbs HB hb
              (try clear hb)
              (try clear hb2)
              (try clear hk)
              (try clear hi)
              refine hK.out _ _ ⟨(blk_cell BK237.out 0).trans rfl, (blk_cell BK237.out 1).trans rfl⟩ (fun hHeld => ?_)
              clear hK K
              refine norm_ (a' := ?_) ?_ ?_
              rotate_left
              · show Act.put _ (some 62) _ = _
                simp only [Act.put, List.setIfInBounds_toArray, List.set_cons_zero, List.set_cons_succ, i64_w, i32_w]
                rfl
              refine zpure_ (i := 5) (N := some 66) #[true, true, true, true, true, true] (by kernel_rfl) ?_
              refine done_ (by kernel_rfl) ?_
              go_upto_region 15 with (first | ((with_reducible refine gate_callee (f := 44) rfl ?_); refine zgo (some 70) Try.func44 #[.slice Ao42 t251.length co42] ?_; (with_reducible refine (grottoref02_Small.calls kj24 _ _ t251 t258 _ ?side1 ?side2 A34.out).mono ?_); (case side1 => repeat (first | exact (Kd.V_reads' HO253.out).2.2 | (with_reducible refine Kd.C_alloc ?_ _) | (with_reducible refine Kd.C_drewN ?_ _) | (with_reducible refine Kd.C_drew ?_))); (case side2 => exact (Kd.V_reads' HO253.out).2.1); rintro e w' ⟨rfl, ⟨nd, rfl⟩⟩; refine ⟨_, rfl, ?_⟩; obtain ⟨Ao44, co44, eo44⟩ := Kd.V_slice HO256.out; subst eo44) | ((with_reducible refine gate_callee (f := 31) rfl ?_); refine zgo (some 72) Try.func31 #[.slice Ao44 t254.length co44, .int .i64 1] ?_; (with_reducible refine (grottoref02_Up.calls kj24 _ _ t254 1 t259 _ ?side1 ?side2 A35.out).mono ?_); (case side1 => repeat (first | exact (Kd.V_reads' HO256.out).2.2 | (with_reducible refine Kd.C_alloc ?_ _) | (with_reducible refine Kd.C_drewN ?_ _) | (with_reducible refine Kd.C_drew ?_))); (case side2 => exact (Kd.V_reads' HO256.out).2.1); rintro e w45 ⟨v260, rfl, ho0, hb⟩; refine ⟨_, rfl, ?_⟩; have HO261 := Aside0.mk (Kd.V_lower (Kd.V_mono (ok' := fun k_ => ((P2_ k_ ∨ P3_ k_) ∨ w.heap.size ≤ k_) ∧ k_ ≠ gb237) ho0 (fun k_ hk_ => ⟨(.inr (Nat.le_trans (below_size (zb HB)) hk_)), (Kd.freshB (g := gb237) (o := .cells #[.int .i64 a0_0, .int .i64 a0_1] 23 (0, 0)) (zk BK237) k_ hk_)⟩)) (below_size (zb HB))); replace HO_2 := Aside0.mk (Kd.V_below (by (with_reducible repeat (first | apply Kd.V_alloc | apply Kd.V_drewN | apply Kd.V_drew)); exact HO_2.out) hb); replace HO_3 := Aside0.mk (Kd.V_below (by (with_reducible repeat (first | apply Kd.V_alloc | apply Kd.V_drewN | apply Kd.V_drew)); exact HO_3.out) hb); replace HO_14 := Aside0.mk (Kd.V_below (by (with_reducible repeat (first | apply Kd.V_alloc | apply Kd.V_drewN | apply Kd.V_drew)); exact HO_14.out) hb); replace HO_15 := Aside0.mk (Kd.V_below (by (with_reducible repeat (first | apply Kd.V_alloc | apply Kd.V_drewN | apply Kd.V_drew)); exact HO_15.out) hb); replace HO253 := Aside0.mk (Kd.V_below (by (with_reducible repeat (first | apply Kd.V_alloc | apply Kd.V_drewN | apply Kd.V_drew)); exact HO253.out) hb); replace HO256 := Aside0.mk (Kd.V_below (by (with_reducible repeat (first | apply Kd.V_alloc | apply Kd.V_drewN | apply Kd.V_drew)); exact HO256.out) hb); replace BK237 := zkb BK237 hb; replace HB := zbs HB hb; (try clear hb); (try clear hb2); (try clear hk); (try clear hi); (try clear ho0); obtain ⟨Ao46, co46, eo46⟩ := Kd.V_slice HO261.out; subst eo46) | ((with_reducible refine gate_callee (f := 45) rfl ?_); refine zgo (some 74) Try.func45 #[.slice Ao46 t259.length co46, .slice Ao39 x14_24.length co39] ?_; (with_reducible refine (grottoref02_Cmp.calls kj24 _ _ t259 _ _ x14_24 t262 _ ?side1 ?side2 ?side3 ?side4 A36.out).mono ?_); (case side1 => repeat (first | exact (Kd.V_reads' HO261.out).2.2 | (with_reducible refine Kd.C_alloc ?_ _) | (with_reducible refine Kd.C_drewN ?_ _) | (with_reducible refine Kd.C_drew ?_))); (case side2 => exact (Kd.V_reads' HO261.out).2.1); (case side3 => repeat (first | exact (Kd.V_reads' HO_14.out).2.2 | (with_reducible refine Kd.C_alloc ?_ _) | (with_reducible refine Kd.C_drewN ?_ _) | (with_reducible refine Kd.C_drew ?_))); (case side4 => exact (Kd.V_reads' HO_14.out).2.1); rintro e w47 ⟨rfl, hb⟩; refine ⟨_, rfl, ?_⟩; replace HO_2 := Aside0.mk (Kd.V_below (by (with_reducible repeat (first | apply Kd.V_alloc | apply Kd.V_drewN | apply Kd.V_drew)); exact HO_2.out) hb); replace HO_3 := Aside0.mk (Kd.V_below (by (with_reducible repeat (first | apply Kd.V_alloc | apply Kd.V_drewN | apply Kd.V_drew)); exact HO_3.out) hb); replace HO_14 := Aside0.mk (Kd.V_below (by (with_reducible repeat (first | apply Kd.V_alloc | apply Kd.V_drewN | apply Kd.V_drew)); exact HO_14.out) hb); replace HO_15 := Aside0.mk (Kd.V_below (by (with_reducible repeat (first | apply Kd.V_alloc | apply Kd.V_drewN | apply Kd.V_drew)); exact HO_15.out) hb); replace HO253 := Aside0.mk (Kd.V_below (by (with_reducible repeat (first | apply Kd.V_alloc | apply Kd.V_drewN | apply Kd.V_drew)); exact HO253.out) hb); replace HO256 := Aside0.mk (Kd.V_below (by (with_reducible repeat (first | apply Kd.V_alloc | apply Kd.V_drewN | apply Kd.V_drew)); exact HO256.out) hb); replace HO261 := Aside0.mk (Kd.V_below (by (with_reducible repeat (first | apply Kd.V_alloc | apply Kd.V_drewN | apply Kd.V_drew)); exact HO261.out) hb); replace BK237 := zkb BK237 hb; replace HB := zbs HB hb; (try clear hb); (try clear hb2); (try clear hk); (try clear hi)))
              (try simp only [Act.put, List.setIfInBounds_toArray, List.set_cons_zero, List.set_cons_succ])
              go_cut [85] (fun v85 wc => ∃ (kq : Nat) (x85_36 : Bool), v85 = .bool x85_36 ∧ Aside0 (grottoref02_Near.j2 kq a1 x11_1 t258 x85_36 a0_0 a0_1 = some r) ∧ Aside0 (kq ≤ kj24) ∧ Aside0 (wc.heap[gb237]? = some (.cells #[.int .i64 a0_0, .int .i64 a0_1] 23 (0, 0))) ∧ Aside0 (Below w.heap.size w wc))
              case first =>
                have H := HC37.out
                clear HC37
                by_cases c48 : t262 > 0
                · rw [if_pos c48] at H
                  have c48b0 : decide (0 < t262) = true := decide_eq_true c48
                  clear c48
                  (first | rw [c48b0] | (simp only [i64_w, i32_w]; rw [c48b0]) | skip)
                  have H' := Aside0.mk H
                  clear H
                  go_wp2
                  go_meet
                  case rel => exact ⟨_, (true), (by first | rfl | (simp; done) | (simp [*]; done)), H', ⟨by have := HK1.out; have := HJ24.out; first | omega | exact Nat.le_refl _⟩, ⟨zk BK237⟩, ⟨zb HB⟩⟩
                · rw [if_neg c48] at H
                  have c48b0 : decide (0 < t262) = false := decide_eq_false c48
                  clear c48
                  (first | rw [c48b0] | (simp only [i64_w, i32_w]; rw [c48b0]) | skip)
                  by_cases c49 : t262 = 0
                  · rw [if_pos c49] at H
                    have c49b0 : (t262 == 0) = true := beq_iff_eq.mpr c49
                    have c49b1 : (t262 != 0) = false := bne_eq_false_iff_eq.mpr c49
                    clear c49
                    have H' := Aside0.mk H
                    clear H
                    go_wp2
                    go_meet
                    case rel => exact ⟨_, (((Int.tmod t258 2) == 1)), (by first | rfl | (simp; done) | (simp [*]; done)), H', ⟨by have := HK1.out; have := HJ24.out; first | omega | exact Nat.le_refl _⟩, ⟨zk BK237⟩, ⟨zb HB⟩⟩
                  · rw [if_neg c49] at H
                    have c49b0 : (t262 == 0) = false := beq_eq_false_iff_ne.mpr c49
                    have c49b1 : (t262 != 0) = true := bne_iff_ne.mpr c49
                    have H' := Aside0.mk H
                    clear H
                    go_wp2
                    go_meet
                    case rel => exact ⟨_, (false), (by first | rfl | (simp; done) | (simp [*]; done)), H', ⟨by have := HK1.out; have := HJ24.out; first | omega | exact Nat.le_refl _⟩, ⟨zk BK237⟩, ⟨zb HB⟩⟩
              case rest =>
                clear HC37
                try clear c2
                try clear p2
                try clear c3
                try clear c4
                try clear p6
                try clear c7
                try clear c7b0
                try clear c7b1
                try clear c7b2
                try clear c25
                try clear c26
                try clear c26b0
                try clear c31
                try clear c33
                try clear c33b0
                try clear c34
                try clear c36
                try clear c42
                try clear c43
                try clear c44
                try clear c45
                try clear c48
                try clear c48b0
                try clear c49
                try clear c49b0
                try clear c49b1
                try clear hcz12_0
                try clear hcz12_1
                try clear hfz12_0
                try clear hfz12_1
                try clear p2
                try clear p6
                obtain ⟨kq, x85_36, rfl, HA, HJ36, BK237, HB⟩ := hcut
                cases kq with
                | zero => exact absurd HA.out (by simp [grottoref02_Near.j2])
                | succ kj36 =>
                  have H := HA.out
                  clear HA
                  simp only [grottoref02_Near.j2] at H
                  have HC50 := Aside0.mk H
                  clear H
                  go_upto_if 85 with (fail)
                  go_cut [16] (fun v16 wc => ∃ (kq : Nat) (x16_49 : Int), v16 = .int .u64 x16_49 ∧ Aside0 (grottoref02_Near.j3 kq a1 x11_1 x16_49 a0_0 a0_1 = some r) ∧ Aside0 (kq ≤ kj36) ∧ Aside0 (wc.heap[gb237]? = some (.cells #[.int .i64 a0_0, .int .i64 a0_1] 23 (0, 0))) ∧ Aside0 (Below w.heap.size w wc))
                  case first =>
                    have H := HC50.out
                    clear HC50
                    by_cases c51 : x85_36 = true
                    · subst c51
                      have H1 : (grottoref02_Near.j3 kj36 a1 x11_1 (IntKind.u64.wrap (t258 + 1)) a0_0 a0_1) = some r := by rw [if_pos rfl] at H; exact H
                      clear H
                      have H := H1
                      clear H1
                      have H' := Aside0.mk H
                      clear H
                      go_wp2
                      go_meet
                      case rel => exact ⟨_, (IntKind.u64.wrap (t258 + 1)), (by first | rfl | (simp; done) | (simp [*]; done)), H', ⟨by have := HK1.out; have := HJ24.out; have := HJ36.out; first | omega | exact Nat.le_refl _⟩, ⟨zk BK237⟩, ⟨zb HB⟩⟩
                    · replace c51 := Bool.eq_false_iff.mpr c51
                      subst c51
                      have H1 : (grottoref02_Near.j3 kj36 a1 x11_1 t258 a0_0 a0_1) = some r := by rw [if_neg (show ¬ (false = true) by decide)] at H; exact H
                      clear H
                      have H := H1
                      clear H1
                      have H' := Aside0.mk H
                      clear H
                      go_wp2
                      go_meet
                      case rel => exact ⟨_, (t258), (by first | rfl | (simp; done) | (simp [*]; done)), H', ⟨by have := HK1.out; have := HJ24.out; have := HJ36.out; first | omega | exact Nat.le_refl _⟩, ⟨zk BK237⟩, ⟨zb HB⟩⟩
                  case rest =>
                    clear HC50
                    try clear c2
                    try clear p2
                    try clear c3
                    try clear c4
                    try clear c5
                    try clear p6
                    try clear c7
                    try clear c7b0
                    try clear c7b1
                    try clear c7b2
                    try clear c25
                    try clear c26
                    try clear c26b0
                    try clear c31
                    try clear c33
                    try clear c33b0
                    try clear c34
                    try clear c36
                    try clear c42
                    try clear c43
                    try clear c44
                    try clear c45
                    try clear c48
                    try clear c48b0
                    try clear c49
                    try clear c49b0
                    try clear c49b1
                    try clear c51
                    try clear hcz12_0
                    try clear hcz12_1
                    try clear hfz12_0
                    try clear hfz12_1
                    try clear p2
                    try clear p6
                    obtain ⟨kq, x16_49, rfl, HA, HJ49, BK237, HB⟩ := hcut
                    cases kq with
                    | zero => exact absurd HA.out (by simp [grottoref02_Near.j3])
                    | succ kj49 =>
                      have H := HA.out
                      clear HA
                      simp only [grottoref02_Near.j3] at H
                      replace H := Option.bind_eq_some_iff.mp H
                      obtain ⟨t263, A520, H⟩ := H
                      replace H : (if x16_49 = t263 then (grottoref02_Near.j4 kj49 a1 (wrap64 (x11_1 + 1)) (IntKind.u64.wrap (Int.tdiv x16_49 2)) a0_0 a0_1) else (grottoref02_Near.j4 kj49 a1 x11_1 x16_49 a0_0 a0_1)) = some r := H
                      have A52 := Aside0.mk A520
                      clear A520
                      have HC53 := Aside0.mk H
                      clear H
                      obtain ⟨hcz54_0, hcz54_1, hfz54_0, hfz54_1⟩ := zc2 BK237
                      go_upto_if 93 with (first | ((with_reducible refine gate_callee (f := 39) rfl ?_); refine zgo (some 92) Try.func39 #[.int .i64 (wrap64 (a0_0 + 1))] ?_; (with_reducible refine (grottoref02_power.calls kj49 (wrap64 (a0_0 + 1)) t263 _ A52.out).mono ?_); rintro e w' ⟨rfl, ⟨nd, rfl⟩⟩; refine ⟨_, rfl, ?_⟩))
                      (try simp only [Act.put, List.setIfInBounds_toArray, List.set_cons_zero, List.set_cons_succ])
                      go_cut [11, 16] (fun v11 v16 wc => ∃ (kq : Nat) (x11_52 : Int) (x16_52 : Int), v11 = .int .i64 x11_52 ∧ v16 = .int .u64 x16_52 ∧ Aside0 (grottoref02_Near.j4 kq a1 x11_52 x16_52 a0_0 a0_1 = some r) ∧ Aside0 (kq ≤ kj49) ∧ Aside0 (wc.heap[gb237]? = some (.cells #[.int .i64 a0_0, .int .i64 a0_1] 23 (0, 0))) ∧ Aside0 (Below w.heap.size w wc))
                      case first =>
                        have H := HC53.out
                        clear HC53
                        by_cases c55 : x16_49 = t263
                        · rw [if_pos c55] at H
                          have c55b0 : (x16_49 == t263) = true := beq_iff_eq.mpr c55
                          have c55b1 : (x16_49 != t263) = false := bne_eq_false_iff_eq.mpr c55
                          clear c55
                          (first | rw [c55b0] | (simp only [i64_w, i32_w]; rw [c55b0]) | skip)
                          have H' := Aside0.mk H
                          clear H
                          go_wp2
                          go_meet
                          case rel => exact ⟨_, (wrap64 (x11_1 + 1)), (IntKind.u64.wrap (Int.tdiv x16_49 2)), (by first | rfl | (simp; done) | (simp [*]; done)), (by first | rfl | (simp; done) | (simp [*]; done)), H', ⟨by have := HK1.out; have := HJ24.out; have := HJ36.out; have := HJ49.out; first | omega | exact Nat.le_refl _⟩, ⟨zk BK237⟩, ⟨zb HB⟩⟩
                        · rw [if_neg c55] at H
                          have c55b0 : (x16_49 == t263) = false := beq_eq_false_iff_ne.mpr c55
                          have c55b1 : (x16_49 != t263) = true := bne_iff_ne.mpr c55
                          (first | rw [c55b0] | (simp only [i64_w, i32_w]; rw [c55b0]) | skip)
                          have H' := Aside0.mk H
                          clear H
                          go_wp2
                          go_meet
                          case rel => exact ⟨_, (x11_1), (x16_49), (by first | rfl | (simp; done) | (simp [*]; done)), (by first | rfl | (simp; done) | (simp [*]; done)), H', ⟨by have := HK1.out; have := HJ24.out; have := HJ36.out; have := HJ49.out; first | omega | exact Nat.le_refl _⟩, ⟨zk BK237⟩, ⟨zb HB⟩⟩
                      case rest =>
                        clear HC53
                        try clear c2
                        try clear p2
                        try clear c3
                        try clear c4
                        try clear c5
                        try clear p6
                        try clear c7
                        try clear c7b0
                        try clear c7b1
                        try clear c7b2
                        try clear c25
                        try clear c26
                        try clear c26b0
                        try clear c31
                        try clear c33
                        try clear c33b0
                        try clear c34
                        try clear c36
                        try clear c39
                        try clear c42
                        try clear c43
                        try clear c44
                        try clear c45
                        try clear c48
                        try clear c48b0
                        try clear c49
                        try clear c49b0
                        try clear c49b1
                        try clear c51
                        try clear c55
                        try clear c55b0
                        try clear c55b1
                        try clear hcz12_0
                        try clear hcz12_1
                        try clear hcz54_0
                        try clear hcz54_1
                        try clear hfz12_0
                        try clear hfz12_1
                        try clear hfz54_0
                        try clear hfz54_1
                        try clear p2
                        try clear p6
                        obtain ⟨kq, x11_52, x16_52, rfl, rfl, HA, HJ52, BK237, HB⟩ := hcut
                        cases kq with
                        | zero => exact absurd HA.out (by simp [grottoref02_Near.j4])
                        | succ kj52 =>
                          have H := HA.out
                          clear HA
                          simp only [grottoref02_Near.j4] at H
                          replace H := Option.bind_eq_some_iff.mp H
                          obtain ⟨t264, A560, H⟩ := H
                          replace H : (if x16_52 < t264 then ((grottoref02_Whole.f kj52 a0_0 a0_1 a1 0 x16_52).bind fun t265 => (some t265)) else ((grottoref02_Least.f kj52 a0_0 a0_1).bind fun t266 => ((grottoref02_power.f kj52 a0_1).bind fun t267 => (if (wrap64 ((wrap64 (x11_52 - t266)) + 1)) ≥ (wrap64 ((wrap64 (t267)) - 1)) then ((grottoref02_Inf.f kj52 a0_0 a0_1 a1).bind fun t268 => (some t268)) else ((grottoref02_power.f kj52 a0_0).bind fun t269 => ((grottoref02_Whole.f kj52 a0_0 a0_1 a1 (IntKind.u64.wrap (wrap64 ((wrap64 (x11_52 - t266)) + 1))) (IntKind.u64.wrap (x16_52 - t269))).bind fun t270 => (some t270))))))) = some r := H
                          have A56 := Aside0.mk A560
                          clear A560
                          by_cases c57 : x16_52 < t264
                          · rw [if_pos c57] at H
                            have c57b0 : decide (x16_52 < t264) = true := decide_eq_true c57
                            clear c57
                            replace H := Option.bind_eq_some_iff.mp H
                            obtain ⟨t265, A580, H⟩ := H
                            replace H : (some t265) = some r := H
                            have A58 := Aside0.mk A580
                            clear A580
                            obtain rfl := Option.some.inj H
                            obtain ⟨hcz59_0, hcz59_1, hfz59_0, hfz59_1⟩ := zc2 BK237
                            go_wp2_with (first | ((with_reducible refine gate_callee (f := 39) rfl ?_); refine zgo (some 101) Try.func39 #[.int .i64 a0_0] ?_; (with_reducible refine (grottoref02_power.calls kj52 a0_0 t264 _ A56.out).mono ?_); rintro e w' ⟨rfl, ⟨nd, rfl⟩⟩; refine ⟨_, rfl, ?_⟩) | ((with_reducible refine gate_callee (f := 41) rfl ?_); refine zgo (some 106) Try.func41 #[.agg #[.int .i64 a0_0, .int .i64 a0_1], .bool a1, .int .u64 0, .int .u64 x16_52] ?_; (with_reducible refine (grottoref02_Whole.calls kj52 a0_0 a0_1 a1 0 x16_52 t265 _ A58.out).mono ?_); rintro e w60 ⟨rfl, hb⟩; refine ⟨_, rfl, ?_⟩; replace BK237 := zkb BK237 hb; replace HB := zbs HB hb; (try clear hb); (try clear hb2); (try clear hk); (try clear hi)))
                            go_ret
                            exact ⟨by first | rfl | (simp [errW_none, errW_some] <;> rfl) | (simp only [← hji17]; first | rfl | (simp [errW_none, errW_some] <;> rfl)) | (simp [*, errW_none, errW_some] <;> rfl), zb HB⟩
                          · rw [if_neg c57] at H
                            have c57b0 : decide (x16_52 < t264) = false := decide_eq_false c57
                            clear c57
                            replace H := Option.bind_eq_some_iff.mp H
                            obtain ⟨t266, A610, H⟩ := H
                            replace H : ((grottoref02_power.f kj52 a0_1).bind fun t267 => (if (wrap64 ((wrap64 (x11_52 - t266)) + 1)) ≥ (wrap64 ((wrap64 (t267)) - 1)) then ((grottoref02_Inf.f kj52 a0_0 a0_1 a1).bind fun t268 => (some t268)) else ((grottoref02_power.f kj52 a0_0).bind fun t269 => ((grottoref02_Whole.f kj52 a0_0 a0_1 a1 (IntKind.u64.wrap (wrap64 ((wrap64 (x11_52 - t266)) + 1))) (IntKind.u64.wrap (x16_52 - t269))).bind fun t270 => (some t270))))) = some r := H
                            have A61 := Aside0.mk A610
                            clear A610
                            replace H := Option.bind_eq_some_iff.mp H
                            obtain ⟨t267, A620, H⟩ := H
                            replace H : (if (wrap64 ((wrap64 (x11_52 - t266)) + 1)) ≥ (wrap64 ((wrap64 (t267)) - 1)) then ((grottoref02_Inf.f kj52 a0_0 a0_1 a1).bind fun t268 => (some t268)) else ((grottoref02_power.f kj52 a0_0).bind fun t269 => ((grottoref02_Whole.f kj52 a0_0 a0_1 a1 (IntKind.u64.wrap (wrap64 ((wrap64 (x11_52 - t266)) + 1))) (IntKind.u64.wrap (x16_52 - t269))).bind fun t270 => (some t270)))) = some r := H
                            have A62 := Aside0.mk A620
                            clear A620
                            by_cases c63 : (wrap64 ((wrap64 (x11_52 - t266)) + 1)) ≥ (wrap64 ((wrap64 (t267)) - 1))
                            · rw [if_pos c63] at H
                              have c63b0 : decide ((wrap64 ((wrap64 (t267)) - 1)) ≤ (wrap64 ((wrap64 (x11_52 - t266)) + 1))) = true := decide_eq_true c63
                              clear c63
                              replace H := Option.bind_eq_some_iff.mp H
                              obtain ⟨t268, A640, H⟩ := H
                              replace H : (some t268) = some r := H
                              have A64 := Aside0.mk A640
                              clear A640
                              obtain rfl := Option.some.inj H
                              obtain ⟨hcz65_0, hcz65_1, hfz65_0, hfz65_1⟩ := zc2 BK237
                              go_wp2_with (first | ((with_reducible refine gate_callee (f := 39) rfl ?_); refine zgo (some 101) Try.func39 #[.int .i64 a0_0] ?_; (with_reducible refine (grottoref02_power.calls kj52 a0_0 t264 _ A56.out).mono ?_); rintro e w' ⟨rfl, ⟨nd, rfl⟩⟩; refine ⟨_, rfl, ?_⟩) | ((with_reducible refine gate_callee (f := 36) rfl ?_); refine zgo (some 109) Try.func36 #[.agg #[.int .i64 a0_0, .int .i64 a0_1]] ?_; (with_reducible refine (grottoref02_Least.calls kj52 a0_0 a0_1 t266 _ A61.out).mono ?_); rintro e w66 ⟨rfl, hb⟩; refine ⟨_, rfl, ?_⟩; replace BK237 := zkb BK237 hb; replace HB := zbs HB hb; (try clear hb); (try clear hb2); (try clear hk); (try clear hi); obtain ⟨hcz67_0, hcz67_1, hfz67_0, hfz67_1⟩ := zc2 BK237) | ((with_reducible refine gate_callee (f := 39) rfl ?_); refine zgo (some 115) Try.func39 #[.int .i64 a0_1] ?_; (with_reducible refine (grottoref02_power.calls kj52 a0_1 t267 _ A62.out).mono ?_); rintro e w' ⟨rfl, ⟨nd, rfl⟩⟩; refine ⟨_, rfl, ?_⟩) | ((with_reducible refine gate_callee (f := 23) rfl ?_); refine zgo (some 121) Try.func23 #[.agg #[.int .i64 a0_0, .int .i64 a0_1], .bool a1] ?_; (with_reducible refine (grottoref02_Inf.calls kj52 a0_0 a0_1 a1 t268 _ A64.out).mono ?_); rintro e w68 ⟨rfl, hb⟩; refine ⟨_, rfl, ?_⟩; replace BK237 := zkb BK237 hb; replace HB := zbs HB hb; (try clear hb); (try clear hb2); (try clear hk); (try clear hi)))
                              go_ret
                              exact ⟨by first | rfl | (simp [errW_none, errW_some] <;> rfl) | (simp only [← hji17]; first | rfl | (simp [errW_none, errW_some] <;> rfl)) | (simp [*, errW_none, errW_some] <;> rfl), zb HB⟩
                            · rw [if_neg c63] at H
                              have c63b0 : decide ((wrap64 ((wrap64 (t267)) - 1)) ≤ (wrap64 ((wrap64 (x11_52 - t266)) + 1))) = false := decide_eq_false c63
                              clear c63
                              replace H := Option.bind_eq_some_iff.mp H
                              obtain ⟨t269, A690, H⟩ := H
                              replace H : ((grottoref02_Whole.f kj52 a0_0 a0_1 a1 (IntKind.u64.wrap (wrap64 ((wrap64 (x11_52 - t266)) + 1))) (IntKind.u64.wrap (x16_52 - t269))).bind fun t270 => (some t270)) = some r := H
                              have A69 := Aside0.mk A690
                              clear A690
                              replace H := Option.bind_eq_some_iff.mp H
                              obtain ⟨t270, A700, H⟩ := H
                              replace H : (some t270) = some r := H
                              have A70 := Aside0.mk A700
                              clear A700
                              obtain rfl := Option.some.inj H
                              obtain ⟨hcz71_0, hcz71_1, hfz71_0, hfz71_1⟩ := zc2 BK237
                              try go_wp2_with (first | ((with_reducible refine gate_callee (f := 39) rfl ?_); refine zgo (some 101) Try.func39 #[.int .i64 a0_0] ?_; (with_reducible refine (grottoref02_power.calls kj52 a0_0 t264 _ A56.out).mono ?_); rintro e w' ⟨rfl, ⟨nd, rfl⟩⟩; refine ⟨_, rfl, ?_⟩) | ((with_reducible refine gate_callee (f := 36) rfl ?_); refine zgo (some 109) Try.func36 #[.agg #[.int .i64 a0_0, .int .i64 a0_1]] ?_; (with_reducible refine (grottoref02_Least.calls kj52 a0_0 a0_1 t266 _ A61.out).mono ?_); rintro e w72 ⟨rfl, hb⟩; refine ⟨_, rfl, ?_⟩; replace BK237 := zkb BK237 hb; replace HB := zbs HB hb; (try clear hb); (try clear hb2); (try clear hk); (try clear hi); obtain ⟨hcz73_0, hcz73_1, hfz73_0, hfz73_1⟩ := zc2 BK237) | ((with_reducible refine gate_callee (f := 39) rfl ?_); refine zgo (some 115) Try.func39 #[.int .i64 a0_1] ?_; (with_reducible refine (grottoref02_power.calls kj52 a0_1 t267 _ A62.out).mono ?_); rintro e w' ⟨rfl, ⟨nd, rfl⟩⟩; refine ⟨_, rfl, ?_⟩))
                              (try (rw [drewN_self w72]; generalize hq_ : World.drewN w72 _ = w72; have n0_ : Aside0 (w72.heap[gb237]? = some (.cells #[.int .i64 a0_0, .int .i64 a0_1] 23 (0, 0))) := ⟨by rw [← hq_]; exact (zk BK237)⟩; have n1_ : Aside0 (Below w.heap.size w w72) := ⟨by rw [← hq_]; exact (zb HB)⟩; clear BK237 HB hq_; have BK237 := n0_; have HB := n1_; clear n0_ n1_; obtain ⟨y237_0, y237_1, y237_2, y237_3⟩ := zc2 BK237))
                              replace BK237 := Aside0.mk (blk_drew BK237.out)
                              replace HB := Aside0.mk (below_drew1 HB.out)
                              refine start_ (n := 11) (S := fun w' => w'.cell? ⟨gb237, 0, none⟩ = some (.int .i64 a0_0) ∧ w'.cell? ⟨gb237, 1, none⟩ = some (.int .i64 a0_1)) (ds := []) #[false, false, false, false, false, false, false, false, false, false, false] (by kernel_rfl) rfl rfl ⟨(blk_cell BK237.out 0).trans rfl, (blk_cell BK237.out 1).trans rfl⟩ (fun hHeld => ?_); refine with_tabW grottoref02_Near.tab25 grottoref02_Near.bits25 (fun HT_ HW_ => ?_)
                              generalize w72.drew = w74 at BK237 HB hHeld ⊢
                              refine zpure_ (i := 1) (N := some 123) #[false, true, false, false, false, false, false, false, false, false, false] (any_of HT_.out (by kernel_rfl)) ?_
                              refine zpure_ (i := 2) (N := some 124) #[false, true, true, false, false, false, false, false, false, false, false] (any_of HT_.out (by kernel_rfl)) ?_
                              refine zpure_ (i := 3) (N := some 125) #[false, true, true, true, false, false, false, false, false, false, false] (any_of HT_.out (by kernel_rfl)) ?_
                              refine zpure_ (i := 4) (N := some 126) #[false, true, true, true, true, false, false, false, false, false, false] (any_of HT_.out (by kernel_rfl)) ?_
                              refine zpure_ (i := 5) (N := some 127) #[false, true, true, true, true, true, false, false, false, false, false] (any_of HT_.out (by kernel_rfl)) ?_
                              refine ztake_ (i := 0) (N := some 122) #[true, true, true, true, true, true, false, false, false, false, false] rfl (take_ofW HT_.out HW_.out (by kernel_rfl)) hHeld (Or.inl ⟨by rfl, by rintro w' ⟨s0, s1⟩; go_simp; with_reducible rfl⟩) ?_
                              refine ztake_ (i := 6) (N := some 128) #[true, true, true, true, true, true, true, false, false, false, false] rfl (take_ofW HT_.out HW_.out (by kernel_rfl)) hHeld (Or.inl ⟨by rfl, by rintro w' ⟨s0, s1⟩; go_simp; with_reducible rfl⟩) ?_
                              refine one_ (i := 7) (N := some 129) #[true, true, true, true, true, true, true, true, false, false, false] rfl rfl (one_of HT_.out (by kernel_rfl)) (by decide) (fun K hK => ?_)
                              refine goes_ Try.func39 (by kernel_rfl) rfl #[.int .i64 a0_0] (by rfl) rfl rfl (by (try simp only [List.map_toArray, List.map_cons, List.map_nil]); first | done | rfl | (simp only [List.length_drop, List.length_take]; rfl)) ?_
                              with_reducible refine (grottoref02_power.calls kj52 a0_0 t269 _ A69.out).mono ?_
                              rintro e w' ⟨rfl, ⟨nd, rfl⟩⟩
                              refine ⟨_, rfl, ?_⟩
                              refine hK.out _ _ ⟨(blk_cell BK237.out 0).trans rfl, (blk_cell BK237.out 1).trans rfl⟩ (fun hHeld => ?_)
                              clear hK K
                              refine norm_ (a' := ?_) ?_ ?_
                              rotate_left
                              · show Act.put _ (some 129) _ = _
                                simp only [Act.put, List.setIfInBounds_toArray, List.set_cons_zero, List.set_cons_succ, i64_w, i32_w]
                                rfl
                              refine zpure_ (i := 8) (N := some 130) #[true, true, true, true, true, true, true, true, true, false, false] (any_of HT_.out (by kernel_rfl)) ?_
                              refine one_ (i := 9) (N := some 131) #[true, true, true, true, true, true, true, true, true, true, false] rfl rfl (one_of HT_.out (by kernel_rfl)) (by decide) (fun K hK => ?_)
                              refine goes_ Try.func41 (by kernel_rfl) rfl #[.agg #[.int .i64 a0_0, .int .i64 a0_1], .bool a1, .int .u64 (IntKind.u64.wrap (wrap64 ((wrap64 (x11_52 - t266)) + 1))), .int .u64 (IntKind.u64.wrap (x16_52 - t269))] (by rfl) rfl rfl (by (try simp only [List.map_toArray, List.map_cons, List.map_nil]); first | done | rfl | (simp only [List.length_drop, List.length_take]; rfl)) ?_
                              with_reducible refine (grottoref02_Whole.calls kj52 a0_0 a0_1 a1 (IntKind.u64.wrap (wrap64 ((wrap64 (x11_52 - t266)) + 1))) (IntKind.u64.wrap (x16_52 - t269)) t270 _ A70.out).mono ?_
                              rintro e w75 ⟨rfl, hb⟩
                              refine ⟨_, rfl, ?_⟩
                              replace BK237 := zkb BK237 hb
                              replace HB := zbs HB hb
                              (try clear hb)
                              (try clear hb2)
                              (try clear hk)
                              (try clear hi)
                              refine hK.out _ _ ⟨(blk_cell BK237.out 0).trans rfl, (blk_cell BK237.out 1).trans rfl⟩ (fun hHeld => ?_)
                              clear hK K
                              refine norm_ (a' := ?_) ?_ ?_
                              rotate_left
                              · show Act.put _ (some 131) _ = _
                                simp only [Act.put, List.setIfInBounds_toArray, List.set_cons_zero, List.set_cons_succ, i64_w, i32_w]
                                rfl
                              refine zpure_ (i := 10) (N := some 10) #[true, true, true, true, true, true, true, true, true, true, true] (any_of HT_.out (by kernel_rfl)) ?_
                              refine done_ (done_of HT_.out (by kernel_rfl)) ?_
                              try go_wp2
                              go_ret
                              exact ⟨by first | rfl | (simp [errW_none, errW_some] <;> rfl) | (simp only [← hji17]; first | rfl | (simp [errW_none, errW_some] <;> rfl)) | (simp [*, errW_none, errW_some] <;> rfl), zb HB⟩
            · rw [if_neg c33] at H
              have c33b0 : decide (t257 ≤ (wrap64 (a0_0 + 1))) = false := decide_eq_false c33
              clear c33
              have H' := Aside0.mk H
              clear H
              obtain ⟨Ao76, co76, eo76⟩ := Kd.V_slice HO_15.out
              subst eo76
              obtain ⟨Ao77, co77, eo77⟩ := Kd.V_slice HO_14.out
              subst eo77
              try go_wp2_with (first | ((with_reducible refine gate_callee (f := 43) rfl ?_); refine zgo (some 58) Try.func43 #[.slice Ao76 x15_24.length co76, .slice Ao77 x14_24.length co77] ?_; (with_reducible refine (grottoref02_Quo.calls kj24 (fun k_ => (((P2_ k_ ∨ P3_ k_) ∨ w.heap.size ≤ k_) ∧ k_ ≠ gb237)) _ _ x15_24 _ _ x14_24 t251 t254 _ ?side1 ?side2 ?side3 A31.out).mono ?_); (case side1 => exact HO_15.out); (case side2 => repeat (first | exact (Kd.V_reads' HO_14.out).2.2 | (with_reducible refine Kd.C_alloc ?_ _) | (with_reducible refine Kd.C_drewN ?_ _) | (with_reducible refine Kd.C_drew ?_))); (case side3 => exact (Kd.V_reads' HO_14.out).2.1); rintro e w78 ⟨v252, v255, rfl, ho0, ho1, hb⟩; refine ⟨_, rfl, ?_⟩; have HO253 := Aside0.mk (Kd.V_lower (Kd.V_mono (ok' := fun k_ => ((P2_ k_ ∨ P3_ k_) ∨ w.heap.size ≤ k_) ∧ k_ ≠ gb237) ho0 (fun k_ hk_ => ⟨Or.elim hk_ (fun hs_ => hs_.1) (fun hn_ => (.inr (Nat.le_trans (below_size (zb HB)) hn_))), Or.elim hk_ (fun hs_ => hs_.2) (fun hn_ => (Kd.freshB (g := gb237) (o := .cells #[.int .i64 a0_0, .int .i64 a0_1] 23 (0, 0)) (zk BK237) k_ hn_))⟩)) (below_size (zb HB))); have HO256 := Aside0.mk (Kd.V_lower (Kd.V_mono (ok' := fun k_ => ((P2_ k_ ∨ P3_ k_) ∨ w.heap.size ≤ k_) ∧ k_ ≠ gb237) ho1 (fun k_ hk_ => ⟨Or.elim hk_ (fun hs_ => hs_.1) (fun hn_ => (.inr (Nat.le_trans (below_size (zb HB)) hn_))), Or.elim hk_ (fun hs_ => hs_.2) (fun hn_ => (Kd.freshB (g := gb237) (o := .cells #[.int .i64 a0_0, .int .i64 a0_1] 23 (0, 0)) (zk BK237) k_ hn_))⟩)) (below_size (zb HB))); replace HO_2 := Aside0.mk (Kd.V_below (by (with_reducible repeat (first | apply Kd.V_alloc | apply Kd.V_drewN | apply Kd.V_drew)); exact HO_2.out) hb); replace HO_3 := Aside0.mk (Kd.V_below (by (with_reducible repeat (first | apply Kd.V_alloc | apply Kd.V_drewN | apply Kd.V_drew)); exact HO_3.out) hb); replace HO_14 := Aside0.mk (Kd.V_below (by (with_reducible repeat (first | apply Kd.V_alloc | apply Kd.V_drewN | apply Kd.V_drew)); exact HO_14.out) hb); replace HO_15 := Aside0.mk (Kd.V_below (by (with_reducible repeat (first | apply Kd.V_alloc | apply Kd.V_drewN | apply Kd.V_drew)); exact HO_15.out) hb); replace BK237 := zkb BK237 hb; replace HB := zbs HB hb; (try clear hb); (try clear hb2); (try clear hk); (try clear hi); (try clear ho0); (try clear ho1)))
              replace HO_2 := Aside0.mk (Kd.V_drew HO_2.out)
              replace HO_3 := Aside0.mk (Kd.V_drew HO_3.out)
              replace HO_14 := Aside0.mk (Kd.V_drew HO_14.out)
              replace HO_15 := Aside0.mk (Kd.V_drew HO_15.out)
              replace HO253 := Aside0.mk (Kd.V_drew HO253.out)
              replace HO256 := Aside0.mk (Kd.V_drew HO256.out)
              replace BK237 := Aside0.mk (blk_drew BK237.out)
              replace HB := Aside0.mk (below_drew1 HB.out)
              obtain ⟨Ao80, co80, eo80⟩ := Kd.V_slice HO253.out
              (first | subst eo80 | (injection eo80 with f1_ f2_ f3_; have f4_ := f1_.symm; have f5_ := f3_.symm; clear f1_ f2_ f3_; subst f4_; subst f5_))
              refine start_ (n := 6) (S := fun w' => w'.cell? ⟨gb237, 0, none⟩ = some (.int .i64 a0_0) ∧ w'.cell? ⟨gb237, 1, none⟩ = some (.int .i64 a0_1)) (ds := []) #[false, false, false, false, false, false] (by kernel_rfl) rfl rfl ⟨(blk_cell BK237.out 0).trans rfl, (blk_cell BK237.out 1).trans rfl⟩ (fun hHeld => ?_)
              generalize w78.drew = w79 at HO_2 HO_3 HO_14 HO_15 HO253 HO256 BK237 HB hHeld ⊢
              refine zpure_ (i := 0) (N := some 61) #[true, false, false, false, false, false] (by kernel_rfl) ?_
              refine zpure_ (i := 2) (N := some 63) #[true, false, true, false, false, false] (by kernel_rfl) ?_
              refine ztake_ (i := 3) (N := some 64) #[true, false, true, true, false, false] rfl (by kernel_rfl) hHeld (Or.inl ⟨by rfl, by rintro w' ⟨s0, s1⟩; go_simp; with_reducible rfl⟩) ?_
              refine zpure_ (i := 4) (N := some 65) #[true, false, true, true, true, false] (by kernel_rfl) ?_
              refine one_ (i := 1) (N := some 62) #[true, true, true, true, true, false] rfl rfl (by kernel_rfl) (by decide) (fun K hK => ?_)
              refine goes_ Try.func33 (by kernel_rfl) rfl #[.slice Ao80 t251.length co80] (by rfl) rfl rfl (by (try simp only [List.map_toArray, List.map_cons, List.map_nil]); first | done | rfl | (simp only [List.length_drop, List.length_take]; rfl)) ?_
              with_reducible refine (grottoref02_Bits.calls kj24 _ _ t251 t257 _ ?side1 ?side2 A32.out).mono ?_
              (case side1 => repeat (first | exact (Kd.V_reads' HO253.out).2.2 | (with_reducible refine Kd.C_alloc ?_ _) | (with_reducible refine Kd.C_drewN ?_ _) | (with_reducible refine Kd.C_drew ?_)))
              (case side2 => exact (Kd.V_reads' HO253.out).2.1)
              rintro e w81 ⟨rfl, hb⟩
              refine ⟨_, rfl, ?_⟩
              replace HO_2 := Aside0.mk (Kd.V_below (by (with_reducible repeat (first | apply Kd.V_alloc | apply Kd.V_drewN | apply Kd.V_drew)); exact HO_2.out) hb)
              replace HO_3 := Aside0.mk (Kd.V_below (by (with_reducible repeat (first | apply Kd.V_alloc | apply Kd.V_drewN | apply Kd.V_drew)); exact HO_3.out) hb)
              replace HO_14 := Aside0.mk (Kd.V_below (by (with_reducible repeat (first | apply Kd.V_alloc | apply Kd.V_drewN | apply Kd.V_drew)); exact HO_14.out) hb)
              replace HO_15 := Aside0.mk (Kd.V_below (by (with_reducible repeat (first | apply Kd.V_alloc | apply Kd.V_drewN | apply Kd.V_drew)); exact HO_15.out) hb)
              replace HO253 := Aside0.mk (Kd.V_below (by (with_reducible repeat (first | apply Kd.V_alloc | apply Kd.V_drewN | apply Kd.V_drew)); exact HO253.out) hb)
              replace HO256 := Aside0.mk (Kd.V_below (by (with_reducible repeat (first | apply Kd.V_alloc | apply Kd.V_drewN | apply Kd.V_drew)); exact HO256.out) hb)
              replace BK237 := zkb BK237 hb
              replace HB := zbs HB hb
              (try clear hb)
              (try clear hb2)
              (try clear hk)
              (try clear hi)
              refine hK.out _ _ ⟨(blk_cell BK237.out 0).trans rfl, (blk_cell BK237.out 1).trans rfl⟩ (fun hHeld => ?_)
              clear hK K
              refine norm_ (a' := ?_) ?_ ?_
              rotate_left
              · show Act.put _ (some 62) _ = _
                simp only [Act.put, List.setIfInBounds_toArray, List.set_cons_zero, List.set_cons_succ, i64_w, i32_w]
                rfl
              refine zpure_ (i := 5) (N := some 66) #[true, true, true, true, true, true] (by kernel_rfl) ?_
              refine done_ (by kernel_rfl) ?_
              try go_wp2
              go_roundg kj24
              case measure => have := HK1.out; have := HJ24.out; omega
              case rel => exact ⟨(wrap64 (x11_1 + 1)), (by first | rfl | (simp; done) | (simp [*]; done)), H', ⟨by have := HK1.out; have := HJ24.out; omega⟩, ⟨by (with_reducible repeat (first | apply Kd.V_alloc | apply Kd.V_drewN | apply Kd.V_drew)); exact HO_2.out⟩, ⟨by (with_reducible repeat (first | apply Kd.V_alloc | apply Kd.V_drewN | apply Kd.V_drew)); exact HO_3.out⟩, ⟨zk BK237⟩, ⟨zb HB⟩⟩

end Go.Proofs.Ytcfmmkapefpjjaa.PQ
