-- by a program of this claim
import Derived.Test.YtmmbgbchimangaaPQx0
import Derived.Test.YtmmbgbchimangaaPQx3
import Derived.Test.YtmmbgbchimangaaPQx5
import Derived.Test.YtmmbgbchimangaaPQx7
import Derived.Test.YtmmbgbchimangaaPQx8
import Derived.Test.YtmmbgbchimangaaPQx15
import Derived.Test.YtmmbgbchimangaaPQx29
namespace Go.Proofs.Ytmmbgbchimangaa.PQ
open Go.RowKit Go.Proofs.YtmmbgbchimangaaW.PrintWords Go.Proofs.YtmmbgbchimangaaW.PrintLast Go.Proofs.YtmmbgbchimangaaW.PrintMore Go.Proofs.Ytmmbgbchimangaa.Z
attribute [local go_sem] max2_int min2_int max_two min_two max_three min_three max_four min_four   -- for this text's walks alone
set_option linter.unusedVariables false
set_option linter.unusedSimpArgs false

/-! ### grottolaw03_SoftSquares: function 9 -/
mutual
def grottolaw03_SoftSquares.j0 : Nat → Int → Bool → Int → Int → Int → Bool → Int → Int → Option (Bool)
 | 0, _, _, _, _, _, _, _, _ => none
 | k + 1, x1, x25, x982000, x982001, x988000, x988001, x988002, x988003 => if x25 = true then ((grottolaw03_live.f k).bind fun t988 => (some t988)) else ((grottoref02_Bias.f k x982000 x982001).bind fun t989 => (if 0 ≤ x982000 then (if (shr .u64 x988003 x982000) = 0 then (grottolaw03_SoftSquares.j1 k x1 true x982000 x982001 x988000 x988001 x988002 x988003) else (if (wrap64 (x988002 + x982000)) > (wrap64 ((wrap64 (Int.tdiv t989 2)) - 1)) then (grottolaw03_SoftSquares.j1 k x1 true x982000 x982001 x988000 x988001 x988002 x988003) else (grottolaw03_SoftSquares.j1 k x1 (decide ((wrap64 (x988002 + x982000)) < (wrap64 (-(wrap64 ((wrap64 (Int.tdiv t989 2)) - 1)))))) x982000 x982001 x988000 x988001 x988002 x988003))) else (none)))
def grottolaw03_SoftSquares.j1 : Nat → Int → Bool → Int → Int → Int → Bool → Int → Int → Option (Bool)
 | 0, _, _, _, _, _, _, _, _ => none
 | k + 1, x1, x52, x982000, x982001, x988000, x988001, x988002, x988003 => if x52 = true then ((grottolaw03_live.f k).bind fun t990 => (some t990)) else ((soft_Mul.f k x982000 x982001 x1 x1).bind fun bt991 => ((soft_Sqrt.f k x982000 x982001 bt991.1).bind fun bt993 => (if x988001 = true then ((grottoref03_Turn.f k x982000 x982001 x1).bind fun t995 => ((grottolaw03_num.f bt991.2).bind fun t996 => ((grottolaw03_num.f bt993.2).bind fun t997 => (if (wrap64 (t996 + t997)) = 0 then (if bt993.1 = t995 then ((grottolaw03_live.f k).bind fun t998 => (some t998)) else (some false)) else (some false))))) else ((grottolaw03_num.f bt991.2).bind fun t999 => ((grottolaw03_num.f bt993.2).bind fun t1000 => (if (wrap64 (t999 + t1000)) = 0 then (if bt993.1 = x1 then ((grottolaw03_live.f k).bind fun t1001 => (some t1001)) else (some false)) else (some false)))))))
end
def grottolaw03_SoftSquares.f (k : Nat) (a0_0 : Int) (a0_1 : Int) (a1 : Int) : Option (Bool) := (grottoref02_Open.f k a0_0 a0_1 a1).bind fun bt982 => (if bt982.2.2.2.2 = 0 then (grottolaw03_SoftSquares.j0 k a1 (bt982.1 != 2) a0_0 a0_1 bt982.1 bt982.2.1 bt982.2.2.1 bt982.2.2.2.1) else (grottolaw03_SoftSquares.j0 k a1 true a0_0 a0_1 bt982.1 bt982.2.1 bt982.2.2.1 bt982.2.2.2.1))
theorem grottolaw03_SoftSquares.mono_l : ∀ k, (∀ y0 y1 y2 y3 y4 y5 y6 y7, LeO (grottolaw03_SoftSquares.j0 k y0 y1 y2 y3 y4 y5 y6 y7) (grottolaw03_SoftSquares.j0 (k + 1) y0 y1 y2 y3 y4 y5 y6 y7)) ∧ (∀ y0 y1 y2 y3 y4 y5 y6 y7, LeO (grottolaw03_SoftSquares.j1 k y0 y1 y2 y3 y4 y5 y6 y7) (grottolaw03_SoftSquares.j1 (k + 1) y0 y1 y2 y3 y4 y5 y6 y7))
 | 0 => ⟨fun _ _ _ _ _ _ _ _ r h => by simp [grottolaw03_SoftSquares.j0] at h, fun _ _ _ _ _ _ _ _ r h => by simp [grottolaw03_SoftSquares.j1] at h⟩
 | k + 1 => by
  obtain ⟨ih0, ih1⟩ := grottolaw03_SoftSquares.mono_l k
  refine ⟨?_, ?_⟩
  ·intro y0 y1 y2 y3 y4 y5 y6 y7
   unfold grottolaw03_SoftSquares.j0
   repeat' first
   | (with_reducible exact ih0 _ _ _ _ _ _ _ _)
   | (with_reducible exact ih1 _ _ _ _ _ _ _ _)
   | (with_reducible exact grottolaw03_live.mono _)
   | (with_reducible exact grottoref02_Bias.mono _ _ _)
   | (with_reducible exact grottoref02_Open.mono _ _ _ _)
   | (with_reducible exact grottoref03_Turn.mono _ _ _ _)
   | (with_reducible exact soft_Mul.mono _ _ _ _ _)
   | (with_reducible exact soft_Sqrt.mono _ _ _ _)
   | (with_reducible exact LeO.refl _)
   | (with_reducible exact LeO.none _)
   | (with_reducible refine LeO.ite ?_ ?_)
   | (with_reducible refine LeO.bind ?_ (fun _ => ?_))
   | exact ih0 _ _ _ _ _ _ _ _
   | exact ih1 _ _ _ _ _ _ _ _
   | exact grottolaw03_live.mono _
   | exact grottoref02_Bias.mono _ _ _
   | exact grottoref02_Open.mono _ _ _ _
   | exact grottoref03_Turn.mono _ _ _ _
   | exact soft_Mul.mono _ _ _ _ _
   | exact soft_Sqrt.mono _ _ _ _
   | exact LeO.none _
   | refine LeO.ite ?_ ?_
   | refine LeO.bind ?_ (fun _ => ?_)
  ·intro y0 y1 y2 y3 y4 y5 y6 y7
   unfold grottolaw03_SoftSquares.j1
   repeat' first
   | (with_reducible exact ih0 _ _ _ _ _ _ _ _)
   | (with_reducible exact ih1 _ _ _ _ _ _ _ _)
   | (with_reducible exact grottolaw03_live.mono _)
   | (with_reducible exact grottoref02_Bias.mono _ _ _)
   | (with_reducible exact grottoref02_Open.mono _ _ _ _)
   | (with_reducible exact grottoref03_Turn.mono _ _ _ _)
   | (with_reducible exact soft_Mul.mono _ _ _ _ _)
   | (with_reducible exact soft_Sqrt.mono _ _ _ _)
   | (with_reducible exact LeO.refl _)
   | (with_reducible exact LeO.none _)
   | (with_reducible refine LeO.ite ?_ ?_)
   | (with_reducible refine LeO.bind ?_ (fun _ => ?_))
   | exact ih0 _ _ _ _ _ _ _ _
   | exact ih1 _ _ _ _ _ _ _ _
   | exact grottolaw03_live.mono _
   | exact grottoref02_Bias.mono _ _ _
   | exact grottoref02_Open.mono _ _ _ _
   | exact grottoref03_Turn.mono _ _ _ _
   | exact soft_Mul.mono _ _ _ _ _
   | exact soft_Sqrt.mono _ _ _ _
   | exact LeO.none _
   | refine LeO.ite ?_ ?_
   | refine LeO.bind ?_ (fun _ => ?_)
theorem grottolaw03_SoftSquares.mono : ∀ a0 a1 a2 k, LeO (grottolaw03_SoftSquares.f k a0 a1 a2) (grottolaw03_SoftSquares.f (k + 1) a0 a1 a2) := by
 intro a0 a1 a2 k
 obtain ⟨ih0, ih1⟩ := grottolaw03_SoftSquares.mono_l k
 unfold grottolaw03_SoftSquares.f
 repeat' first
   | (with_reducible exact ih0 _ _ _ _ _ _ _ _)
   | (with_reducible exact ih1 _ _ _ _ _ _ _ _)
   | (with_reducible exact grottolaw03_live.mono _)
   | (with_reducible exact grottoref02_Bias.mono _ _ _)
   | (with_reducible exact grottoref02_Open.mono _ _ _ _)
   | (with_reducible exact grottoref03_Turn.mono _ _ _ _)
   | (with_reducible exact soft_Mul.mono _ _ _ _ _)
   | (with_reducible exact soft_Sqrt.mono _ _ _ _)
   | (with_reducible exact LeO.refl _)
   | (with_reducible exact LeO.none _)
   | (with_reducible refine LeO.ite ?_ ?_)
   | (with_reducible refine LeO.bind ?_ (fun _ => ?_))
   | exact ih0 _ _ _ _ _ _ _ _
   | exact ih1 _ _ _ _ _ _ _ _
   | exact grottolaw03_live.mono _
   | exact grottoref02_Bias.mono _ _ _
   | exact grottoref02_Open.mono _ _ _ _
   | exact grottoref03_Turn.mono _ _ _ _
   | exact soft_Mul.mono _ _ _ _ _
   | exact soft_Sqrt.mono _ _ _ _
   | exact LeO.none _
   | refine LeO.ite ?_ ?_
   | refine LeO.bind ?_ (fun _ => ?_)
def grottolaw03_SoftSquares.T4 : Bool × List (List Nat × List Nat) := (true, [([], []), ([0], [0]), ([], []), ([2], [2]), ([1, 3], [1, 3]), ([], []), ([5], [5]), ([6], [6]), ([7], [7]), ([4, 6, 0, 1, 2, 3, 4], [4]), ([8, 9, 0, 1, 2, 3, 4, 5, 6, 7, 8, 9], [8])])
def grottolaw03_SoftSquares.B4 : List Nat := [0, 1, 0, 4, 15, 0, 32, 96, 224, 127, 1023]
theorem grottolaw03_SoftSquares.tab4 : rtab .any (opsOf Try.f9 4) = grottolaw03_SoftSquares.T4 := by kernel_rfl
theorem grottolaw03_SoftSquares.bits4 : waitsOk grottolaw03_SoftSquares.T4.2 grottolaw03_SoftSquares.B4 = true := by kernel_rfl
set_option maxHeartbeats 8000000 in
set_option maxRecDepth 100000 in
theorem grottolaw03_SoftSquares.calls {k : Nat} {c : Int} {g : Int} {a1 : Int} {r : Bool} {w : World} (h : grottolaw03_SoftSquares.f k c g a1 = some r) :
  Calls Try.prog 9 #[.agg #[.int .i64 c, .int .i64 g], .int .u64 a1] w fun e w' => e = .returned (.bool r) ∧ Below w.heap.size w w' := by
 have hu23 := Try.underlying23
 have hu34 := Try.underlying34
 have HB := Aside0.mk (Below.refl w.heap.size w)
 have H : ((grottoref02_Open.f k c g a1).bind fun m => (if m.2.2.2.2 = 0 then (grottolaw03_SoftSquares.j0 k a1 (m.1 != 2) c g m.1 m.2.1 m.2.2.1 m.2.2.2.1) else (grottolaw03_SoftSquares.j0 k a1 true c g m.1 m.2.1 m.2.2.1 m.2.2.2.1))) = some r := h
 clear h
 obtain ⟨⟨p, q, l, o, aT⟩, A3, H⟩ := oB H
 try dsimp only at H
 have aA := Aside0.mk H
 clear H
 go_enter Try.func9, Try.ntmps9
 go_upto_region 2 with (first | ((with_reducible refine gate_dst (N := 2) rfl ?_); refine zbox (N := 2) (cs := #[.int .i64 c, .int .i64 g]) (t := 23) ?_; intro D hg w5 hbox hb; have a := Aside0.mk hbox; have dv := zge hg HB; have dw := zge hg HB; replace HB := zbs HB hb; clear hb hbox hg; obtain ⟨R, T, U, V⟩ := zc2 a) | ((with_reducible refine gate_callee (f := 20) rfl ?_); refine zgc (some 16) Try.func20 (grottoref02_Open.calls A3.out) ?_; intro w7 hb; obtain ⟨a, HB⟩ := zu1 a HB hb; clear hb) | ((with_reducible refine gate_dst (N := 5) rfl ?_); refine zbox (N := 5) (cs := #[.int .i64 0, .bool false, .int .i64 0, .int .u64 0]) (t := 34) ?_; intro s hg w8 hbox hb; have b := Aside0.mk hbox; have dx := zge hg HB; have dy := zge hg HB; have d := znl hg a; have j := zng hg a; obtain ⟨a, HB⟩ := zu1 a HB hb; clear hb hbox hg; obtain ⟨d0, d1⟩ := z2 j; obtain ⟨G, I, J, L, M, O, P, Q⟩ := zc4 b))
 (try simp only [Act.put, List.setIfInBounds_toArray, List.set_cons_zero, List.set_cons_succ])
 go_cut [25] (fun v25 wc => ∃ (kq : Nat) (E : Bool), v25 = .bool E ∧ Aside0 (grottolaw03_SoftSquares.j0 kq a1 E c g p q l o = some r) ∧ Aside0 (kq ≤ k) ∧ Aside0 (wc.heap[D]? = some (.cells #[.int .i64 c, .int .i64 g] 23 (0, 0))) ∧ Aside0 (wc.heap[s]? = some (.cells #[.int .i64 p, .bool q, .int .i64 l, .int .u64 o] 34 (0, 0))) ∧ Aside0 (Below w.heap.size w wc))
 case first =>
  have H := aA.out
  clear aA
  by_cases X : aT = 0
  ·rw [if_pos X] at H
   obtain ⟨u, ac⟩ := zt X
   clear X
   (first | rw [u] | (simp only [i64_w, i32_w]; rw [u]) | skip)
   have H' := Aside0.mk H
   clear H
   obtain ⟨dz, dA⟩ := z2 j
   obtain ⟨ad, ae, af, ag, ah, ai, aj, ak⟩ := zc4 b
   go_wp2
   go_meet
   case rel => exact ⟨_, ((p != 2)), (by first | rfl | (simp [*]; done)), H', ⟨by omega⟩, ⟨zk a⟩, ⟨zkp b⟩, ⟨zb HB⟩⟩
  ·rw [if_neg X] at H
   obtain ⟨u, ac⟩ := zf X
   (first | rw [u] | (simp only [i64_w, i32_w]; rw [u]) | skip)
   have H' := Aside0.mk H
   clear H
   go_wp2
   go_meet
   case rel => exact ⟨_, (true), (by first | rfl | (simp [*]; done)), H', ⟨by omega⟩, ⟨zk a⟩, ⟨zkp b⟩, ⟨zb HB⟩⟩
 case rest =>
  clear aA
  try clear G I J L R T M O P Q U V
  obtain ⟨kq, E, rfl, HA, aB, a, b, HB⟩ := hcut
  cases kq with
  | zero => exact absurd HA.out (by simp [grottolaw03_SoftSquares.j0])
  | succ al =>
   have H := HA.out
   clear HA
   simp only [grottolaw03_SoftSquares.j0] at H
   by_cases am : E = true
   ·subst am
    rw [if_pos rfl] at H
    obtain ⟨aU, dB, H⟩ := oB H
    obtain rfl := Option.some.inj H
    go_wp2_with (first | ((with_reducible refine gate_callee (f := 19) rfl ?_); refine zgc (some 26) Try.func19 (grottolaw03_live.calls al  aU _ dB.out) ?_; intro d5 hb; obtain ⟨a, b, HB⟩ := zu2 a b HB hb; clear hb))
    go_ret
    exact zr HB
   ·replace am := Bool.eq_false_iff.mpr am
    subst am
    rw [if_neg nft] at H
    obtain ⟨z, dC, H⟩ := oB H
    have an := Aside0.mk H
    clear H
    try go_wp2
    replace a := Aside0.mk (blk_drew a.out)
    replace b := Aside0.mk (blk_drew b.out)
    replace HB := Aside0.mk (below_drew1 HB.out)
    refine start_ (n := 11) (S := fun w' => w'.cell? ⟨s, 0, none⟩ = some (.int .i64 p) ∧ w'.cell? ⟨s, 1, none⟩ = some (.bool q) ∧ w'.cell? ⟨s, 2, none⟩ = some (.int .i64 l) ∧ w'.cell? ⟨s, 3, none⟩ = some (.int .u64 o) ∧ w'.cell? ⟨D, 0, none⟩ = some (.int .i64 c) ∧ w'.cell? ⟨D, 1, none⟩ = some (.int .i64 g)) (ds := []) #[false, false, false, false, false, false, false, false, false, false, false] (by kernel_rfl) rfl rfl ⟨(blk_cell b.out 0).trans rfl, (blk_cell b.out 1).trans rfl, (blk_cell b.out 2).trans rfl, (blk_cell b.out 3).trans rfl, (blk_cell a.out 0).trans rfl, (blk_cell a.out 1).trans rfl⟩ (fun hHeld => ?_); refine with_tabW grottolaw03_SoftSquares.tab4 grottolaw03_SoftSquares.bits4 (fun HT_ HW_ => ?_)
    generalize wc.drew = d6 at a b HB hHeld ⊢
    refine zpure_ (i := 0) (N := some 27) #[true, false, false, false, false, false, false, false, false, false, false] (any_of HT_.out (by kernel_rfl)) ?_
    refine zpure_ (i := 2) (N := some 29) #[true, false, true, false, false, false, false, false, false, false, false] (any_of HT_.out (by kernel_rfl)) ?_
    refine ztake_ (i := 1) (N := some 28) #[true, true, true, false, false, false, false, false, false, false, false] rfl (take_ofW HT_.out HW_.out (by kernel_rfl)) hHeld (Or.inl ⟨by rfl, by rintro w' ⟨s0, s1, s2, s3, s4, s5⟩; go_simp; with_reducible rfl⟩) ?_
    refine ztake_ (i := 3) (N := some 30) #[true, true, true, true, false, false, false, false, false, false, false] rfl (take_ofW HT_.out HW_.out (by kernel_rfl)) hHeld (Or.inl ⟨by rfl, by rintro w' ⟨s0, s1, s2, s3, s4, s5⟩; go_simp; with_reducible rfl⟩) ?_
    refine zpure_ (i := 4) (N := some 31) #[true, true, true, true, true, false, false, false, false, false, false] (any_of HT_.out (by kernel_rfl)) ?_
    refine ztake_ (i := 5) (N := some 32) #[true, true, true, true, true, true, false, false, false, false, false] rfl (take_ofW HT_.out HW_.out (by kernel_rfl)) hHeld (Or.inl ⟨by rfl, by rintro w' ⟨s0, s1, s2, s3, s4, s5⟩; go_simp; with_reducible rfl⟩) ?_
    refine one_ (i := 6) (N := some 33) #[true, true, true, true, true, true, true, false, false, false, false] rfl rfl (one_of HT_.out (by kernel_rfl)) (by decide) (fun K hK => ?_)
    refine goes_ Try.func36 (by kernel_rfl) rfl #[.agg #[.int .i64 c, .int .i64 g]] (by rfl) rfl rfl (by (try simp only [List.map_toArray, List.map_cons, List.map_nil]); first | done | rfl | (simp only [List.length_drop, List.length_take]; rfl)) ?_
    with_reducible refine (grottoref02_Bias.calls dC.out).mono ?_
    rintro e d7 ⟨rfl, hb⟩
    refine ⟨_, rfl, ?_⟩
    obtain ⟨a, b, HB⟩ := zu2 a b HB hb
    try clear hb
    refine hK.out _ _ ⟨(blk_cell b.out 0).trans rfl, (blk_cell b.out 1).trans rfl, (blk_cell b.out 2).trans rfl, (blk_cell b.out 3).trans rfl, (blk_cell a.out 0).trans rfl, (blk_cell a.out 1).trans rfl⟩ (fun hHeld => ?_)
    clear hK K
    refine norm_ (a' := ?_) ?_ ?_
    rotate_left
    ·show Act.put _ (some 33) _ = _
     simp only [Act.put, List.setIfInBounds_toArray, List.set_cons_zero, List.set_cons_succ, i64_w, i32_w]
     rfl
    refine zpure_ (i := 7) (N := some 34) #[true, true, true, true, true, true, true, true, false, false, false] (any_of HT_.out (by kernel_rfl)) ?_
    refine zpure_ (i := 8) (N := some 35) #[true, true, true, true, true, true, true, true, true, false, false] (any_of HT_.out (by kernel_rfl)) ?_
    refine zpure_ (i := 9) (N := some 7) #[true, true, true, true, true, true, true, true, true, true, false] (any_of HT_.out (by kernel_rfl)) ?_
    refine zpure_ (i := 10) (N := some 8) #[true, true, true, true, true, true, true, true, true, true, true] (any_of HT_.out (by kernel_rfl)) ?_
    refine done_ (done_of HT_.out (by kernel_rfl)) ?_
    go_upto_region 5 with (fail)
    go_cut [52] (fun v52 wc => ∃ (kq : Nat) (v : Bool), v52 = .bool v ∧ Aside0 (grottolaw03_SoftSquares.j1 kq a1 v c g p q l o = some r) ∧ Aside0 (kq ≤ al) ∧ Aside0 (wc.heap[D]? = some (.cells #[.int .i64 c, .int .i64 g] 23 (0, 0))) ∧ Aside0 (wc.heap[s]? = some (.cells #[.int .i64 p, .bool q, .int .i64 l, .int .u64 o] 34 (0, 0))) ∧ Aside0 (Below w.heap.size w wc))
    case first =>
     have H := an.out
     clear an
     by_cases ao : 0 ≤ c
     ·rw [if_pos ao] at H
      have dD := eq_true ao
      have dE : decide (0 ≤ c) = true := decide_eq_true ao
      clear ao
      obtain ⟨W, F⟩ : ∃ j_ : Int, (shr .u64 o c) = j_ := ⟨_, rfl⟩
      replace H : (if (W) = 0 then (grottolaw03_SoftSquares.j1 al a1 true c g p q l o) else (if (wrap64 (l + c)) > (wrap64 ((wrap64 (Int.tdiv z 2)) - 1)) then (grottolaw03_SoftSquares.j1 al a1 true c g p q l o) else (grottolaw03_SoftSquares.j1 al a1 (decide ((wrap64 (l + c)) < (wrap64 (-(wrap64 ((wrap64 (Int.tdiv z 2)) - 1)))))) c g p q l o))) = some r := by first | (rw [F] at H; exact H) | (simp only [F] at H ⊢; exact H)
      have dt : (o / 2 ^ min c.toNat 64) = W := F
      have du : c ≤ 64 → (o / 2 ^ c.toNat) = W := shr_small F
      by_cases ap : (W) = 0
      ·rw [if_pos ap] at H
       obtain ⟨y, aC⟩ := zt ap
       clear ap
       (first | rw [y] | (simp only [i64_w, i32_w]; rw [y]) | skip)
       have H' := Aside0.mk H
       clear H
       obtain ⟨dF, dG⟩ := z2 j
       obtain ⟨aV, aW, aX, aY, aZ, a0, a2, a3⟩ := zc4 b
       obtain ⟨a4, a5, a6, a7⟩ := zc2 a
       go_wp2
       go_meet
       case rel => exact ⟨_, (true), (by first | rfl | (simp [*]; done)), H', ⟨by have := aB.out; first | omega | exact Nat.le_refl _⟩, ⟨zk a⟩, ⟨zk b⟩, ⟨zb HB⟩⟩
      ·rw [if_neg ap] at H
       obtain ⟨y, aC⟩ := zf ap
       (first | rw [y] | (simp only [i64_w, i32_w]; rw [y]) | skip)
       by_cases Y : (wrap64 (l + c)) > (wrap64 ((wrap64 (Int.tdiv z 2)) - 1))
       ·rw [if_pos Y] at H
        have aD : decide ((wrap64 ((wrap64 (Int.tdiv z 2)) - 1)) < (wrap64 (l + c))) = true := decide_eq_true Y
        clear Y
        have H' := Aside0.mk H
        clear H
        obtain ⟨dH, dI⟩ := z2 j
        obtain ⟨a8, a9, ba, bb, bc, bd, be, bf⟩ := zc4 b
        obtain ⟨bg, bh, bi, bj⟩ := zc2 a
        go_wp2
        go_meet
        case rel => exact ⟨_, (true), (by first | rfl | (simp [*]; done)), H', ⟨by have := aB.out; first | omega | exact Nat.le_refl _⟩, ⟨zk a⟩, ⟨zk b⟩, ⟨zb HB⟩⟩
       ·rw [if_neg Y] at H
        have aD : decide ((wrap64 ((wrap64 (Int.tdiv z 2)) - 1)) < (wrap64 (l + c))) = false := decide_eq_false Y
        clear Y
        have H' := Aside0.mk H
        clear H
        obtain ⟨dJ, dK⟩ := z2 j
        obtain ⟨bk, bl, bm, bn, bo, bp, bq, br⟩ := zc4 b
        obtain ⟨bs, bt, bu, bv⟩ := zc2 a
        go_wp2
        go_meet
        case rel => exact ⟨_, (decide ((wrap64 (l + c)) < (wrap64 (-(wrap64 ((wrap64 (Int.tdiv z 2)) - 1)))))), (by first | rfl | (simp [*]; done)), H', ⟨by have := aB.out; first | omega | exact Nat.le_refl _⟩, ⟨zk a⟩, ⟨zk b⟩, ⟨zb HB⟩⟩
     ·rw [if_neg ao] at H
      exact absurd H (by simp)
    case rest =>
     clear an
     try clear c1 c2 p2 c9 X u ac d9 am G I J L ad ae af ag R T M O P Q ah ai aj ak U V p2
     obtain ⟨kq, v, rfl, HA, d2, a, b, HB⟩ := hcut
     cases kq with
     | zero => exact absurd HA.out (by simp [grottolaw03_SoftSquares.j1])
     | succ aq =>
      have H := HA.out
      clear HA
      simp only [grottolaw03_SoftSquares.j1] at H
      by_cases ax : v = true
      ·subst ax
       rw [if_pos rfl] at H
       obtain ⟨bw, dL, H⟩ := oB H
       obtain rfl := Option.some.inj H
       go_wp2_with (first | ((with_reducible refine gate_callee (f := 19) rfl ?_); refine zgc (some 53) Try.func19 (grottolaw03_live.calls aq  bw _ dL.out) ?_; intro ea hb; obtain ⟨a, b, HB⟩ := zu2 a b HB hb; clear hb))
       go_ret
       exact zr HB
      ·replace ax := Bool.eq_false_iff.mpr ax
       subst ax
       rw [if_neg nft] at H
       obtain ⟨⟨d3, B⟩, Z, H⟩ := oB H
       try dsimp only at H
       obtain ⟨⟨az, C⟩, aa, H⟩ := oB H
       try dsimp only at H
       by_cases ay : q = true
       ·subst ay
        rw [if_pos rfl] at H
        obtain ⟨bx, aE, H⟩ := oB H
        obtain ⟨bz, aF, H⟩ := oB H
        obtain ⟨bA, aG, H⟩ := oB H
        by_cases ar : (wrap64 (bz + bA)) = 0
        ·rw [if_pos ar] at H
         obtain ⟨aH, aI⟩ := zt ar
         clear ar
         by_cases au : az = bx
         ·rw [if_pos au] at H
          obtain ⟨aJ, aK⟩ := zt au
          clear au
          obtain ⟨bB, dM, H⟩ := oB H
          obtain rfl := Option.some.inj H
          obtain ⟨dN, dO⟩ := z2 d
          obtain ⟨bC, bD, bE, bF⟩ := zc2 a
          go_wp2_with (first | ((with_reducible refine gate_callee (f := 32) rfl ?_); refine zgc (some 58) Try.func32 (soft_Mul.calls Z.out) ?_; intro eb hb; obtain ⟨a, b, HB⟩ := zu2 a b HB hb; clear hb; obtain ⟨bG, bH, bI, bJ⟩ := zc2 a) | ((with_reducible refine gate_callee (f := 28) rfl ?_); refine zgc (some 64) Try.func28 (soft_Sqrt.calls aa.out) ?_; intro ec hb; obtain ⟨a, b, HB⟩ := zu2 a b HB hb; clear hb; obtain ⟨bK, bL, bM, bN, bO, bP, bQ, bR⟩ := zc4 b; obtain ⟨bS, bT, bU, bV⟩ := zc2 a) | ((with_reducible refine gate_callee (f := 22) rfl ?_); refine zgc (some 71) Try.func22 (grottoref03_Turn.calls aE.out) ?_; intro ed hb; obtain ⟨a, b, HB⟩ := zu2 a b HB hb; clear hb) | ((with_reducible refine gate_callee (f := 18) rfl ?_); refine zgo (some 73) Try.func18 #[.int .i64 B] ?_; (with_reducible refine (grottolaw03_num.calls aF.out).mono ?_); rintro e w' ⟨rfl, ⟨nd, rfl⟩⟩; refine ⟨_, rfl, ?_⟩) | ((with_reducible refine gate_callee (f := 18) rfl ?_); refine zgo (some 75) Try.func18 #[.int .i64 C] ?_; (with_reducible refine (grottolaw03_num.calls aG.out).mono ?_); rintro e w' ⟨rfl, ⟨nd, rfl⟩⟩; refine ⟨_, rfl, ?_⟩) | (go_at_call 19; (with_reducible refine (grottolaw03_live.calls aq  bB _ dM.out).mono ?_); rintro e ee ⟨rfl, hb⟩; obtain ⟨a, b, HB⟩ := zu2 a b HB hb; clear hb))
          go_ret
          exact zr HB
         ·rw [if_neg au] at H
          obtain ⟨aJ, aK⟩ := zf au
          obtain rfl := Option.some.inj H
          obtain ⟨dP, dQ⟩ := z2 d
          obtain ⟨bW, bX, bY, bZ⟩ := zc2 a
          go_wp2_with (first | ((with_reducible refine gate_callee (f := 32) rfl ?_); refine zgc (some 58) Try.func32 (soft_Mul.calls Z.out) ?_; intro ef hb; obtain ⟨a, b, HB⟩ := zu2 a b HB hb; clear hb; obtain ⟨b0, b1, b2, b3⟩ := zc2 a) | ((with_reducible refine gate_callee (f := 28) rfl ?_); refine zgc (some 64) Try.func28 (soft_Sqrt.calls aa.out) ?_; intro eg hb; obtain ⟨a, b, HB⟩ := zu2 a b HB hb; clear hb; obtain ⟨b4, b5, b6, b7, b8, b9, ca, cb⟩ := zc4 b; obtain ⟨cc, cd, ce, cf⟩ := zc2 a) | ((with_reducible refine gate_callee (f := 22) rfl ?_); refine zgc (some 71) Try.func22 (grottoref03_Turn.calls aE.out) ?_; intro eh hb; obtain ⟨a, b, HB⟩ := zu2 a b HB hb; clear hb) | ((with_reducible refine gate_callee (f := 18) rfl ?_); refine zgo (some 73) Try.func18 #[.int .i64 B] ?_; (with_reducible refine (grottolaw03_num.calls aF.out).mono ?_); rintro e w' ⟨rfl, ⟨nd, rfl⟩⟩; refine ⟨_, rfl, ?_⟩) | ((with_reducible refine gate_callee (f := 18) rfl ?_); refine zgo (some 75) Try.func18 #[.int .i64 C] ?_; (with_reducible refine (grottolaw03_num.calls aG.out).mono ?_); rintro e w' ⟨rfl, ⟨nd, rfl⟩⟩; refine ⟨_, rfl, ?_⟩))
          go_ret
          exact zr HB
        ·rw [if_neg ar] at H
         obtain ⟨aH, aI⟩ := zf ar
         obtain rfl := Option.some.inj H
         obtain ⟨dR, dS⟩ := z2 d
         obtain ⟨cg, ch, ci, cj⟩ := zc2 a
         go_wp2_with (first | ((with_reducible refine gate_callee (f := 32) rfl ?_); refine zgc (some 58) Try.func32 (soft_Mul.calls Z.out) ?_; intro ei hb; obtain ⟨a, b, HB⟩ := zu2 a b HB hb; clear hb; obtain ⟨ck, cl, cm, cn⟩ := zc2 a) | ((with_reducible refine gate_callee (f := 28) rfl ?_); refine zgc (some 64) Try.func28 (soft_Sqrt.calls aa.out) ?_; intro ej hb; obtain ⟨a, b, HB⟩ := zu2 a b HB hb; clear hb; obtain ⟨co, cp, cq, cr, ct, cu, cv, cw⟩ := zc4 b; obtain ⟨cx, cy, cz, cA⟩ := zc2 a) | ((with_reducible refine gate_callee (f := 22) rfl ?_); refine zgc (some 71) Try.func22 (grottoref03_Turn.calls aE.out) ?_; intro ek hb; obtain ⟨a, b, HB⟩ := zu2 a b HB hb; clear hb) | ((with_reducible refine gate_callee (f := 18) rfl ?_); refine zgo (some 73) Try.func18 #[.int .i64 B] ?_; (with_reducible refine (grottolaw03_num.calls aF.out).mono ?_); rintro e w' ⟨rfl, ⟨nd, rfl⟩⟩; refine ⟨_, rfl, ?_⟩) | ((with_reducible refine gate_callee (f := 18) rfl ?_); refine zgo (some 75) Try.func18 #[.int .i64 C] ?_; (with_reducible refine (grottolaw03_num.calls aG.out).mono ?_); rintro e w' ⟨rfl, ⟨nd, rfl⟩⟩; refine ⟨_, rfl, ?_⟩))
         go_ret
         exact zr HB
       ·replace ay := Bool.eq_false_iff.mpr ay
        subst ay
        rw [if_neg nft] at H
        obtain ⟨cB, aL, H⟩ := oB H
        obtain ⟨aM, aN, H⟩ := oB H
        by_cases av : (wrap64 (cB + aM)) = 0
        ·rw [if_pos av] at H
         obtain ⟨aO, aP⟩ := zt av
         clear av
         by_cases aw : az = a1
         ·rw [if_pos aw] at H
          obtain ⟨aQ, aR⟩ := zt aw
          clear aw
          obtain ⟨aS, dT, H⟩ := oB H
          obtain rfl := Option.some.inj H
          obtain ⟨dU, dV⟩ := z2 d
          obtain ⟨cC, cD, cE, cF⟩ := zc2 a
          go_wp2_with (first | ((with_reducible refine gate_callee (f := 32) rfl ?_); refine zgc (some 58) Try.func32 (soft_Mul.calls Z.out) ?_; intro el hb; obtain ⟨a, b, HB⟩ := zu2 a b HB hb; clear hb; obtain ⟨cG, cH, cI, cJ⟩ := zc2 a) | ((with_reducible refine gate_callee (f := 28) rfl ?_); refine zgc (some 64) Try.func28 (soft_Sqrt.calls aa.out) ?_; intro em hb; obtain ⟨a, b, HB⟩ := zu2 a b HB hb; clear hb; obtain ⟨cK, cL, cM, cN, cO, cP, cQ, cR⟩ := zc4 b) | ((with_reducible refine gate_callee (f := 18) rfl ?_); refine zgo (some 73) Try.func18 #[.int .i64 B] ?_; (with_reducible refine (grottolaw03_num.calls aL.out).mono ?_); rintro e w' ⟨rfl, ⟨nd, rfl⟩⟩; refine ⟨_, rfl, ?_⟩) | ((with_reducible refine gate_callee (f := 18) rfl ?_); refine zgo (some 75) Try.func18 #[.int .i64 C] ?_; (with_reducible refine (grottolaw03_num.calls aN.out).mono ?_); rintro e w' ⟨rfl, ⟨nd, rfl⟩⟩; refine ⟨_, rfl, ?_⟩) | (go_at_call 19; (with_reducible refine (grottolaw03_live.calls aq  aS _ dT.out).mono ?_); rintro e en ⟨rfl, hb⟩; obtain ⟨a, b, HB⟩ := zu2 a b HB hb; clear hb))
          go_ret
          exact zr HB
         ·rw [if_neg aw] at H
          obtain ⟨aQ, aR⟩ := zf aw
          obtain rfl := Option.some.inj H
          obtain ⟨dW, dX⟩ := z2 d
          obtain ⟨cS, cT, cU, cV⟩ := zc2 a
          go_wp2_with (first | ((with_reducible refine gate_callee (f := 32) rfl ?_); refine zgc (some 58) Try.func32 (soft_Mul.calls Z.out) ?_; intro eo hb; obtain ⟨a, b, HB⟩ := zu2 a b HB hb; clear hb; obtain ⟨cW, cX, cY, cZ⟩ := zc2 a) | ((with_reducible refine gate_callee (f := 28) rfl ?_); refine zgc (some 64) Try.func28 (soft_Sqrt.calls aa.out) ?_; intro ep hb; obtain ⟨a, b, HB⟩ := zu2 a b HB hb; clear hb; obtain ⟨c0, c3, c4, c5, c6, c7, c8, da⟩ := zc4 b) | ((with_reducible refine gate_callee (f := 18) rfl ?_); refine zgo (some 73) Try.func18 #[.int .i64 B] ?_; (with_reducible refine (grottolaw03_num.calls aL.out).mono ?_); rintro e w' ⟨rfl, ⟨nd, rfl⟩⟩; refine ⟨_, rfl, ?_⟩) | ((with_reducible refine gate_callee (f := 18) rfl ?_); refine zgo (some 75) Try.func18 #[.int .i64 C] ?_; (with_reducible refine (grottolaw03_num.calls aN.out).mono ?_); rintro e w' ⟨rfl, ⟨nd, rfl⟩⟩; refine ⟨_, rfl, ?_⟩))
          go_ret
          exact zr HB
        ·rw [if_neg av] at H
         obtain ⟨aO, aP⟩ := zf av
         obtain rfl := Option.some.inj H
         obtain ⟨dY, dZ⟩ := z2 d
         obtain ⟨db, dc, dd, de⟩ := zc2 a
         go_wp2_with (first | ((with_reducible refine gate_callee (f := 32) rfl ?_); refine zgc (some 58) Try.func32 (soft_Mul.calls Z.out) ?_; intro eq hb; obtain ⟨a, b, HB⟩ := zu2 a b HB hb; clear hb; obtain ⟨df, dg, dh, di⟩ := zc2 a) | ((with_reducible refine gate_callee (f := 28) rfl ?_); refine zgc (some 64) Try.func28 (soft_Sqrt.calls aa.out) ?_; intro er hb; obtain ⟨a, b, HB⟩ := zu2 a b HB hb; clear hb; obtain ⟨dj, dk, dl, dm, dn, dp, dq, dr⟩ := zc4 b) | ((with_reducible refine gate_callee (f := 18) rfl ?_); refine zgo (some 73) Try.func18 #[.int .i64 B] ?_; (with_reducible refine (grottolaw03_num.calls aL.out).mono ?_); rintro e w' ⟨rfl, ⟨nd, rfl⟩⟩; refine ⟨_, rfl, ?_⟩) | ((with_reducible refine gate_callee (f := 18) rfl ?_); refine zgo (some 75) Try.func18 #[.int .i64 C] ?_; (with_reducible refine (grottolaw03_num.calls aN.out).mono ?_); rintro e w' ⟨rfl, ⟨nd, rfl⟩⟩; refine ⟨_, rfl, ?_⟩))
         go_ret
         exact zr HB

end Go.Proofs.Ytmmbgbchimangaa.PQ
