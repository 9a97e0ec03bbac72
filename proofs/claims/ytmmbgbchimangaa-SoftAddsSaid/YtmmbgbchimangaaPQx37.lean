-- by a program of this claim
import Derived.Test.YtmmbgbchimangaaPQx0
import Derived.Test.YtmmbgbchimangaaPQx8
import Derived.Test.YtmmbgbchimangaaPQx10
import Derived.Test.YtmmbgbchimangaaPQx11
namespace Go.Proofs.Ytmmbgbchimangaa.PQ
open Go.RowKit Go.Proofs.YtmmbgbchimangaaW.PrintWords Go.Proofs.YtmmbgbchimangaaW.PrintLast Go.Proofs.YtmmbgbchimangaaW.PrintMore Go.Proofs.Ytmmbgbchimangaa.Z
attribute [local go_sem] max2_int min2_int max_two min_two max_three min_three max_four min_four   -- for this text's walks alone
set_option linter.unusedVariables false
set_option linter.unusedSimpArgs false

/-! ### grottoref02_Pack: function 41 -/
mutual
def grottoref02_Pack.j0 : Nat → Bool → Int → Int → Int → Bool → Bool → Int → Int → Option (Int × Int)
 | 0, _, _, _, _, _, _, _, _ => none
 | k + 1, x1, x2, x3, x4, x5, x25, x1061000, x1061001 => if x25 = true then (some (0, 1)) else ((grottoref02_NatOf.f k x2).bind fun t1062 => ((grottoref02_Up.f k t1062 64).bind fun t1065 => ((grottoref02_NatOf.f k x3).bind fun t1068 => ((grottoref02_Plus.f k t1065 t1068).bind fun t1071 => (if x5 = true then ((grottoref02_Bits.f k t1071).bind fun t1074 => (grottoref02_Pack.j1 k x1 x4 x5 t1071 (decide (t1074 < (wrap64 (x1061000 + 3)))) x1061000 x1061001)) else (grottoref02_Pack.j1 k x1 x4 x5 t1071 false x1061000 x1061001))))))
def grottoref02_Pack.j1 : Nat → Bool → Int → Bool → List Int → Bool → Int → Int → Option (Int × Int)
 | 0, _, _, _, _, _, _, _ => none
 | k + 1, x1, x4, x5, x14, x40, x1061000, x1061001 => if x40 = true then (some (0, 1)) else ((grottoref02_Up.f k x14 1).bind fun t1075 => (if x5 = true then ((grottoref02_Plus.f k t1075 (([1] : List Int))).bind fun t1081 => ((grottoref02_Near.f k x1061000 x1061001 x1 t1081 (([1] : List Int)) (wrap64 (x4 - 1))).bind fun t1087 => (some (t1087, 0)))) else ((grottoref02_Near.f k x1061000 x1061001 x1 t1075 (([1] : List Int)) (wrap64 (x4 - 1))).bind fun t1091 => (some (t1091, 0)))))
end
def grottoref02_Pack.f (k : Nat) (a0_0 : Int) (a0_1 : Int) (a1 : Bool) (a2 : Int) (a3 : Int) (a4 : Int) (a5 : Bool) : Option (Int × Int) := (grottoref02_Check.f a0_0 a0_1).bind fun t1061 => (if t1061 = 0 then (if a4 < (-4096) then (grottoref02_Pack.j0 k a1 a2 a3 a4 a5 true a0_0 a0_1) else (grottoref02_Pack.j0 k a1 a2 a3 a4 a5 (decide (a4 > 4096)) a0_0 a0_1)) else (grottoref02_Pack.j0 k a1 a2 a3 a4 a5 true a0_0 a0_1))
theorem grottoref02_Pack.mono_l : ∀ k, (∀ y0 y1 y2 y3 y4 y5 y6 y7, LeO (grottoref02_Pack.j0 k y0 y1 y2 y3 y4 y5 y6 y7) (grottoref02_Pack.j0 (k + 1) y0 y1 y2 y3 y4 y5 y6 y7)) ∧ (∀ y0 y1 y2 y3 y4 y5 y6, LeO (grottoref02_Pack.j1 k y0 y1 y2 y3 y4 y5 y6) (grottoref02_Pack.j1 (k + 1) y0 y1 y2 y3 y4 y5 y6))
 | 0 => ⟨fun _ _ _ _ _ _ _ _ r h => by simp [grottoref02_Pack.j0] at h, fun _ _ _ _ _ _ _ r h => by simp [grottoref02_Pack.j1] at h⟩
 | k + 1 => by
  obtain ⟨ih0, ih1⟩ := grottoref02_Pack.mono_l k
  refine ⟨?_, ?_⟩
  ·intro y0 y1 y2 y3 y4 y5 y6 y7
   unfold grottoref02_Pack.j0
   repeat' first
   | (with_reducible exact ih0 _ _ _ _ _ _ _ _)
   | (with_reducible exact ih1 _ _ _ _ _ _ _)
   | (with_reducible exact grottoref02_Bits.mono _ _)
   | (with_reducible exact grottoref02_NatOf.mono _ _)
   | (with_reducible exact grottoref02_Near.mono _ _ _ _ _ _ _)
   | (with_reducible exact grottoref02_Plus.mono _ _ _)
   | (with_reducible exact grottoref02_Up.mono _ _ _)
   | (with_reducible exact LeO.refl _)
   | (with_reducible exact LeO.none _)
   | (with_reducible refine LeO.ite ?_ ?_)
   | (with_reducible refine LeO.bind ?_ (fun _ => ?_))
   | exact ih0 _ _ _ _ _ _ _ _
   | exact ih1 _ _ _ _ _ _ _
   | exact grottoref02_Bits.mono _ _
   | exact grottoref02_NatOf.mono _ _
   | exact grottoref02_Near.mono _ _ _ _ _ _ _
   | exact grottoref02_Plus.mono _ _ _
   | exact grottoref02_Up.mono _ _ _
   | exact LeO.none _
   | refine LeO.ite ?_ ?_
   | refine LeO.bind ?_ (fun _ => ?_)
  ·intro y0 y1 y2 y3 y4 y5 y6
   unfold grottoref02_Pack.j1
   repeat' first
   | (with_reducible exact ih0 _ _ _ _ _ _ _ _)
   | (with_reducible exact ih1 _ _ _ _ _ _ _)
   | (with_reducible exact grottoref02_Bits.mono _ _)
   | (with_reducible exact grottoref02_NatOf.mono _ _)
   | (with_reducible exact grottoref02_Near.mono _ _ _ _ _ _ _)
   | (with_reducible exact grottoref02_Plus.mono _ _ _)
   | (with_reducible exact grottoref02_Up.mono _ _ _)
   | (with_reducible exact LeO.refl _)
   | (with_reducible exact LeO.none _)
   | (with_reducible refine LeO.ite ?_ ?_)
   | (with_reducible refine LeO.bind ?_ (fun _ => ?_))
   | exact ih0 _ _ _ _ _ _ _ _
   | exact ih1 _ _ _ _ _ _ _
   | exact grottoref02_Bits.mono _ _
   | exact grottoref02_NatOf.mono _ _
   | exact grottoref02_Near.mono _ _ _ _ _ _ _
   | exact grottoref02_Plus.mono _ _ _
   | exact grottoref02_Up.mono _ _ _
   | exact LeO.none _
   | refine LeO.ite ?_ ?_
   | refine LeO.bind ?_ (fun _ => ?_)
theorem grottoref02_Pack.mono : ∀ a0 a1 a2 a3 a4 a5 a6 k, LeO (grottoref02_Pack.f k a0 a1 a2 a3 a4 a5 a6) (grottoref02_Pack.f (k + 1) a0 a1 a2 a3 a4 a5 a6) := by
 intro a0 a1 a2 a3 a4 a5 a6 k
 obtain ⟨ih0, ih1⟩ := grottoref02_Pack.mono_l k
 unfold grottoref02_Pack.f
 repeat' first
   | (with_reducible exact ih0 _ _ _ _ _ _ _ _)
   | (with_reducible exact ih1 _ _ _ _ _ _ _)
   | (with_reducible exact grottoref02_Bits.mono _ _)
   | (with_reducible exact grottoref02_NatOf.mono _ _)
   | (with_reducible exact grottoref02_Near.mono _ _ _ _ _ _ _)
   | (with_reducible exact grottoref02_Plus.mono _ _ _)
   | (with_reducible exact grottoref02_Up.mono _ _ _)
   | (with_reducible exact LeO.refl _)
   | (with_reducible exact LeO.none _)
   | (with_reducible refine LeO.ite ?_ ?_)
   | (with_reducible refine LeO.bind ?_ (fun _ => ?_))
   | exact ih0 _ _ _ _ _ _ _ _
   | exact ih1 _ _ _ _ _ _ _
   | exact grottoref02_Bits.mono _ _
   | exact grottoref02_NatOf.mono _ _
   | exact grottoref02_Near.mono _ _ _ _ _ _ _
   | exact grottoref02_Plus.mono _ _ _
   | exact grottoref02_Up.mono _ _ _
   | exact LeO.none _
   | refine LeO.ite ?_ ?_
   | refine LeO.bind ?_ (fun _ => ?_)
def grottoref02_Pack.T4 : Bool × List (List Nat × List Nat) := (true, [([], []), ([0], [0]), ([1], [1]), ([2, 1, 1], [1, 2]), ([1], [1]), ([4, 1], [1, 4]), ([5, 1], [1, 5]), ([3, 6, 1], [1, 3, 6]), ([1, 7], [1, 7])])
def grottoref02_Pack.B4 : List Nat := [0, 1, 3, 7, 3, 19, 51, 127, 255]
theorem grottoref02_Pack.tab4 : rtab .any (opsOf Try.f41 4) = grottoref02_Pack.T4 := by kernel_rfl
theorem grottoref02_Pack.bits4 : waitsOk grottoref02_Pack.T4.2 grottoref02_Pack.B4 = true := by kernel_rfl
set_option maxHeartbeats 8000000 in
set_option maxRecDepth 100000 in
theorem grottoref02_Pack.calls {k : Nat} {l : Int} {m : Int} {W : Bool} {a2 : Int} {a3 : Int} {J : Int} {a5 : Bool} {r1 : Int} {r2 : Int} {w : World} (h : grottoref02_Pack.f k l m W a2 a3 J a5 = some (r1, r2)) :
  Calls Try.prog 41 #[.agg #[.int .i64 l, .int .i64 m], .bool W, .int .u64 a2, .int .u64 a3, .int .i64 J, .bool a5] w fun e w' => e = .returned (.tuple #[.int .u64 r1, .int .i64 r2]) ∧ Below w.heap.size w w' := by
 have hu23 := Try.underlying23
 have HB := Aside0.mk (Below.refl w.heap.size w)
 have H : ((grottoref02_Check.f l m).bind fun P => (if P = 0 then (if J < (-4096) then (grottoref02_Pack.j0 k W a2 a3 J a5 true l m) else (grottoref02_Pack.j0 k W a2 a3 J a5 (decide (J > 4096)) l m)) else (grottoref02_Pack.j0 k W a2 a3 J a5 true l m))) = some (r1, r2) := h
 clear h
 have aO := Aside0.mk H
 clear H
 go_enter Try.func41, Try.ntmps41
 go_upto_region 1 with (first | ((with_reducible refine gate_dst (N := 6) rfl ?_); refine zbox (N := 6) (cs := #[.int .i64 l, .int .i64 m]) (t := 23) ?_; intro d hg w8 hbox hb; have a := Aside0.mk hbox; have bu := zge hg HB; have bv := zge hg HB; replace HB := zbs HB hb; clear hb hbox hg))
 (try simp only [Act.put, List.setIfInBounds_toArray, List.set_cons_zero, List.set_cons_succ])
 go_cut [25] (fun v25 wc => ∃ (kq : Nat) (L : Bool), v25 = .bool L ∧ Aside0 (grottoref02_Pack.j0 kq W a2 a3 J a5 L l m = some (r1, r2)) ∧ Aside0 (kq ≤ k) ∧ Aside0 (wc.heap[d]? = some (.cells #[.int .i64 l, .int .i64 m] 23 (0, 0))) ∧ Aside0 (Below w.heap.size w wc))
 case first =>
  have H := aO.out
  clear aO
  obtain ⟨P, A9, H⟩ := oB H
  by_cases aa : P = 0
  ·rw [if_pos aa] at H
   obtain ⟨C, ab⟩ := zt aa
   clear aa
   (first | rw [C] | (simp only [i64_w, i32_w]; rw [C]) | skip)
   by_cases Q : J < (-4096)
   ·rw [if_pos Q] at H
    have ac : decide (J < (-4096)) = true := decide_eq_true Q
    clear Q
    have H' := Aside0.mk H
    clear H
    obtain ⟨ad, ae, af, ag⟩ := zc2 a
    go_wp2_with (first | ((with_reducible refine gate_callee (f := 38) rfl ?_); refine zgc (some 16) Try.func38 (grottoref02_Check.calls A9.out) ?_; intro bH hb; obtain ⟨a, HB⟩ := zu1 a HB hb; clear hb))
    go_meet
    case rel => exact ⟨_, (true), (by first | rfl | (simp [*]; done)), H', ⟨by omega⟩, ⟨zk a⟩, ⟨zb HB⟩⟩
   ·rw [if_neg Q] at H
    have ac : decide (J < (-4096)) = false := decide_eq_false Q
    clear Q
    have H' := Aside0.mk H
    clear H
    obtain ⟨ah, ai, aj, ak⟩ := zc2 a
    go_wp2_with (first | ((with_reducible refine gate_callee (f := 38) rfl ?_); refine zgc (some 16) Try.func38 (grottoref02_Check.calls A9.out) ?_; intro bI hb; obtain ⟨a, HB⟩ := zu1 a HB hb; clear hb))
    go_meet
    case rel => exact ⟨_, (decide (J > 4096)), (by first | rfl | (simp [*]; done)), H', ⟨by omega⟩, ⟨zk a⟩, ⟨zb HB⟩⟩
  ·rw [if_neg aa] at H
   obtain ⟨C, ab⟩ := zf aa
   (first | rw [C] | (simp only [i64_w, i32_w]; rw [C]) | skip)
   have H' := Aside0.mk H
   clear H
   obtain ⟨al, am, an, ao⟩ := zc2 a
   go_wp2_with (first | ((with_reducible refine gate_callee (f := 38) rfl ?_); refine zgc (some 16) Try.func38 (grottoref02_Check.calls A9.out) ?_; intro bJ hb; obtain ⟨a, HB⟩ := zu1 a HB hb; clear hb))
   go_meet
   case rel => exact ⟨_, (true), (by first | rfl | (simp [*]; done)), H', ⟨by omega⟩, ⟨zk a⟩, ⟨zb HB⟩⟩
 case rest =>
  clear aO
  obtain ⟨kq, L, rfl, HA, aP, a, HB⟩ := hcut
  cases kq with
  | zero => exact absurd HA.out (by simp [grottoref02_Pack.j0])
  | succ aD =>
   have H := HA.out
   clear HA
   simp only [grottoref02_Pack.j0] at H
   by_cases ap : L = true
   ·subst ap
    rw [if_pos rfl] at H
    simp only [Option.some.injEq, Prod.mk.injEq] at H
    obtain ⟨rfl, rfl⟩ := H
    go_wp2
    go_ret2
    exact zr HB
   ·replace ap := Bool.eq_false_iff.mpr ap
    subst ap
    rw [if_neg nft] at H
    obtain ⟨O, bx, H⟩ := oB H
    obtain ⟨R, bz, H⟩ := oB H
    obtain ⟨T, bA, H⟩ := oB H
    obtain ⟨u, bB, H⟩ := oB H
    have aq := Aside0.mk H
    clear H
    go_upto_region 4 with (first | ((with_reducible refine gate_callee (f := 72) rfl ?_); refine zgo (some 27) Try.func72 #[.int .u64 a2] ?_; (with_reducible refine (grottoref02_NatOf.calls bx.out).mono ?_); rintro e bK ⟨v1063, rfl, ho0, hb⟩; refine ⟨_, rfl, ?_⟩; have b := Aside0.mk (Kd.R_lower ho0 (below_size (zb HB))); obtain ⟨a, HB⟩ := zu1 a HB hb; clear hb; (try clear ho0); obtain ⟨ar, au, aQ⟩ := Kd.R_slice b.out; subst aQ) | ((with_reducible refine gate_callee (f := 73) rfl ?_); refine zgo (some 28) Try.func73 #[.slice ar O.length au, .int .i64 64] ?_; (with_reducible refine (grottoref02_Up.calls aD _ _ O 64 R _ ?side1 ?side2 bz.out).mono ?_); (case side1 => repeat (first | exact (Kd.R_reads' b.out).2.2 | (with_reducible refine Kd.C_alloc ?_ _) | (with_reducible refine Kd.C_drewN ?_ _) | (with_reducible refine Kd.C_drew ?_))); (case side2 => exact (Kd.R_reads' b.out).2.1); rintro e bL ⟨v1066, rfl, ho0, hb⟩; refine ⟨_, rfl, ?_⟩; have j := Aside0.mk (Kd.V_lower (Kd.V_mono (ok' := fun k_ => some k_ ≠ (.slice ar O.length au : Value).ownBlock ∧ k_ ≠ d) ho0 (fun k_ hk_ => ⟨(Kd.fresh' (Kd.R_lt (by (with_reducible repeat (first | apply Kd.R_alloc | apply Kd.R_drewN | apply Kd.R_drew)); exact b.out)) k_ hk_), (Kd.freshB (g := d) (o := .cells #[.int .i64 l, .int .i64 m] 23 (0, 0)) (zk a) k_ hk_)⟩)) (below_size (zb HB))); replace b := Aside0.mk (Kd.R_below (by (with_reducible repeat (first | apply Kd.R_alloc | apply Kd.R_drewN | apply Kd.R_drew)); exact b.out) hb); obtain ⟨a, HB⟩ := zu1 a HB hb; clear hb; (try clear ho0)) | ((with_reducible refine gate_callee (f := 72) rfl ?_); refine zgo (some 30) Try.func72 #[.int .u64 a3] ?_; (with_reducible refine (grottoref02_NatOf.calls bA.out).mono ?_); rintro e bM ⟨v1069, rfl, ho0, hb⟩; refine ⟨_, rfl, ?_⟩; have p := Aside0.mk (Kd.R_lower (Kd.R_new' ho0 (Kd.R_lt (by (with_reducible repeat (first | apply Kd.R_alloc | apply Kd.R_drewN | apply Kd.R_drew)); exact b.out))) (below_size (zb HB))); replace b := Aside0.mk (Kd.R_elder' (by (with_reducible repeat (first | apply Kd.R_alloc | apply Kd.R_drewN | apply Kd.R_drew)); exact b.out) (Kd.R_base ho0) hb); replace j := Aside0.mk (Kd.V_elder' (by (with_reducible repeat (first | apply Kd.V_alloc | apply Kd.V_drewN | apply Kd.V_drew)); exact j.out) (Kd.R_base ho0) hb); obtain ⟨a, HB⟩ := zu1 a HB hb; clear hb; (try clear ho0); obtain ⟨aR, aS, aT⟩ := Kd.V_slice j.out; subst aT; obtain ⟨aJ, aK, aU⟩ := Kd.R_slice p.out; subst aU) | ((with_reducible refine gate_callee (f := 74) rfl ?_); refine zgo (some 31) Try.func74 #[.slice aR R.length aS, .slice aJ T.length aK] ?_; (with_reducible refine (grottoref02_Plus.calls aD _ _ R _ _ T u _ ?side1 ?side2 ?side3 ?side4 bB.out).mono ?_); (case side1 => repeat (first | exact (Kd.V_reads' j.out).2.2 | (with_reducible refine Kd.C_alloc ?_ _) | (with_reducible refine Kd.C_drewN ?_ _) | (with_reducible refine Kd.C_drew ?_))); (case side2 => exact (Kd.V_reads' j.out).2.1); (case side3 => repeat (first | exact (Kd.R_reads' p.out).2.2 | (with_reducible refine Kd.C_alloc ?_ _) | (with_reducible refine Kd.C_drewN ?_ _) | (with_reducible refine Kd.C_drew ?_))); (case side4 => exact (Kd.R_reads' p.out).2.1); rintro e aV ⟨v1072, rfl, ho0, hb⟩; refine ⟨_, rfl, ?_⟩; have q := Aside0.mk (Kd.V_lower (Kd.V_mono (ok' := fun k_ => some k_ ≠ (.slice ar O.length au : Value).ownBlock ∧ some k_ ≠ (.slice aJ T.length aK : Value).ownBlock ∧ k_ ≠ d) ho0 (fun k_ hk_ => ⟨(Kd.fresh' (Kd.R_lt (by (with_reducible repeat (first | apply Kd.R_alloc | apply Kd.R_drewN | apply Kd.R_drew)); exact b.out)) k_ hk_), (Kd.fresh' (Kd.R_lt (by (with_reducible repeat (first | apply Kd.R_alloc | apply Kd.R_drewN | apply Kd.R_drew)); exact p.out)) k_ hk_), (Kd.freshB (g := d) (o := .cells #[.int .i64 l, .int .i64 m] 23 (0, 0)) (zk a) k_ hk_)⟩)) (below_size (zb HB))); replace b := Aside0.mk (Kd.R_below (by (with_reducible repeat (first | apply Kd.R_alloc | apply Kd.R_drewN | apply Kd.R_drew)); exact b.out) hb); replace j := Aside0.mk (Kd.V_below (by (with_reducible repeat (first | apply Kd.V_alloc | apply Kd.V_drewN | apply Kd.V_drew)); exact j.out) hb); replace p := Aside0.mk (Kd.R_below (by (with_reducible repeat (first | apply Kd.R_alloc | apply Kd.R_drewN | apply Kd.R_drew)); exact p.out) hb); obtain ⟨a, HB⟩ := zu1 a HB hb; clear hb; (try clear ho0)))
    (try simp only [Act.put, List.setIfInBounds_toArray, List.set_cons_zero, List.set_cons_succ])
    go_cut [40] (fun v40 wc => ∃ (kq : Nat) (E : Bool), v40 = .bool E ∧ Aside0 (grottoref02_Pack.j1 kq W J a5 u E l m = some (r1, r2)) ∧ Aside0 (kq ≤ aD) ∧ Aside0 (Kd.V (Kd.int .i64) 3 wc w.heap.size (fun k_ => k_ ≠ d) v1072 u) ∧ Aside0 (wc.heap[d]? = some (.cells #[.int .i64 l, .int .i64 m] 23 (0, 0))) ∧ Aside0 (Below w.heap.size w wc))
    case first =>
     have H := aq.out
     clear aq
     by_cases aE : a5 = true
     ·subst aE
      rw [if_pos rfl] at H
      obtain ⟨av, bC, H⟩ := oB H
      have H' := Aside0.mk H
      clear H
      try go_wp2
      replace b := Aside0.mk (Kd.R_drew b.out)
      replace j := Aside0.mk (Kd.V_drew j.out)
      replace p := Aside0.mk (Kd.R_drew p.out)
      replace q := Aside0.mk (Kd.V_drew q.out)
      replace a := Aside0.mk (blk_drew a.out)
      replace HB := Aside0.mk (below_drew1 HB.out)
      obtain ⟨aW, aX, aL⟩ := Kd.V_slice q.out
      (first | subst aL | (injection aL with f1_ f2_ f3_; have f4_ := f1_.symm; have f5_ := f3_.symm; clear f1_ f2_ f3_; subst f4_; subst f5_))
      refine start_ (n := 9) (S := fun w' => w'.cell? ⟨d, 0, none⟩ = some (.int .i64 l) ∧ w'.cell? ⟨d, 1, none⟩ = some (.int .i64 m)) (ds := []) #[false, false, false, false, false, false, false, false, false] (by kernel_rfl) rfl rfl ⟨(blk_cell a.out 0).trans rfl, (blk_cell a.out 1).trans rfl⟩ (fun hHeld => ?_); refine with_tabW grottoref02_Pack.tab4 grottoref02_Pack.bits4 (fun HT_ HW_ => ?_)
      generalize aV.drew = bN at b j p q a HB hHeld ⊢
      refine zpure_ (i := 0) (N := some 32) #[true, false, false, false, false, false, false, false, false] (any_of HT_.out (by kernel_rfl)) ?_
      refine zpure_ (i := 1) (N := some 33) #[true, true, false, false, false, false, false, false, false] (any_of HT_.out (by kernel_rfl)) ?_
      refine zpure_ (i := 2) (N := some 34) #[true, true, true, false, false, false, false, false, false] (any_of HT_.out (by kernel_rfl)) ?_
      refine zpure_ (i := 4) (N := some 36) #[true, true, true, false, true, false, false, false, false] (any_of HT_.out (by kernel_rfl)) ?_
      refine ztake_ (i := 5) (N := some 37) #[true, true, true, false, true, true, false, false, false] rfl (take_ofW HT_.out HW_.out (by kernel_rfl)) hHeld (Or.inl ⟨by rfl, by rintro w' ⟨s0, s1⟩; go_simp; with_reducible rfl⟩) ?_
      refine zpure_ (i := 6) (N := some 38) #[true, true, true, false, true, true, true, false, false] (any_of HT_.out (by kernel_rfl)) ?_
      refine one_ (i := 3) (N := some 35) #[true, true, true, true, true, true, true, false, false] rfl rfl (one_of HT_.out (by kernel_rfl)) (by decide) (fun K hK => ?_)
      refine goes_ Try.func65 (by kernel_rfl) rfl #[.slice aW u.length aX] (by rfl) rfl rfl (by (try simp only [List.map_toArray, List.map_cons, List.map_nil]); first | done | rfl | (simp only [List.length_drop, List.length_take]; rfl)) ?_
      with_reducible refine (grottoref02_Bits.calls aD _ _ u av _ ?side1 ?side2 bC.out).mono ?_
      (case side1 => repeat (first | exact (Kd.V_reads' q.out).2.2 | (with_reducible refine Kd.C_alloc ?_ _) | (with_reducible refine Kd.C_drewN ?_ _) | (with_reducible refine Kd.C_drew ?_)))
      (case side2 => exact (Kd.V_reads' q.out).2.1)
      rintro e bO ⟨rfl, hb⟩
      refine ⟨_, rfl, ?_⟩
      replace b := Aside0.mk (Kd.R_below (by (with_reducible repeat (first | apply Kd.R_alloc | apply Kd.R_drewN | apply Kd.R_drew)); exact b.out) hb)
      replace j := Aside0.mk (Kd.V_below (by (with_reducible repeat (first | apply Kd.V_alloc | apply Kd.V_drewN | apply Kd.V_drew)); exact j.out) hb)
      replace p := Aside0.mk (Kd.R_below (by (with_reducible repeat (first | apply Kd.R_alloc | apply Kd.R_drewN | apply Kd.R_drew)); exact p.out) hb)
      replace q := Aside0.mk (Kd.V_below (by (with_reducible repeat (first | apply Kd.V_alloc | apply Kd.V_drewN | apply Kd.V_drew)); exact q.out) hb)
      obtain ⟨a, HB⟩ := zu1 a HB hb
      try clear hb
      refine hK.out _ _ ⟨(blk_cell a.out 0).trans rfl, (blk_cell a.out 1).trans rfl⟩ (fun hHeld => ?_)
      clear hK K
      refine norm_ (a' := ?_) ?_ ?_
      rotate_left
      ·show Act.put _ (some 35) _ = _
       simp only [Act.put, List.setIfInBounds_toArray, List.set_cons_zero, List.set_cons_succ, i64_w, i32_w]
       rfl
      refine zpure_ (i := 7) (N := some 39) #[true, true, true, true, true, true, true, true, false] (any_of HT_.out (by kernel_rfl)) ?_
      refine zpure_ (i := 8) (N := some 40) #[true, true, true, true, true, true, true, true, true] (any_of HT_.out (by kernel_rfl)) ?_
      refine done_ (done_of HT_.out (by kernel_rfl)) ?_
      try go_wp2
      go_meet
      case rel => exact ⟨_, (decide (av < (wrap64 (l + 3)))), (by first | rfl | (simp [*]; done)), H', ⟨by have := aP.out; first | omega | exact Nat.le_refl _⟩, ⟨by (with_reducible repeat (first | apply Kd.V_alloc | apply Kd.V_drewN | apply Kd.V_drew)); exact Kd.V_mono q.out (fun _ hk => hk.2.2)⟩, ⟨zk a⟩, ⟨zb HB⟩⟩
     ·replace aE := Bool.eq_false_iff.mpr aE
      subst aE
      rw [if_neg nft] at H
      have H' := Aside0.mk H
      clear H
      try go_wp2
      replace b := Aside0.mk (Kd.R_drew b.out)
      replace j := Aside0.mk (Kd.V_drew j.out)
      replace p := Aside0.mk (Kd.R_drew p.out)
      replace q := Aside0.mk (Kd.V_drew q.out)
      replace a := Aside0.mk (blk_drew a.out)
      replace HB := Aside0.mk (below_drew1 HB.out)
      refine start_ (n := 9) (S := fun w' => True) (ds := []) #[false, false, false, false, false, false, false, false, false] (by kernel_rfl) rfl rfl trivial (fun hHeld => ?_); refine with_tabW grottoref02_Pack.tab4 grottoref02_Pack.bits4 (fun HT_ HW_ => ?_)
      generalize aV.drew = bP at b j p q a HB hHeld ⊢
      refine zpure_ (i := 0) (N := some 32) #[true, false, false, false, false, false, false, false, false] (any_of HT_.out (by kernel_rfl)) ?_
      refine zpure_ (i := 1) (N := some 33) #[true, true, false, false, false, false, false, false, false] (any_of HT_.out (by kernel_rfl)) ?_
      refine pure_ (i := 2) (N := some 34) (v := undef) (a' := ?_) #[true, true, true, false, false, false, false, false, false] rfl rfl (any_of HT_.out (by kernel_rfl)) (fun _ _ _ h => h) (Or.inr ⟨by rfl, rfl⟩) ?_ ?_
      rotate_left
      ·simp only [Act.put, List.setIfInBounds_toArray, List.set_cons_zero, List.set_cons_succ, i64_w, i32_w]
       rfl
      refine pure_ (i := 3) (N := some 35) (v := undef) (a' := ?_) #[true, true, true, true, false, false, false, false, false] rfl rfl (any_of HT_.out (by kernel_rfl)) (fun _ _ _ h => h) (Or.inr ⟨by rfl, rfl⟩) ?_ ?_
      rotate_left
      ·simp only [Act.put, List.setIfInBounds_toArray, List.set_cons_zero, List.set_cons_succ, i64_w, i32_w]
       rfl
      refine pure_ (i := 4) (N := some 36) (v := undef) (a' := ?_) #[true, true, true, true, true, false, false, false, false] rfl rfl (any_of HT_.out (by kernel_rfl)) (fun _ _ _ h => h) (Or.inr ⟨by rfl, rfl⟩) ?_ ?_
      rotate_left
      ·simp only [Act.put, List.setIfInBounds_toArray, List.set_cons_zero, List.set_cons_succ, i64_w, i32_w]
       rfl
      refine pure_ (i := 5) (N := some 37) (v := undef) (a' := ?_) #[true, true, true, true, true, true, false, false, false] rfl rfl (any_of HT_.out (by kernel_rfl)) (fun _ _ _ h => h) (Or.inr ⟨by rfl, rfl⟩) ?_ ?_
      rotate_left
      ·simp only [Act.put, List.setIfInBounds_toArray, List.set_cons_zero, List.set_cons_succ, i64_w, i32_w]
       rfl
      refine pure_ (i := 6) (N := some 38) (v := undef) (a' := ?_) #[true, true, true, true, true, true, true, false, false] rfl rfl (any_of HT_.out (by kernel_rfl)) (fun _ _ _ h => h) (Or.inr ⟨by rfl, rfl⟩) ?_ ?_
      rotate_left
      ·simp only [Act.put, List.setIfInBounds_toArray, List.set_cons_zero, List.set_cons_succ, i64_w, i32_w]
       rfl
      refine pure_ (i := 7) (N := some 39) (v := undef) (a' := ?_) #[true, true, true, true, true, true, true, true, false] rfl rfl (any_of HT_.out (by kernel_rfl)) (fun _ _ _ h => h) (Or.inr ⟨by rfl, rfl⟩) ?_ ?_
      rotate_left
      ·simp only [Act.put, List.setIfInBounds_toArray, List.set_cons_zero, List.set_cons_succ, i64_w, i32_w]
       rfl
      refine zpure_ (i := 8) (N := some 40) #[true, true, true, true, true, true, true, true, true] (any_of HT_.out (by kernel_rfl)) ?_
      refine done_ (done_of HT_.out (by kernel_rfl)) ?_
      try go_wp2
      go_meet
      case rel => exact ⟨_, (false), (by first | rfl | (simp [*]; done)), H', ⟨by have := aP.out; first | omega | exact Nat.le_refl _⟩, ⟨by (with_reducible repeat (first | apply Kd.V_alloc | apply Kd.V_drewN | apply Kd.V_drew)); exact Kd.V_mono q.out (fun _ hk => hk.2.2)⟩, ⟨zk a⟩, ⟨zb HB⟩⟩
    case rest =>
     clear aq
     try clear c1 p2 c3 c4 aa C ab Q ac ap ad ae ah ai al am af ag aj ak an ao p2
     obtain ⟨kq, E, rfl, HA, bG, HO_14, a, HB⟩ := hcut
     cases kq with
     | zero => exact absurd HA.out (by simp [grottoref02_Pack.j1])
     | succ B =>
      have H := HA.out
      clear HA
      simp only [grottoref02_Pack.j1] at H
      by_cases aF : E = true
      ·subst aF
       rw [if_pos rfl] at H
       simp only [Option.some.injEq, Prod.mk.injEq] at H
       obtain ⟨rfl, rfl⟩ := H
       go_wp2
       go_ret2
       exact zr HB
      ·replace aF := Bool.eq_false_iff.mpr aF
       subst aF
       rw [if_neg nft] at H
       obtain ⟨y, aY, H⟩ := oB H
       by_cases aG : a5 = true
       ·subst aG
        rw [if_pos rfl] at H
        obtain ⟨y1078, hy1078⟩ : ∃ y_ : List Int, y_ = (([1] : List Int)) := ⟨_, rfl⟩
        replace H : ((grottoref02_Plus.f B y y1078).bind fun D => ((grottoref02_Near.f B l m W D (([1] : List Int)) (wrap64 (J - 1))).bind fun I => (some (I, 0)))) = some (r1, r2) := by first | (rw [hy1078]; with_reducible exact H) | (have H2_ := (Option.bind_some _ _).symm.trans H; rw [hy1078]; with_reducible exact H2_) | (have H2_ := (Option.bind_some _ _).symm.trans H; with_reducible exact H2_) | with_reducible exact H | (rw [hy1078]; exact H) | exact H
        have X := Aside0.mk hy1078
        clear hy1078
        obtain ⟨D, bD, H⟩ := oB H
        obtain ⟨y1084, hy1084⟩ : ∃ y_ : List Int, y_ = (([1] : List Int)) := ⟨_, rfl⟩
        replace H : ((grottoref02_Near.f B l m W D y1084 (wrap64 (J - 1))).bind fun I => (some (I, 0))) = some (r1, r2) := by first | (rw [hy1084]; with_reducible exact H) | (have H2_ := (Option.bind_some _ _).symm.trans H; rw [hy1084]; with_reducible exact H2_) | (have H2_ := (Option.bind_some _ _).symm.trans H; with_reducible exact H2_) | with_reducible exact H | (rw [hy1084]; exact H) | exact H
        have Y := Aside0.mk hy1084
        clear hy1084
        obtain ⟨I, bE, H⟩ := oB H
        simp only [Option.some.injEq, Prod.mk.injEq] at H
        obtain ⟨rfl, rfl⟩ := H
        obtain ⟨aZ, a0, a6⟩ := Kd.V_slice HO_14.out
        subst a6
        go_wp2_with (first | ((with_reducible refine gate_callee (f := 73) rfl ?_); refine zgo (some 42) Try.func73 #[.slice aZ u.length a0, .int .i64 1] ?_; (with_reducible refine (grottoref02_Up.calls B _ _ u 1 y _ ?side1 ?side2 aY.out).mono ?_); (case side1 => repeat (first | exact (Kd.V_reads' HO_14.out).2.2 | (with_reducible refine Kd.C_alloc ?_ _) | (with_reducible refine Kd.C_drewN ?_ _) | (with_reducible refine Kd.C_drew ?_))); (case side2 => exact (Kd.V_reads' HO_14.out).2.1); rintro e bR ⟨v1076, rfl, ho0, hb⟩; refine ⟨_, rfl, ?_⟩; have c := Aside0.mk (Kd.V_lower (Kd.V_mono (ok' := fun k_ => k_ ≠ d) ho0 (fun k_ hk_ => (Kd.freshB (g := d) (o := .cells #[.int .i64 l, .int .i64 m] 23 (0, 0)) (zk a) k_ hk_))) (below_size (zb HB))); replace HO_14 := Aside0.mk (Kd.V_below (by (with_reducible repeat (first | apply Kd.V_alloc | apply Kd.V_drewN | apply Kd.V_drew)); exact HO_14.out) hb); obtain ⟨a, HB⟩ := zu1 a HB hb; clear hb; (try clear ho0)) | ((with_reducible refine gate_dst (N := 45) rfl ?_); refine Kd.R_lit (Kd.int .i64) _ 3 ?hg (N := 45) ?hd (xs := ([1] : List Int)) (inner := [.int .i64 1]) (ok := fun _ => True) (okp := fun _ => True) ?hr ?hp (fun _ hk => hk) trivial (Below.refl _ _) (Nat.le_refl _) (by simp) ?_; (case hd => rfl); (case hg => rfl); (case hr => first | (go_simp; done) | (go_simp; rfl)); (case hp => exact (Reps.one (show Kd.M (Kd.int .i64) _ _ _ 1 [.int .i64 1] from rfl) (Reps.none _ _))); intro v1079 bS ho45 hb hg_ hnew_; clear hg_ hnew_; (first | rw [← X.out] at ho45 | (simp only [Int.reduceToNat] at ho45; rw [← X.out] at ho45)); have s := Aside0.mk (Kd.R_lower ho45 (below_size (zb HB))); replace HO_14 := Aside0.mk (Kd.V_elder' (by (with_reducible repeat (first | apply Kd.V_alloc | apply Kd.V_drewN | apply Kd.V_drew)); exact HO_14.out) (Kd.R_base ho45) hb); replace c := Aside0.mk (Kd.V_elder' (by (with_reducible repeat (first | apply Kd.V_alloc | apply Kd.V_drewN | apply Kd.V_drew)); exact c.out) (Kd.R_base ho45) hb); obtain ⟨a, HB⟩ := zu1 a HB hb; clear hb ho45; obtain ⟨a7, a8, a9⟩ := Kd.V_slice c.out; subst a9; obtain ⟨aw, ax, ba⟩ := Kd.R_slice s.out; subst ba) | ((with_reducible refine gate_callee (f := 74) rfl ?_); refine zgo (some 46) Try.func74 #[.slice a7 y.length a8, .slice aw y1078.length ax] ?_; (with_reducible refine (grottoref02_Plus.calls B _ _ y _ _ y1078 D _ ?side1 ?side2 ?side3 ?side4 bD.out).mono ?_); (case side1 => repeat (first | exact (Kd.V_reads' c.out).2.2 | (with_reducible refine Kd.C_alloc ?_ _) | (with_reducible refine Kd.C_drewN ?_ _) | (with_reducible refine Kd.C_drew ?_))); (case side2 => exact (Kd.V_reads' c.out).2.1); (case side3 => repeat (first | exact (Kd.R_reads' s.out).2.2 | (with_reducible refine Kd.C_alloc ?_ _) | (with_reducible refine Kd.C_drewN ?_ _) | (with_reducible refine Kd.C_drew ?_))); (case side4 => exact (Kd.R_reads' s.out).2.1); rintro e bT ⟨v1082, rfl, ho0, hb⟩; refine ⟨_, rfl, ?_⟩; have z := Aside0.mk (Kd.V_lower (Kd.V_mono (ok' := fun k_ => some k_ ≠ (.slice aw y1078.length ax : Value).ownBlock ∧ k_ ≠ d) ho0 (fun k_ hk_ => ⟨(Kd.fresh' (Kd.R_lt (by (with_reducible repeat (first | apply Kd.R_alloc | apply Kd.R_drewN | apply Kd.R_drew)); exact s.out)) k_ hk_), (Kd.freshB (g := d) (o := .cells #[.int .i64 l, .int .i64 m] 23 (0, 0)) (zk a) k_ hk_)⟩)) (below_size (zb HB))); replace HO_14 := Aside0.mk (Kd.V_below (by (with_reducible repeat (first | apply Kd.V_alloc | apply Kd.V_drewN | apply Kd.V_drew)); exact HO_14.out) hb); replace c := Aside0.mk (Kd.V_below (by (with_reducible repeat (first | apply Kd.V_alloc | apply Kd.V_drewN | apply Kd.V_drew)); exact c.out) hb); replace s := Aside0.mk (Kd.R_below (by (with_reducible repeat (first | apply Kd.R_alloc | apply Kd.R_drewN | apply Kd.R_drew)); exact s.out) hb); obtain ⟨a, HB⟩ := zu1 a HB hb; clear hb; (try clear ho0); obtain ⟨bb, bc, bd, be⟩ := zc2 a) | ((with_reducible refine gate_dst (N := 50) rfl ?_); refine Kd.R_lit (Kd.int .i64) _ 3 ?hg (N := 50) ?hd (xs := ([1] : List Int)) (inner := [.int .i64 1]) (ok := fun _ => True) (okp := fun _ => True) ?hr ?hp (fun _ hk => hk) trivial (Below.refl _ _) (Nat.le_refl _) (by simp) ?_; (case hd => rfl); (case hg => rfl); (case hr => first | (go_simp; done) | (go_simp; rfl)); (case hp => exact (Reps.one (show Kd.M (Kd.int .i64) _ _ _ 1 [.int .i64 1] from rfl) (Reps.none _ _))); intro v1085 bU ho51 hb hg_ hnew_; clear hg_ hnew_; (first | rw [← Y.out] at ho51 | (simp only [Int.reduceToNat] at ho51; rw [← Y.out] at ho51)); have F := Aside0.mk (Kd.R_lower (Kd.R_new' ho51 (Kd.R_lt (by (with_reducible repeat (first | apply Kd.R_alloc | apply Kd.R_drewN | apply Kd.R_drew)); exact s.out))) (below_size (zb HB))); replace HO_14 := Aside0.mk (Kd.V_elder' (by (with_reducible repeat (first | apply Kd.V_alloc | apply Kd.V_drewN | apply Kd.V_drew)); exact HO_14.out) (Kd.R_base ho51) hb); replace c := Aside0.mk (Kd.V_elder' (by (with_reducible repeat (first | apply Kd.V_alloc | apply Kd.V_drewN | apply Kd.V_drew)); exact c.out) (Kd.R_base ho51) hb); replace s := Aside0.mk (Kd.R_elder' (by (with_reducible repeat (first | apply Kd.R_alloc | apply Kd.R_drewN | apply Kd.R_drew)); exact s.out) (Kd.R_base ho51) hb); replace z := Aside0.mk (Kd.V_elder' (by (with_reducible repeat (first | apply Kd.V_alloc | apply Kd.V_drewN | apply Kd.V_drew)); exact z.out) (Kd.R_base ho51) hb); obtain ⟨a, HB⟩ := zu1 a HB hb; clear hb ho51; obtain ⟨bf, bg, bh⟩ := Kd.V_slice z.out; subst bh; obtain ⟨ay, az, bi⟩ := Kd.R_slice F.out; subst bi) | ((with_reducible refine gate_callee (f := 57) rfl ?_); refine zgo (some 53) Try.func57 #[.agg #[.int .i64 l, .int .i64 m], .bool W, .slice bf D.length bg, .slice ay y1084.length az, .int .i64 (wrap64 (J - 1))] ?_; (with_reducible refine (grottoref02_Near.calls B l m W (fun k_ => ((some k_ ≠ (.slice aw y1078.length ax : Value).ownBlock ∧ k_ ≠ d) ∧ some k_ ≠ (.slice ay y1084.length az : Value).ownBlock)) _ _ D (fun k_ => some k_ = (.slice ay y1084.length az : Value).ownBlock) _ _ y1084 (wrap64 (J - 1)) I _ ?side1 ?side2 bE.out).mono ?_); (case side1 => exact z.out); (case side2 => exact Kd.R_V (Kd.R_tight rfl (Kd.R_types (F.out) a.out (by decide)))); rintro e bV ⟨rfl, hb⟩; refine ⟨_, rfl, ?_⟩; replace HO_14 := Aside0.mk (Kd.V_below (by (with_reducible repeat (first | apply Kd.V_alloc | apply Kd.V_drewN | apply Kd.V_drew)); exact HO_14.out) hb); replace c := Aside0.mk (Kd.V_below (by (with_reducible repeat (first | apply Kd.V_alloc | apply Kd.V_drewN | apply Kd.V_drew)); exact c.out) hb); replace s := Aside0.mk (Kd.R_below (by (with_reducible repeat (first | apply Kd.R_alloc | apply Kd.R_drewN | apply Kd.R_drew)); exact s.out) hb); replace z := Aside0.mk (Kd.V_below (by (with_reducible repeat (first | apply Kd.V_alloc | apply Kd.V_drewN | apply Kd.V_drew)); exact z.out) hb); replace F := Aside0.mk (Kd.R_below (by (with_reducible repeat (first | apply Kd.R_alloc | apply Kd.R_drewN | apply Kd.R_drew)); exact F.out) hb); obtain ⟨a, HB⟩ := zu1 a HB hb; clear hb))
        go_ret2
        exact zr HB
       ·replace aG := Bool.eq_false_iff.mpr aG
        subst aG
        rw [if_neg nft] at H
        obtain ⟨y1088, hy1088⟩ : ∃ y_ : List Int, y_ = (([1] : List Int)) := ⟨_, rfl⟩
        replace H : ((grottoref02_Near.f B l m W y y1088 (wrap64 (J - 1))).bind fun U => (some (U, 0))) = some (r1, r2) := by first | (rw [hy1088]; with_reducible exact H) | (have H2_ := (Option.bind_some _ _).symm.trans H; rw [hy1088]; with_reducible exact H2_) | (have H2_ := (Option.bind_some _ _).symm.trans H; with_reducible exact H2_) | with_reducible exact H | (rw [hy1088]; exact H) | exact H
        have Z := Aside0.mk hy1088
        clear hy1088
        obtain ⟨U, bF, H⟩ := oB H
        simp only [Option.some.injEq, Prod.mk.injEq] at H
        obtain ⟨rfl, rfl⟩ := H
        obtain ⟨bj, bk, bl⟩ := Kd.V_slice HO_14.out
        subst bl
        go_wp2_with (first | ((with_reducible refine gate_callee (f := 73) rfl ?_); refine zgo (some 42) Try.func73 #[.slice bj u.length bk, .int .i64 1] ?_; (with_reducible refine (grottoref02_Up.calls B _ _ u 1 y _ ?side1 ?side2 aY.out).mono ?_); (case side1 => repeat (first | exact (Kd.V_reads' HO_14.out).2.2 | (with_reducible refine Kd.C_alloc ?_ _) | (with_reducible refine Kd.C_drewN ?_ _) | (with_reducible refine Kd.C_drew ?_))); (case side2 => exact (Kd.V_reads' HO_14.out).2.1); rintro e bW ⟨v1076, rfl, ho0, hb⟩; refine ⟨_, rfl, ?_⟩; have c := Aside0.mk (Kd.V_lower (Kd.V_mono (ok' := fun k_ => k_ ≠ d) ho0 (fun k_ hk_ => (Kd.freshB (g := d) (o := .cells #[.int .i64 l, .int .i64 m] 23 (0, 0)) (zk a) k_ hk_))) (below_size (zb HB))); replace HO_14 := Aside0.mk (Kd.V_below (by (with_reducible repeat (first | apply Kd.V_alloc | apply Kd.V_drewN | apply Kd.V_drew)); exact HO_14.out) hb); obtain ⟨a, HB⟩ := zu1 a HB hb; clear hb; (try clear ho0); obtain ⟨bm, bn, bo, bp⟩ := zc2 a) | ((with_reducible refine gate_dst (N := 50) rfl ?_); refine Kd.R_lit (Kd.int .i64) _ 3 ?hg (N := 50) ?hd (xs := ([1] : List Int)) (inner := [.int .i64 1]) (ok := fun _ => True) (okp := fun _ => True) ?hr ?hp (fun _ hk => hk) trivial (Below.refl _ _) (Nat.le_refl _) (by simp) ?_; (case hd => rfl); (case hg => rfl); (case hr => first | (go_simp; done) | (go_simp; rfl)); (case hp => exact (Reps.one (show Kd.M (Kd.int .i64) _ _ _ 1 [.int .i64 1] from rfl) (Reps.none _ _))); intro v1089 bX ho60 hb hg_ hnew_; clear hg_ hnew_; (first | rw [← Z.out] at ho60 | (simp only [Int.reduceToNat] at ho60; rw [← Z.out] at ho60)); have G := Aside0.mk (Kd.R_lower ho60 (below_size (zb HB))); replace HO_14 := Aside0.mk (Kd.V_elder' (by (with_reducible repeat (first | apply Kd.V_alloc | apply Kd.V_drewN | apply Kd.V_drew)); exact HO_14.out) (Kd.R_base ho60) hb); replace c := Aside0.mk (Kd.V_elder' (by (with_reducible repeat (first | apply Kd.V_alloc | apply Kd.V_drewN | apply Kd.V_drew)); exact c.out) (Kd.R_base ho60) hb); obtain ⟨a, HB⟩ := zu1 a HB hb; clear hb ho60; obtain ⟨bq, br, bs⟩ := Kd.V_slice c.out; subst bs; obtain ⟨aA, aB, bt⟩ := Kd.R_slice G.out; subst bt) | ((with_reducible refine gate_callee (f := 57) rfl ?_); refine zgo (some 53) Try.func57 #[.agg #[.int .i64 l, .int .i64 m], .bool W, .slice bq y.length br, .slice aA y1088.length aB, .int .i64 (wrap64 (J - 1))] ?_; (with_reducible refine (grottoref02_Near.calls B l m W (fun k_ => (k_ ≠ d ∧ some k_ ≠ (.slice aA y1088.length aB : Value).ownBlock)) _ _ y (fun k_ => some k_ = (.slice aA y1088.length aB : Value).ownBlock) _ _ y1088 (wrap64 (J - 1)) U _ ?side1 ?side2 bF.out).mono ?_); (case side1 => exact c.out); (case side2 => exact Kd.R_V (Kd.R_tight rfl (Kd.R_types (G.out) a.out (by decide)))); rintro e bY ⟨rfl, hb⟩; refine ⟨_, rfl, ?_⟩; replace HO_14 := Aside0.mk (Kd.V_below (by (with_reducible repeat (first | apply Kd.V_alloc | apply Kd.V_drewN | apply Kd.V_drew)); exact HO_14.out) hb); replace c := Aside0.mk (Kd.V_below (by (with_reducible repeat (first | apply Kd.V_alloc | apply Kd.V_drewN | apply Kd.V_drew)); exact c.out) hb); replace G := Aside0.mk (Kd.R_below (by (with_reducible repeat (first | apply Kd.R_alloc | apply Kd.R_drewN | apply Kd.R_drew)); exact G.out) hb); obtain ⟨a, HB⟩ := zu1 a HB hb; clear hb))
        go_ret2
        exact zr HB

end Go.Proofs.Ytmmbgbchimangaa.PQ
