-- by a program of this claim
import Derived.Test.YthkifpdachjlgaaPQx0
import Derived.Test.YthkifpdachjlgaaPQx8
import Derived.Test.YthkifpdachjlgaaPQx9
namespace Go.Proofs.Ythkifpdachjlgaa.PQ
open Go.RowKit Go.Proofs.YthkifpdachjlgaaW.PrintWords Go.Proofs.YthkifpdachjlgaaW.PrintLast Go.Proofs.YthkifpdachjlgaaW.PrintMore Go.Proofs.Ythkifpdachjlgaa.Z
attribute [local go_sem] max2_int min2_int max_two min_two max_three min_three max_four min_four   -- for this text's walks alone
set_option linter.unusedVariables false
set_option linter.unusedSimpArgs false

/-! ### grottolaw04_RealsOrder: function 6 -/
mutual
def grottolaw04_RealsOrder.j0 : Nat → Int → Int → Int → Int → Bool → Bool → Bool → Bool → Bool → Bool → Option (Bool)
 | 0, _, _, _, _, _, _, _, _, _, _ => none
 | k + 1, x0, x1, x2, x3, x9, x10, x11, x12, x13, x49 => if x49 = true then (some false) else ((reals_DoubleHolds.f k 7 x0 0 0).bind fun t1120 => (if t1120 = true then (grottolaw04_RealsOrder.j1 k x0 x1 x2 x3 x9 x10 x11 x12 x13 true) else ((reals_DoubleHolds.f k 7 x1 0 0).bind fun t1121 => (grottolaw04_RealsOrder.j1 k x0 x1 x2 x3 x9 x10 x11 x12 x13 t1121))))
def grottolaw04_RealsOrder.j1 : Nat → Int → Int → Int → Int → Bool → Bool → Bool → Bool → Bool → Bool → Option (Bool)
 | 0, _, _, _, _, _, _, _, _, _, _ => none
 | k + 1, x0, x1, x2, x3, x9, x10, x11, x12, x13, x55 => if x55 = true then (if x9 = true then (some false) else (if x10 = true then (some false) else (if x11 = true then (some false) else (if x12 = true then (some false) else (if x13 = true then (some false) else ((grottolaw04_live.f k).bind fun t1122 => (some t1122))))))) else (if x9 = true then (grottolaw04_RealsOrder.j2 k x0 x1 x2 x3 x9 x10 x11 x12 x13 (0 + 1)) else (grottolaw04_RealsOrder.j2 k x0 x1 x2 x3 x9 x10 x11 x12 x13 0))
def grottolaw04_RealsOrder.j2 : Nat → Int → Int → Int → Int → Bool → Bool → Bool → Bool → Bool → Int → Option (Bool)
 | 0, _, _, _, _, _, _, _, _, _, _ => none
 | k + 1, x0, x1, x2, x3, x9, x10, x11, x12, x13, x14 => if x10 = true then (grottolaw04_RealsOrder.j3 k x0 x1 x2 x3 x9 x10 x11 x12 x13 (wrap64 (x14 + 1))) else (grottolaw04_RealsOrder.j3 k x0 x1 x2 x3 x9 x10 x11 x12 x13 x14)
def grottolaw04_RealsOrder.j3 : Nat → Int → Int → Int → Int → Bool → Bool → Bool → Bool → Bool → Int → Option (Bool)
 | 0, _, _, _, _, _, _, _, _, _, _ => none
 | k + 1, x0, x1, x2, x3, x9, x10, x11, x12, x13, x14 => if x11 = true then (grottolaw04_RealsOrder.j4 k x0 x1 x2 x3 x9 x10 x11 x12 x13 x14 x12) else (grottolaw04_RealsOrder.j4 k x0 x1 x2 x3 x9 x10 x11 x12 x13 x14 false)
def grottolaw04_RealsOrder.j4 : Nat → Int → Int → Int → Int → Bool → Bool → Bool → Bool → Bool → Int → Bool → Option (Bool)
 | 0, _, _, _, _, _, _, _, _, _, _, _ => none
 | k + 1, x0, x1, x2, x3, x9, x10, x11, x12, x13, x14, x86 => if x86 = true then (grottolaw04_RealsOrder.j5 k x0 x1 x2 x3 x9 x10 x11 x12 x13 (wrap64 (x14 + 1))) else (grottolaw04_RealsOrder.j5 k x0 x1 x2 x3 x9 x10 x11 x12 x13 x14)
def grottolaw04_RealsOrder.j5 : Nat → Int → Int → Int → Int → Bool → Bool → Bool → Bool → Bool → Int → Option (Bool)
 | 0, _, _, _, _, _, _, _, _, _, _ => none
 | k + 1, x0, x1, x2, x3, x9, x10, x11, x12, x13, x14 => if x14 = 1 then (if (x11 == x10) = true then (grottolaw04_RealsOrder.j6 k x0 x1 x2 x3 x13 true) else (if (x12 == x9) = true then (grottolaw04_RealsOrder.j6 k x0 x1 x2 x3 x13 true) else ((reals_DoubleHolds.f k 1 x0 x1 0).bind fun t1123 => (if x11 = true then (grottolaw04_RealsOrder.j6 k x0 x1 x2 x3 x13 (t1123 != x12)) else (grottolaw04_RealsOrder.j6 k x0 x1 x2 x3 x13 (t1123 != false)))))) else (grottolaw04_RealsOrder.j6 k x0 x1 x2 x3 x13 true)
def grottolaw04_RealsOrder.j6 : Nat → Int → Int → Int → Int → Bool → Bool → Option (Bool)
 | 0, _, _, _, _, _, _ => none
 | k + 1, x0, x1, x2, x3, x13, x110 => if x110 = true then (some false) else (if x13 = true then ((reals_DoubleHolds.f k 4 (Go.bits .and .u64 x2 9223372036854775807) (Go.bits .and .u64 x3 9223372036854775807) 0).bind fun t1124 => (if t1124 = true then ((reals_DoubleHolds.f k 1 x0 x1 x3).bind fun t1125 => (if t1125 = true then ((grottolaw04_live.f k).bind fun t1126 => (some t1126)) else (some false))) else ((grottolaw04_live.f k).bind fun t1127 => (some t1127)))) else ((grottolaw04_live.f k).bind fun t1128 => (some t1128)))
end
def grottolaw04_RealsOrder.f (k : Nat) (a0 : Int) (a1 : Int) (a2 : Int) (a3 : Int) : Option (Bool) := (reals_DoubleHolds.f k 3 a0 a1 a2).bind fun t1113 => ((reals_DoubleHolds.f k 5 a0 a1 a2).bind fun t1114 => ((reals_DoubleHolds.f k 4 a0 a1 a2).bind fun t1115 => ((reals_DoubleHolds.f k 6 a0 a1 a2).bind fun t1116 => ((reals_DoubleHolds.f k 1 a0 a1 a2).bind fun t1117 => ((reals_DoubleHolds.f k 2 a0 a1 a2).bind fun t1118 => (if (t1117 == t1118) = true then (grottolaw04_RealsOrder.j0 k a0 a1 a2 a3 t1113 t1114 t1115 t1116 t1117 true) else ((reals_DoubleHolds.f k 1 a1 a0 a2).bind fun t1119 => (grottolaw04_RealsOrder.j0 k a0 a1 a2 a3 t1113 t1114 t1115 t1116 t1117 (t1117 != t1119)))))))))
theorem grottolaw04_RealsOrder.mono_l : ∀ k, (∀ y0 y1 y2 y3 y4 y5 y6 y7 y8 y9, LeO (grottolaw04_RealsOrder.j0 k y0 y1 y2 y3 y4 y5 y6 y7 y8 y9) (grottolaw04_RealsOrder.j0 (k + 1) y0 y1 y2 y3 y4 y5 y6 y7 y8 y9)) ∧ (∀ y0 y1 y2 y3 y4 y5 y6 y7 y8 y9, LeO (grottolaw04_RealsOrder.j1 k y0 y1 y2 y3 y4 y5 y6 y7 y8 y9) (grottolaw04_RealsOrder.j1 (k + 1) y0 y1 y2 y3 y4 y5 y6 y7 y8 y9)) ∧ (∀ y0 y1 y2 y3 y4 y5 y6 y7 y8 y9, LeO (grottolaw04_RealsOrder.j2 k y0 y1 y2 y3 y4 y5 y6 y7 y8 y9) (grottolaw04_RealsOrder.j2 (k + 1) y0 y1 y2 y3 y4 y5 y6 y7 y8 y9)) ∧ (∀ y0 y1 y2 y3 y4 y5 y6 y7 y8 y9, LeO (grottolaw04_RealsOrder.j3 k y0 y1 y2 y3 y4 y5 y6 y7 y8 y9) (grottolaw04_RealsOrder.j3 (k + 1) y0 y1 y2 y3 y4 y5 y6 y7 y8 y9)) ∧ (∀ y0 y1 y2 y3 y4 y5 y6 y7 y8 y9 y10, LeO (grottolaw04_RealsOrder.j4 k y0 y1 y2 y3 y4 y5 y6 y7 y8 y9 y10) (grottolaw04_RealsOrder.j4 (k + 1) y0 y1 y2 y3 y4 y5 y6 y7 y8 y9 y10)) ∧ (∀ y0 y1 y2 y3 y4 y5 y6 y7 y8 y9, LeO (grottolaw04_RealsOrder.j5 k y0 y1 y2 y3 y4 y5 y6 y7 y8 y9) (grottolaw04_RealsOrder.j5 (k + 1) y0 y1 y2 y3 y4 y5 y6 y7 y8 y9)) ∧ (∀ y0 y1 y2 y3 y4 y5, LeO (grottolaw04_RealsOrder.j6 k y0 y1 y2 y3 y4 y5) (grottolaw04_RealsOrder.j6 (k + 1) y0 y1 y2 y3 y4 y5))
 | 0 => ⟨fun _ _ _ _ _ _ _ _ _ _ r h => by simp [grottolaw04_RealsOrder.j0] at h, fun _ _ _ _ _ _ _ _ _ _ r h => by simp [grottolaw04_RealsOrder.j1] at h, fun _ _ _ _ _ _ _ _ _ _ r h => by simp [grottolaw04_RealsOrder.j2] at h, fun _ _ _ _ _ _ _ _ _ _ r h => by simp [grottolaw04_RealsOrder.j3] at h, fun _ _ _ _ _ _ _ _ _ _ _ r h => by simp [grottolaw04_RealsOrder.j4] at h, fun _ _ _ _ _ _ _ _ _ _ r h => by simp [grottolaw04_RealsOrder.j5] at h, fun _ _ _ _ _ _ r h => by simp [grottolaw04_RealsOrder.j6] at h⟩
 | k + 1 => by
  obtain ⟨ih0, ih1, ih2, ih3, ih4, ih5, ih6⟩ := grottolaw04_RealsOrder.mono_l k
  refine ⟨?_, ?_, ?_, ?_, ?_, ?_, ?_⟩ <;> intros <;> (first | unfold grottolaw04_RealsOrder.j0 | unfold grottolaw04_RealsOrder.j1 | unfold grottolaw04_RealsOrder.j2 | unfold grottolaw04_RealsOrder.j3 | unfold grottolaw04_RealsOrder.j4 | unfold grottolaw04_RealsOrder.j5 | unfold grottolaw04_RealsOrder.j6) <;> (repeat' first | (with_reducible first | apply ih0 | apply ih1 | apply ih2 | apply ih3 | apply ih4 | apply ih5 | apply ih6 | apply grottolaw04_live.mono | apply reals_DoubleHolds.mono | exact LeO.refl _ | exact LeO.none _ | refine LeO.ite ?_ ?_ | refine LeO.bind ?_ (fun _ => ?_)) | refine LeO.ite ?_ ?_ | refine LeO.bind ?_ (fun _ => ?_))
theorem grottolaw04_RealsOrder.mono : ∀ a0 a1 a2 a3 k, LeO (grottolaw04_RealsOrder.f k a0 a1 a2 a3) (grottolaw04_RealsOrder.f (k + 1) a0 a1 a2 a3) := by
 intro a0 a1 a2 a3 k
 obtain ⟨ih0, ih1, ih2, ih3, ih4, ih5, ih6⟩ := grottolaw04_RealsOrder.mono_l k
 unfold grottolaw04_RealsOrder.f
 repeat' first | (with_reducible first | apply ih0 | apply ih1 | apply ih2 | apply ih3 | apply ih4 | apply ih5 | apply ih6 | apply grottolaw04_live.mono | apply reals_DoubleHolds.mono | exact LeO.refl _ | exact LeO.none _ | refine LeO.ite ?_ ?_ | refine LeO.bind ?_ (fun _ => ?_)) | refine LeO.ite ?_ ?_ | refine LeO.bind ?_ (fun _ => ?_)
set_option maxHeartbeats 8000000 in
set_option maxRecDepth 100000 in
theorem grottolaw04_RealsOrder.calls {k : Nat} {M : Int} {N : Int} {O : Int} {Z : Int} {r : Bool} {w : World} (h : grottolaw04_RealsOrder.f k M N O Z = some r) :
  Calls Try.prog 6 #[.int .u64 M, .int .u64 N, .int .u64 O, .int .u64 Z] w fun e w' => e = .returned (.bool r) ∧ Below w.heap.size w w' := by
 have HB := Aside0.mk (Below.refl w.heap.size w)
 have H : ((reals_DoubleHolds.f k 3 M N O).bind fun d => ((reals_DoubleHolds.f k 5 M N O).bind fun g => ((reals_DoubleHolds.f k 4 M N O).bind fun b => ((reals_DoubleHolds.f k 6 M N O).bind fun c => ((reals_DoubleHolds.f k 1 M N O).bind fun a => ((reals_DoubleHolds.f k 2 M N O).bind fun j => (if (a == j) = true then (grottolaw04_RealsOrder.j0 k M N O Z d g b c a true) else ((reals_DoubleHolds.f k 1 N M O).bind fun W => (grottolaw04_RealsOrder.j0 k M N O Z d g b c a (a != W)))))))))) = some r := h
 clear h
 obtain ⟨d, A5, H⟩ := oB H
 obtain ⟨g, A6, H⟩ := oB H
 obtain ⟨b, A7, H⟩ := oB H
 obtain ⟨c, A8, H⟩ := oB H
 obtain ⟨a, A9, H⟩ := oB H
 have aa := Aside0.mk H
 clear H
 go_enter Try.func6, Try.ntmps6
 go_upto_region 4 with (first | ((with_reducible refine gate_callee (f := 19) rfl ?_); refine zgc (some 19) Try.func19 (reals_DoubleHolds.calls A5.out) ?_; intro bj hb; replace HB := zbs HB hb; clear hb) | ((with_reducible refine gate_callee (f := 19) rfl ?_); refine zgc (some 23) Try.func19 (reals_DoubleHolds.calls A6.out) ?_; intro bk hb; replace HB := zbs HB hb; clear hb) | ((with_reducible refine gate_callee (f := 19) rfl ?_); refine zgc (some 27) Try.func19 (reals_DoubleHolds.calls A7.out) ?_; intro bl hb; replace HB := zbs HB hb; clear hb) | ((with_reducible refine gate_callee (f := 19) rfl ?_); refine zgc (some 31) Try.func19 (reals_DoubleHolds.calls A8.out) ?_; intro bm hb; replace HB := zbs HB hb; clear hb) | ((with_reducible refine gate_callee (f := 19) rfl ?_); refine zgc (some 35) Try.func19 (reals_DoubleHolds.calls A9.out) ?_; intro bn hb; replace HB := zbs HB hb; clear hb))
 (try simp only [Act.put, List.setIfInBounds_toArray, List.set_cons_zero, List.set_cons_succ])
 go_cut [49] (fun v49 wc => ∃ (kq : Nat) (J : Bool), v49 = .bool J ∧ Aside0 (grottolaw04_RealsOrder.j0 kq M N O Z d g b c a J = some r) ∧ Aside0 (kq ≤ k) ∧ Aside0 (Below w.heap.size w wc))
 case first =>
  have H := aa.out
  clear aa
  obtain ⟨j, aL, H⟩ := oB H
  by_cases m : (a == j) = true
  ·rw [if_pos m] at H
   have i : (a == j) = true := m
   (try (have p : decide (a = j) = true := by simpa using m))
   (try (have q : (a == j) = true := by simpa using m))
   clear m
   (first | rw [i] | (simp only [i64_w, i32_w]; rw [i]) | skip)
   have H' := Aside0.mk H
   clear H
   go_wp2_with (first | ((with_reducible refine gate_callee (f := 19) rfl ?_); refine zgc (some 40) Try.func19 (reals_DoubleHolds.calls aL.out) ?_; intro bo hb; replace HB := zbs HB hb; clear hb))
   go_meet
   case rel => exact ⟨_, (true), (by first | rfl | (simp [*]; done)), H', ⟨by omega⟩, ⟨zb HB⟩⟩
  rw [if_neg m] at H
  have i : (a == j) = false := by simpa using m
  (try (have p : decide (a = j) = false := by simpa using m))
  (try (have q : (a == j) = false := by simpa using m))
  (try (have aX : ¬ (a = j) := by simpa using m))
  clear m
  (first | rw [i] | (simp only [i64_w, i32_w]; rw [i]) | skip)
  obtain ⟨W, aY, H⟩ := oB H
  have H' := Aside0.mk H
  clear H
  go_wp2_with (first | ((with_reducible refine gate_callee (f := 19) rfl ?_); refine zgc (some 40) Try.func19 (reals_DoubleHolds.calls aL.out) ?_; intro bp hb; replace HB := zbs HB hb; clear hb) | (go_at_call 19; (with_reducible refine (reals_DoubleHolds.calls aY.out).mono ?_); rintro e bq ⟨rfl, hb⟩; replace HB := zbs HB hb; clear hb))
  go_meet
  case rel => exact ⟨_, ((a != W)), (by first | rfl | (simp [*]; done)), H', ⟨by omega⟩, ⟨zb HB⟩⟩
 case rest =>
  clear aa
  obtain ⟨kq, J, rfl, HA, s, HB⟩ := hcut
  cases kq with
  | zero => exact absurd HA.out (by simp [grottolaw04_RealsOrder.j0])
  | succ aZ =>
   have H := HA.out
   clear HA
   simp only [grottolaw04_RealsOrder.j0] at H
   by_cases I : J = true
   ·subst I
    rw [if_pos rfl] at H
    obtain rfl := Option.some.inj H
    go_wp2
    go_ret
    exact zr HB
   replace I := Bool.eq_false_iff.mpr I
   subst I
   rw [if_neg nft] at H
   have ab := Aside0.mk H
   clear H
   go_upto_region 6 with (fail)
   go_cut [55] (fun v55 wc => ∃ (kq : Nat) (z : Bool), v55 = .bool z ∧ Aside0 (grottolaw04_RealsOrder.j1 kq M N O Z d g b c a z = some r) ∧ Aside0 (kq ≤ aZ) ∧ Aside0 (Below w.heap.size w wc))
   case first =>
    have H := ab.out
    clear ab
    obtain ⟨av, aM, H⟩ := oB H
    by_cases K : av = true
    ·subst K
     rw [if_pos rfl] at H
     have H' := Aside0.mk H
     clear H
     go_wp2_with (first | ((with_reducible refine gate_callee (f := 19) rfl ?_); refine zgc (some 51) Try.func19 (reals_DoubleHolds.calls aM.out) ?_; intro br hb; replace HB := zbs HB hb; clear hb))
     go_meet
     case rel => exact ⟨_, (true), (by first | rfl | (simp [*]; done)), H', ⟨by have := s.out; first | omega | exact Nat.le_refl _⟩, ⟨zb HB⟩⟩
    replace K := Bool.eq_false_iff.mpr K
    subst K
    rw [if_neg nft] at H
    obtain ⟨aw, a4, H⟩ := oB H
    have H' := Aside0.mk H
    clear H
    go_wp2_with (first | ((with_reducible refine gate_callee (f := 19) rfl ?_); refine zgc (some 51) Try.func19 (reals_DoubleHolds.calls aM.out) ?_; intro bs hb; replace HB := zbs HB hb; clear hb) | (go_at_call 19; (with_reducible refine (reals_DoubleHolds.calls a4.out).mono ?_); rintro e bt ⟨rfl, hb⟩; replace HB := zbs HB hb; clear hb))
    go_meet
    case rel => exact ⟨_, (aw), (by first | rfl | (simp [*]; done)), H', ⟨by have := s.out; first | omega | exact Nat.le_refl _⟩, ⟨zb HB⟩⟩
   case rest =>
    clear ab
    try clear c1 p2 c6 m i p q ad I p2
    obtain ⟨kq, z, rfl, HA, l, HB⟩ := hcut
    cases kq with
    | zero => exact absurd HA.out (by simp [grottolaw04_RealsOrder.j1])
    | succ au =>
     have H := HA.out
     clear HA
     simp only [grottolaw04_RealsOrder.j1] at H
     by_cases L : z = true
     ·subst L
      rw [if_pos rfl] at H
      by_cases P : d = true
      ·subst P
       rw [if_pos rfl] at H
       obtain rfl := Option.some.inj H
       go_wp2
       go_ret
       exact zr HB
      replace P := Bool.eq_false_iff.mpr P
      subst P
      rw [if_neg nft] at H
      by_cases Q : g = true
      ·subst Q
       rw [if_pos rfl] at H
       obtain rfl := Option.some.inj H
       go_wp2
       go_ret
       exact zr HB
      replace Q := Bool.eq_false_iff.mpr Q
      subst Q
      rw [if_neg nft] at H
      by_cases R : b = true
      ·subst R
       rw [if_pos rfl] at H
       obtain rfl := Option.some.inj H
       go_wp2
       go_ret
       exact zr HB
      replace R := Bool.eq_false_iff.mpr R
      subst R
      rw [if_neg nft] at H
      by_cases S : c = true
      ·subst S
       rw [if_pos rfl] at H
       obtain rfl := Option.some.inj H
       go_wp2
       go_ret
       exact zr HB
      replace S := Bool.eq_false_iff.mpr S
      subst S
      rw [if_neg nft] at H
      by_cases T : a = true
      ·subst T
       rw [if_pos rfl] at H
       obtain rfl := Option.some.inj H
       go_wp2
       go_ret
       exact zr HB
      replace T := Bool.eq_false_iff.mpr T
      subst T
      rw [if_neg nft] at H
      obtain ⟨ax, a5, H⟩ := oB H
      obtain rfl := Option.some.inj H
      go_wp2_with (first | (go_at_call 15; (with_reducible refine (grottolaw04_live.calls au  ax _ a5.out).mono ?_); rintro e bu ⟨rfl, hb⟩; replace HB := zbs HB hb; clear hb))
      go_ret
      exact zr HB
     replace L := Bool.eq_false_iff.mpr L
     subst L
     rw [if_neg nft] at H
     have ae := Aside0.mk H
     clear H
     go_upto_if 77 with (fail)
     go_cut [14] (fun v14 wc => ∃ (kq : Nat) (u : Int), v14 = .int .i64 u ∧ Aside0 (grottolaw04_RealsOrder.j2 kq M N O Z d g b c a u = some r) ∧ Aside0 (kq ≤ au) ∧ Aside0 (Below w.heap.size w wc))
     case first =>
      have H := ae.out
      clear ae
      by_cases U : d = true
      ·subst U
       rw [if_pos rfl] at H
       have H' := Aside0.mk H
       clear H
       go_wp2
       go_meet
       case rel => exact ⟨_, (0 + 1), (by first | rfl | (simp [*]; done)), H', ⟨by have := s.out; have := l.out; first | omega | exact Nat.le_refl _⟩, ⟨zb HB⟩⟩
      replace U := Bool.eq_false_iff.mpr U
      subst U
      rw [if_neg nft] at H
      have H' := Aside0.mk H
      clear H
      go_wp2
      go_meet
      case rel => exact ⟨_, (0), (by first | rfl | (simp [*]; done)), H', ⟨by have := s.out; have := l.out; first | omega | exact Nat.le_refl _⟩, ⟨zb HB⟩⟩
     case rest =>
      clear ae
      try clear c1 c2 p2 c6 m i p q ad I K L p2
      obtain ⟨kq, u, rfl, HA, n, HB⟩ := hcut
      cases kq with
      | zero => exact absurd HA.out (by simp [grottolaw04_RealsOrder.j2])
      | succ aP =>
       have H := HA.out
       clear HA
       simp only [grottolaw04_RealsOrder.j2] at H
       have af := Aside0.mk H
       clear H
       go_upto_if 80 with (fail)
       go_cut [14] (fun v14 wc => ∃ (kq : Nat) (o : Int), v14 = .int .i64 o ∧ Aside0 (grottolaw04_RealsOrder.j3 kq M N O Z d g b c a o = some r) ∧ Aside0 (kq ≤ aP) ∧ Aside0 (Below w.heap.size w wc))
       case first =>
        have H := af.out
        clear af
        by_cases X : g = true
        ·subst X
         rw [if_pos rfl] at H
         have H' := Aside0.mk H
         clear H
         go_wp2
         go_meet
         case rel => exact ⟨_, (wrap64 (u + 1)), (by first | rfl | (simp [*]; done)), H', ⟨by have := s.out; have := l.out; have := n.out; first | omega | exact Nat.le_refl _⟩, ⟨zb HB⟩⟩
        replace X := Bool.eq_false_iff.mpr X
        subst X
        rw [if_neg nft] at H
        have H' := Aside0.mk H
        clear H
        go_wp2
        go_meet
        case rel => exact ⟨_, (u), (by first | rfl | (simp [*]; done)), H', ⟨by have := s.out; have := l.out; have := n.out; first | omega | exact Nat.le_refl _⟩, ⟨zb HB⟩⟩
       case rest =>
        clear af
        try clear c1 c2 p2 c3 c6 m i p q ad I K L P Q R S T U p2
        obtain ⟨kq, o, rfl, HA, v, HB⟩ := hcut
        cases kq with
        | zero => exact absurd HA.out (by simp [grottolaw04_RealsOrder.j3])
        | succ aQ =>
         have H := HA.out
         clear HA
         simp only [grottolaw04_RealsOrder.j3] at H
         have ag := Aside0.mk H
         clear H
         go_upto_region 13 with (fail)
         go_cut [86] (fun v86 wc => ∃ (kq : Nat) (B : Bool), v86 = .bool B ∧ Aside0 (grottolaw04_RealsOrder.j4 kq M N O Z d g b c a o B = some r) ∧ Aside0 (kq ≤ aQ) ∧ Aside0 (Below w.heap.size w wc))
         case first =>
          have H := ag.out
          clear ag
          by_cases Y : b = true
          ·subst Y
           rw [if_pos rfl] at H
           have H' := Aside0.mk H
           clear H
           go_wp2
           go_meet
           case rel => exact ⟨_, (c), (by first | rfl | (simp [*]; done)), H', ⟨by have := s.out; have := l.out; have := n.out; have := v.out; first | omega | exact Nat.le_refl _⟩, ⟨zb HB⟩⟩
          replace Y := Bool.eq_false_iff.mpr Y
          subst Y
          rw [if_neg nft] at H
          have H' := Aside0.mk H
          clear H
          go_wp2
          go_meet
          case rel => exact ⟨_, (false), (by first | rfl | (simp [*]; done)), H', ⟨by have := s.out; have := l.out; have := n.out; have := v.out; first | omega | exact Nat.le_refl _⟩, ⟨zb HB⟩⟩
         case rest =>
          clear ag
          try clear c1 c2 p2 c3 c4 c6 p6 m i p q ad I K L P Q R S T U X p2 p6
          obtain ⟨kq, B, rfl, HA, D, HB⟩ := hcut
          cases kq with
          | zero => exact absurd HA.out (by simp [grottolaw04_RealsOrder.j4])
          | succ aS =>
           have H := HA.out
           clear HA
           simp only [grottolaw04_RealsOrder.j4] at H
           have ah := Aside0.mk H
           clear H
           go_upto_if 86 with (fail)
           go_cut [14] (fun v14 wc => ∃ (kq : Nat) (C : Int), v14 = .int .i64 C ∧ Aside0 (grottolaw04_RealsOrder.j5 kq M N O Z d g b c a C = some r) ∧ Aside0 (kq ≤ aS) ∧ Aside0 (Below w.heap.size w wc))
           case first =>
            have H := ah.out
            clear ah
            by_cases ai : B = true
            ·subst ai
             rw [if_pos rfl] at H
             have H' := Aside0.mk H
             clear H
             go_wp2
             go_meet
             case rel => exact ⟨_, (wrap64 (o + 1)), (by first | rfl | (simp [*]; done)), H', ⟨by have := s.out; have := l.out; have := n.out; have := v.out; have := D.out; first | omega | exact Nat.le_refl _⟩, ⟨zb HB⟩⟩
            replace ai := Bool.eq_false_iff.mpr ai
            subst ai
            rw [if_neg nft] at H
            have H' := Aside0.mk H
            clear H
            go_wp2
            go_meet
            case rel => exact ⟨_, (o), (by first | rfl | (simp [*]; done)), H', ⟨by have := s.out; have := l.out; have := n.out; have := v.out; have := D.out; first | omega | exact Nat.le_refl _⟩, ⟨zb HB⟩⟩
           case rest =>
            clear ah
            try clear c1 c2 p2 c3 c4 c6 p6 m i p q ad I K L P Q R S T U X Y p2 p6
            obtain ⟨kq, C, rfl, HA, V, HB⟩ := hcut
            cases kq with
            | zero => exact absurd HA.out (by simp [grottolaw04_RealsOrder.j5])
            | succ aT =>
             have H := HA.out
             clear HA
             simp only [grottolaw04_RealsOrder.j5] at H
             have aj := Aside0.mk H
             clear H
             go_upto_region 15 with (fail)
             go_cut [110] (fun v110 wc => ∃ (kq : Nat) (y : Bool), v110 = .bool y ∧ Aside0 (grottolaw04_RealsOrder.j6 kq M N O Z a y = some r) ∧ Aside0 (kq ≤ aT) ∧ Aside0 (Below w.heap.size w wc))
             case first =>
              have H := aj.out
              clear aj
              by_cases ak : C = 1
              ·rw [if_pos ak] at H
               obtain ⟨E, ay⟩ := zt ak
               clear ak
               (first | rw [E] | (simp only [i64_w, i32_w]; rw [E]) | skip)
               by_cases F : (b == g) = true
               ·rw [if_pos F] at H
                have az : (b == g) = true := F
                (try (have aA : decide (b = g) = true := by simpa using F))
                (try (have aB : (b == g) = true := by simpa using F))
                clear F
                have H' := Aside0.mk H
                clear H
                go_wp2
                go_meet
                case rel => exact ⟨_, (true), (by first | rfl | (simp [*]; done)), H', ⟨by have := s.out; have := l.out; have := n.out; have := v.out; have := D.out; have := V.out; first | omega | exact Nat.le_refl _⟩, ⟨zb HB⟩⟩
               rw [if_neg F] at H
               have az : (b == g) = false := by simpa using F
               (try (have aA : decide (b = g) = false := by simpa using F))
               (try (have aB : (b == g) = false := by simpa using F))
               (try (have a7 : ¬ (b = g) := by simpa using F))
               clear F
               by_cases G : (c == d) = true
               ·rw [if_pos G] at H
                have aC : (c == d) = true := G
                (try (have aD : decide (c = d) = true := by simpa using G))
                (try (have aE : (c == d) = true := by simpa using G))
                clear G
                have H' := Aside0.mk H
                clear H
                go_wp2
                go_meet
                case rel => exact ⟨_, (true), (by first | rfl | (simp [*]; done)), H', ⟨by have := s.out; have := l.out; have := n.out; have := v.out; have := D.out; have := V.out; first | omega | exact Nat.le_refl _⟩, ⟨zb HB⟩⟩
               rw [if_neg G] at H
               have aC : (c == d) = false := by simpa using G
               (try (have aD : decide (c = d) = false := by simpa using G))
               (try (have aE : (c == d) = false := by simpa using G))
               (try (have a8 : ¬ (c = d) := by simpa using G))
               clear G
               obtain ⟨al, aU, H⟩ := oB H
               by_cases an : b = true
               ·subst an
                rw [if_pos rfl] at H
                have H' := Aside0.mk H
                clear H
                go_wp2_with (first | (go_at_call 19; (with_reducible refine (reals_DoubleHolds.calls aU.out).mono ?_); rintro e bv ⟨rfl, hb⟩; replace HB := zbs HB hb; clear hb))
                go_meet
                case rel => exact ⟨_, ((al != c)), (by first | rfl | (simp [*]; done)), H', ⟨by have := s.out; have := l.out; have := n.out; have := v.out; have := D.out; have := V.out; first | omega | exact Nat.le_refl _⟩, ⟨zb HB⟩⟩
               replace an := Bool.eq_false_iff.mpr an
               subst an
               rw [if_neg nft] at H
               have H' := Aside0.mk H
               clear H
               go_wp2_with (first | (go_at_call 19; (with_reducible refine (reals_DoubleHolds.calls aU.out).mono ?_); rintro e bw ⟨rfl, hb⟩; replace HB := zbs HB hb; clear hb))
               go_meet
               case rel => exact ⟨_, ((al != false)), (by first | rfl | (simp [*]; done)), H', ⟨by have := s.out; have := l.out; have := n.out; have := v.out; have := D.out; have := V.out; first | omega | exact Nat.le_refl _⟩, ⟨zb HB⟩⟩
              rw [if_neg ak] at H
              obtain ⟨E, ay⟩ := zf ak
              (first | rw [E] | (simp only [i64_w, i32_w]; rw [E]) | skip)
              have H' := Aside0.mk H
              clear H
              go_wp2
              go_meet
              case rel => exact ⟨_, (true), (by first | rfl | (simp [*]; done)), H', ⟨by have := s.out; have := l.out; have := n.out; have := v.out; have := D.out; have := V.out; first | omega | exact Nat.le_refl _⟩, ⟨zb HB⟩⟩
             case rest =>
              clear aj
              try clear c1 c2 p2 c3 c4 c6 p6 m i p q ad I K L P Q R S T U X Y ai p2 p6
              obtain ⟨kq, y, rfl, HA, bd, HB⟩ := hcut
              cases kq with
              | zero => exact absurd HA.out (by simp [grottolaw04_RealsOrder.j6])
              | succ am =>
               have H := HA.out
               clear HA
               simp only [grottolaw04_RealsOrder.j6] at H
               by_cases ao : y = true
               ·subst ao
                rw [if_pos rfl] at H
                obtain rfl := Option.some.inj H
                go_wp2
                go_ret
                exact zr HB
               replace ao := Bool.eq_false_iff.mpr ao
               subst ao
               rw [if_neg nft] at H
               by_cases ap : a = true
               ·subst ap
                rw [if_pos rfl] at H
                obtain ⟨aF, aG, H⟩ := oB H
                by_cases aq : aF = true
                ·subst aq
                 rw [if_pos rfl] at H
                 obtain ⟨aH, aV, H⟩ := oB H
                 by_cases ar : aH = true
                 ·subst ar
                  rw [if_pos rfl] at H
                  obtain ⟨aI, a9, H⟩ := oB H
                  obtain rfl := Option.some.inj H
                  go_wp2_with (first | (go_at_call 19; (with_reducible refine (reals_DoubleHolds.calls aG.out).mono ?_); rintro e bx ⟨rfl, hb⟩; replace HB := zbs HB hb; clear hb) | (go_at_call 19; (with_reducible refine (reals_DoubleHolds.calls aV.out).mono ?_); rintro e bz ⟨rfl, hb⟩; replace HB := zbs HB hb; clear hb) | ((with_reducible refine gate_callee (f := 15) rfl ?_); refine zgc (some 128) Try.func15 (grottolaw04_live.calls am  aI _ a9.out) ?_; intro bA hb; replace HB := zbs HB hb; clear hb))
                  go_ret
                  exact zr HB
                 replace ar := Bool.eq_false_iff.mpr ar
                 subst ar
                 rw [if_neg nft] at H
                 obtain rfl := Option.some.inj H
                 go_wp2_with (first | (go_at_call 19; (with_reducible refine (reals_DoubleHolds.calls aG.out).mono ?_); rintro e bB ⟨rfl, hb⟩; replace HB := zbs HB hb; clear hb) | (go_at_call 19; (with_reducible refine (reals_DoubleHolds.calls aV.out).mono ?_); rintro e bC ⟨rfl, hb⟩; replace HB := zbs HB hb; clear hb))
                 go_ret
                 exact zr HB
                replace aq := Bool.eq_false_iff.mpr aq
                subst aq
                rw [if_neg nft] at H
                obtain ⟨aJ, ba, H⟩ := oB H
                obtain rfl := Option.some.inj H
                go_wp2_with (first | (go_at_call 19; (with_reducible refine (reals_DoubleHolds.calls aG.out).mono ?_); rintro e bD ⟨rfl, hb⟩; replace HB := zbs HB hb; clear hb) | ((with_reducible refine gate_callee (f := 15) rfl ?_); refine zgc (some 128) Try.func15 (grottolaw04_live.calls am  aJ _ ba.out) ?_; intro bE hb; replace HB := zbs HB hb; clear hb))
                go_ret
                exact zr HB
               replace ap := Bool.eq_false_iff.mpr ap
               subst ap
               rw [if_neg nft] at H
               obtain ⟨aK, bb, H⟩ := oB H
               obtain rfl := Option.some.inj H
               go_wp2_with (first | ((with_reducible refine gate_callee (f := 15) rfl ?_); refine zgc (some 128) Try.func15 (grottolaw04_live.calls am  aK _ bb.out) ?_; intro bF hb; replace HB := zbs HB hb; clear hb))
               go_ret
               exact zr HB


end Go.Proofs.Ythkifpdachjlgaa.PQ
