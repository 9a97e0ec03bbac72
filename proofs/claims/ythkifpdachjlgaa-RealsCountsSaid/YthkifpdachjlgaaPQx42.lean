-- by a program of this claim
import Derived.Test.YthkifpdachjlgaaPQx0
import Derived.Test.YthkifpdachjlgaaPQx7
import Derived.Test.YthkifpdachjlgaaPQx8
import Derived.Test.YthkifpdachjlgaaPQx9
namespace Go.Proofs.Ythkifpdachjlgaa.PQ
open Go.RowKit Go.Proofs.YthkifpdachjlgaaW.PrintWords Go.Proofs.YthkifpdachjlgaaW.PrintLast Go.Proofs.YthkifpdachjlgaaW.PrintMore Go.Proofs.Ythkifpdachjlgaa.Z
attribute [local go_sem] max2_int min2_int max_two min_two max_three min_three max_four min_four   -- for this text's walks alone
set_option linter.unusedVariables false
set_option linter.unusedSimpArgs false

/-! ### grottolaw04_RealsCounts: function 11 -/
mutual
def grottolaw04_RealsCounts.j0 : Nat → Int → Int → Bool → Int → Int → Bool → Option (Bool)
 | 0, _, _, _, _, _, _ => none
 | k + 1, x0, x1, x2, x7, x8, x28 => if x28 = true then (some false) else (if ((x0 + 16777216) % 4294967296) ≤ 33554432 then ((reals_SingleOf.f k x0).bind fun t1259 => ((reals_SingleInt.f k t1259 x2).bind fun t1260 => (grottolaw04_RealsCounts.j1 k x0 x1 x2 x7 x8 (t1260 != x0)))) else (grottolaw04_RealsCounts.j1 k x0 x1 x2 x7 x8 false))
def grottolaw04_RealsCounts.j1 : Nat → Int → Int → Bool → Int → Int → Bool → Option (Bool)
 | 0, _, _, _, _, _, _ => none
 | k + 1, x0, x1, x2, x7, x8, x39 => if x39 = true then (some false) else ((reals_Double.f k 1 x7 x8).bind fun bt1261 => ((grottolaw04_num.f bt1261.2).bind fun t1263 => (if t1263 = 0 then ((reals_DoubleInt.f k bt1261.1 x2).bind fun t1264 => (if t1264 = ((mx (mn (wrap64 ((wrap64 (wrap32 (x0))) + (wrap64 (wrap32 (x1))))) 2147483647) (-2147483648)) % 4294967296) then ((reals_DoubleHolds.f k 3 x7 x8 0).bind fun t1265 => (if (t1265 == (decide ((wrap32 (x0)) < (wrap32 (x1))))) = true then ((grottolaw04_live.f k).bind fun t1266 => (some t1266)) else (some false))) else (some false))) else (some false))))
end
def grottolaw04_RealsCounts.f (k : Nat) (a0 : Int) (a1 : Int) (a2 : Bool) : Option (Bool) := (reals_DoubleOf.f k a0).bind fun t1254 => ((reals_DoubleOf.f k a1).bind fun t1255 => ((reals_DoubleInt.f k t1254 a2).bind fun t1256 => (if t1256 = a0 then ((reals_SingleOf.f k a0).bind fun t1257 => ((reals_Narrow.f k t1254).bind fun t1258 => (grottolaw04_RealsCounts.j0 k a0 a1 a2 t1254 t1255 (t1257 != t1258)))) else (grottolaw04_RealsCounts.j0 k a0 a1 a2 t1254 t1255 true))))
theorem grottolaw04_RealsCounts.mono_l : ∀ k, (∀ y0 y1 y2 y3 y4 y5, LeO (grottolaw04_RealsCounts.j0 k y0 y1 y2 y3 y4 y5) (grottolaw04_RealsCounts.j0 (k + 1) y0 y1 y2 y3 y4 y5)) ∧ (∀ y0 y1 y2 y3 y4 y5, LeO (grottolaw04_RealsCounts.j1 k y0 y1 y2 y3 y4 y5) (grottolaw04_RealsCounts.j1 (k + 1) y0 y1 y2 y3 y4 y5))
 | 0 => ⟨fun _ _ _ _ _ _ r h => by simp [grottolaw04_RealsCounts.j0] at h, fun _ _ _ _ _ _ r h => by simp [grottolaw04_RealsCounts.j1] at h⟩
 | k + 1 => by
  obtain ⟨ih0, ih1⟩ := grottolaw04_RealsCounts.mono_l k
  refine ⟨?_, ?_⟩ <;> intros <;> (first | unfold grottolaw04_RealsCounts.j0 | unfold grottolaw04_RealsCounts.j1) <;> (repeat' first | (with_reducible first | apply ih0 | apply ih1 | apply grottolaw04_live.mono | apply reals_Double.mono | apply reals_DoubleHolds.mono | apply reals_DoubleInt.mono | apply reals_DoubleOf.mono | apply reals_Narrow.mono | apply reals_SingleInt.mono | apply reals_SingleOf.mono | exact LeO.refl _ | exact LeO.none _ | refine LeO.ite ?_ ?_ | refine LeO.bind ?_ (fun _ => ?_)) | refine LeO.ite ?_ ?_ | refine LeO.bind ?_ (fun _ => ?_))
theorem grottolaw04_RealsCounts.mono : ∀ a0 a1 a2 k, LeO (grottolaw04_RealsCounts.f k a0 a1 a2) (grottolaw04_RealsCounts.f (k + 1) a0 a1 a2) := by
 intro a0 a1 a2 k
 obtain ⟨ih0, ih1⟩ := grottolaw04_RealsCounts.mono_l k
 unfold grottolaw04_RealsCounts.f
 repeat' first | (with_reducible first | apply ih0 | apply ih1 | apply grottolaw04_live.mono | apply reals_Double.mono | apply reals_DoubleHolds.mono | apply reals_DoubleInt.mono | apply reals_DoubleOf.mono | apply reals_Narrow.mono | apply reals_SingleInt.mono | apply reals_SingleOf.mono | exact LeO.refl _ | exact LeO.none _ | refine LeO.ite ?_ ?_ | refine LeO.bind ?_ (fun _ => ?_)) | refine LeO.ite ?_ ?_ | refine LeO.bind ?_ (fun _ => ?_)
set_option maxHeartbeats 8000000 in
set_option maxRecDepth 100000 in
theorem grottolaw04_RealsCounts.calls {k : Nat} {i : Int} {v : Int} {P : Bool} {r : Bool} {w : World} (h : grottolaw04_RealsCounts.f k i v P = some r) :
  Calls Try.prog 11 #[.int .u32 i, .int .u32 v, .bool P] w fun e w' => e = .returned (.bool r) ∧ Below w.heap.size w w' := by
 have HB := Aside0.mk (Below.refl w.heap.size w)
 have H : ((reals_DoubleOf.f k i).bind fun b => ((reals_DoubleOf.f k v).bind fun g => ((reals_DoubleInt.f k b P).bind fun B => (if B = i then ((reals_SingleOf.f k i).bind fun C => ((reals_Narrow.f k b).bind fun D => (grottolaw04_RealsCounts.j0 k i v P b g (C != D)))) else (grottolaw04_RealsCounts.j0 k i v P b g true))))) = some r := h
 clear h
 obtain ⟨b, A4, H⟩ := oB H
 obtain ⟨g, A5, H⟩ := oB H
 have S := Aside0.mk H
 clear H
 go_enter Try.func11, Try.ntmps11
 go_upto_region 2 with (first | ((with_reducible refine gate_callee (f := 22) rfl ?_); refine zgc (some 14) Try.func22 (reals_DoubleOf.calls A4.out) ?_; intro w7 hb; replace HB := zbs HB hb; clear hb) | ((with_reducible refine gate_callee (f := 22) rfl ?_); refine zgc (some 16) Try.func22 (reals_DoubleOf.calls A5.out) ?_; intro w8 hb; replace HB := zbs HB hb; clear hb))
 (try simp only [Act.put, List.setIfInBounds_toArray, List.set_cons_zero, List.set_cons_succ])
 go_cut [28] (fun v28 wc => ∃ (kq : Nat) (y : Bool), v28 = .bool y ∧ Aside0 (grottolaw04_RealsCounts.j0 kq i v P b g y = some r) ∧ Aside0 (kq ≤ k) ∧ Aside0 (Below w.heap.size w wc))
 case first =>
  have H := S.out
  clear S
  obtain ⟨B, A9, H⟩ := oB H
  by_cases E : B = i
  ·rw [if_pos E] at H
   obtain ⟨j, I⟩ := zt E
   clear E
   (first | rw [j] | (simp only [i64_w, i32_w]; rw [j]) | skip)
   obtain ⟨C, ag, H⟩ := oB H
   obtain ⟨D, ah, H⟩ := oB H
   have H' := Aside0.mk H
   clear H
   go_wp2_with (first | ((with_reducible refine gate_callee (f := 25) rfl ?_); refine zgc (some 19) Try.func25 (reals_DoubleInt.calls A9.out) ?_; intro au hb; replace HB := zbs HB hb; clear hb) | (go_at_call 20; (with_reducible refine (reals_SingleOf.calls ag.out).mono ?_); rintro e av ⟨rfl, hb⟩; replace HB := zbs HB hb; clear hb) | (go_at_call 26; (with_reducible refine (reals_Narrow.calls ah.out).mono ?_); rintro e aw ⟨rfl, hb⟩; replace HB := zbs HB hb; clear hb))
   go_meet
   case rel => exact ⟨_, ((C != D)), (by first | rfl | (simp [*]; done)), H', ⟨by omega⟩, ⟨zb HB⟩⟩
  rw [if_neg E] at H
  obtain ⟨j, I⟩ := zf E
  (first | rw [j] | (simp only [i64_w, i32_w]; rw [j]) | skip)
  have H' := Aside0.mk H
  clear H
  go_wp2_with (first | ((with_reducible refine gate_callee (f := 25) rfl ?_); refine zgc (some 19) Try.func25 (reals_DoubleInt.calls A9.out) ?_; intro ax hb; replace HB := zbs HB hb; clear hb))
  go_meet
  case rel => exact ⟨_, (true), (by first | rfl | (simp [*]; done)), H', ⟨by omega⟩, ⟨zb HB⟩⟩
 case rest =>
  clear S
  obtain ⟨kq, y, rfl, HA, ac, HB⟩ := hcut
  cases kq with
  | zero => exact absurd HA.out (by simp [grottolaw04_RealsCounts.j0])
  | succ ai =>
   have H := HA.out
   clear HA
   simp only [grottolaw04_RealsCounts.j0] at H
   by_cases J : y = true
   ·subst J
    rw [if_pos rfl] at H
    obtain rfl := Option.some.inj H
    go_wp2
    go_ret
    exact zr HB
   replace J := Bool.eq_false_iff.mpr J
   subst J
   rw [if_neg nft] at H
   have K := Aside0.mk H
   clear H
   go_upto_region 4 with (fail)
   go_cut [39] (fun v39 wc => ∃ (kq : Nat) (m : Bool), v39 = .bool m ∧ Aside0 (grottolaw04_RealsCounts.j1 kq i v P b g m = some r) ∧ Aside0 (kq ≤ ai) ∧ Aside0 (Below w.heap.size w wc))
   case first =>
    have H := K.out
    clear K
    by_cases F : ((i + 16777216) % 4294967296) ≤ 33554432
    ·rw [if_pos F] at H
     have n : decide (((i + 16777216) % 4294967296) ≤ 33554432) = true := decide_eq_true F
     clear F
     (first | rw [n] | (simp only [i64_w, i32_w]; rw [n]) | skip)
     obtain ⟨aj, ak, H⟩ := oB H
     obtain ⟨T, al, H⟩ := oB H
     have H' := Aside0.mk H
     clear H
     go_wp2_with (first | (go_at_call 20; (with_reducible refine (reals_SingleOf.calls ak.out).mono ?_); rintro e ay ⟨rfl, hb⟩; replace HB := zbs HB hb; clear hb) | (go_at_call 23; (with_reducible refine (reals_SingleInt.calls al.out).mono ?_); rintro e az ⟨rfl, hb⟩; replace HB := zbs HB hb; clear hb))
     go_meet
     case rel => exact ⟨_, ((T != i)), (by first | rfl | (simp [*]; done)), H', ⟨by have := ac.out; first | omega | exact Nat.le_refl _⟩, ⟨zb HB⟩⟩
    rw [if_neg F] at H
    have n : decide (((i + 16777216) % 4294967296) ≤ 33554432) = false := decide_eq_false F
    clear F
    (first | rw [n] | (simp only [i64_w, i32_w]; rw [n]) | skip)
    have H' := Aside0.mk H
    clear H
    go_wp2
    go_meet
    case rel => exact ⟨_, (false), (by first | rfl | (simp [*]; done)), H', ⟨by have := ac.out; first | omega | exact Nat.le_refl _⟩, ⟨zb HB⟩⟩
   case rest =>
    clear K
    try clear c1 c2 p2 E j I aB J p2
    obtain ⟨kq, m, rfl, HA, ap, HB⟩ := hcut
    cases kq with
    | zero => exact absurd HA.out (by simp [grottolaw04_RealsCounts.j1])
    | succ o =>
     have H := HA.out
     clear HA
     simp only [grottolaw04_RealsCounts.j1] at H
     by_cases Q : m = true
     ·subst Q
      rw [if_pos rfl] at H
      obtain rfl := Option.some.inj H
      go_wp2
      go_ret
      exact zr HB
     replace Q := Bool.eq_false_iff.mpr Q
     subst Q
     rw [if_neg nft] at H
     obtain ⟨⟨L, l⟩, G, H⟩ := oB H
     try dsimp only at H
     obtain ⟨z, c⟩ : ∃ j_ : Int, (mn (wrap64 ((wrap64 (wrap32 (i))) + (wrap64 (wrap32 (v))))) 2147483647) = j_ := ⟨_, rfl⟩
     replace H : ((grottolaw04_num.f l).bind fun p => (if p = 0 then ((reals_DoubleInt.f o L P).bind fun q => (if q = ((mx (z) (-2147483648)) % 4294967296) then ((reals_DoubleHolds.f o 3 b g 0).bind fun a => (if (a == (decide ((wrap32 (i)) < (wrap32 (v))))) = true then ((grottolaw04_live.f o).bind fun s => (some s)) else (some false))) else (some false))) else (some false))) = some r := by first | (rw [c] at H; exact H) | (simp only [c] at H ⊢; exact H)
     (try rw [c] at G)
     have ae : (if 2147483647 < (wrap64 ((wrap64 (wrap32 (i))) + (wrap64 (wrap32 (v))))) then 2147483647 else (wrap64 ((wrap64 (wrap32 (i))) + (wrap64 (wrap32 (v)))))) = z := c
     obtain ⟨M, d⟩ : ∃ j_ : Int, (mx (z) (-2147483648)) = j_ := ⟨_, rfl⟩
     replace H : ((grottolaw04_num.f l).bind fun p => (if p = 0 then ((reals_DoubleInt.f o L P).bind fun q => (if q = ((M) % 4294967296) then ((reals_DoubleHolds.f o 3 b g 0).bind fun a => (if (a == (decide ((wrap32 (i)) < (wrap32 (v))))) = true then ((grottolaw04_live.f o).bind fun s => (some s)) else (some false))) else (some false))) else (some false))) = some r := by first | (rw [d] at H; exact H) | (simp only [d] at H ⊢; exact H)
     (try rw [d] at G)
     have af : (if (z) < (-2147483648) then (-2147483648) else (z)) = M := d
     obtain ⟨p, R, H⟩ := oB H
     by_cases N : p = 0
     ·rw [if_pos N] at H
      obtain ⟨U, V⟩ := zt N
      clear N
      obtain ⟨q, W, H⟩ := oB H
      by_cases O : q = ((M) % 4294967296)
      ·rw [if_pos O] at H
       obtain ⟨X, Y⟩ := zt O
       clear O
       obtain ⟨a, ad, H⟩ := oB H
       by_cases u : (a == (decide ((wrap32 (i)) < (wrap32 (v))))) = true
       ·rw [if_pos u] at H
        have Z : (a == (decide ((wrap32 (i)) < (wrap32 (v))))) = true := u
        (try (have aa : decide (a = (decide ((wrap32 (i)) < (wrap32 (v))))) = true := by simpa using u))
        (try (have ab : (a == (decide ((wrap32 (i)) < (wrap32 (v))))) = true := by simpa using u))
        clear u
        obtain ⟨s, am, H⟩ := oB H
        obtain rfl := Option.some.inj H
        go_wp2_with (first | ((with_reducible refine gate_callee (f := 16) rfl ?_); refine zgc (some 43) Try.func16 (reals_Double.calls G.out) ?_; intro aC hb; replace HB := zbs HB hb; clear hb) | ((with_reducible refine gate_callee (f := 14) rfl ?_); refine zgo (some 58) Try.func14 #[.int .i64 l] ?_; (with_reducible refine (grottolaw04_num.calls R.out).mono ?_); rintro e w' ⟨rfl, ⟨nd, rfl⟩⟩; refine ⟨_, rfl, ?_⟩) | (go_at_call 25; (with_reducible refine (reals_DoubleInt.calls W.out).mono ?_); rintro e aD ⟨rfl, hb⟩; replace HB := zbs HB hb; clear hb) | (go_at_call 19; (with_reducible refine (reals_DoubleHolds.calls ad.out).mono ?_); rintro e aE ⟨rfl, hb⟩; replace HB := zbs HB hb; clear hb) | (go_at_call 15; (with_reducible refine (grottolaw04_live.calls o  s _ am.out).mono ?_); rintro e aF ⟨rfl, hb⟩; replace HB := zbs HB hb; clear hb))
        go_ret
        exact ⟨by first | rfl | (simp [errW_none, errW_some] <;> rfl) | (simp only [← c, ← d]; first | rfl | (simp [errW_none, errW_some] <;> rfl)) | (simp [*, errW_none, errW_some] <;> rfl), zb HB⟩
       rw [if_neg u] at H
       have Z : (a == (decide ((wrap32 (i)) < (wrap32 (v))))) = false := by simpa using u
       (try (have aa : decide (a = (decide ((wrap32 (i)) < (wrap32 (v))))) = false := by simpa using u))
       (try (have ab : (a == (decide ((wrap32 (i)) < (wrap32 (v))))) = false := by simpa using u))
       (try (have an : ¬ (a = (decide ((wrap32 (i)) < (wrap32 (v))))) := by simpa using u))
       clear u
       obtain rfl := Option.some.inj H
       go_wp2_with (first | ((with_reducible refine gate_callee (f := 16) rfl ?_); refine zgc (some 43) Try.func16 (reals_Double.calls G.out) ?_; intro aG hb; replace HB := zbs HB hb; clear hb) | ((with_reducible refine gate_callee (f := 14) rfl ?_); refine zgo (some 58) Try.func14 #[.int .i64 l] ?_; (with_reducible refine (grottolaw04_num.calls R.out).mono ?_); rintro e w' ⟨rfl, ⟨nd, rfl⟩⟩; refine ⟨_, rfl, ?_⟩) | (go_at_call 25; (with_reducible refine (reals_DoubleInt.calls W.out).mono ?_); rintro e aH ⟨rfl, hb⟩; replace HB := zbs HB hb; clear hb) | (go_at_call 19; (with_reducible refine (reals_DoubleHolds.calls ad.out).mono ?_); rintro e aI ⟨rfl, hb⟩; replace HB := zbs HB hb; clear hb))
       go_ret
       exact ⟨by first | rfl | (simp [errW_none, errW_some] <;> rfl) | (simp only [← c, ← d]; first | rfl | (simp [errW_none, errW_some] <;> rfl)) | (simp [*, errW_none, errW_some] <;> rfl), zb HB⟩
      rw [if_neg O] at H
      obtain ⟨X, Y⟩ := zf O
      obtain rfl := Option.some.inj H
      go_wp2_with (first | ((with_reducible refine gate_callee (f := 16) rfl ?_); refine zgc (some 43) Try.func16 (reals_Double.calls G.out) ?_; intro aJ hb; replace HB := zbs HB hb; clear hb) | ((with_reducible refine gate_callee (f := 14) rfl ?_); refine zgo (some 58) Try.func14 #[.int .i64 l] ?_; (with_reducible refine (grottolaw04_num.calls R.out).mono ?_); rintro e w' ⟨rfl, ⟨nd, rfl⟩⟩; refine ⟨_, rfl, ?_⟩) | (go_at_call 25; (with_reducible refine (reals_DoubleInt.calls W.out).mono ?_); rintro e aK ⟨rfl, hb⟩; replace HB := zbs HB hb; clear hb))
      go_ret
      exact ⟨by first | rfl | (simp [errW_none, errW_some] <;> rfl) | (simp only [← c, ← d]; first | rfl | (simp [errW_none, errW_some] <;> rfl)) | (simp [*, errW_none, errW_some] <;> rfl), zb HB⟩
     rw [if_neg N] at H
     obtain ⟨U, V⟩ := zf N
     obtain rfl := Option.some.inj H
     go_wp2_with (first | ((with_reducible refine gate_callee (f := 16) rfl ?_); refine zgc (some 43) Try.func16 (reals_Double.calls G.out) ?_; intro aL hb; replace HB := zbs HB hb; clear hb) | ((with_reducible refine gate_callee (f := 14) rfl ?_); refine zgo (some 58) Try.func14 #[.int .i64 l] ?_; (with_reducible refine (grottolaw04_num.calls R.out).mono ?_); rintro e w' ⟨rfl, ⟨nd, rfl⟩⟩; refine ⟨_, rfl, ?_⟩))
     go_ret
     exact ⟨by first | rfl | (simp [errW_none, errW_some] <;> rfl) | (simp only [← c, ← d]; first | rfl | (simp [errW_none, errW_some] <;> rfl)) | (simp [*, errW_none, errW_some] <;> rfl), zb HB⟩


end Go.Proofs.Ythkifpdachjlgaa.PQ
