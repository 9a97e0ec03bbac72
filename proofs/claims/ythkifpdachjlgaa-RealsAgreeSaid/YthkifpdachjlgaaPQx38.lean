-- by a program of this claim
import Derived.Test.YthkifpdachjlgaaPQx0
import Derived.Test.YthkifpdachjlgaaPQx7
import Derived.Test.YthkifpdachjlgaaPQx8
import Derived.Test.YthkifpdachjlgaaPQx9
namespace Go.Proofs.Ythkifpdachjlgaa.PQ
open Go.RowKit Go.Proofs.YthkifpdachjlgaaW.PrintWords Go.Proofs.YthkifpdachjlgaaW.PrintLast Go.Proofs.YthkifpdachjlgaaW.PrintMore Go.Proofs.Ythkifpdachjlgaa.Z
attribute [local go_sem] max2_int min2_int max_two min_two max_three min_three max_four min_four   -- for this text's walks alone
set_option linter.unusedVariables false
set_option linter.unusedSimpArgs false

/-! ### grottolaw04_RealsAgree: function 9 -/
def grottolaw04_RealsAgree.j0 : Nat → Int → Int → Int → Int → Int → Bool → Option (Bool)
 | 0, _, _, _, _, _, _ => none
 | k + 1, x0, x7, x8, x9, x10, x32 => if x32 = true then ((grottolaw04_num.f x8).bind fun t1214 => (if t1214 = 1 then ((grottolaw04_num.f x10).bind fun t1215 => (if t1215 = 1 then (if x7 = 0 then (if x9 = 0 then ((grottolaw04_live.f k).bind fun t1216 => (some t1216)) else (some false)) else (some false)) else (some false))) else (some false))) else ((grottolaw04_num.f x8).bind fun t1217 => ((grottolaw04_num.f x10).bind fun t1218 => (if (wrap64 (t1217 + t1218)) = 0 then (if x0 = 6 then ((grottolaw04_live.f k).bind fun t1219 => (some t1219)) else ((reals_Narrow.f k x9).bind fun t1220 => (if x7 = t1220 then ((grottolaw04_live.f k).bind fun t1221 => (some t1221)) else (some false)))) else (some false))))
def grottolaw04_RealsAgree.f (k : Nat) (a0 : Int) (a1 : Int) (a2 : Int) : Option (Bool) := (reals_Single.f k a0 a1 a2).bind fun bt1208 => ((reals_Widen.f k a1).bind fun t1210 => ((reals_Widen.f k a2).bind fun t1211 => ((reals_Double.f k a0 t1210 t1211).bind fun bt1212 => (if a0 < 1 then (grottolaw04_RealsAgree.j0 k a0 bt1208.1 bt1208.2 bt1212.1 bt1212.2 true) else (grottolaw04_RealsAgree.j0 k a0 bt1208.1 bt1208.2 bt1212.1 bt1212.2 (decide (a0 > 9)))))))
theorem grottolaw04_RealsAgree.mono_l : ∀ k, (∀ y0 y1 y2 y3 y4 y5, LeO (grottolaw04_RealsAgree.j0 k y0 y1 y2 y3 y4 y5) (grottolaw04_RealsAgree.j0 (k + 1) y0 y1 y2 y3 y4 y5))
 | 0 => fun _ _ _ _ _ _ r h => by simp [grottolaw04_RealsAgree.j0] at h
 | k + 1 => by
  have ih0 := grottolaw04_RealsAgree.mono_l k
  intros; unfold grottolaw04_RealsAgree.j0; repeat' first | (with_reducible first | apply ih0 | apply grottolaw04_live.mono | apply reals_Double.mono | apply reals_Narrow.mono | apply reals_Single.mono | apply reals_Widen.mono | exact LeO.refl _ | exact LeO.none _ | refine LeO.ite ?_ ?_ | refine LeO.bind ?_ (fun _ => ?_)) | refine LeO.ite ?_ ?_ | refine LeO.bind ?_ (fun _ => ?_)
theorem grottolaw04_RealsAgree.mono : ∀ a0 a1 a2 k, LeO (grottolaw04_RealsAgree.f k a0 a1 a2) (grottolaw04_RealsAgree.f (k + 1) a0 a1 a2) := by
 intro a0 a1 a2 k
 have ih0 := grottolaw04_RealsAgree.mono_l k
 unfold grottolaw04_RealsAgree.f
 repeat' first | (with_reducible first | apply ih0 | apply grottolaw04_live.mono | apply reals_Double.mono | apply reals_Narrow.mono | apply reals_Single.mono | apply reals_Widen.mono | exact LeO.refl _ | exact LeO.none _ | refine LeO.ite ?_ ?_ | refine LeO.bind ?_ (fun _ => ?_)) | refine LeO.ite ?_ ?_ | refine LeO.bind ?_ (fun _ => ?_)
set_option maxHeartbeats 8000000 in
set_option maxRecDepth 100000 in
theorem grottolaw04_RealsAgree.calls {k : Nat} {l : Int} {a1 : Int} {a2 : Int} {r : Bool} {w : World} (h : grottolaw04_RealsAgree.f k l a1 a2 = some r) :
  Calls Try.prog 9 #[.int .i64 l, .int .u32 a1, .int .u32 a2] w fun e w' => e = .returned (.bool r) ∧ Below w.heap.size w w' := by
 have HB := Aside0.mk (Below.refl w.heap.size w)
 have H : ((reals_Single.f k l a1 a2).bind fun b => ((reals_Widen.f k a1).bind fun n => ((reals_Widen.f k a2).bind fun o => ((reals_Double.f k l n o).bind fun c => (if l < 1 then (grottolaw04_RealsAgree.j0 k l b.1 b.2 c.1 c.2 true) else (grottolaw04_RealsAgree.j0 k l b.1 b.2 c.1 c.2 (decide (l > 9)))))))) = some r := h
 clear h
 obtain ⟨⟨j, a⟩, A4, H⟩ := oB H
 try dsimp only at H
 obtain ⟨n, A5, H⟩ := oB H
 obtain ⟨o, A6, H⟩ := oB H
 obtain ⟨⟨p, d⟩, A7, H⟩ := oB H
 try dsimp only at H
 have I := Aside0.mk H
 clear H
 go_enter Try.func9, Try.ntmps9
 go_upto_region 3 with (first | ((with_reducible refine gate_callee (f := 12) rfl ?_); refine zgc (some 15) Try.func12 (reals_Single.calls A4.out) ?_; intro w9 hb; replace HB := zbs HB hb; clear hb) | ((with_reducible refine gate_callee (f := 27) rfl ?_); refine zgc (some 21) Try.func27 (reals_Widen.calls A5.out) ?_; intro aq hb; replace HB := zbs HB hb; clear hb) | ((with_reducible refine gate_callee (f := 27) rfl ?_); refine zgc (some 23) Try.func27 (reals_Widen.calls A6.out) ?_; intro ar hb; replace HB := zbs HB hb; clear hb) | ((with_reducible refine gate_callee (f := 16) rfl ?_); refine zgc (some 24) Try.func16 (reals_Double.calls A7.out) ?_; intro au hb; replace HB := zbs HB hb; clear hb))
 (try simp only [Act.put, List.setIfInBounds_toArray, List.set_cons_zero, List.set_cons_succ])
 go_cut [32] (fun v32 wc => ∃ (kq : Nat) (i : Bool), v32 = .bool i ∧ Aside0 (grottolaw04_RealsAgree.j0 kq l j a p d i = some r) ∧ Aside0 (kq ≤ k) ∧ Aside0 (Below w.heap.size w wc))
 case first =>
  have H := I.out
  clear I
  by_cases m : l < 1
  ·rw [if_pos m] at H
   have g : decide (l < 1) = true := decide_eq_true m
   clear m
   (first | rw [g] | (simp only [i64_w, i32_w]; rw [g]) | skip)
   have H' := Aside0.mk H
   clear H
   go_wp2
   go_meet
   case rel => exact ⟨_, (true), (by first | rfl | (simp [*]; done)), H', ⟨by omega⟩, ⟨zb HB⟩⟩
  rw [if_neg m] at H
  have g : decide (l < 1) = false := decide_eq_false m
  clear m
  (first | rw [g] | (simp only [i64_w, i32_w]; rw [g]) | skip)
  have H' := Aside0.mk H
  clear H
  go_wp2
  go_meet
  case rel => exact ⟨_, (decide (l > 9)), (by first | rfl | (simp [*]; done)), H', ⟨by omega⟩, ⟨zb HB⟩⟩
 case rest =>
  clear I
  obtain ⟨kq, i, rfl, HA, av, HB⟩ := hcut
  cases kq with
  | zero => exact absurd HA.out (by simp [grottolaw04_RealsAgree.j0])
  | succ J =>
   have H := HA.out
   clear HA
   simp only [grottolaw04_RealsAgree.j0] at H
   by_cases D : i = true
   ·subst D
    rw [if_pos rfl] at H
    obtain ⟨K, q, H⟩ := oB H
    by_cases s : K = 1
    ·rw [if_pos s] at H
     obtain ⟨L, M⟩ := zt s
     clear s
     obtain ⟨N, E, H⟩ := oB H
     by_cases u : N = 1
     ·rw [if_pos u] at H
      obtain ⟨O, P⟩ := zt u
      clear u
      by_cases v : j = 0
      ·rw [if_pos v] at H
       obtain ⟨Q, R⟩ := zt v
       clear v
       by_cases y : p = 0
       ·rw [if_pos y] at H
        obtain ⟨S, T⟩ := zt y
        clear y
        obtain ⟨U, aj, H⟩ := oB H
        obtain rfl := Option.some.inj H
        go_wp2_with (first | ((with_reducible refine gate_callee (f := 14) rfl ?_); refine zgo (some 34) Try.func14 #[.int .i64 a] ?_; (with_reducible refine (grottolaw04_num.calls q.out).mono ?_); rintro e w' ⟨rfl, ⟨nd, rfl⟩⟩; refine ⟨_, rfl, ?_⟩) | (go_at_call 14; (with_reducible refine (grottolaw04_num.calls E.out).mono ?_); rintro e w' ⟨rfl, ⟨nd, rfl⟩⟩) | (go_at_call 15; (with_reducible refine (grottolaw04_live.calls J  U _ aj.out).mono ?_); rintro e aw ⟨rfl, hb⟩; replace HB := zbs HB hb; clear hb))
        go_ret
        exact zr HB
       rw [if_neg y] at H
       obtain ⟨S, T⟩ := zf y
       obtain rfl := Option.some.inj H
       go_wp2_with (first | ((with_reducible refine gate_callee (f := 14) rfl ?_); refine zgo (some 34) Try.func14 #[.int .i64 a] ?_; (with_reducible refine (grottolaw04_num.calls q.out).mono ?_); rintro e w' ⟨rfl, ⟨nd, rfl⟩⟩; refine ⟨_, rfl, ?_⟩) | (go_at_call 14; (with_reducible refine (grottolaw04_num.calls E.out).mono ?_); rintro e w' ⟨rfl, ⟨nd, rfl⟩⟩))
       go_ret
       exact zr HB
      rw [if_neg v] at H
      obtain ⟨Q, R⟩ := zf v
      obtain rfl := Option.some.inj H
      go_wp2_with (first | ((with_reducible refine gate_callee (f := 14) rfl ?_); refine zgo (some 34) Try.func14 #[.int .i64 a] ?_; (with_reducible refine (grottolaw04_num.calls q.out).mono ?_); rintro e w' ⟨rfl, ⟨nd, rfl⟩⟩; refine ⟨_, rfl, ?_⟩) | (go_at_call 14; (with_reducible refine (grottolaw04_num.calls E.out).mono ?_); rintro e w' ⟨rfl, ⟨nd, rfl⟩⟩))
      go_ret
      exact zr HB
     rw [if_neg u] at H
     obtain ⟨O, P⟩ := zf u
     obtain rfl := Option.some.inj H
     go_wp2_with (first | ((with_reducible refine gate_callee (f := 14) rfl ?_); refine zgo (some 34) Try.func14 #[.int .i64 a] ?_; (with_reducible refine (grottolaw04_num.calls q.out).mono ?_); rintro e w' ⟨rfl, ⟨nd, rfl⟩⟩; refine ⟨_, rfl, ?_⟩) | (go_at_call 14; (with_reducible refine (grottolaw04_num.calls E.out).mono ?_); rintro e w' ⟨rfl, ⟨nd, rfl⟩⟩))
     go_ret
     exact zr HB
    rw [if_neg s] at H
    obtain ⟨L, M⟩ := zf s
    obtain rfl := Option.some.inj H
    go_wp2_with (first | ((with_reducible refine gate_callee (f := 14) rfl ?_); refine zgo (some 34) Try.func14 #[.int .i64 a] ?_; (with_reducible refine (grottolaw04_num.calls q.out).mono ?_); rintro e w' ⟨rfl, ⟨nd, rfl⟩⟩; refine ⟨_, rfl, ?_⟩))
    go_ret
    exact zr HB
   replace D := Bool.eq_false_iff.mpr D
   subst D
   rw [if_neg nft] at H
   obtain ⟨V, F, H⟩ := oB H
   obtain ⟨W, G, H⟩ := oB H
   by_cases z : (wrap64 (V + W)) = 0
   ·rw [if_pos z] at H
    obtain ⟨X, Y⟩ := zt z
    clear z
    by_cases B : l = 6
    ·rw [if_pos B] at H
     obtain ⟨Z, aa⟩ := zt B
     clear B
     obtain ⟨ab, ak, H⟩ := oB H
     obtain rfl := Option.some.inj H
     go_wp2_with (first | ((with_reducible refine gate_callee (f := 14) rfl ?_); refine zgo (some 53) Try.func14 #[.int .i64 a] ?_; (with_reducible refine (grottolaw04_num.calls F.out).mono ?_); rintro e w' ⟨rfl, ⟨nd, rfl⟩⟩; refine ⟨_, rfl, ?_⟩) | ((with_reducible refine gate_callee (f := 14) rfl ?_); refine zgo (some 55) Try.func14 #[.int .i64 d] ?_; (with_reducible refine (grottolaw04_num.calls G.out).mono ?_); rintro e w' ⟨rfl, ⟨nd, rfl⟩⟩; refine ⟨_, rfl, ?_⟩) | (go_at_call 15; (with_reducible refine (grottolaw04_live.calls J  ab _ ak.out).mono ?_); rintro e ax ⟨rfl, hb⟩; replace HB := zbs HB hb; clear hb))
     go_ret
     exact zr HB
    rw [if_neg B] at H
    obtain ⟨Z, aa⟩ := zf B
    obtain ⟨ac, ag, H⟩ := oB H
    by_cases C : j = ac
    ·rw [if_pos C] at H
     obtain ⟨ad, ae⟩ := zt C
     clear C
     obtain ⟨af, al, H⟩ := oB H
     obtain rfl := Option.some.inj H
     go_wp2_with (first | ((with_reducible refine gate_callee (f := 14) rfl ?_); refine zgo (some 53) Try.func14 #[.int .i64 a] ?_; (with_reducible refine (grottolaw04_num.calls F.out).mono ?_); rintro e w' ⟨rfl, ⟨nd, rfl⟩⟩; refine ⟨_, rfl, ?_⟩) | ((with_reducible refine gate_callee (f := 14) rfl ?_); refine zgo (some 55) Try.func14 #[.int .i64 d] ?_; (with_reducible refine (grottolaw04_num.calls G.out).mono ?_); rintro e w' ⟨rfl, ⟨nd, rfl⟩⟩; refine ⟨_, rfl, ?_⟩) | (go_at_call 26; (with_reducible refine (reals_Narrow.calls ag.out).mono ?_); rintro e ay ⟨rfl, hb⟩; replace HB := zbs HB hb; clear hb) | (go_at_call 15; (with_reducible refine (grottolaw04_live.calls J  af _ al.out).mono ?_); rintro e az ⟨rfl, hb⟩; replace HB := zbs HB hb; clear hb))
     go_ret
     exact zr HB
    rw [if_neg C] at H
    obtain ⟨ad, ae⟩ := zf C
    obtain rfl := Option.some.inj H
    go_wp2_with (first | ((with_reducible refine gate_callee (f := 14) rfl ?_); refine zgo (some 53) Try.func14 #[.int .i64 a] ?_; (with_reducible refine (grottolaw04_num.calls F.out).mono ?_); rintro e w' ⟨rfl, ⟨nd, rfl⟩⟩; refine ⟨_, rfl, ?_⟩) | ((with_reducible refine gate_callee (f := 14) rfl ?_); refine zgo (some 55) Try.func14 #[.int .i64 d] ?_; (with_reducible refine (grottolaw04_num.calls G.out).mono ?_); rintro e w' ⟨rfl, ⟨nd, rfl⟩⟩; refine ⟨_, rfl, ?_⟩) | (go_at_call 26; (with_reducible refine (reals_Narrow.calls ag.out).mono ?_); rintro e aA ⟨rfl, hb⟩; replace HB := zbs HB hb; clear hb))
    go_ret
    exact zr HB
   rw [if_neg z] at H
   obtain ⟨X, Y⟩ := zf z
   obtain rfl := Option.some.inj H
   go_wp2_with (first | ((with_reducible refine gate_callee (f := 14) rfl ?_); refine zgo (some 53) Try.func14 #[.int .i64 a] ?_; (with_reducible refine (grottolaw04_num.calls F.out).mono ?_); rintro e w' ⟨rfl, ⟨nd, rfl⟩⟩; refine ⟨_, rfl, ?_⟩) | ((with_reducible refine gate_callee (f := 14) rfl ?_); refine zgo (some 55) Try.func14 #[.int .i64 d] ?_; (with_reducible refine (grottolaw04_num.calls G.out).mono ?_); rintro e w' ⟨rfl, ⟨nd, rfl⟩⟩; refine ⟨_, rfl, ?_⟩))
   go_ret
   exact zr HB


end Go.Proofs.Ythkifpdachjlgaa.PQ
