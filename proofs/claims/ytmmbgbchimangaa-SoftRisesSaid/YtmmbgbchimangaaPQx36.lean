-- by a program of this claim
import Derived.Test.YtmmbgbchimangaaPQx0
import Derived.Test.YtmmbgbchimangaaPQx3
import Derived.Test.YtmmbgbchimangaaPQx4
import Derived.Test.YtmmbgbchimangaaPQx7
import Derived.Test.YtmmbgbchimangaaPQx8
import Derived.Test.YtmmbgbchimangaaPQx17
import Derived.Test.YtmmbgbchimangaaPQx34
namespace Go.Proofs.Ytmmbgbchimangaa.PQ
open Go.RowKit Go.Proofs.YtmmbgbchimangaaW.PrintWords Go.Proofs.YtmmbgbchimangaaW.PrintLast Go.Proofs.YtmmbgbchimangaaW.PrintMore Go.Proofs.Ytmmbgbchimangaa.Z
attribute [local go_sem] max2_int min2_int max_two min_two max_three min_three max_four min_four   -- for this text's walks alone
set_option linter.unusedVariables false
set_option linter.unusedSimpArgs false

/-! ### grottolaw03_SoftRises: function 11 -/
mutual
def grottolaw03_SoftRises.j0 : Nat → Int → Int → Int → Int → Int → Bool → Bool → Bool → Int → Int → Option (Bool)
 | 0, _, _, _, _, _, _, _, _, _, _ => none
 | k + 1, x9, x10, x11, x12, x13, x14, x17, x57, x1029000, x1029001 => if x57 = true then ((grottolaw03_num.f x10).bind fun t1039 => (if t1039 = 1 then ((grottolaw03_live.f k).bind fun t1040 => (some t1040)) else ((grottolaw03_num.f x12).bind fun t1041 => (if t1041 = 1 then ((grottolaw03_live.f k).bind fun t1042 => (some t1042)) else (some false))))) else ((grottolaw03_num.f x10).bind fun t1043 => ((grottolaw03_num.f x12).bind fun t1044 => (if (wrap64 (t1043 + t1044)) = 0 then (if x14 = true then (grottolaw03_SoftRises.j1 k x9 x11 x13 (!x17) x1029000 x1029001) else (grottolaw03_SoftRises.j1 k x9 x11 x13 true x1029000 x1029001)) else (some false))))
def grottolaw03_SoftRises.j1 : Nat → Int → Int → Int → Bool → Int → Int → Option (Bool)
 | 0, _, _, _, _, _, _ => none
 | k + 1, x9, x11, x13, x80, x1029000, x1029001 => if x80 = true then ((grottoref02_NaN.f k x1029000 x1029001).bind fun t1045 => (if x9 = t1045 then ((grottolaw03_live.f k).bind fun t1046 => (some t1046)) else ((grottoref02_NaN.f k x1029000 x1029001).bind fun t1047 => (if x11 = t1047 then ((grottolaw03_live.f k).bind fun t1048 => (some t1048)) else (some false))))) else ((soft_Cmp.f k x1029000 x1029001 x9 x11).bind fun bt1049 => (if bt1049.2.1 = true then (if x13 = 0 then (if bt1049.1 = 0 then ((grottolaw03_live.f k).bind fun t1052 => (some t1052)) else (if x13 < 0 then (if bt1049.1 ≤ 0 then ((grottolaw03_live.f k).bind fun t1053 => (some t1053)) else (if x13 > 0 then (if bt1049.1 ≥ 0 then ((grottolaw03_live.f k).bind fun t1054 => (some t1054)) else (some false)) else (some false))) else (if x13 > 0 then (if bt1049.1 ≥ 0 then ((grottolaw03_live.f k).bind fun t1055 => (some t1055)) else (some false)) else (some false)))) else (if x13 < 0 then (if bt1049.1 ≤ 0 then ((grottolaw03_live.f k).bind fun t1056 => (some t1056)) else (if x13 > 0 then (if bt1049.1 ≥ 0 then ((grottolaw03_live.f k).bind fun t1057 => (some t1057)) else (some false)) else (some false))) else (if x13 > 0 then (if bt1049.1 ≥ 0 then ((grottolaw03_live.f k).bind fun t1058 => (some t1058)) else (some false)) else (some false)))) else ((grottolaw03_live.f k).bind fun t1059 => (some t1059))))
end
def grottolaw03_SoftRises.f (k : Nat) (a0_0 : Int) (a0_1 : Int) (a1 : Int) (a2 : Int) (a3 : Int) : Option (Bool) := (soft_Add.f k a0_0 a0_1 a1 a3).bind fun bt1029 => ((soft_Add.f k a0_0 a0_1 a2 a3).bind fun bt1031 => ((grottoref03_Cmp.f k a0_0 a0_1 a1 a2).bind fun bt1033 => ((grottoref03_Cmp.f k a0_0 a0_1 a3 a3).bind fun bt1036 => (if bt1033.2.2 = 0 then (grottolaw03_SoftRises.j0 k bt1029.1 bt1029.2 bt1031.1 bt1031.2 bt1033.1 bt1033.2.1 bt1036.2.1 (bt1036.2.2 != 0) a0_0 a0_1) else (grottolaw03_SoftRises.j0 k bt1029.1 bt1029.2 bt1031.1 bt1031.2 bt1033.1 bt1033.2.1 bt1036.2.1 true a0_0 a0_1)))))
theorem grottolaw03_SoftRises.mono_l : ∀ k, (∀ y0 y1 y2 y3 y4 y5 y6 y7 y8 y9, LeO (grottolaw03_SoftRises.j0 k y0 y1 y2 y3 y4 y5 y6 y7 y8 y9) (grottolaw03_SoftRises.j0 (k + 1) y0 y1 y2 y3 y4 y5 y6 y7 y8 y9)) ∧ (∀ y0 y1 y2 y3 y4 y5, LeO (grottolaw03_SoftRises.j1 k y0 y1 y2 y3 y4 y5) (grottolaw03_SoftRises.j1 (k + 1) y0 y1 y2 y3 y4 y5))
 | 0 => ⟨fun _ _ _ _ _ _ _ _ _ _ r h => by simp [grottolaw03_SoftRises.j0] at h, fun _ _ _ _ _ _ r h => by simp [grottolaw03_SoftRises.j1] at h⟩
 | k + 1 => by
  obtain ⟨ih0, ih1⟩ := grottolaw03_SoftRises.mono_l k
  refine ⟨?_, ?_⟩
  ·intro y0 y1 y2 y3 y4 y5 y6 y7 y8 y9
   unfold grottolaw03_SoftRises.j0
   repeat' first
   | (with_reducible exact ih0 _ _ _ _ _ _ _ _ _ _)
   | (with_reducible exact ih1 _ _ _ _ _ _)
   | (with_reducible exact grottolaw03_live.mono _)
   | (with_reducible exact grottoref02_NaN.mono _ _ _)
   | (with_reducible exact grottoref03_Cmp.mono _ _ _ _ _)
   | (with_reducible exact soft_Add.mono _ _ _ _ _)
   | (with_reducible exact soft_Cmp.mono _ _ _ _ _)
   | (with_reducible exact LeO.refl _)
   | (with_reducible exact LeO.none _)
   | (with_reducible refine LeO.ite ?_ ?_)
   | (with_reducible refine LeO.bind ?_ (fun _ => ?_))
   | exact ih0 _ _ _ _ _ _ _ _ _ _
   | exact ih1 _ _ _ _ _ _
   | exact grottolaw03_live.mono _
   | exact grottoref02_NaN.mono _ _ _
   | exact grottoref03_Cmp.mono _ _ _ _ _
   | exact soft_Add.mono _ _ _ _ _
   | exact soft_Cmp.mono _ _ _ _ _
   | exact LeO.none _
   | refine LeO.ite ?_ ?_
   | refine LeO.bind ?_ (fun _ => ?_)
  ·intro y0 y1 y2 y3 y4 y5
   unfold grottolaw03_SoftRises.j1
   repeat' first
   | (with_reducible exact ih0 _ _ _ _ _ _ _ _ _ _)
   | (with_reducible exact ih1 _ _ _ _ _ _)
   | (with_reducible exact grottolaw03_live.mono _)
   | (with_reducible exact grottoref02_NaN.mono _ _ _)
   | (with_reducible exact grottoref03_Cmp.mono _ _ _ _ _)
   | (with_reducible exact soft_Add.mono _ _ _ _ _)
   | (with_reducible exact soft_Cmp.mono _ _ _ _ _)
   | (with_reducible exact LeO.refl _)
   | (with_reducible exact LeO.none _)
   | (with_reducible refine LeO.ite ?_ ?_)
   | (with_reducible refine LeO.bind ?_ (fun _ => ?_))
   | exact ih0 _ _ _ _ _ _ _ _ _ _
   | exact ih1 _ _ _ _ _ _
   | exact grottolaw03_live.mono _
   | exact grottoref02_NaN.mono _ _ _
   | exact grottoref03_Cmp.mono _ _ _ _ _
   | exact soft_Add.mono _ _ _ _ _
   | exact soft_Cmp.mono _ _ _ _ _
   | exact LeO.none _
   | refine LeO.ite ?_ ?_
   | refine LeO.bind ?_ (fun _ => ?_)
theorem grottolaw03_SoftRises.mono : ∀ a0 a1 a2 a3 a4 k, LeO (grottolaw03_SoftRises.f k a0 a1 a2 a3 a4) (grottolaw03_SoftRises.f (k + 1) a0 a1 a2 a3 a4) := by
 intro a0 a1 a2 a3 a4 k
 obtain ⟨ih0, ih1⟩ := grottolaw03_SoftRises.mono_l k
 unfold grottolaw03_SoftRises.f
 repeat' first
   | (with_reducible exact ih0 _ _ _ _ _ _ _ _ _ _)
   | (with_reducible exact ih1 _ _ _ _ _ _)
   | (with_reducible exact grottolaw03_live.mono _)
   | (with_reducible exact grottoref02_NaN.mono _ _ _)
   | (with_reducible exact grottoref03_Cmp.mono _ _ _ _ _)
   | (with_reducible exact soft_Add.mono _ _ _ _ _)
   | (with_reducible exact soft_Cmp.mono _ _ _ _ _)
   | (with_reducible exact LeO.refl _)
   | (with_reducible exact LeO.none _)
   | (with_reducible refine LeO.ite ?_ ?_)
   | (with_reducible refine LeO.bind ?_ (fun _ => ?_))
   | exact ih0 _ _ _ _ _ _ _ _ _ _
   | exact ih1 _ _ _ _ _ _
   | exact grottolaw03_live.mono _
   | exact grottoref02_NaN.mono _ _ _
   | exact grottoref03_Cmp.mono _ _ _ _ _
   | exact soft_Add.mono _ _ _ _ _
   | exact soft_Cmp.mono _ _ _ _ _
   | exact LeO.none _
   | refine LeO.ite ?_ ?_
   | refine LeO.bind ?_ (fun _ => ?_)
set_option maxHeartbeats 8000000 in
set_option maxRecDepth 100000 in
theorem grottolaw03_SoftRises.calls {k : Nat} {d : Int} {g : Int} {a1 : Int} {a2 : Int} {a3 : Int} {r : Bool} {w : World} (h : grottolaw03_SoftRises.f k d g a1 a2 a3 = some r) :
  Calls Try.prog 11 #[.agg #[.int .i64 d, .int .i64 g], .int .u64 a1, .int .u64 a2, .int .u64 a3] w fun e w' => e = .returned (.bool r) ∧ Below w.heap.size w w' := by
 have hu23 := Try.underlying23
 have HB := Aside0.mk (Below.refl w.heap.size w)
 have H : ((soft_Add.f k d g a1 a3).bind fun o => ((soft_Add.f k d g a2 a3).bind fun p => ((grottoref03_Cmp.f k d g a1 a2).bind fun l => ((grottoref03_Cmp.f k d g a3 a3).bind fun v => (if l.2.2 = 0 then (grottolaw03_SoftRises.j0 k o.1 o.2 p.1 p.2 l.1 l.2.1 v.2.1 (v.2.2 != 0) d g) else (grottolaw03_SoftRises.j0 k o.1 o.2 p.1 p.2 l.1 l.2.1 v.2.1 true d g)))))) = some r := h
 clear h
 obtain ⟨⟨S, m⟩, A5, H⟩ := oB H
 try dsimp only at H
 obtain ⟨⟨T, U⟩, A6, H⟩ := oB H
 try dsimp only at H
 obtain ⟨⟨b, ah, aC⟩, A7, H⟩ := oB H
 try dsimp only at H
 obtain ⟨⟨c0, ai, aD⟩, A8, H⟩ := oB H
 try dsimp only at H
 have aE := Aside0.mk H
 clear H
 go_enter Try.func11, Try.ntmps11
 go_upto_region 5 with (first | ((with_reducible refine gate_dst (N := 4) rfl ?_); refine zbox (N := 4) (cs := #[.int .i64 d, .int .i64 g]) (t := 23) ?_; intro V hg ds hbox hb; have a := Aside0.mk hbox; have cY := zge hg HB; have cZ := zge hg HB; replace HB := zbs HB hb; clear hb hbox hg; obtain ⟨z, B, C, D⟩ := zc2 a) | ((with_reducible refine gate_callee (f := 24) rfl ?_); refine zgc (some 26) Try.func24 (soft_Add.calls A5.out) ?_; intro dt hb; obtain ⟨a, HB⟩ := zu1 a HB hb; clear hb; obtain ⟨E, F, G, I⟩ := zc2 a) | ((with_reducible refine gate_callee (f := 24) rfl ?_); refine zgc (some 33) Try.func24 (soft_Add.calls A6.out) ?_; intro du hb; obtain ⟨a, HB⟩ := zu1 a HB hb; clear hb; obtain ⟨J, K, L, M⟩ := zc2 a) | ((with_reducible refine gate_callee (f := 23) rfl ?_); refine zgc (some 40) Try.func23 (grottoref03_Cmp.calls A7.out) ?_; intro dv hb; obtain ⟨a, HB⟩ := zu1 a HB hb; clear hb; obtain ⟨O, P, Q, R⟩ := zc2 a) | ((with_reducible refine gate_callee (f := 23) rfl ?_); refine zgc (some 48) Try.func23 (grottoref03_Cmp.calls A8.out) ?_; intro dw hb; obtain ⟨a, HB⟩ := zu1 a HB hb; clear hb))
 (try simp only [Act.put, List.setIfInBounds_toArray, List.set_cons_zero, List.set_cons_succ])
 go_cut [57] (fun v57 wc => ∃ (kq : Nat) (y : Bool), v57 = .bool y ∧ Aside0 (grottolaw03_SoftRises.j0 kq S m T U b ah ai y d g = some r) ∧ Aside0 (kq ≤ k) ∧ Aside0 (wc.heap[V]? = some (.cells #[.int .i64 d, .int .i64 g] 23 (0, 0))) ∧ Aside0 (Below w.heap.size w wc))
 case first =>
  have H := aE.out
  clear aE
  by_cases W : aC = 0
  ·rw [if_pos W] at H
   obtain ⟨n, aj⟩ := zt W
   clear W
   (first | rw [n] | (simp only [i64_w, i32_w]; rw [n]) | skip)
   have H' := Aside0.mk H
   clear H
   go_wp2
   go_meet
   case rel => exact ⟨_, ((aD != 0)), (by first | rfl | (simp [*]; done)), H', ⟨by omega⟩, ⟨zk a⟩, ⟨zb HB⟩⟩
  ·rw [if_neg W] at H
   obtain ⟨n, aj⟩ := zf W
   (first | rw [n] | (simp only [i64_w, i32_w]; rw [n]) | skip)
   have H' := Aside0.mk H
   clear H
   go_wp2
   go_meet
   case rel => exact ⟨_, (true), (by first | rfl | (simp [*]; done)), H', ⟨by omega⟩, ⟨zk a⟩, ⟨zb HB⟩⟩
 case rest =>
  clear aE
  try clear z B E F J K O P C D G I L M Q R
  obtain ⟨kq, y, rfl, HA, bM, a, HB⟩ := hcut
  cases kq with
  | zero => exact absurd HA.out (by simp [grottolaw03_SoftRises.j0])
  | succ aF =>
   have H := HA.out
   clear HA
   simp only [grottolaw03_SoftRises.j0] at H
   by_cases ak : y = true
   ·subst ak
    rw [if_pos rfl] at H
    obtain ⟨aG, aH, H⟩ := oB H
    by_cases al : aG = 1
    ·rw [if_pos al] at H
     obtain ⟨aI, aJ⟩ := zt al
     clear al
     obtain ⟨aK, c3, H⟩ := oB H
     obtain rfl := Option.some.inj H
     go_wp2_with (first | ((with_reducible refine gate_callee (f := 18) rfl ?_); refine zgo (some 59) Try.func18 #[.int .i64 m] ?_; (with_reducible refine (grottolaw03_num.calls aH.out).mono ?_); rintro e w' ⟨rfl, ⟨nd, rfl⟩⟩; refine ⟨_, rfl, ?_⟩) | (go_at_call 19; (with_reducible refine (grottolaw03_live.calls aF  aK _ c3.out).mono ?_); rintro e dx ⟨rfl, hb⟩; obtain ⟨a, HB⟩ := zu1 a HB hb; clear hb))
     go_ret
     exact zr HB
    ·rw [if_neg al] at H
     obtain ⟨aI, aJ⟩ := zf al
     obtain ⟨aL, bN, H⟩ := oB H
     by_cases am : aL = 1
     ·rw [if_pos am] at H
      obtain ⟨aM, aN⟩ := zt am
      clear am
      obtain ⟨aO, c4, H⟩ := oB H
      obtain rfl := Option.some.inj H
      go_wp2_with (first | ((with_reducible refine gate_callee (f := 18) rfl ?_); refine zgo (some 59) Try.func18 #[.int .i64 m] ?_; (with_reducible refine (grottolaw03_num.calls aH.out).mono ?_); rintro e w' ⟨rfl, ⟨nd, rfl⟩⟩; refine ⟨_, rfl, ?_⟩) | (go_at_call 18; (with_reducible refine (grottolaw03_num.calls bN.out).mono ?_); rintro e w' ⟨rfl, ⟨nd, rfl⟩⟩) | (go_at_call 19; (with_reducible refine (grottolaw03_live.calls aF  aO _ c4.out).mono ?_); rintro e dy ⟨rfl, hb⟩; obtain ⟨a, HB⟩ := zu1 a HB hb; clear hb))
      go_ret
      exact zr HB
     ·rw [if_neg am] at H
      obtain ⟨aM, aN⟩ := zf am
      obtain rfl := Option.some.inj H
      go_wp2_with (first | ((with_reducible refine gate_callee (f := 18) rfl ?_); refine zgo (some 59) Try.func18 #[.int .i64 m] ?_; (with_reducible refine (grottolaw03_num.calls aH.out).mono ?_); rintro e w' ⟨rfl, ⟨nd, rfl⟩⟩; refine ⟨_, rfl, ?_⟩) | (go_at_call 18; (with_reducible refine (grottolaw03_num.calls bN.out).mono ?_); rintro e w' ⟨rfl, ⟨nd, rfl⟩⟩))
      go_ret
      exact zr HB
   ·replace ak := Bool.eq_false_iff.mpr ak
    subst ak
    rw [if_neg nft] at H
    obtain ⟨aP, bO, H⟩ := oB H
    obtain ⟨aQ, bP, H⟩ := oB H
    by_cases an : (wrap64 (aP + aQ)) = 0
    ·rw [if_pos an] at H
     obtain ⟨ao, ap⟩ := zt an
     clear an
     have aq := Aside0.mk H
     clear H
     go_upto_region 9 with (first | ((with_reducible refine gate_callee (f := 18) rfl ?_); refine zgo (some 70) Try.func18 #[.int .i64 m] ?_; (with_reducible refine (grottolaw03_num.calls bO.out).mono ?_); rintro e w' ⟨rfl, ⟨nd, rfl⟩⟩; refine ⟨_, rfl, ?_⟩) | ((with_reducible refine gate_callee (f := 18) rfl ?_); refine zgo (some 72) Try.func18 #[.int .i64 U] ?_; (with_reducible refine (grottolaw03_num.calls bP.out).mono ?_); rintro e w' ⟨rfl, ⟨nd, rfl⟩⟩; refine ⟨_, rfl, ?_⟩))
     (try simp only [Act.put, List.setIfInBounds_toArray, List.set_cons_zero, List.set_cons_succ])
     go_cut [80] (fun v80 wc => ∃ (kq : Nat) (q : Bool), v80 = .bool q ∧ Aside0 (grottolaw03_SoftRises.j1 kq S T b q d g = some r) ∧ Aside0 (kq ≤ aF) ∧ Aside0 (wc.heap[V]? = some (.cells #[.int .i64 d, .int .i64 g] 23 (0, 0))) ∧ Aside0 (Below w.heap.size w wc))
     case first =>
      have H := aq.out
      clear aq
      by_cases ax : ah = true
      ·subst ax
       rw [if_pos rfl] at H
       have H' := Aside0.mk H
       clear H
       go_wp2
       go_meet
       case rel => exact ⟨_, (!ai), (by first | rfl | (simp [*]; done)), H', ⟨by have := bM.out; first | omega | exact Nat.le_refl _⟩, ⟨zk a⟩, ⟨zb HB⟩⟩
      ·replace ax := Bool.eq_false_iff.mpr ax
       subst ax
       rw [if_neg nft] at H
       have H' := Aside0.mk H
       clear H
       go_wp2
       go_meet
       case rel => exact ⟨_, (true), (by first | rfl | (simp [*]; done)), H', ⟨by have := bM.out; first | omega | exact Nat.le_refl _⟩, ⟨zk a⟩, ⟨zb HB⟩⟩
     case rest =>
      clear aq
      try clear c1 c2 p2 dA W n aj ak ao ap z B E F J K O P C D G I L M Q R p2
      obtain ⟨kq, q, rfl, HA, de, a, HB⟩ := hcut
      cases kq with
      | zero => exact absurd HA.out (by simp [grottolaw03_SoftRises.j1])
      | succ j =>
       have H := HA.out
       clear HA
       simp only [grottolaw03_SoftRises.j1] at H
       by_cases ay : q = true
       ·subst ay
        rw [if_pos rfl] at H
        obtain ⟨aR, aS, H⟩ := oB H
        by_cases ar : S = aR
        ·rw [if_pos ar] at H
         obtain ⟨aT, aU⟩ := zt ar
         clear ar
         obtain ⟨aV, c5, H⟩ := oB H
         obtain rfl := Option.some.inj H
         obtain ⟨bQ, bR, bS, bT⟩ := zc2 a
         go_wp2_with (first | ((with_reducible refine gate_callee (f := 21) rfl ?_); refine zgc (some 83) Try.func21 (grottoref02_NaN.calls aS.out) ?_; intro dB hb; obtain ⟨a, HB⟩ := zu1 a HB hb; clear hb) | (go_at_call 19; (with_reducible refine (grottolaw03_live.calls j  aV _ c5.out).mono ?_); rintro e dC ⟨rfl, hb⟩; obtain ⟨a, HB⟩ := zu1 a HB hb; clear hb))
         go_ret
         exact zr HB
        ·rw [if_neg ar] at H
         obtain ⟨aT, aU⟩ := zf ar
         obtain ⟨aW, bU, H⟩ := oB H
         by_cases au : T = aW
         ·rw [if_pos au] at H
          obtain ⟨aX, aY⟩ := zt au
          clear au
          obtain ⟨aZ, c6, H⟩ := oB H
          obtain rfl := Option.some.inj H
          obtain ⟨bV, bW, bX, bY⟩ := zc2 a
          go_wp2_with (first | ((with_reducible refine gate_callee (f := 21) rfl ?_); refine zgc (some 83) Try.func21 (grottoref02_NaN.calls aS.out) ?_; intro dD hb; obtain ⟨a, HB⟩ := zu1 a HB hb; clear hb; obtain ⟨bZ, b0, b1, b2⟩ := zc2 a) | (go_at_call 21; (with_reducible refine (grottoref02_NaN.calls bU.out).mono ?_); rintro e dE ⟨rfl, hb⟩; obtain ⟨a, HB⟩ := zu1 a HB hb; clear hb) | (go_at_call 19; (with_reducible refine (grottolaw03_live.calls j  aZ _ c6.out).mono ?_); rintro e dF ⟨rfl, hb⟩; obtain ⟨a, HB⟩ := zu1 a HB hb; clear hb))
          go_ret
          exact zr HB
         ·rw [if_neg au] at H
          obtain ⟨aX, aY⟩ := zf au
          obtain rfl := Option.some.inj H
          obtain ⟨b3, b4, b5, b6⟩ := zc2 a
          go_wp2_with (first | ((with_reducible refine gate_callee (f := 21) rfl ?_); refine zgc (some 83) Try.func21 (grottoref02_NaN.calls aS.out) ?_; intro dG hb; obtain ⟨a, HB⟩ := zu1 a HB hb; clear hb; obtain ⟨b7, b8, b9, ca⟩ := zc2 a) | (go_at_call 21; (with_reducible refine (grottoref02_NaN.calls bU.out).mono ?_); rintro e dH ⟨rfl, hb⟩; obtain ⟨a, HB⟩ := zu1 a HB hb; clear hb))
          go_ret
          exact zr HB
       ·replace ay := Bool.eq_false_iff.mpr ay
        subst ay
        rw [if_neg nft] at H
        obtain ⟨⟨c, a0, c7⟩, i, H⟩ := oB H
        try dsimp only at H
        by_cases az : a0 = true
        ·subst az
         rw [if_pos rfl] at H
         by_cases av : b = 0
         ·rw [if_pos av] at H
          obtain ⟨a4, a5⟩ := zt av
          clear av
          by_cases aw : c = 0
          ·rw [if_pos aw] at H
           obtain ⟨a6, a7⟩ := zt aw
           clear aw
           obtain ⟨a8, c8, H⟩ := oB H
           obtain rfl := Option.some.inj H
           obtain ⟨cb, cc, cd, ce⟩ := zc2 a
           go_wp2_with (first | ((with_reducible refine gate_callee (f := 37) rfl ?_); refine zgc (some 98) Try.func37 (soft_Cmp.calls i.out) ?_; intro dI hb; obtain ⟨a, HB⟩ := zu1 a HB hb; clear hb) | (go_at_call 19; (with_reducible refine (grottolaw03_live.calls j  a8 _ c8.out).mono ?_); rintro e dJ ⟨rfl, hb⟩; obtain ⟨a, HB⟩ := zu1 a HB hb; clear hb))
           go_ret
           exact zr HB
          ·rw [if_neg aw] at H
           obtain ⟨a6, a7⟩ := zf aw
           by_cases X : b < 0
           ·rw [if_pos X] at H
            have a9 : decide (b < 0) = true := decide_eq_true X
            clear X
            by_cases Y : c ≤ 0
            ·rw [if_pos Y] at H
             have ba : decide (c ≤ 0) = true := decide_eq_true Y
             clear Y
             obtain ⟨bb, c9, H⟩ := oB H
             obtain rfl := Option.some.inj H
             obtain ⟨cf, cg, ch, ci⟩ := zc2 a
             go_wp2_with (first | ((with_reducible refine gate_callee (f := 37) rfl ?_); refine zgc (some 98) Try.func37 (soft_Cmp.calls i.out) ?_; intro dK hb; obtain ⟨a, HB⟩ := zu1 a HB hb; clear hb) | (go_at_call 19; (with_reducible refine (grottolaw03_live.calls j  bb _ c9.out).mono ?_); rintro e dL ⟨rfl, hb⟩; obtain ⟨a, HB⟩ := zu1 a HB hb; clear hb))
             go_ret
             exact zr HB
            ·rw [if_neg Y] at H
             have ba : decide (c ≤ 0) = false := decide_eq_false Y
             clear Y
             by_cases Z : b > 0
             ·rw [if_pos Z] at H
              have bc : decide (0 < b) = true := decide_eq_true Z
              clear Z
              by_cases aa : c ≥ 0
              ·rw [if_pos aa] at H
               have bd : decide (0 ≤ c) = true := decide_eq_true aa
               clear aa
               obtain ⟨be, da, H⟩ := oB H
               obtain rfl := Option.some.inj H
               obtain ⟨cj, ck, cl, cm⟩ := zc2 a
               go_wp2_with (first | ((with_reducible refine gate_callee (f := 37) rfl ?_); refine zgc (some 98) Try.func37 (soft_Cmp.calls i.out) ?_; intro dM hb; obtain ⟨a, HB⟩ := zu1 a HB hb; clear hb) | (go_at_call 19; (with_reducible refine (grottolaw03_live.calls j  be _ da.out).mono ?_); rintro e dN ⟨rfl, hb⟩; obtain ⟨a, HB⟩ := zu1 a HB hb; clear hb))
               go_ret
               exact zr HB
              ·rw [if_neg aa] at H
               have bd : decide (0 ≤ c) = false := decide_eq_false aa
               clear aa
               obtain rfl := Option.some.inj H
               obtain ⟨cn, co, cp, cq⟩ := zc2 a
               go_wp2_with (first | ((with_reducible refine gate_callee (f := 37) rfl ?_); refine zgc (some 98) Try.func37 (soft_Cmp.calls i.out) ?_; intro dO hb; obtain ⟨a, HB⟩ := zu1 a HB hb; clear hb))
               go_ret
               exact zr HB
             ·rw [if_neg Z] at H
              have bc : decide (0 < b) = false := decide_eq_false Z
              clear Z
              obtain rfl := Option.some.inj H
              obtain ⟨cr, ct, cu, cv⟩ := zc2 a
              go_wp2_with (first | ((with_reducible refine gate_callee (f := 37) rfl ?_); refine zgc (some 98) Try.func37 (soft_Cmp.calls i.out) ?_; intro dP hb; obtain ⟨a, HB⟩ := zu1 a HB hb; clear hb))
              go_ret
              exact zr HB
           ·rw [if_neg X] at H
            have a9 : decide (b < 0) = false := decide_eq_false X
            clear X
            by_cases ab : b > 0
            ·rw [if_pos ab] at H
             have bf : decide (0 < b) = true := decide_eq_true ab
             clear ab
             by_cases ac : c ≥ 0
             ·rw [if_pos ac] at H
              have bg : decide (0 ≤ c) = true := decide_eq_true ac
              clear ac
              obtain ⟨bh, db, H⟩ := oB H
              obtain rfl := Option.some.inj H
              obtain ⟨cw, cx, cy, cz⟩ := zc2 a
              go_wp2_with (first | ((with_reducible refine gate_callee (f := 37) rfl ?_); refine zgc (some 98) Try.func37 (soft_Cmp.calls i.out) ?_; intro dQ hb; obtain ⟨a, HB⟩ := zu1 a HB hb; clear hb) | (go_at_call 19; (with_reducible refine (grottolaw03_live.calls j  bh _ db.out).mono ?_); rintro e dR ⟨rfl, hb⟩; obtain ⟨a, HB⟩ := zu1 a HB hb; clear hb))
              go_ret
              exact zr HB
             ·rw [if_neg ac] at H
              have bg : decide (0 ≤ c) = false := decide_eq_false ac
              clear ac
              obtain rfl := Option.some.inj H
              obtain ⟨cA, cB, cC, cD⟩ := zc2 a
              go_wp2_with (first | ((with_reducible refine gate_callee (f := 37) rfl ?_); refine zgc (some 98) Try.func37 (soft_Cmp.calls i.out) ?_; intro dS hb; obtain ⟨a, HB⟩ := zu1 a HB hb; clear hb))
              go_ret
              exact zr HB
            ·rw [if_neg ab] at H
             have bf : decide (0 < b) = false := decide_eq_false ab
             clear ab
             obtain rfl := Option.some.inj H
             obtain ⟨cE, cF, cG, cH⟩ := zc2 a
             go_wp2_with (first | ((with_reducible refine gate_callee (f := 37) rfl ?_); refine zgc (some 98) Try.func37 (soft_Cmp.calls i.out) ?_; intro dT hb; obtain ⟨a, HB⟩ := zu1 a HB hb; clear hb))
             go_ret
             exact zr HB
         ·rw [if_neg av] at H
          obtain ⟨a4, a5⟩ := zf av
          by_cases ad : b < 0
          ·rw [if_pos ad] at H
           have bi : decide (b < 0) = true := decide_eq_true ad
           clear ad
           by_cases ae : c ≤ 0
           ·rw [if_pos ae] at H
            have bj : decide (c ≤ 0) = true := decide_eq_true ae
            clear ae
            obtain ⟨bk, dc, H⟩ := oB H
            obtain rfl := Option.some.inj H
            obtain ⟨cI, cJ, cK, cL⟩ := zc2 a
            go_wp2_with (first | ((with_reducible refine gate_callee (f := 37) rfl ?_); refine zgc (some 98) Try.func37 (soft_Cmp.calls i.out) ?_; intro dU hb; obtain ⟨a, HB⟩ := zu1 a HB hb; clear hb) | (go_at_call 19; (with_reducible refine (grottolaw03_live.calls j  bk _ dc.out).mono ?_); rintro e dV ⟨rfl, hb⟩; obtain ⟨a, HB⟩ := zu1 a HB hb; clear hb))
            go_ret
            exact zr HB
           ·rw [if_neg ae] at H
            have bj : decide (c ≤ 0) = false := decide_eq_false ae
            clear ae
            by_cases af : b > 0
            ·rw [if_pos af] at H
             have bl : decide (0 < b) = true := decide_eq_true af
             clear af
             by_cases ag : c ≥ 0
             ·rw [if_pos ag] at H
              have bm : decide (0 ≤ c) = true := decide_eq_true ag
              clear ag
              obtain ⟨bn, dd, H⟩ := oB H
              obtain rfl := Option.some.inj H
              obtain ⟨cM, cN, cO, cP⟩ := zc2 a
              go_wp2_with (first | ((with_reducible refine gate_callee (f := 37) rfl ?_); refine zgc (some 98) Try.func37 (soft_Cmp.calls i.out) ?_; intro dW hb; obtain ⟨a, HB⟩ := zu1 a HB hb; clear hb) | (go_at_call 19; (with_reducible refine (grottolaw03_live.calls j  bn _ dd.out).mono ?_); rintro e dX ⟨rfl, hb⟩; obtain ⟨a, HB⟩ := zu1 a HB hb; clear hb))
              go_ret
              exact zr HB
             ·rw [if_neg ag] at H
              have bm : decide (0 ≤ c) = false := decide_eq_false ag
              clear ag
              obtain rfl := Option.some.inj H
              obtain ⟨cQ, cR, cS, cT⟩ := zc2 a
              go_wp2_with (first | ((with_reducible refine gate_callee (f := 37) rfl ?_); refine zgc (some 98) Try.func37 (soft_Cmp.calls i.out) ?_; intro df hb; obtain ⟨a, HB⟩ := zu1 a HB hb; clear hb))
              go_ret
              exact zr HB
            ·rw [if_neg af] at H
             have bl : decide (0 < b) = false := decide_eq_false af
             clear af
             obtain rfl := Option.some.inj H
             obtain ⟨br, bs, bt, bu⟩ := zc2 a
             go_wp2_with (first | ((with_reducible refine gate_callee (f := 37) rfl ?_); refine zgc (some 98) Try.func37 (soft_Cmp.calls i.out) ?_; intro dg hb; obtain ⟨a, HB⟩ := zu1 a HB hb; clear hb))
             go_ret
             exact zr HB
          ·rw [if_neg ad] at H
           have bi : decide (b < 0) = false := decide_eq_false ad
           clear ad
           by_cases s : b > 0
           ·rw [if_pos s] at H
            have aA : decide (0 < b) = true := decide_eq_true s
            clear s
            by_cases u : c ≥ 0
            ·rw [if_pos u] at H
             have aB : decide (0 ≤ c) = true := decide_eq_true u
             clear u
             obtain ⟨bo, cU, H⟩ := oB H
             obtain rfl := Option.some.inj H
             obtain ⟨bv, bw, bx, bz⟩ := zc2 a
             go_wp2_with (first | ((with_reducible refine gate_callee (f := 37) rfl ?_); refine zgc (some 98) Try.func37 (soft_Cmp.calls i.out) ?_; intro dh hb; obtain ⟨a, HB⟩ := zu1 a HB hb; clear hb) | (go_at_call 19; (with_reducible refine (grottolaw03_live.calls j  bo _ cU.out).mono ?_); rintro e di ⟨rfl, hb⟩; obtain ⟨a, HB⟩ := zu1 a HB hb; clear hb))
             go_ret
             exact zr HB
            ·rw [if_neg u] at H
             have aB : decide (0 ≤ c) = false := decide_eq_false u
             clear u
             obtain rfl := Option.some.inj H
             obtain ⟨bA, bB, bC, bD⟩ := zc2 a
             go_wp2_with (first | ((with_reducible refine gate_callee (f := 37) rfl ?_); refine zgc (some 98) Try.func37 (soft_Cmp.calls i.out) ?_; intro dj hb; obtain ⟨a, HB⟩ := zu1 a HB hb; clear hb))
             go_ret
             exact zr HB
           ·rw [if_neg s] at H
            have aA : decide (0 < b) = false := decide_eq_false s
            clear s
            obtain rfl := Option.some.inj H
            obtain ⟨bE, bF, bG, bH⟩ := zc2 a
            go_wp2_with (first | ((with_reducible refine gate_callee (f := 37) rfl ?_); refine zgc (some 98) Try.func37 (soft_Cmp.calls i.out) ?_; intro dk hb; obtain ⟨a, HB⟩ := zu1 a HB hb; clear hb))
            go_ret
            exact zr HB
        ·replace az := Bool.eq_false_iff.mpr az
         subst az
         rw [if_neg nft] at H
         obtain ⟨bp, cV, H⟩ := oB H
         obtain rfl := Option.some.inj H
         obtain ⟨bI, bJ, bK, bL⟩ := zc2 a
         go_wp2_with (first | ((with_reducible refine gate_callee (f := 37) rfl ?_); refine zgc (some 98) Try.func37 (soft_Cmp.calls i.out) ?_; intro dl hb; obtain ⟨a, HB⟩ := zu1 a HB hb; clear hb) | (go_at_call 19; (with_reducible refine (grottolaw03_live.calls j  bp _ cV.out).mono ?_); rintro e dm ⟨rfl, hb⟩; obtain ⟨a, HB⟩ := zu1 a HB hb; clear hb))
         go_ret
         exact zr HB
    ·rw [if_neg an] at H
     obtain ⟨ao, ap⟩ := zf an
     obtain rfl := Option.some.inj H
     go_wp2_with (first | ((with_reducible refine gate_callee (f := 18) rfl ?_); refine zgo (some 70) Try.func18 #[.int .i64 m] ?_; (with_reducible refine (grottolaw03_num.calls bO.out).mono ?_); rintro e w' ⟨rfl, ⟨nd, rfl⟩⟩; refine ⟨_, rfl, ?_⟩) | ((with_reducible refine gate_callee (f := 18) rfl ?_); refine zgo (some 72) Try.func18 #[.int .i64 U] ?_; (with_reducible refine (grottolaw03_num.calls bP.out).mono ?_); rintro e w' ⟨rfl, ⟨nd, rfl⟩⟩; refine ⟨_, rfl, ?_⟩))
     go_ret
     exact zr HB

end Go.Proofs.Ytmmbgbchimangaa.PQ
