-- by a program of this claim
import Derived.Test.YtmmbgbchimangaaPQx0
import Derived.Test.YtmmbgbchimangaaPQx3
import Derived.Test.YtmmbgbchimangaaPQx7
import Derived.Test.YtmmbgbchimangaaPQx17
import Derived.Test.YtmmbgbchimangaaPQx34
namespace Go.Proofs.Ytmmbgbchimangaa.PQ
open Go.RowKit Go.Proofs.YtmmbgbchimangaaW.PrintWords Go.Proofs.YtmmbgbchimangaaW.PrintLast Go.Proofs.YtmmbgbchimangaaW.PrintMore Go.Proofs.Ytmmbgbchimangaa.Z
attribute [local go_sem] max2_int min2_int max_two min_two max_three min_three max_four min_four   -- for this text's walks alone
set_option linter.unusedVariables false
set_option linter.unusedSimpArgs false

/-! ### grottolaw03_SoftCompares: function 10 -/
def grottolaw03_SoftCompares.f (k : Nat) (a0_0 : Int) (a0_1 : Int) (a1 : Int) (a2 : Int) : Option (Bool) := (soft_Cmp.f k a0_0 a0_1 a1 a2).bind fun bt1020 => ((grottoref03_Cmp.f k a0_0 a0_1 a1 a2).bind fun bt1023 => (if bt1020.1 = bt1023.1 then (if (bt1020.2.1 == bt1023.2.1) = true then ((grottolaw03_num.f bt1020.2.2).bind fun t1026 => (if t1026 = bt1023.2.2 then ((grottolaw03_live.f k).bind fun t1027 => (some t1027)) else (some false))) else (some false)) else (some false)))
theorem grottolaw03_SoftCompares.mono : ∀ a0 a1 a2 a3 k, LeO (grottolaw03_SoftCompares.f k a0 a1 a2 a3) (grottolaw03_SoftCompares.f (k + 1) a0 a1 a2 a3) := by
 intro a0 a1 a2 a3 k
 unfold grottolaw03_SoftCompares.f
 repeat' first
   | (with_reducible exact grottolaw03_live.mono _)
   | (with_reducible exact grottoref03_Cmp.mono _ _ _ _ _)
   | (with_reducible exact soft_Cmp.mono _ _ _ _ _)
   | (with_reducible exact LeO.refl _)
   | (with_reducible exact LeO.none _)
   | (with_reducible refine LeO.ite ?_ ?_)
   | (with_reducible refine LeO.bind ?_ (fun _ => ?_))
   | exact grottolaw03_live.mono _
   | exact grottoref03_Cmp.mono _ _ _ _ _
   | exact soft_Cmp.mono _ _ _ _ _
   | exact LeO.none _
   | refine LeO.ite ?_ ?_
   | refine LeO.bind ?_ (fun _ => ?_)
set_option maxHeartbeats 8000000 in
set_option maxRecDepth 100000 in
theorem grottolaw03_SoftCompares.calls {k : Nat} {d : Int} {g : Int} {a1 : Int} {a2 : Int} {r : Bool} {w : World} (h : grottolaw03_SoftCompares.f k d g a1 a2 = some r) :
  Calls Try.prog 10 #[.agg #[.int .i64 d, .int .i64 g], .int .u64 a1, .int .u64 a2] w fun e w' => e = .returned (.bool r) ∧ Below w.heap.size w w' := by
 have hu23 := Try.underlying23
 have HB := Aside0.mk (Below.refl w.heap.size w)
 have H : ((soft_Cmp.f k d g a1 a2).bind fun i => ((grottoref03_Cmp.f k d g a1 a2).bind fun j => (if i.1 = j.1 then (if (i.2.1 == j.2.1) = true then ((grottolaw03_num.f i.2.2).bind fun o => (if o = j.2.2 then ((grottolaw03_live.f k).bind fun p => (some p)) else (some false))) else (some false)) else (some false)))) = some r := h
 clear h
 obtain ⟨⟨s, b, aw⟩, A4, H⟩ := oB H
 try dsimp only at H
 obtain ⟨⟨u, c, v⟩, A5, H⟩ := oB H
 try dsimp only at H
 by_cases y : s = u
 ·rw [if_pos y] at H
  obtain ⟨z, B⟩ := zt y
  clear y
  by_cases q : (b == c) = true
  ·rw [if_pos q] at H
   have C : (b == c) = true := q
   (try (have D : decide (b = c) = true := by simpa using q))
   (try (have E : (b == c) = true := by simpa using q))
   clear q
   obtain ⟨o, A8, H⟩ := oB H
   by_cases F : o = v
   ·rw [if_pos F] at H
    obtain ⟨G, I⟩ := zt F
    clear F
    obtain ⟨p, ax, H⟩ := oB H
    obtain rfl := Option.some.inj H
    go_enter Try.func10, Try.ntmps10
    go_wp2_with (first | ((with_reducible refine gate_dst (N := 3) rfl ?_); refine zbox (N := 3) (cs := #[.int .i64 d, .int .i64 g]) (t := 23) ?_; intro l hg aA hbox hb; have a := Aside0.mk hbox; have m := zge hg HB; have n := zge hg HB; replace HB := zbs HB hb; clear hb hbox hg; obtain ⟨J, K, L, M⟩ := zc2 a) | ((with_reducible refine gate_callee (f := 37) rfl ?_); refine zgc (some 17) Try.func37 (soft_Cmp.calls A4.out) ?_; intro aB hb; obtain ⟨a, HB⟩ := zu1 a HB hb; clear hb; obtain ⟨O, P, Q, R⟩ := zc2 a) | ((with_reducible refine gate_callee (f := 23) rfl ?_); refine zgc (some 25) Try.func23 (grottoref03_Cmp.calls A5.out) ?_; intro aC hb; obtain ⟨a, HB⟩ := zu1 a HB hb; clear hb) | (go_at_call 18; (with_reducible refine (grottolaw03_num.calls A8.out).mono ?_); rintro e w' ⟨rfl, ⟨nd, rfl⟩⟩) | (go_at_call 19; (with_reducible refine (grottolaw03_live.calls k  p _ ax.out).mono ?_); rintro e aD ⟨rfl, hb⟩; obtain ⟨a, HB⟩ := zu1 a HB hb; clear hb))
    go_ret
    exact zr HB
   ·rw [if_neg F] at H
    obtain ⟨G, I⟩ := zf F
    obtain rfl := Option.some.inj H
    go_enter Try.func10, Try.ntmps10
    go_wp2_with (first | ((with_reducible refine gate_dst (N := 3) rfl ?_); refine zbox (N := 3) (cs := #[.int .i64 d, .int .i64 g]) (t := 23) ?_; intro l hg aE hbox hb; have a := Aside0.mk hbox; have m := zge hg HB; have n := zge hg HB; replace HB := zbs HB hb; clear hb hbox hg; obtain ⟨S, T, U, V⟩ := zc2 a) | ((with_reducible refine gate_callee (f := 37) rfl ?_); refine zgc (some 17) Try.func37 (soft_Cmp.calls A4.out) ?_; intro aF hb; obtain ⟨a, HB⟩ := zu1 a HB hb; clear hb; obtain ⟨W, X, Y, Z⟩ := zc2 a) | ((with_reducible refine gate_callee (f := 23) rfl ?_); refine zgc (some 25) Try.func23 (grottoref03_Cmp.calls A5.out) ?_; intro aG hb; obtain ⟨a, HB⟩ := zu1 a HB hb; clear hb) | (go_at_call 18; (with_reducible refine (grottolaw03_num.calls A8.out).mono ?_); rintro e w' ⟨rfl, ⟨nd, rfl⟩⟩))
    go_ret
    exact zr HB
  ·rw [if_neg q] at H
   have C : (b == c) = false := by simpa using q
   (try (have D : decide (b = c) = false := by simpa using q))
   (try (have E : (b == c) = false := by simpa using q))
   (try (have az : ¬ (b = c) := by simpa using q))
   clear q
   obtain rfl := Option.some.inj H
   go_enter Try.func10, Try.ntmps10
   go_wp2_with (first | ((with_reducible refine gate_dst (N := 3) rfl ?_); refine zbox (N := 3) (cs := #[.int .i64 d, .int .i64 g]) (t := 23) ?_; intro l hg aH hbox hb; have a := Aside0.mk hbox; have m := zge hg HB; have n := zge hg HB; replace HB := zbs HB hb; clear hb hbox hg; obtain ⟨aa, ab, ac, ad⟩ := zc2 a) | ((with_reducible refine gate_callee (f := 37) rfl ?_); refine zgc (some 17) Try.func37 (soft_Cmp.calls A4.out) ?_; intro aI hb; obtain ⟨a, HB⟩ := zu1 a HB hb; clear hb; obtain ⟨ae, af, ag, ah⟩ := zc2 a) | ((with_reducible refine gate_callee (f := 23) rfl ?_); refine zgc (some 25) Try.func23 (grottoref03_Cmp.calls A5.out) ?_; intro aJ hb; obtain ⟨a, HB⟩ := zu1 a HB hb; clear hb))
   go_ret
   exact zr HB
 ·rw [if_neg y] at H
  obtain ⟨z, B⟩ := zf y
  obtain rfl := Option.some.inj H
  go_enter Try.func10, Try.ntmps10
  go_wp2_with (first | ((with_reducible refine gate_dst (N := 3) rfl ?_); refine zbox (N := 3) (cs := #[.int .i64 d, .int .i64 g]) (t := 23) ?_; intro l hg aK hbox hb; have a := Aside0.mk hbox; have m := zge hg HB; have n := zge hg HB; replace HB := zbs HB hb; clear hb hbox hg; obtain ⟨ai, aj, ak, al⟩ := zc2 a) | ((with_reducible refine gate_callee (f := 37) rfl ?_); refine zgc (some 17) Try.func37 (soft_Cmp.calls A4.out) ?_; intro aL hb; obtain ⟨a, HB⟩ := zu1 a HB hb; clear hb; obtain ⟨am, an, ao, ap⟩ := zc2 a) | ((with_reducible refine gate_callee (f := 23) rfl ?_); refine zgc (some 25) Try.func23 (grottoref03_Cmp.calls A5.out) ?_; intro aM hb; obtain ⟨a, HB⟩ := zu1 a HB hb; clear hb))
  go_ret
  exact zr HB

end Go.Proofs.Ytmmbgbchimangaa.PQ
