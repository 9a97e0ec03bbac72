-- by a program of this claim
import Derived.Test.YtcfmmkapefpjjaaPQx0
import Derived.Test.YtcfmmkapefpjjaaPQx3
import Derived.Test.YtcfmmkapefpjjaaPQx9
import Derived.Test.YtcfmmkapefpjjaaPQx11
namespace Go.Proofs.Ytcfmmkapefpjjaa.PQ
open Go.RowKit Go.Proofs.YtcfmmkapefpjjaaW.PrintWords Go.Proofs.YtcfmmkapefpjjaaW.PrintLast Go.Proofs.YtcfmmkapefpjjaaW.PrintMore Go.Proofs.Ytcfmmkapefpjjaa.Z
attribute [local go_sem] max2_int min2_int max_two min_two max_three min_three max_four min_four   -- for this text's walks alone
set_option linter.unusedVariables false
set_option linter.unusedSimpArgs false

/-! ### grottolaw02_RoundPacks: function 3 -/
def grottolaw02_RoundPacks.f (k : Nat) (a0_0 : Int) (a0_1 : Int) (a1 : Bool) (a2 : Int) (a3 : Int) (a4 : Int) (a5 : Bool) : Option (Bool) := (round_Pack.f k a0_0 a0_1 a1 a2 a3 a4 a5).bind fun bt340 => ((grottoref02_Pack.f k a0_0 a0_1 a1 a2 a3 a4 a5).bind fun bt342 => (if bt340.1 = bt342.1 then ((grottolaw02_num.f bt340.2).bind fun t344 => (if t344 = bt342.2 then ((grottolaw02_live.f k).bind fun t345 => (some t345)) else (some false))) else (some false)))
theorem grottolaw02_RoundPacks.mono : ∀ a0 a1 a2 a3 a4 a5 a6 k, LeO (grottolaw02_RoundPacks.f k a0 a1 a2 a3 a4 a5 a6) (grottolaw02_RoundPacks.f (k + 1) a0 a1 a2 a3 a4 a5 a6) := by
  intro a0 a1 a2 a3 a4 a5 a6 k
  unfold grottolaw02_RoundPacks.f
  repeat' first
      | (with_reducible exact grottolaw02_live.mono _)
      | (with_reducible exact grottoref02_Pack.mono _ _ _ _ _ _ _ _)
      | (with_reducible exact round_Pack.mono _ _ _ _ _ _ _ _)
      | (with_reducible exact LeO.refl _)
      | (with_reducible exact LeO.none _)
      | (with_reducible refine LeO.ite ?_ ?_)
      | (with_reducible refine LeO.bind ?_ (fun _ => ?_))
      | exact grottolaw02_live.mono _
      | exact grottoref02_Pack.mono _ _ _ _ _ _ _ _
      | exact round_Pack.mono _ _ _ _ _ _ _ _
      | exact LeO.none _
      | refine LeO.ite ?_ ?_
      | refine LeO.bind ?_ (fun _ => ?_)
set_option maxHeartbeats 8000000 in
set_option maxRecDepth 100000 in
theorem grottolaw02_RoundPacks.calls (k : Nat) (a0_0 : Int) (a0_1 : Int) (a1 : Bool) (a2 : Int) (a3 : Int) (a4 : Int) (a5 : Bool) (r : Bool) (w : World) (h : grottolaw02_RoundPacks.f k a0_0 a0_1 a1 a2 a3 a4 a5 = some r) :
    Calls Try.prog 3 #[.agg #[.int .i64 a0_0, .int .i64 a0_1], .bool a1, .int .u64 a2, .int .u64 a3, .int .i64 a4, .bool a5] w fun e w' => e = .returned (.bool r) ∧ Below w.heap.size w w' := by
  have hu23 := Try.underlying23
  have HB := Aside0.mk (Below.refl w.heap.size w)
  have H : ((round_Pack.f k a0_0 a0_1 a1 a2 a3 a4 a5).bind fun bt340 => ((grottoref02_Pack.f k a0_0 a0_1 a1 a2 a3 a4 a5).bind fun bt342 => (if bt340.1 = bt342.1 then ((grottolaw02_num.f bt340.2).bind fun t344 => (if t344 = bt342.2 then ((grottolaw02_live.f k).bind fun t345 => (some t345)) else (some false))) else (some false)))) = some r := h
  clear h
  replace H := Option.bind_eq_some_iff.mp H
  obtain ⟨⟨t340, t341⟩, A70, H⟩ := H
  replace H : ((grottoref02_Pack.f k a0_0 a0_1 a1 a2 a3 a4 a5).bind fun bt342 => (if t340 = bt342.1 then ((grottolaw02_num.f t341).bind fun t344 => (if t344 = bt342.2 then ((grottolaw02_live.f k).bind fun t345 => (some t345)) else (some false))) else (some false))) = some r := H
  have A7 := Aside0.mk A70
  clear A70
  replace H := Option.bind_eq_some_iff.mp H
  obtain ⟨⟨t342, t343⟩, A80, H⟩ := H
  replace H : (if t340 = t342 then ((grottolaw02_num.f t341).bind fun t344 => (if t344 = t343 then ((grottolaw02_live.f k).bind fun t345 => (some t345)) else (some false))) else (some false)) = some r := H
  have A8 := Aside0.mk A80
  clear A80
  by_cases c9 : t340 = t342
  · rw [if_pos c9] at H
    have c9b0 : (t340 == t342) = true := beq_iff_eq.mpr c9
    have c9b1 : (t340 != t342) = false := bne_eq_false_iff_eq.mpr c9
    clear c9
    replace H := Option.bind_eq_some_iff.mp H
    obtain ⟨t344, A100, H⟩ := H
    replace H : (if t344 = t343 then ((grottolaw02_live.f k).bind fun t345 => (some t345)) else (some false)) = some r := H
    have A10 := Aside0.mk A100
    clear A100
    by_cases c11 : t344 = t343
    · rw [if_pos c11] at H
      have c11b0 : (t344 == t343) = true := beq_iff_eq.mpr c11
      have c11b1 : (t344 != t343) = false := bne_eq_false_iff_eq.mpr c11
      clear c11
      replace H := Option.bind_eq_some_iff.mp H
      obtain ⟨t345, A120, H⟩ := H
      replace H : (some t345) = some r := H
      have A12 := Aside0.mk A120
      clear A120
      obtain rfl := Option.some.inj H
      go_enter Try.func3, Try.ntmps3
      go_wp2_with (first | ((with_reducible refine gate_dst (N := 6) rfl ?_); refine zbox (N := 6) (cs := #[.int .i64 a0_0, .int .i64 a0_1]) (t := 23) ?_; intro gb339 hg w13 hbox hb; have BK339 := Aside0.mk hbox; have GW339 := zge hg HB; have GE339 := zge hg HB; replace HB := zbs HB hb; clear hb hbox hg; obtain ⟨hcz14_0, hcz14_1, hfz14_0, hfz14_1⟩ := zc2 BK339) | ((with_reducible refine gate_callee (f := 10) rfl ?_); refine zgo (some 24) Try.func10 #[.agg #[.int .i64 a0_0, .int .i64 a0_1], .bool a1, .int .u64 a2, .int .u64 a3, .int .i64 a4, .bool a5] ?_; (with_reducible refine (round_Pack.calls k a0_0 a0_1 a1 a2 a3 a4 a5 t340 t341 _ A7.out).mono ?_); rintro e w15 ⟨rfl, hb⟩; refine ⟨_, rfl, ?_⟩; replace BK339 := zkb BK339 hb; replace HB := zbs HB hb; (try clear hb); (try clear hb2); (try clear hk); (try clear hi); obtain ⟨hcz16_0, hcz16_1, hfz16_0, hfz16_1⟩ := zc2 BK339) | ((with_reducible refine gate_callee (f := 11) rfl ?_); refine zgo (some 34) Try.func11 #[.agg #[.int .i64 a0_0, .int .i64 a0_1], .bool a1, .int .u64 a2, .int .u64 a3, .int .i64 a4, .bool a5] ?_; (with_reducible refine (grottoref02_Pack.calls k a0_0 a0_1 a1 a2 a3 a4 a5 t342 t343 _ A8.out).mono ?_); rintro e w17 ⟨rfl, hb⟩; refine ⟨_, rfl, ?_⟩; replace BK339 := zkb BK339 hb; replace HB := zbs HB hb; (try clear hb); (try clear hb2); (try clear hk); (try clear hi)) | (go_at_call 12; (with_reducible refine (grottolaw02_num.calls t341 t344 _ A10.out).mono ?_); rintro e w' ⟨rfl, ⟨nd, rfl⟩⟩) | (go_at_call 13; (with_reducible refine (grottolaw02_live.calls k  t345 _ A12.out).mono ?_); rintro e w18 ⟨rfl, hb⟩; replace BK339 := zkb BK339 hb; replace HB := zbs HB hb; (try clear hb); (try clear hb2); (try clear hk); (try clear hi)))
      go_ret
      exact ⟨by first | rfl | (simp [errW_none, errW_some] <;> rfl) | (simp [*, errW_none, errW_some] <;> rfl), zb HB⟩
    · rw [if_neg c11] at H
      have c11b0 : (t344 == t343) = false := beq_eq_false_iff_ne.mpr c11
      have c11b1 : (t344 != t343) = true := bne_iff_ne.mpr c11
      obtain rfl := Option.some.inj H
      go_enter Try.func3, Try.ntmps3
      go_wp2_with (first | ((with_reducible refine gate_dst (N := 6) rfl ?_); refine zbox (N := 6) (cs := #[.int .i64 a0_0, .int .i64 a0_1]) (t := 23) ?_; intro gb339 hg w19 hbox hb; have BK339 := Aside0.mk hbox; have GW339 := zge hg HB; have GE339 := zge hg HB; replace HB := zbs HB hb; clear hb hbox hg; obtain ⟨hcz20_0, hcz20_1, hfz20_0, hfz20_1⟩ := zc2 BK339) | ((with_reducible refine gate_callee (f := 10) rfl ?_); refine zgo (some 24) Try.func10 #[.agg #[.int .i64 a0_0, .int .i64 a0_1], .bool a1, .int .u64 a2, .int .u64 a3, .int .i64 a4, .bool a5] ?_; (with_reducible refine (round_Pack.calls k a0_0 a0_1 a1 a2 a3 a4 a5 t340 t341 _ A7.out).mono ?_); rintro e w21 ⟨rfl, hb⟩; refine ⟨_, rfl, ?_⟩; replace BK339 := zkb BK339 hb; replace HB := zbs HB hb; (try clear hb); (try clear hb2); (try clear hk); (try clear hi); obtain ⟨hcz22_0, hcz22_1, hfz22_0, hfz22_1⟩ := zc2 BK339) | ((with_reducible refine gate_callee (f := 11) rfl ?_); refine zgo (some 34) Try.func11 #[.agg #[.int .i64 a0_0, .int .i64 a0_1], .bool a1, .int .u64 a2, .int .u64 a3, .int .i64 a4, .bool a5] ?_; (with_reducible refine (grottoref02_Pack.calls k a0_0 a0_1 a1 a2 a3 a4 a5 t342 t343 _ A8.out).mono ?_); rintro e w23 ⟨rfl, hb⟩; refine ⟨_, rfl, ?_⟩; replace BK339 := zkb BK339 hb; replace HB := zbs HB hb; (try clear hb); (try clear hb2); (try clear hk); (try clear hi)) | (go_at_call 12; (with_reducible refine (grottolaw02_num.calls t341 t344 _ A10.out).mono ?_); rintro e w' ⟨rfl, ⟨nd, rfl⟩⟩))
      go_ret
      exact ⟨by first | rfl | (simp [errW_none, errW_some] <;> rfl) | (simp [*, errW_none, errW_some] <;> rfl), zb HB⟩
  · rw [if_neg c9] at H
    have c9b0 : (t340 == t342) = false := beq_eq_false_iff_ne.mpr c9
    have c9b1 : (t340 != t342) = true := bne_iff_ne.mpr c9
    obtain rfl := Option.some.inj H
    go_enter Try.func3, Try.ntmps3
    go_wp2_with (first | ((with_reducible refine gate_dst (N := 6) rfl ?_); refine zbox (N := 6) (cs := #[.int .i64 a0_0, .int .i64 a0_1]) (t := 23) ?_; intro gb339 hg w24 hbox hb; have BK339 := Aside0.mk hbox; have GW339 := zge hg HB; have GE339 := zge hg HB; replace HB := zbs HB hb; clear hb hbox hg; obtain ⟨hcz25_0, hcz25_1, hfz25_0, hfz25_1⟩ := zc2 BK339) | ((with_reducible refine gate_callee (f := 10) rfl ?_); refine zgo (some 24) Try.func10 #[.agg #[.int .i64 a0_0, .int .i64 a0_1], .bool a1, .int .u64 a2, .int .u64 a3, .int .i64 a4, .bool a5] ?_; (with_reducible refine (round_Pack.calls k a0_0 a0_1 a1 a2 a3 a4 a5 t340 t341 _ A7.out).mono ?_); rintro e w26 ⟨rfl, hb⟩; refine ⟨_, rfl, ?_⟩; replace BK339 := zkb BK339 hb; replace HB := zbs HB hb; (try clear hb); (try clear hb2); (try clear hk); (try clear hi); obtain ⟨hcz27_0, hcz27_1, hfz27_0, hfz27_1⟩ := zc2 BK339) | ((with_reducible refine gate_callee (f := 11) rfl ?_); refine zgo (some 34) Try.func11 #[.agg #[.int .i64 a0_0, .int .i64 a0_1], .bool a1, .int .u64 a2, .int .u64 a3, .int .i64 a4, .bool a5] ?_; (with_reducible refine (grottoref02_Pack.calls k a0_0 a0_1 a1 a2 a3 a4 a5 t342 t343 _ A8.out).mono ?_); rintro e w28 ⟨rfl, hb⟩; refine ⟨_, rfl, ?_⟩; replace BK339 := zkb BK339 hb; replace HB := zbs HB hb; (try clear hb); (try clear hb2); (try clear hk); (try clear hi)))
    go_ret
    exact ⟨by first | rfl | (simp [errW_none, errW_some] <;> rfl) | (simp [*, errW_none, errW_some] <;> rfl), zb HB⟩

end Go.Proofs.Ytcfmmkapefpjjaa.PQ
