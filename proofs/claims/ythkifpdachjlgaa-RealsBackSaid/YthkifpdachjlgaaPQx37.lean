-- by a program of this claim
import Derived.Test.YthkifpdachjlgaaPQx0
import Derived.Test.YthkifpdachjlgaaPQx8
import Derived.Test.YthkifpdachjlgaaPQx9
namespace Go.Proofs.Ythkifpdachjlgaa.PQ
open Go.RowKit Go.Proofs.YthkifpdachjlgaaW.PrintWords Go.Proofs.YthkifpdachjlgaaW.PrintLast Go.Proofs.YthkifpdachjlgaaW.PrintMore Go.Proofs.Ythkifpdachjlgaa.Z
attribute [local go_sem] max2_int min2_int max_two min_two max_three min_three max_four min_four   -- for this text's walks alone
set_option linter.unusedVariables false
set_option linter.unusedSimpArgs false

/-! ### grottolaw04_RealsBack: function 8 -/
def grottolaw04_RealsBack.f (k : Nat) (a0 : Int) : Option (Bool) := (reals_Widen.f k a0).bind fun t1203 => ((reals_Narrow.f k t1203).bind fun t1204 => ((reals_SingleHolds.f k 7 a0 0 0).bind fun t1205 => (if t1205 = true then (if t1204 = 2143289344 then (if ((a0 * 2) % 4294967296) > 4278190080 then ((grottolaw04_live.f k).bind fun t1206 => (some t1206)) else (some false)) else (some false)) else (if t1204 = a0 then (if ((a0 * 2) % 4294967296) ≤ 4278190080 then ((grottolaw04_live.f k).bind fun t1207 => (some t1207)) else (some false)) else (some false)))))
theorem grottolaw04_RealsBack.mono : ∀ a0 k, LeO (grottolaw04_RealsBack.f k a0) (grottolaw04_RealsBack.f (k + 1) a0) := by
 intro a0 k
 unfold grottolaw04_RealsBack.f
 repeat' first | (with_reducible first | apply grottolaw04_live.mono | apply reals_Narrow.mono | apply reals_SingleHolds.mono | apply reals_Widen.mono | exact LeO.refl _ | exact LeO.none _ | refine LeO.ite ?_ ?_ | refine LeO.bind ?_ (fun _ => ?_)) | refine LeO.ite ?_ ?_ | refine LeO.bind ?_ (fun _ => ?_)
set_option maxHeartbeats 8000000 in
set_option maxRecDepth 100000 in
theorem grottolaw04_RealsBack.calls {k : Nat} {g : Int} {r : Bool} {w : World} (h : grottolaw04_RealsBack.f k g = some r) :
  Calls Try.prog 8 #[.int .u32 g] w fun e w' => e = .returned (.bool r) ∧ Below w.heap.size w w' := by
 have HB := Aside0.mk (Below.refl w.heap.size w)
 have H : ((reals_Widen.f k g).bind fun j => ((reals_Narrow.f k j).bind fun a => ((reals_SingleHolds.f k 7 g 0 0).bind fun b => (if b = true then (if a = 2143289344 then (if ((g * 2) % 4294967296) > 4278190080 then ((grottolaw04_live.f k).bind fun c => (some c)) else (some false)) else (some false)) else (if a = g then (if ((g * 2) % 4294967296) ≤ 4278190080 then ((grottolaw04_live.f k).bind fun d => (some d)) else (some false)) else (some false)))))) = some r := h
 clear h
 obtain ⟨j, p, H⟩ := oB H
 obtain ⟨a, q, H⟩ := oB H
 obtain ⟨b, s, H⟩ := oB H
 by_cases C : b = true
 ·subst C
  rw [if_pos rfl] at H
  by_cases v : a = 2143289344
  ·rw [if_pos v] at H
   obtain ⟨y, z⟩ := zt v
   clear v
   by_cases u : ((g * 2) % 4294967296) > 4278190080
   ·rw [if_pos u] at H
    have B : decide (4278190080 < ((g * 2) % 4294967296)) = true := decide_eq_true u
    clear u
    obtain ⟨c, E, H⟩ := oB H
    obtain rfl := Option.some.inj H
    go_enter Try.func8, Try.ntmps8
    go_wp2_with (first | ((with_reducible refine gate_callee (f := 27) rfl ?_); refine zgc (some 5) Try.func27 (reals_Widen.calls p.out) ?_; intro Z hb; replace HB := zbs HB hb; clear hb) | ((with_reducible refine gate_callee (f := 26) rfl ?_); refine zgc (some 6) Try.func26 (reals_Narrow.calls q.out) ?_; intro F hb; replace HB := zbs HB hb; clear hb) | ((with_reducible refine gate_callee (f := 17) rfl ?_); refine zgc (some 8) Try.func17 (reals_SingleHolds.calls s.out) ?_; intro G hb; replace HB := zbs HB hb; clear hb) | (go_at_call 15; (with_reducible refine (grottolaw04_live.calls k  c _ E.out).mono ?_); rintro e I ⟨rfl, hb⟩; replace HB := zbs HB hb; clear hb))
    go_ret
    exact zr HB
   rw [if_neg u] at H
   have B : decide (4278190080 < ((g * 2) % 4294967296)) = false := decide_eq_false u
   clear u
   obtain rfl := Option.some.inj H
   go_enter Try.func8, Try.ntmps8
   go_wp2_with (first | ((with_reducible refine gate_callee (f := 27) rfl ?_); refine zgc (some 5) Try.func27 (reals_Widen.calls p.out) ?_; intro J hb; replace HB := zbs HB hb; clear hb) | ((with_reducible refine gate_callee (f := 26) rfl ?_); refine zgc (some 6) Try.func26 (reals_Narrow.calls q.out) ?_; intro K hb; replace HB := zbs HB hb; clear hb) | ((with_reducible refine gate_callee (f := 17) rfl ?_); refine zgc (some 8) Try.func17 (reals_SingleHolds.calls s.out) ?_; intro L hb; replace HB := zbs HB hb; clear hb))
   go_ret
   exact zr HB
  rw [if_neg v] at H
  obtain ⟨y, z⟩ := zf v
  obtain rfl := Option.some.inj H
  go_enter Try.func8, Try.ntmps8
  go_wp2_with (first | ((with_reducible refine gate_callee (f := 27) rfl ?_); refine zgc (some 5) Try.func27 (reals_Widen.calls p.out) ?_; intro M hb; replace HB := zbs HB hb; clear hb) | ((with_reducible refine gate_callee (f := 26) rfl ?_); refine zgc (some 6) Try.func26 (reals_Narrow.calls q.out) ?_; intro N hb; replace HB := zbs HB hb; clear hb) | ((with_reducible refine gate_callee (f := 17) rfl ?_); refine zgc (some 8) Try.func17 (reals_SingleHolds.calls s.out) ?_; intro O hb; replace HB := zbs HB hb; clear hb))
  go_ret
  exact zr HB
 replace C := Bool.eq_false_iff.mpr C
 subst C
 rw [if_neg nft] at H
 by_cases l : a = g
 ·rw [if_pos l] at H
  obtain ⟨m, n⟩ := zt l
  clear l
  by_cases i : ((g * 2) % 4294967296) ≤ 4278190080
  ·rw [if_pos i] at H
   have o : decide (((g * 2) % 4294967296) ≤ 4278190080) = true := decide_eq_true i
   clear i
   obtain ⟨d, D, H⟩ := oB H
   obtain rfl := Option.some.inj H
   go_enter Try.func8, Try.ntmps8
   go_wp2_with (first | ((with_reducible refine gate_callee (f := 27) rfl ?_); refine zgc (some 5) Try.func27 (reals_Widen.calls p.out) ?_; intro P hb; replace HB := zbs HB hb; clear hb) | ((with_reducible refine gate_callee (f := 26) rfl ?_); refine zgc (some 6) Try.func26 (reals_Narrow.calls q.out) ?_; intro Q hb; replace HB := zbs HB hb; clear hb) | ((with_reducible refine gate_callee (f := 17) rfl ?_); refine zgc (some 8) Try.func17 (reals_SingleHolds.calls s.out) ?_; intro R hb; replace HB := zbs HB hb; clear hb) | (go_at_call 15; (with_reducible refine (grottolaw04_live.calls k  d _ D.out).mono ?_); rintro e S ⟨rfl, hb⟩; replace HB := zbs HB hb; clear hb))
   go_ret
   exact zr HB
  rw [if_neg i] at H
  have o : decide (((g * 2) % 4294967296) ≤ 4278190080) = false := decide_eq_false i
  clear i
  obtain rfl := Option.some.inj H
  go_enter Try.func8, Try.ntmps8
  go_wp2_with (first | ((with_reducible refine gate_callee (f := 27) rfl ?_); refine zgc (some 5) Try.func27 (reals_Widen.calls p.out) ?_; intro T hb; replace HB := zbs HB hb; clear hb) | ((with_reducible refine gate_callee (f := 26) rfl ?_); refine zgc (some 6) Try.func26 (reals_Narrow.calls q.out) ?_; intro U hb; replace HB := zbs HB hb; clear hb) | ((with_reducible refine gate_callee (f := 17) rfl ?_); refine zgc (some 8) Try.func17 (reals_SingleHolds.calls s.out) ?_; intro V hb; replace HB := zbs HB hb; clear hb))
  go_ret
  exact zr HB
 rw [if_neg l] at H
 obtain ⟨m, n⟩ := zf l
 obtain rfl := Option.some.inj H
 go_enter Try.func8, Try.ntmps8
 go_wp2_with (first | ((with_reducible refine gate_callee (f := 27) rfl ?_); refine zgc (some 5) Try.func27 (reals_Widen.calls p.out) ?_; intro W hb; replace HB := zbs HB hb; clear hb) | ((with_reducible refine gate_callee (f := 26) rfl ?_); refine zgc (some 6) Try.func26 (reals_Narrow.calls q.out) ?_; intro X hb; replace HB := zbs HB hb; clear hb) | ((with_reducible refine gate_callee (f := 17) rfl ?_); refine zgc (some 8) Try.func17 (reals_SingleHolds.calls s.out) ?_; intro Y hb; replace HB := zbs HB hb; clear hb))
 go_ret
 exact zr HB


end Go.Proofs.Ythkifpdachjlgaa.PQ
