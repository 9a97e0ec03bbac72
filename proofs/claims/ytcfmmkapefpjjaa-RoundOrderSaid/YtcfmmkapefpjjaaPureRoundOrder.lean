/- A greater number's pattern is not smaller, and the sign alone tells neg: for every format, any two numbers and any power; or the format or the power is refused. -/
import Derived.Test.YtcfmmkapefpjjaaPQx16
import Derived.Test.YtcfmmkapefpjjaaLive02
namespace Go.Proofs.Ytcfmmkapefpjjaa.Pure
open Go.RowKit Go.Proofs.Ytcfmmkapefpjjaa.PQ Go.Proofs.YtcfmmkapefpjjaaW.PrintWords Go.Proofs.YtcfmmkapefpjjaaW.PrintLast Go.Proofs.YtcfmmkapefpjjaaW.PrintMore
open FT RS

theorem order_end {M X x y : Nat} (ew : wrap64 ((M : Int) + (X : Int)) = ((M + X : Nat) : Int)) (hMX : M + X ≤ 63) (hle : x ≤ y) (hx : x < 2 ^ (M + X)) :
    ((grottolaw02_num.f 0).bind fun t367 => (if t367 = 0 then (if ((0 + x : Nat) : Int) ≤ ((0 + y : Nat) : Int) then (if 0 ≤ (wrap64 ((M : Int) + (X : Int))) then (if ((2 ^ (M + X) + x : Nat) : Int) = (IntKind.u64.wrap (((0 + x : Nat) : Int) + (shl .u64 1 (wrap64 ((M : Int) + (X : Int)))))) then ((grottolaw02_live.f 19).bind fun t368 => (some t368)) else (some false)) else (none)) else (some false)) else (if ((0 + x : Nat) : Int) = 0 then (if ((0 + y : Nat) : Int) = 0 then (if ((2 ^ (M + X) + x : Nat) : Int) = 0 then ((grottolaw02_num.f 0).bind fun t369 => (if t369 = 1 then ((grottolaw02_live.f 19).bind fun t370 => (some t370)) else (some false))) else (some false)) else (some false)) else (some false)))) = some true := by
  have hp := pow_lt (k := M + X) (by omega)
  have hp2 : 2 ^ (M + X) * 2 ≤ 18446744073709551616 := by
    have := Nat.pow_le_pow_right (n := 2) (by omega) (show M + X + 1 ≤ 64 by omega)
    rw [Nat.pow_succ] at this; omega
  simp only [grottolaw02_num.f, Option.bind_some]
  rw [if_pos trivial, if_pos (by omega), ew, if_pos (by omega), shl_one (by omega)]
  have e3 : IntKind.u64.wrap (((0 + x : Nat) : Int) + ((2 ^ (M + X) : Nat) : Int)) = ((2 ^ (M + X) + x : Nat) : Int) := by
    rw [wu (by omega) (by omega)]; omega
  rw [e3, if_pos rfl, live02_k (by omega)]
  rfl
theorem RoundOrder (a0_0 : Int) (a0_1 : Int) (a1 : Int) (a2 : Int) (a3 : Int) (w0_0 : (Lit.int .i64 a0_0).wf = true) (w0_1 : (Lit.int .i64 a0_1).wf = true) (w1 : (Lit.int .u64 a1).wf = true) (w2 : (Lit.int .u64 a2).wf = true) (w3 : (Lit.int .i64 a3).wf = true) : ∃ k, grottolaw02_RoundOrder.f k a0_0 a0_1 a1 a2 a3 = some true := by
  obtain ⟨A, rfl, hA⟩ := wf_u64 w1
  obtain ⟨B, rfl, hB⟩ := wf_u64 w2
  have hmn : mn (A : Int) (B : Int) = ((min A B : Nat) : Int) := by unfold mn; omega
  have hmx : mx (A : Int) (B : Int) = ((max A B : Nat) : Int) := by unfold mx; omega
  have h0 : (0 : Nat) < 18446744073709551616 := by omega
  refine ⟨20, ?_⟩
  unfold grottolaw02_RoundOrder.f
  rw [hmn, hmx]
  by_cases hok : Ok a0_0 a0_1 ∧ -4096 ≤ a3 ∧ a3 ≤ 4096
  · obtain ⟨hf, he, he'⟩ := hok
    obtain ⟨M, X, rfl, rfl, hM, hM', hX, hX'⟩ := hf.nat
    have p1 : round_Pack.f 20 (M : Int) (X : Int) false 0 ((min A B : Nat) : Int) a3 false = _ := pack_ok hM hM' hX hX' 17 false (hi := 0) (lo := min A B) h0 (by omega) he he' false (by simp)
    have p2 : round_Pack.f 20 (M : Int) (X : Int) false 0 ((max A B : Nat) : Int) a3 false = _ := pack_ok hM hM' hX hX' 17 false (hi := 0) (lo := max A B) h0 (by omega) he he' false (by simp)
    have p3 : round_Pack.f 20 (M : Int) (X : Int) true 0 ((min A B : Nat) : Int) a3 false = _ := pack_ok hM hM' hX hX' 17 true (hi := 0) (lo := min A B) h0 (by omega) he he' false (by simp)
    simp only [zero_lo, Bool.false_eq_true, if_false] at p1 p2 p3
    have ew : wrap64 ((M : Int) + (X : Int)) = ((M + X : Nat) : Int) := by clear p1 p2 p3; rw [w64 (by omega) (by omega)]; omega
    have hs : sgn M X false = 0 := rfl
    have ht : sgn M X true = 2 ^ (M + X) := rfl
    rw [p1, Option.bind_some, p2, Option.bind_some, p3, Option.bind_some, if_pos rfl, grottolaw02_RoundOrder.j0.eq_2, hs, ht, if_neg (by simp)]
    have hle : npat M X (2 * min A B + 0) 1 (a3 - 1 - least M X) ≤ npat M X (2 * max A B + 0) 1 (a3 - 1 - least M X) := npat_mono (by omega) (by omega) (by omega)
    have hinf := npat_le_inf M X (2 * min A B + 0) 1 (a3 - 1 - least M X)
    have hlt := inf_lt (M := M) (X := X)
    clear p1 p2 p3 w0_0 w0_1 w1 w2 w3 hmn hmx
    generalize npat M X (2 * min A B + 0) 1 (a3 - 1 - least M X) = x at *
    generalize npat M X (2 * max A B + 0) 1 (a3 - 1 - least M X) = y at *
    exact order_end ew (by omega) hle (Nat.lt_of_le_of_lt hinf hlt)
  · have hb : ¬ (2 ≤ a0_0 ∧ a0_0 ≤ 52 ∧ 2 ≤ a0_1 ∧ a0_1 ≤ 11) ∨ a3 < -4096 ∨ 4096 < a3 := by
      unfold Ok at hok; omega
    have p1 : round_Pack.f 20 a0_0 a0_1 false 0 ((min A B : Nat) : Int) a3 false = some (0, 1) := pack_bad 19 false (hi := 0) (lo := min A B) h0 (by omega) a3 false (by omega)
    have p2 : round_Pack.f 20 a0_0 a0_1 false 0 ((max A B : Nat) : Int) a3 false = some (0, 1) := pack_bad 19 false (hi := 0) (lo := max A B) h0 (by omega) a3 false (by omega)
    have p3 : round_Pack.f 20 a0_0 a0_1 true 0 ((min A B : Nat) : Int) a3 false = some (0, 1) := pack_bad 19 true (hi := 0) (lo := min A B) h0 (by omega) a3 false (by omega)
    rw [p1, Option.bind_some, p2, Option.bind_some, p3, Option.bind_some, if_pos rfl, grottolaw02_RoundOrder.j0.eq_2, if_neg (by simp)]
    simp only [grottolaw02_num.f, Option.bind_some]
    rw [if_neg (by simp), if_pos trivial, if_pos trivial, if_pos trivial, if_pos trivial, live02_k (by omega)]
    rfl
end Go.Proofs.Ytcfmmkapefpjjaa.Pure
