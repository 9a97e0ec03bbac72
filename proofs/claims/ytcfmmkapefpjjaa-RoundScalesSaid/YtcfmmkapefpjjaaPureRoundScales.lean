/- One number, told by another power of 2, has one pattern: for every format, number, power and shift that the law lets in; a format that may not be is refused alike. -/
import Derived.Test.YtcfmmkapefpjjaaPQx17
import Derived.Test.YtcfmmkapefpjjaaLive02
namespace Go.Proofs.Ytcfmmkapefpjjaa.Pure
open Go.RowKit Go.Proofs.Ytcfmmkapefpjjaa.PQ Go.Proofs.YtcfmmkapefpjjaaW.PrintWords Go.Proofs.YtcfmmkapefpjjaaW.PrintLast Go.Proofs.YtcfmmkapefpjjaaW.PrintMore
open FT RS

theorem RoundScales (a0_0 : Int) (a0_1 : Int) (a1 : Int) (a2 : Int) (a3 : Int) (_w0_0 : (Lit.int .i64 a0_0).wf = true) (_w0_1 : (Lit.int .i64 a0_1).wf = true) (w1 : (Lit.int .u64 a1).wf = true) (_w2 : (Lit.int .i64 a2).wf = true) (_w3 : (Lit.int .i64 a3).wf = true) : ∃ k, grottolaw02_RoundScales.f k a0_0 a0_1 a1 a2 a3 = some true := by
  obtain ⟨A, rfl, hA⟩ := wf_u64 w1
  refine ⟨20, ?_⟩
  have hj : ∀ a b c f g, grottolaw02_RoundScales.j0 20 a b c true f g = some true := by
    intro a b c f g; rw [grottolaw02_RoundScales.j0.eq_2, if_pos rfl, live02_k (by omega)]; rfl
  unfold grottolaw02_RoundScales.f
  by_cases h1 : a3 < 0
  · rw [if_pos h1, hj]
  rw [if_neg h1]
  by_cases h2 : a3 > 63
  · rw [if_pos h2, hj]
  rw [if_neg h2]
  by_cases h3 : a2 < -4032
  · rw [if_pos h3, hj]
  rw [if_neg h3]
  by_cases h4 : a2 > 4096
  · rw [decide_eq_true h4, hj]
  rw [decide_eq_false h4, grottolaw02_RoundScales.j0.eq_2, if_neg (by simp)]
  obtain ⟨t, rfl⟩ := Int.eq_ofNat_of_zero_le (show 0 ≤ a3 by omega)
  have e3 : wrap64 (a2 - (t : Int)) = a2 - t := w64 (by omega) (by omega)
  have h0 : (0 : Nat) < 18446744073709551616 := by omega
  have hlo : A * 2 ^ t % 18446744073709551616 < 18446744073709551616 := Nat.mod_lt _ (by omega)
  have key : ∀ hi : Nat, hi < 18446744073709551616 → hi * 18446744073709551616 + A * 2 ^ t % 18446744073709551616 = A * 2 ^ t →
      ∃ r, round_Pack.f 19 a0_0 a0_1 true 0 (A : Int) a2 false = some r ∧ round_Pack.f 19 a0_0 a0_1 true (hi : Int) ((A * 2 ^ t % 18446744073709551616 : Nat) : Int) (a2 - t) false = some r := by
    intro hi hhi hN
    by_cases hf : Ok a0_0 a0_1
    · obtain ⟨M, X, rfl, rfl, hM, hM', hX, hX'⟩ := hf.nat
      have p1 := pack_ok hM hM' hX hX' 16 true (hi := 0) (lo := A) h0 hA (e := a2) (by omega) (by omega) false (by simp)
      have p2 := pack_ok hM hM' hX hX' 16 true (hi := hi) (lo := A * 2 ^ t % 18446744073709551616) hhi hlo (e := a2 - t) (by omega) (by omega) false (by simp)
      rw [zero_lo] at p1
      rw [hN] at p2
      simp only [Bool.false_eq_true, if_false] at p1 p2
      refine ⟨_, p1, ?_⟩
      refine p2.trans ?_
      have := npat_shift (M := M) (X := X) (a := A) (b := 1) (s := a2 - least M X) (by omega) t
      rw [npat_half, npat_half, ← this, show a2 - (t : Int) - least M X = a2 - least M X - (t : Int) by omega]
    · refine ⟨(0, 1), pack_bad 18 true (hi := 0) h0 hA a2 false (Or.inl hf), pack_bad 18 true hhi hlo _ false (Or.inl hf)⟩
  by_cases ht : (t : Int) > 0
  · have e4 : wrap64 (64 - (t : Int)) = ((64 - t : Nat) : Int) := by rw [w64 (by omega) (by omega)]; omega
    have hhi : A / 2 ^ (64 - t) < 18446744073709551616 := Nat.lt_of_le_of_lt (Nat.div_le_self _ _) hA
    have hN : A / 2 ^ (64 - t) * 18446744073709551616 + A * 2 ^ t % 18446744073709551616 = A * 2 ^ t := by
      have h5 := Nat.div_add_mod (A * 2 ^ t) 18446744073709551616
      have h6 : A * 2 ^ t / 18446744073709551616 = A / 2 ^ (64 - t) := by
        have : 18446744073709551616 = 2 ^ (64 - t) * 2 ^ t := by rw [← Nat.pow_add, show 64 - t + t = 64 by omega]
        rw [this, Nat.mul_div_mul_right _ _ (two_pos t)]
      rw [h6] at h5; omega
    obtain ⟨r, r1, r2⟩ := key _ hhi hN
    rw [r1, Option.bind_some, if_pos ht, e4, if_pos (by omega), if_pos (by omega), shr_nat (by omega), shl_mod (by omega), e3, r2, Option.bind_some, if_pos rfl, if_pos rfl, live02_k (by omega)]
    rfl
  · have ht0 : t = 0 := by omega
    subst ht0
    have hN : 0 * 18446744073709551616 + A * 2 ^ 0 % 18446744073709551616 = A * 2 ^ 0 := by omega
    obtain ⟨r, r1, r2⟩ := key 0 h0 hN
    rw [r1, Option.bind_some, if_neg ht, if_pos (by omega), shl_mod (by omega), e3]
    have r3 : round_Pack.f 19 a0_0 a0_1 true 0 ((A * 2 ^ 0 % 18446744073709551616 : Nat) : Int) (a2 - ((0 : Nat) : Int)) false = some r := r2
    rw [r3, Option.bind_some, if_pos rfl, if_pos rfl, live02_k (by omega)]
    rfl
end Go.Proofs.Ytcfmmkapefpjjaa.Pure
