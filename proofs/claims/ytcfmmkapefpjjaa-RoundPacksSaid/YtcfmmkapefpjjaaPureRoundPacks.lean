/- The nearest pattern that the program tells is the reference's: for every format, sign, number of two words, power, and with a little more or without; or both refuse. -/
import Derived.Test.YtcfmmkapefpjjaaPQx12
import Derived.Test.YtcfmmkapefpjjaaRN5
import Derived.Test.YtcfmmkapefpjjaaLive02
namespace Go.Proofs.Ytcfmmkapefpjjaa.Pure
set_option linter.all false
open Go.RowKit Go.Proofs.Ytcfmmkapefpjjaa.PQ Go.Proofs.YtcfmmkapefpjjaaW.PrintWords Go.Proofs.YtcfmmkapefpjjaaW.PrintLast Go.Proofs.YtcfmmkapefpjjaaW.PrintMore
open FT RS
theorem rpack_num {hi lo k : Nat} (hk : 1000 < k) (hh : hi < 18446744073709551616) (hl : lo < 18446744073709551616) {T : Type} (g : List Int → Option T) :
    ((grottoref02_NatOf.f k (hi : Int)).bind fun t273 => ((grottoref02_Up.f k t273 64).bind fun t276 => ((grottoref02_NatOf.f k (lo : Int)).bind fun t279 => ((grottoref02_Plus.f k t276 t279).bind fun t282 => g t282)))) = g (digits (hi * 18446744073709551616 + lo)) := by
  have h1 : (digits hi).length ≤ 4 := digits_len (by omega)
  have h2 : (digits lo).length ≤ 4 := digits_len (by omega)
  have h3 : (digits (hi * 2 ^ 64)).length ≤ 8 := digits_len (by omega)
  have hu := up_eq (a := hi) (n := 64) (k := k) (by omega) (by omega) (by omega)
  have h64 : ((64 : Nat) : Int) = 64 := rfl
  rw [h64] at hu
  rw [natof_eq hh (by omega), Option.bind_some, hu, Option.bind_some, natof_eq hl (by omega), Option.bind_some, plus_eq (by omega) (by omega) (by omega), Option.bind_some]
theorem rpack_ok {M X : Nat} (hM : 2 ≤ M) (hM' : M ≤ 52) (hX : 2 ≤ X) (hX' : X ≤ 11) {k : Nat} (hk : 500200 < k) (neg : Bool) {hi lo : Nat} (hh : hi < 18446744073709551616) (hl : lo < 18446744073709551616) {e : Int} (he : -4096 ≤ e) (he' : e ≤ 4096) (more : Bool)
    (hm : more = true → M + 3 ≤ blen (hi * 18446744073709551616 + lo)) :
    grottoref02_Pack.f k (M : Int) (X : Int) neg (hi : Int) (lo : Int) e more =
      some (((sgn M X neg + npat M X (2 * (hi * 18446744073709551616 + lo) + (if more then 1 else 0)) 1 (e - 1 - least M X) : Nat) : Int), 0) := by
  obtain ⟨k, rfl⟩ : ∃ i, k = i + 2 := ⟨k - 2, by omega⟩
  have hN8 : (digits (hi * 18446744073709551616 + lo)).length ≤ 8 := digits_len (by omega)
  unfold grottoref02_Pack.f
  rw [rcheck_ok hM hM' hX hX', Option.bind_some, if_pos rfl, if_neg (by omega), decide_eq_false (by omega), grottoref02_Pack.j0.eq_2, if_neg (by simp), rpack_num (by omega) hh hl]
  obtain ⟨N, hN⟩ : ∃ N, hi * 18446744073709551616 + lo = N := ⟨_, rfl⟩
  have hN128 : N < 2 ^ 128 := by omega
  clear hh hl
  rw [hN] at hm hN8 ⊢
  have hl2 : (digits (N * 2)).length ≤ 9 := digits_len (by omega)
  have hu := up_eq (a := N) (n := 1) (k := k) (by omega) (by omega) (by omega)
  have h1 : ((1 : Nat) : Int) = 1 := rfl
  rw [h1, Nat.pow_one] at hu
  have ew : Unit → wrap64 (e - 1) = e - 1 := fun _ => w64 (by omega) (by omega)
  have d1 : (digits 1).length ≤ 1 := by rw [digits_one]; simp
  have fin : grottoref02_Pack.j1 (k + 1) neg e more (digits N) false (M : Int) (X : Int) = some (((sgn M X neg + npat M X (2 * N + (if more then 1 else 0)) 1 (e - 1 - least M X) : Nat) : Int), 0) := by
    rw [grottoref02_Pack.j1.eq_2, if_neg (by simp), hu, Option.bind_some, ew (), ← digits_one]
    cases more with
    | true =>
      have hl3 : (digits (N * 2 + 1)).length ≤ 9 := digits_len (by omega)
      rw [if_pos rfl, plus_eq (by omega) (by omega) (by omega), Option.bind_some, near_eq hM hM' hX hX' (by omega) neg (by omega) (by omega) (by omega) (by omega) (by omega), Option.bind_some, Nat.mul_comm N 2]; rfl
    | false =>
      rw [if_neg (by simp), near_eq hM hM' hX hX' (by omega) neg (by omega) (by omega) (by omega) (by omega) (by omega), Option.bind_some, Nat.mul_comm N 2]; rfl
  cases more with
  | true =>
    have hm1 := hm rfl
    have ew3 : Unit → wrap64 ((M : Int) + 3) = ((M + 3 : Nat) : Int) := fun _ => by rw [w64 (by omega) (by omega)]; omega
    have hd : decide (((blen N : Nat) : Int) < ((M + 3 : Nat) : Int)) = false := decide_eq_false (by omega)
    rw [if_pos rfl, bits_eq (by omega) (by omega), Option.bind_some, ew3 (), hd]
    exact fin
  | false => rw [if_neg (by simp)]; exact fin
theorem rpack_bad {k : Nat} (hk : 1100 < k) {m x : Int} (neg : Bool) {hi lo : Nat} (hh : hi < 18446744073709551616) (hl : lo < 18446744073709551616) (e : Int) (more : Bool)
    (h : ¬ Ok m x ∨ e < -4096 ∨ 4096 < e ∨ (more = true ∧ (blen (hi * 18446744073709551616 + lo) : Int) < m + 3)) :
    grottoref02_Pack.f k m x neg (hi : Int) (lo : Int) e more = some (0, 1) := by
  obtain ⟨k, rfl⟩ : ∃ i, k = i + 2 := ⟨k - 2, by omega⟩
  have hj : ∀ a b c d e f g, grottoref02_Pack.j0 (k + 2) a b c d e true f g = some (0, 1) := by
    intro a b c d e f g; rw [grottoref02_Pack.j0.eq_2, if_pos rfl]
  unfold grottoref02_Pack.f
  by_cases hv : Ok m x
  · obtain ⟨M, X, rfl, rfl, hM, hM', hX, hX'⟩ := hv.nat
    rw [rcheck_ok hM hM' hX hX', Option.bind_some, if_pos rfl]
    by_cases h1 : e < -4096
    · rw [if_pos h1, hj]
    · rw [if_neg h1]
      by_cases h2 : 4096 < e
      · rw [decide_eq_true (by omega), hj]
      · have h3 : more = true ∧ (blen (hi * 18446744073709551616 + lo) : Int) < (M : Int) + 3 := by
          rcases h with h | h | h | h
          · exact absurd hv h
          · exact absurd h h1
          · exact absurd h h2
          · exact h
        have hN8 : (digits (hi * 18446744073709551616 + lo)).length ≤ 8 := digits_len (by omega)
        rw [decide_eq_false (by omega), grottoref02_Pack.j0.eq_2, if_neg (by simp), rpack_num (by omega) hh hl]
        obtain ⟨N, hN⟩ : ∃ N, hi * 18446744073709551616 + lo = N := ⟨_, rfl⟩
        clear hh hl
        rw [hN] at h3 hN8 ⊢
        have ew3 : Unit → wrap64 ((M : Int) + 3) = (M : Int) + 3 := fun _ => w64 (by omega) (by omega)
        rw [if_pos h3.1, bits_eq (by omega) (by omega), Option.bind_some, ew3 (), decide_eq_true h3.2, grottoref02_Pack.j1.eq_2, if_pos rfl]
  · rw [rcheck_bad hv, Option.bind_some, if_neg (by decide), hj]
theorem RoundPacks (a0_0 : Int) (a0_1 : Int) (a1 : Bool) (a2 : Int) (a3 : Int) (a4 : Int) (a5 : Bool) (_w0_0 : (Lit.int .i64 a0_0).wf = true) (_w0_1 : (Lit.int .i64 a0_1).wf = true) (w2 : (Lit.int .u64 a2).wf = true) (w3 : (Lit.int .u64 a3).wf = true) (_w4 : (Lit.int .i64 a4).wf = true) : ∃ k, grottolaw02_RoundPacks.f k a0_0 a0_1 a1 a2 a3 a4 a5 = some true := by
  obtain ⟨hi, rfl, hh⟩ := wf_u64 w2
  obtain ⟨lo, rfl, hl⟩ := wf_u64 w3
  have key : ∃ x g, round_Pack.f (500300 + 3) a0_0 a0_1 a1 (hi : Int) (lo : Int) a4 a5 = some (x, g) ∧ grottoref02_Pack.f (500300 + 3) a0_0 a0_1 a1 (hi : Int) (lo : Int) a4 a5 = some (x, g) := by
    by_cases hok : ¬ Ok a0_0 a0_1 ∨ a4 < -4096 ∨ 4096 < a4 ∨ (a5 = true ∧ (blen (hi * 18446744073709551616 + lo) : Int) < a0_0 + 3)
    · exact ⟨0, 1, pack_bad (500300 + 2) a1 hh hl a4 a5 hok, rpack_bad (by omega) a1 hh hl a4 a5 hok⟩
    · simp only [not_or, Classical.not_not] at hok
      obtain ⟨hf, he, he', hm⟩ := hok
      obtain ⟨M, X, rfl, rfl, hM, hM', hX, hX'⟩ := hf.nat
      have hm' : a5 = true → M + 3 ≤ blen (hi * 18446744073709551616 + lo) := fun h => Nat.le_of_not_lt fun hlt => hm ⟨h, by clear hm hh hl; omega⟩
      exact ⟨_, _, pack_ok hM hM' hX hX' 500300 a1 hh hl (Int.not_lt.1 he) (Int.not_lt.1 he') a5 hm', rpack_ok hM hM' hX hX' (by omega) a1 hh hl (Int.not_lt.1 he) (Int.not_lt.1 he') a5 hm'⟩
  obtain ⟨x, g, p1, p2⟩ := key
  refine ⟨500300 + 3, ?_⟩
  unfold grottolaw02_RoundPacks.f
  rw [p1, Option.bind_some, p2, Option.bind_some, if_pos rfl]
  simp only [grottolaw02_num.f, Option.bind_some]
  rw [if_pos trivial, live02_k (by omega)]
  rfl
end Go.Proofs.Ytcfmmkapefpjjaa.Pure
