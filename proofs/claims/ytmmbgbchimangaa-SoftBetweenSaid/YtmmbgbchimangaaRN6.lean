import Derived.Test.YtmmbgbchimangaaPQx37
import Derived.Test.YtmmbgbchimangaaRN5
namespace Go.Proofs.Ytmmbgbchimangaa.RS
set_option linter.all false
open Go.RowKit Go.Proofs.Ytmmbgbchimangaa.PQ Go.Proofs.YtmmbgbchimangaaW.PrintWords Go.Proofs.YtmmbgbchimangaaW.PrintLast Go.Proofs.YtmmbgbchimangaaW.PrintMore
open FT
theorem rpack_num {hi lo k : Nat} (hk : 1000 < k) (hh : hi < 18446744073709551616) (hl : lo < 18446744073709551616) {T : Type} (g : List Int → Option T) :
    ((grottoref02_NatOf.f k (hi : Int)).bind fun t273 => ((grottoref02_Up.f k t273 64).bind fun t276 => ((grottoref02_NatOf.f k (lo : Int)).bind fun t279 => ((grottoref02_Plus.f k t276 t279).bind fun t282 => g t282)))) = g (digits (hi * 18446744073709551616 + lo)) := by
  have h1 : (digits hi).length ≤ 4 := digits_len (by omega)
  have h2 : (digits lo).length ≤ 4 := digits_len (by omega)
  have h3 : (digits (hi * 2 ^ 64)).length ≤ 8 := digits_len (by omega)
  have hu := up_eq (a := hi) (n := 64) (k := k) (by omega) (by omega) (by omega)
  have h64 : ((64 : Nat) : Int) = 64 := rfl
  rw [h64] at hu
  rw [natof_eq hh (by omega), Option.bind_some, hu, Option.bind_some, natof_eq hl (by omega), Option.bind_some, plus_eq (by omega) (by omega) (by omega), Option.bind_some]
theorem rpack_ok {M X : Nat} (hM : 2 ≤ M) (hM' : M ≤ 52) (hX : 2 ≤ X) (hX' : X ≤ 11) {k : Nat} (hk : 500200 < k) (neg : Bool) {hi lo : Nat} (hh : hi < 18446744073709551616) (hl : lo < 18446744073709551616) {e : Int} (he : -4096 ≤ e) (he' : e ≤ 4096) (more : Bool)
    (hm : more = true → M + 3 ≤ blen (hi * 18446744073709551616 + lo)) :
    grottoref02_Pack.f k (M : Int) (X : Int) neg (hi : Int) (lo : Int) e more =
      some (((sgn M X neg + npat M X (2 * (hi * 18446744073709551616 + lo) + (if more then 1 else 0)) 1 (e - 1 - least M X) : Nat) : Int), 0) := by
  obtain ⟨k, rfl⟩ : ∃ i, k = i + 2 := ⟨k - 2, by omega⟩
  have hN8 : (digits (hi * 18446744073709551616 + lo)).length ≤ 8 := digits_len (by omega)
  unfold grottoref02_Pack.f
  rw [rcheck_ok hM hM' hX hX', Option.bind_some, if_pos rfl, if_neg (by omega), decide_eq_false (by omega), grottoref02_Pack.j0.eq_2, if_neg (by simp), rpack_num (by omega) hh hl]
  obtain ⟨N, hN⟩ : ∃ N, hi * 18446744073709551616 + lo = N := ⟨_, rfl⟩
  have hN128 : N < 2 ^ 128 := by omega
  clear hh hl
  rw [hN] at hm hN8 ⊢
  have hl2 : (digits (N * 2)).length ≤ 9 := digits_len (by omega)
  have hu := up_eq (a := N) (n := 1) (k := k) (by omega) (by omega) (by omega)
  have h1 : ((1 : Nat) : Int) = 1 := rfl
  rw [h1, Nat.pow_one] at hu
  have ew : Unit → wrap64 (e - 1) = e - 1 := fun _ => w64 (by omega) (by omega)
  have d1 : (digits 1).length ≤ 1 := by rw [digits_one]; simp
  have fin : grottoref02_Pack.j1 (k + 1) neg e more (digits N) false (M : Int) (X : Int) = some (((sgn M X neg + npat M X (2 * N + (if more then 1 else 0)) 1 (e - 1 - least M X) : Nat) : Int), 0) := by
    rw [grottoref02_Pack.j1.eq_2, if_neg (by simp), hu, Option.bind_some, ew (), ← digits_one]
    cases more with
    | true =>
      have hl3 : (digits (N * 2 + 1)).length ≤ 9 := digits_len (by omega)
      rw [if_pos rfl, plus_eq (by omega) (by omega) (by omega), Option.bind_some, near_eq hM hM' hX hX' (by omega) neg (by omega) (by omega) (by omega) (by omega) (by omega), Option.bind_some, Nat.mul_comm N 2]; rfl
    | false =>
      rw [if_neg (by simp), near_eq hM hM' hX hX' (by omega) neg (by omega) (by omega) (by omega) (by omega) (by omega), Option.bind_some, Nat.mul_comm N 2]; rfl
  cases more with
  | true =>
    have hm1 := hm rfl
    have ew3 : Unit → wrap64 ((M : Int) + 3) = ((M + 3 : Nat) : Int) := fun _ => by rw [w64 (by omega) (by omega)]; omega
    have hd : decide (((blen N : Nat) : Int) < ((M + 3 : Nat) : Int)) = false := decide_eq_false (by omega)
    rw [if_pos rfl, bits_eq (by omega) (by omega), Option.bind_some, ew3 (), hd]
    exact fin
  | false => rw [if_neg (by simp)]; exact fin
end Go.Proofs.Ytmmbgbchimangaa.RS
