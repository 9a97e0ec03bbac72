/- The digits of a number, and what they are read as. -/
import Derived.Test.YtefdfmnlcfopaaaDoorPQx18
import Derived.Test.YtefdfmnlcfopaaaDoorLw
import Derived.Lib.ParseIntBCases
import Derived.Lib.ItoaMem
namespace Go.Proofs.YtefdfmnlcfopaaaDoor.Pure
set_option linter.all false
open Go.RowKit Go.Proofs.YtefdfmnlcfopaaaDoor.PQ Go.Proofs.YtefdfmnlcfopaaaDoorW.PrintWords Go.Proofs.YtefdfmnlcfopaaaDoorW.PrintLast Go.Proofs.YtefdfmnlcfopaaaDoorW.PrintMore
open Go.Lib (decDigits itoa parseUintM parseUintB parseIntB NumEnd)
theorem dig_nat : ∀ i : Nat, i < 10 → (UInt8.ofNat (48 + i)).toNat = 48 + i := by decide
theorem dec_all (u : Nat) : ∀ c ∈ decDigits u, 48 ≤ c.toNat ∧ c.toNat ≤ 57 := by
  induction u using Nat.strongRecOn with
  | _ u ih =>
    intro c hc
    rw [decDigits] at hc
    split at hc
    · rename_i h
      rw [List.mem_singleton] at hc
      rw [hc, dig_nat u h]; omega
    · rename_i h
      rcases List.mem_append.1 hc with hc | hc
      · exact ih (u / 10) (by omega) c hc
      · rw [List.mem_singleton] at hc
        rw [hc, dig_nat (u % 10) (by omega)]; omega
theorem dec_ne (u : Nat) : decDigits u ≠ [] := by
  rw [decDigits]; split <;> simp
theorem pm_digit {M acc d : Nat} {c : UInt8} {r : List UInt8} (hc : c.toNat = 48 + d) (hd : d < 10) (hM : M ≤ 4294967295) (h : acc * 10 + d ≤ M) : parseUintM M acc (c :: r) = parseUintM M (acc * 10 + d) r := by
  rw [parseUintM, if_pos (by omega), if_neg (by omega), if_neg (by omega)]
  congr 1; omega
theorem pm_dec (M : Nat) (hM : M ≤ 4294967295) (u : Nat) : ∀ r, u ≤ M → parseUintM M 0 (decDigits u ++ r) = parseUintM M u r := by
  induction u using Nat.strongRecOn with
  | _ u ih =>
    intro r hu
    rw [decDigits]
    split
    · rename_i h
      rw [List.singleton_append, pm_digit (dig_nat u h) h hM (by omega)]
      congr 1; omega
    · rename_i h
      rw [List.append_assoc, List.singleton_append, ih (u / 10) (by omega) _ (by omega), pm_digit (dig_nat (u % 10) (by omega)) (by omega) hM (by omega)]
      congr 1; omega
theorem pu_dec {u : Nat} (hu : u ≤ 4294967295) : parseUintB 32 (decDigits u) = .ok u := by
  have h := pm_dec 4294967295 (by omega) u [] hu
  rw [List.append_nil] at h
  unfold parseUintB
  rw [if_neg (dec_ne u)]
  exact h
theorem pi_itoa {v : Int} (h : -2147483648 ≤ v) (h' : v < 2147483648) : parseIntB 32 (itoa v) = .ok v := by
  have p : 2 ^ (32 - 1) = 2147483648 := by decide
  by_cases hn : v < 0
  · have e : itoa v = 45 :: decDigits v.natAbs := by unfold itoa; rw [if_pos hn]
    rw [e, Go.Lib.parseIntB_minus, pu_dec (by omega), Go.Lib.signedC, p, if_neg (by omega)]
    congr 1; omega
  · have e : itoa v = decDigits v.toNat := by unfold itoa; rw [if_neg hn]
    have hall := dec_all v.toNat
    have hpu := pu_dec (u := v.toNat) (by omega)
    rw [e]
    cases hd : decDigits v.toNat with
    | nil => exact absurd hd (dec_ne _)
    | cons c r =>
      rw [hd] at hall hpu
      have hc := hall c (List.mem_cons_self ..)
      rw [Go.Lib.parseIntB_plain 32 c r (by omega) (by omega), hpu, Go.Lib.signlessC, p, if_neg (by omega)]
      congr 1; omega
theorem nd_le : ∀ (k u : Nat), u < 10 ^ (k + 1) → (decDigits u).length ≤ k + 1 := by
  intro k
  induction k with
  | zero => intro u hu; rw [decDigits, dif_pos (by omega)]; simp
  | succ k ih =>
    intro u hu
    rw [decDigits]
    split
    · simp
    · have := ih (u / 10) (by rw [Nat.pow_succ] at hu; omega)
      rw [List.length_append, List.length_singleton]; omega
theorem itoa_len {v : Int} (h : -2147483648 ≤ v) (h' : v < 2147483648) : (itoa v).length ≤ 11 := by
  have p : (10 : Nat) ^ (9 + 1) = 10000000000 := by decide
  unfold itoa
  split
  · have := nd_le 9 v.natAbs (by omega)
    rw [List.length_cons]; omega
  · have := nd_le 9 v.toNat (by omega)
    omega
theorem dec_f (a : Int) : word_Decimal.f a = some (⟨(itoa (wrap32 a)).toArray⟩ : ByteArray) := rfl
theorem wrap_wrap {v : Int} (h : -2147483648 ≤ v) (h' : v < 2147483648) : wrap32 (v % 4294967296) = v := by unfold wrap32; omega
/-- a word's digits are read as the word -/
theorem num_dec {a : Int} (h1 : 0 ≤ a) (h2 : a < 4294967296) : word_Number.f (⟨(itoa (wrap32 a)).toArray⟩ : ByteArray) = some (a, true) := by
  have i1 := i32_cases h1 h2
  have bs : -2147483648 ≤ wrap32 a ∧ wrap32 a < 2147483648 := by omega
  have hm : wrap32 a % 4294967296 = a := by unfold wrap32; omega
  have hl := itoa_len bs.1 bs.2
  have hsz : (⟨(itoa (wrap32 a)).toArray⟩ : ByteArray).size = (itoa (wrap32 a)).length := by simp [ByteArray.size]
  have hp := pi_itoa bs.1 bs.2
  unfold word_Number.f
  rw [if_neg (by rw [hsz]; omega)]
  have hd : (⟨(itoa (wrap32 a)).toArray⟩ : ByteArray).data.toList = itoa (wrap32 a) := by simp
  rw [hd, hp]
  dsimp only
  rw [hm, dec_f, Option.bind_some, if_pos rfl]
end Go.Proofs.YtefdfmnlcfopaaaDoor.Pure
