/- The next multiple of any word to any word is the reference's; it is one, not below, and none is between: for every two words. -/
import Derived.Test.YtefdfmnlcfopaaaDoorPQx12
import Derived.Test.YtefdfmnlcfopaaaDoorLw
namespace Go.Proofs.YtefdfmnlcfopaaaDoor.Pure
open Go.RowKit Go.Proofs.YtefdfmnlcfopaaaDoor.PQ Go.Proofs.YtefdfmnlcfopaaaDoorW.PrintWords Go.Proofs.YtefdfmnlcfopaaaDoorW.PrintLast Go.Proofs.YtefdfmnlcfopaaaDoorW.PrintMore
theorem u64w {n : Int} (h : 0 ≤ n) (h' : n < 18446744073709551616) : IntKind.u64.wrap n = n := by
  have : IntKind.u64.wrap n = n % 18446744073709551616 := IntKind.wrap_u64 n
  rw [this]; omega
/-- the next multiple -/
theorem next_multiple {x t : Nat} (ht : 0 < t) : (x + t - 1) / t * t = if x % t = 0 then x else x + t - x % t := by
  have h := Nat.div_add_mod x t
  have hl := Nat.mod_lt x ht
  by_cases h0 : x % t = 0
  · rw [if_pos h0]
    rw [h0, Nat.add_zero] at h
    have e : x + t - 1 = t - 1 + t * (x / t) := by omega
    rw [e, Nat.add_mul_div_left _ _ ht, Nat.div_eq_of_lt (by omega), Nat.zero_add, Nat.mul_comm, h]
  · rw [if_neg h0]
    have e : x + t - 1 = x % t - 1 + t * (x / t + 1) := by rw [Nat.mul_add, Nat.mul_one]; omega
    rw [e, Nat.add_mul_div_left _ _ ht, Nat.div_eq_of_lt (by omega), Nat.zero_add, Nat.mul_comm, Nat.mul_add, Nat.mul_one]; omega
theorem WordAligns (a0 : Int) (a1 : Int) (w0 : (Lit.int .u32 a0).wf = true) (w1 : (Lit.int .u32 a1).wf = true) : ∃ k, grottolaw01_WordAligns.f k a0 a1 = some true := by
  refine ⟨100, ?_⟩
  have h1 := wf_u32 w0
  have h2 := wf_u32 w1
  have hl := live_k (show 100 ≤ 100 by omega)
  unfold grottolaw01_WordAligns.f
  by_cases h0 : a1 = 0
  · have e1 : word_Align.f a0 a1 = some (0, false) := by unfold word_Align.f; rw [if_pos h0]
    have e2 : grottoref01_Align.f a0 a1 = some (0, false) := by unfold grottoref01_Align.f; rw [if_pos h0]
    rw [e1, Option.bind_some, e2, Option.bind_some]
    dsimp only
    rw [if_pos rfl, if_neg (by simp), if_neg (by simp), hl, Option.bind_some]
  · obtain ⟨x, rfl⟩ : ∃ x : Nat, a0 = x := ⟨a0.toNat, by omega⟩
    obtain ⟨t, rfl⟩ : ∃ t : Nat, a1 = t := ⟨a1.toNat, by omega⟩
    have ht : 0 < t := by omega
    have nm := next_multiple (x := x) ht
    have hr := Nat.mod_lt x ht
    have hxle : x % t ≤ x := Nat.mod_le _ _
    have td : Int.tdiv ((x + t - 1 : Nat) : Int) (t : Int) = (((x + t - 1) / t : Nat) : Int) := by rw [Int.tdiv_eq_ediv_of_nonneg (by omega)]; exact (Int.natCast_ediv _ _).symm
    have tm : Int.tmod (x : Int) (t : Int) = ((x % t : Nat) : Int) := by rw [Int.tmod_eq_emod_of_nonneg (by omega)]; exact (Int.natCast_emod _ _).symm
    have tm2 : Int.tmod (((x + t - 1) / t * t : Nat) : Int) (t : Int) = 0 := by
      rw [Int.tmod_eq_emod_of_nonneg (by omega), ← Int.natCast_emod, Nat.mul_mod_left]; rfl
    have hmul : (x + t - 1) / t * t ≤ x + t - 1 := Nat.div_mul_le_self _ _
    have w1 : Unit → IntKind.u64.wrap (x : Int) = (x : Int) := fun _ => u64w (by omega) (by omega)
    have w2 : Unit → IntKind.u64.wrap (t : Int) = (t : Int) := fun _ => u64w (by omega) (by omega)
    have w3 : Unit → IntKind.u64.wrap ((x : Int) + (t : Int)) = ((x + t : Nat) : Int) := fun _ => by rw [u64w (by omega) (by omega)]; omega
    have w4 : Unit → IntKind.u64.wrap (((x + t : Nat) : Int) - 1) = ((x + t - 1 : Nat) : Int) := fun _ => by rw [u64w (by omega) (by omega)]; omega
    have hdl : (x + t - 1) / t ≤ x + t - 1 := Nat.div_le_self _ _
    have w6a : (((x + t - 1) / t : Nat) : Int) * (t : Int) = (((x + t - 1) / t * t : Nat) : Int) := (Int.natCast_mul _ _).symm
    generalize (x + t - 1) / t * t = m at *
    generalize (x + t - 1) / t = d at *
    generalize x % t = r at *
    have w5 : Unit → IntKind.u64.wrap ((d : Nat) : Int) = ((d : Nat) : Int) := fun _ => u64w (by omega) (by omega)
    have w6 : Unit → IntKind.u64.wrap (((d : Nat) : Int) * (t : Int)) = ((m : Nat) : Int) := fun _ => by
      rw [w6a]; exact u64w (by omega) (by omega)
    have wa : word_Align.f (x : Int) (t : Int) = if ((m : Nat) : Int) > 4294967295 then some (0, false) else some (((m : Nat) : Int) % 4294967296, true) := by
      unfold word_Align.f
      rw [if_neg h0, w2 (), if_neg h0, w1 (), w3 (), w4 (), td, w5 (), w6 ()]
    have wr : grottoref01_Align.f (x : Int) (t : Int) = if ((m : Nat) : Int) > 4294967295 then some (0, false) else some (((m : Nat) : Int) % 4294967296, true) := by
      unfold grottoref01_Align.f
      rw [if_neg h0, w64 (n := (t : Int)) (by omega) (by omega), if_neg h0, w64 (n := (x : Int)) (by omega) (by omega), tm, w64 (n := (x : Int) + (t : Int)) (by omega) (by omega), w64 (n := (x : Int) + (t : Int) - ((r : Nat) : Int)) (by omega) (by omega), nm]
      by_cases c : r = 0
      · rw [if_pos (by omega), if_pos c, if_neg (by omega), if_neg (by omega)]
      · have e : ((x + t - r : Nat) : Int) = (x : Int) + (t : Int) - ((r : Nat) : Int) := by omega
        rw [if_neg (by omega), if_neg c, e]
        by_cases c2 : (x : Int) + (t : Int) - ((r : Nat) : Int) ≥ 4294967296
        · rw [if_pos c2, if_pos (by omega)]
        · rw [if_neg c2, if_neg (by omega)]
    rw [wa, wr]
    by_cases c : ((m : Nat) : Int) > 4294967295
    · rw [if_pos c, Option.bind_some, Option.bind_some]
      dsimp only
      rw [if_pos rfl, if_neg (by simp), if_neg (by simp), hl, Option.bind_some]
    · have e0 : ((m : Nat) : Int) % 4294967296 = ((m : Nat) : Int) := by omega
      have hge : x ≤ m ∧ m - x < t := by
        rw [nm]; split <;> omega
      rw [if_neg c, Option.bind_some, Option.bind_some]
      dsimp only
      rw [if_pos rfl, if_neg (by simp), if_pos rfl, if_neg h0, e0, tm2, if_pos rfl, if_pos (by omega), if_pos (by omega), hl, Option.bind_some]
end Go.Proofs.YtefdfmnlcfopaaaDoor.Pure
