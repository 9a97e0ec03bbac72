/- A word is quotient times divisor and what is left; what is left is nearer to 0 than the divisor, and on the side of what was divided: for every two words. -/
import Derived.Test.YtefdfmnlcfopaaaDoorPQx11
import Derived.Test.YtefdfmnlcfopaaaDoorDv
namespace Go.Proofs.YtefdfmnlcfopaaaDoor.Pure
set_option linter.all false
open Go.RowKit Go.Proofs.YtefdfmnlcfopaaaDoor.PQ Go.Proofs.YtefdfmnlcfopaaaDoorW.PrintWords Go.Proofs.YtefdfmnlcfopaaaDoorW.PrintLast Go.Proofs.YtefdfmnlcfopaaaDoorW.PrintMore
theorem rem_facts {s t : Int} (ht : t ≠ 0) : (0 ≤ s → 0 ≤ Int.tmod s t) ∧ (s ≤ 0 → Int.tmod s t ≤ 0) ∧ Int.tmod s t < (if t < 0 then -t else t) ∧ -Int.tmod s t < (if t < 0 then -t else t) := by
  have hp : 0 < (if t < 0 then -t else t) := by split <;> omega
  have tm : Int.tmod s (if t < 0 then -t else t) = Int.tmod s t := by
    split
    · rw [Int.tmod_neg]
    · rfl
  rw [← tm]
  generalize (if t < 0 then -t else t) = u at *
  by_cases h : 0 ≤ s
  · rw [Int.tmod_eq_emod_of_nonneg h]
    have h1 := Int.emod_nonneg s (show u ≠ 0 by omega)
    have h2 := Int.emod_lt_of_pos s hp
    refine ⟨fun _ => h1, fun h3 => ?_, h2, by omega⟩
    have : s = 0 := by omega
    rw [this, Int.zero_emod]; omega
  · have e : Int.tmod s u = -((-s) % u) := by
      have h3 : Int.tmod (-(-s)) u = -Int.tmod (-s) u := Int.neg_tmod ..
      rw [Int.neg_neg] at h3
      rw [h3, Int.tmod_eq_emod_of_nonneg (by omega)]
    have h1 := Int.emod_nonneg (-s) (show u ≠ 0 by omega)
    have h2 := Int.emod_lt_of_pos (-s) hp
    rw [e]
    exact ⟨fun h3 => absurd h3 h, fun _ => by omega, by omega, by omega⟩
theorem back_mod {a b s t q r : Int} (ha : s % 4294967296 = a) (hb : t % 4294967296 = b % 4294967296) (h : q * t + r = s) : ((q % 4294967296 * b) % 4294967296 + r % 4294967296) % 4294967296 = a := by
  rw [Int.mul_emod, Int.emod_emod, ← hb, ← Int.mul_emod, ← Int.add_emod, h, ha]
theorem WordQuotients (a0 : Int) (a1 : Int) (w0 : (Lit.int .u32 a0).wf = true) (w1 : (Lit.int .u32 a1).wf = true) : ∃ k, grottolaw01_WordQuotients.f k a0 a1 = some true := by
  refine ⟨100, ?_⟩
  have h1 := wf_u32 w0
  have h2 := wf_u32 w1
  have hl := live_k (show 100 ≤ 100 by omega)
  have nm : ∀ x, grottolaw01_num.f x = some x := fun _ => rfl
  unfold grottolaw01_WordQuotients.f
  by_cases h0 : a1 = 0
  · have e1 : word_Div.f a0 a1 = some (0, 10) := by unfold word_Div.f; rw [if_pos h0]
    have e2 : word_Mod.f a0 a1 = some (0, 10) := by unfold word_Mod.f; rw [e1]; rfl
    rw [e1, Option.bind_some, e2, Option.bind_some, if_pos h0]
    dsimp only
    rw [if_pos rfl, if_pos rfl, nm, Option.bind_some, if_pos rfl, Option.bind_some, if_pos rfl, hl, Option.bind_some]
  · have i1 := i32_cases h1.1 h1.2
    have i2 := i32_cases h2.1 h2.2
    have bs : -2147483648 ≤ wrap32 a0 ∧ wrap32 a0 < 2147483648 := by omega
    have bt : -2147483648 ≤ wrap32 a1 ∧ wrap32 a1 < 2147483648 ∧ wrap32 a1 ≠ 0 := by omega
    have ha : wrap32 a0 % 4294967296 = a0 := by omega
    have hb := wrap32_mod a1
    have hdm : Int.tdiv (wrap32 a0) (wrap32 a1) * wrap32 a1 + Int.tmod (wrap32 a0) (wrap32 a1) = wrap32 a0 := by
      rw [Int.tmod_def, Int.mul_comm]; omega
    have bm := back_mod ha hb hdm
    obtain ⟨r1, r2, r3, r4⟩ := rem_facts (s := wrap32 a0) bt.2.2
    rw [div_eq h1 h2 h0, Option.bind_some, mod_eq h1 h2 h0, Option.bind_some, if_neg h0, int_eq h1.1 h1.2, Option.bind_some, int_eq h2.1 h2.2, Option.bind_some]
    dsimp only
    have ub : (if wrap32 a1 < 0 then -wrap32 a1 else wrap32 a1) ≤ 2147483648 := by split <;> omega
    have hz : wrap32 (Int.tmod (wrap32 a0) (wrap32 a1) % 4294967296) = Int.tmod (wrap32 a0) (wrap32 a1) := by
      have b1 : -2147483648 < Int.tmod (wrap32 a0) (wrap32 a1) := by omega
      have b2 : Int.tmod (wrap32 a0) (wrap32 a1) < 2147483648 := by omega
      generalize Int.tmod (wrap32 a0) (wrap32 a1) = z at *
      clear r1 r2 r3 r4 bm hdm
      unfold wrap32; omega
    have hzi := int_eq (a := Int.tmod (wrap32 a0) (wrap32 a1) % 4294967296) (Int.emod_nonneg _ (by decide)) (Int.emod_lt_of_pos _ (by decide))
    rw [hz] at hzi
    have w0 : wrap64 (0 + 0) = 0 := by decide +kernel
    rw [hzi, Option.bind_some, nm, Option.bind_some, Option.bind_some, w0, if_pos rfl, if_pos bm]
    clear hz hzi bm hdm ha hb i1 i2
    generalize Int.tmod (wrap32 a0) (wrap32 a1) = z at *
    generalize wrap32 a0 = s at *
    generalize wrap32 a1 = t at *
    have hmx : mx t (wrap64 (-t)) = if t < 0 then -t else t := by
      rw [w64 (by omega) (by omega)]; unfold mx; split <;> split <;> omega
    rw [hmx]
    generalize (if t < 0 then -t else t) = u at *
    have wz : wrap64 (-z) = -z := w64 (by omega) (by omega)
    rw [wz]
    by_cases c1 : s ≥ 0
    · have := r1 c1
      rw [if_pos c1, if_neg (by omega)]
      by_cases c2 : s ≤ 0
      · have := r2 c2
        rw [if_pos c2, if_neg (by omega), if_pos r3, if_pos r4, hl, Option.bind_some]
      · rw [if_neg c2, if_pos r3, if_pos r4, hl, Option.bind_some]
    · have := r2 (by omega)
      rw [if_neg c1, if_pos (by omega), if_neg (by omega), if_pos r3, if_pos r4, hl, Option.bind_some]
end Go.Proofs.YtefdfmnlcfopaaaDoor.Pure
