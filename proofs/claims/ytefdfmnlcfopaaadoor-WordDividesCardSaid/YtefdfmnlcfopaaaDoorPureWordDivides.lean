/- Quotients and what is left, of any two words, are the reference's: for every two words. -/
import Derived.Test.YtefdfmnlcfopaaaDoorPQx10
import Derived.Test.YtefdfmnlcfopaaaDoorDv
namespace Go.Proofs.YtefdfmnlcfopaaaDoor.Pure
open Go.RowKit Go.Proofs.YtefdfmnlcfopaaaDoor.PQ Go.Proofs.YtefdfmnlcfopaaaDoorW.PrintWords Go.Proofs.YtefdfmnlcfopaaaDoorW.PrintLast Go.Proofs.YtefdfmnlcfopaaaDoorW.PrintMore
theorem rabs_eq {s : Int} (h : -2147483648 ≤ s) (h' : s < 2147483648) : grottoref01_abs.f s = some (if s < 0 then -s else s) := by
  unfold grottoref01_abs.f
  split
  · rw [w64 (by omega) (by omega)]
  · rfl
theorem rdiv_eq {a b : Int} (h1 : 0 ≤ a ∧ a < 4294967296) (h2 : 0 ≤ b ∧ b < 4294967296) (h0 : b ≠ 0) : grottoref01_Div.f a b = some (Int.tdiv (wrap32 a) (wrap32 b) % 4294967296, 0) := by
  have i1 := i32_cases h1.1 h1.2
  have i2 := i32_cases h2.1 h2.2
  unfold grottoref01_Div.f
  rw [if_neg h0, int_eq h1.1 h1.2, Option.bind_some, int_eq h2.1 h2.2, Option.bind_some]
  have bs : -2147483648 ≤ wrap32 a ∧ wrap32 a < 2147483648 := by omega
  have bt : -2147483648 ≤ wrap32 b ∧ wrap32 b < 2147483648 ∧ wrap32 b ≠ 0 := by omega
  clear i1 i2 h1 h2 h0
  generalize wrap32 a = s at *
  generalize wrap32 b = t at *
  rw [rabs_eq bs.1 bs.2, Option.bind_some, rabs_eq bt.1 bt.2.1, Option.bind_some, if_neg (by split <;> omega)]
  have hq : ∀ x y : Int, 0 ≤ x → x ≤ 2147483648 → 0 < y → 0 ≤ Int.tdiv x y ∧ Int.tdiv x y ≤ 2147483648 := by
    intro x y hx hx' hy
    rw [Int.tdiv_eq_ediv_of_nonneg hx]
    exact ⟨Int.ediv_nonneg hx (by omega), Int.le_trans (Int.ediv_le_self _ hx) hx'⟩
  by_cases hs : s < 0 <;> by_cases ht : t < 0
  · have q := hq (-s) (-t) (by omega) (by omega) (by omega)
    rw [decide_eq_true hs, decide_eq_true ht, if_pos hs, if_pos ht, if_neg (by simp), of_eq, Option.bind_some, w64 (by omega) (by omega), Int.neg_tdiv, Int.tdiv_neg, Int.neg_neg]
  · have q := hq (-s) t (by omega) (by omega) (by omega)
    rw [decide_eq_true hs, decide_eq_false ht, if_pos hs, if_neg ht, if_pos (by rfl), of_eq, Option.bind_some, w64 (n := Int.tdiv (-s) t) (by omega) (by omega), w64 (by omega) (by omega), Int.neg_tdiv, Int.neg_neg]
  · have q := hq s (-t) (by omega) (by omega) (by omega)
    rw [decide_eq_false hs, decide_eq_true ht, if_neg hs, if_pos ht, if_pos (by rfl), of_eq, Option.bind_some, w64 (n := Int.tdiv s (-t)) (by omega) (by omega), w64 (by omega) (by omega), Int.tdiv_neg, Int.neg_neg]
  · have q := hq s t (by omega) (by omega) (by omega)
    rw [decide_eq_false hs, decide_eq_false ht, if_neg hs, if_neg ht, if_neg (by simp), of_eq, Option.bind_some, w64 (by omega) (by omega)]
theorem rmod_eq {a b : Int} (h1 : 0 ≤ a ∧ a < 4294967296) (h2 : 0 ≤ b ∧ b < 4294967296) (h0 : b ≠ 0) : grottoref01_Mod.f a b = some (Int.tmod (wrap32 a) (wrap32 b) % 4294967296, 0) := by
  have i1 := i32_cases h1.1 h1.2
  have i2 := i32_cases h2.1 h2.2
  unfold grottoref01_Mod.f
  have bs : -2147483648 ≤ wrap32 a ∧ wrap32 a < 2147483648 := by omega
  have bt : -2147483648 ≤ wrap32 b ∧ wrap32 b < 2147483648 ∧ wrap32 b ≠ 0 := by omega
  rw [if_neg h0, int_eq h1.1 h1.2, Option.bind_some, rabs_eq bs.1 bs.2, Option.bind_some, int_eq h2.1 h2.2, Option.bind_some, rabs_eq bt.1 bt.2.1, Option.bind_some]
  clear i1 i2 h1 h2 h0
  generalize wrap32 a = s at *
  generalize wrap32 b = t at *
  rw [if_neg (by split <;> omega)]
  have hq : ∀ x y : Int, 0 ≤ x → y ≤ 2147483648 → 0 < y → 0 ≤ Int.tmod x y ∧ Int.tmod x y ≤ 2147483648 := by
    intro x y hx hx' hy
    rw [Int.tmod_eq_emod_of_nonneg hx]
    exact ⟨Int.emod_nonneg _ (by omega), by have := Int.emod_lt_of_pos x hy; omega⟩
  have tm : Int.tmod s (if t < 0 then -t else t) = Int.tmod s t := by
    split
    · rw [Int.tmod_neg]
    · rfl
  by_cases hs : s < 0
  · have q := hq (-s) (if t < 0 then -t else t) (by omega) (by split <;> omega) (by split <;> omega)
    rw [if_pos hs, if_pos hs, of_eq, Option.bind_some, w64 (by omega) (by omega), Int.neg_tmod, Int.neg_neg, tm]
  · rw [if_neg hs, if_neg hs, of_eq, Option.bind_some, tm]
theorem WordDivides (a0 : Int) (a1 : Int) (w0 : (Lit.int .u32 a0).wf = true) (w1 : (Lit.int .u32 a1).wf = true) : ∃ k, grottolaw01_WordDivides.f k a0 a1 = some true := by
  refine ⟨100, ?_⟩
  have h1 := wf_u32 w0
  have h2 := wf_u32 w1
  unfold grottolaw01_WordDivides.f
  by_cases h0 : a1 = 0
  · have e1 : word_Div.f a0 a1 = some (0, 10) := by unfold word_Div.f; rw [if_pos h0]
    have e2 : word_Mod.f a0 a1 = some (0, 10) := by unfold word_Mod.f; rw [e1]; rfl
    have e3 : grottoref01_Div.f a0 a1 = some (0, 10) := by unfold grottoref01_Div.f; rw [if_pos h0]
    have e4 : grottoref01_Mod.f a0 a1 = some (0, 10) := by unfold grottoref01_Mod.f; rw [if_pos h0]
    rw [e1, e2, e3, e4]
    simp only [grottolaw01_num.f, Option.bind_some, if_true, live_k (show 100 ≤ 100 by omega)]
  · rw [div_eq h1 h2 h0, Option.bind_some, mod_eq h1 h2 h0, Option.bind_some, rdiv_eq h1 h2 h0, Option.bind_some, rmod_eq h1 h2 h0, Option.bind_some]
    simp only [grottolaw01_num.f, Option.bind_some, if_true, live_k (show 100 ≤ 100 by omega)]
end Go.Proofs.YtefdfmnlcfopaaaDoor.Pure
