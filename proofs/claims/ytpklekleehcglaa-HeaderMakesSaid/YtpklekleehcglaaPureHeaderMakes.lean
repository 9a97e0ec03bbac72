/- The game of any header and rest is the document's, or refused as it says; the rest stays. -/
import Derived.Test.YtpklekleehcglaaPQx13
import Derived.Test.YtpklekleehcglaaHN
namespace Go.Proofs.Ytpklekleehcglaa.Pure
set_option linter.all false
open Go.RowKit Go.Proofs.Ytpklekleehcglaa.PQ Go.Proofs.YtpklekleehcglaaW.PrintWords Go.Proofs.YtpklekleehcglaaW.PrintLast
theorem HeaderMakes (a0_0 a0_1 a0_2 a0_3 a0_4 a0_5 a0_6 a0_7 : Int) (l1 : List Int) (w0 : (Lit.int .u32 a0_0).wf = true) (w1 : (Lit.int .u32 a0_1).wf = true) (w2 : (Lit.int .u32 a0_2).wf = true) (w3 : (Lit.int .u32 a0_3).wf = true) (w4 : (Lit.int .u32 a0_4).wf = true) (w5 : (Lit.int .u32 a0_5).wf = true) (w6 : (Lit.int .u32 a0_6).wf = true) (w7 : (Lit.int .u32 a0_7).wf = true)
    (_hl : l1.length ≤ maxLen) (_hm : l1.length * 1 ≤ 140737488351232) (hw : ∀ x ∈ l1, (Lit.int .u8 x).wf = true) : ∃ k, grottolaw07_HeaderMakes.f k a0_0 a0_1 a0_2 a0_3 a0_4 a0_5 a0_6 a0_7 l1 = some true := by
  have hb : Byt l1 := fun x hx => wf_u8 (hw x hx)
  have nat : ∀ a : Int, (Lit.int .u32 a).wf = true → ∃ n : Nat, a = (n : Int) ∧ n < 4294967296 := fun a h => ⟨a.toNat, by have := wf_u32 h; omega, by have := wf_u32 h; omega⟩
  obtain ⟨h0, rfl, r0⟩ := nat _ w0
  obtain ⟨h1, rfl, r1⟩ := nat _ w1
  obtain ⟨h2, rfl, r2⟩ := nat _ w2
  obtain ⟨h3, rfl, r3⟩ := nat _ w3
  obtain ⟨h4, rfl, r4⟩ := nat _ w4
  obtain ⟨h5, rfl, r5⟩ := nat _ w5
  obtain ⟨h6, rfl, r6⟩ := nat _ w6
  refine ⟨1300000, ?_⟩
  have num : ∀ x : Int, grottolaw07_num.f x = some x := fun x => rfl
  have lv : grottolaw07_live.f 1300000 = some true := live_k (by omega)
  unfold grottolaw07_HeaderMakes.f
  rw [lv]
  by_cases c : (l1.length : Int) > 65536
  · rw [if_pos c]; rfl
  have hL : grottoref01_Lent.f l1 = some l1 := by unfold grottoref01_Lent.f; rw [if_pos (by omega)]
  have hK : grottoref01_Kept.f l1 l1 = some true := by unfold grottoref01_Kept.f; rw [if_pos rfl, if_pos (by omega)]
  rw [if_neg c, hL, Option.bind_some, make_eq a0_7 hb (by omega) (by omega), Option.bind_some, rmake_eq r0 r1 r2 r3 r4 r5 r6 a0_7 hb (by omega) (by omega), Option.bind_some]
  have hS : grottoref01_Same.f (make h0 h1 h2 h3 h4 h5 h6 l1).1 (make h0 h1 h2 h3 h4 h5 h6 l1).1 = some true := by unfold grottoref01_Same.f; rw [beq_self_eq_true]
  rw [hS, Option.bind_some, if_pos rfl, num, Option.bind_some, if_pos rfl, hK]
  rfl
end Go.Proofs.Ytpklekleehcglaa.Pure
