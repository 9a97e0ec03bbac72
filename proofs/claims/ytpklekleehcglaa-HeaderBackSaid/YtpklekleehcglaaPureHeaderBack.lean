/- What is made says what it was made of: its numbers, the sum of its bytes, and the rest behind 36 bytes; what cannot be made is nothing. -/
import Derived.Test.YtpklekleehcglaaPQx14
import Derived.Test.YtpklekleehcglaaHM
namespace Go.Proofs.Ytpklekleehcglaa.Pure
set_option linter.all false
open Go.RowKit Go.Proofs.Ytpklekleehcglaa.PQ Go.Proofs.YtpklekleehcglaaW.PrintWords Go.Proofs.YtpklekleehcglaaW.PrintLast
theorem HeaderBack (a0_0 a0_1 a0_2 a0_3 a0_4 a0_5 a0_6 a0_7 : Int) (l1 : List Int) (w0 : (Lit.int .u32 a0_0).wf = true) (w1 : (Lit.int .u32 a0_1).wf = true) (w2 : (Lit.int .u32 a0_2).wf = true) (w3 : (Lit.int .u32 a0_3).wf = true) (w4 : (Lit.int .u32 a0_4).wf = true) (w5 : (Lit.int .u32 a0_5).wf = true) (w6 : (Lit.int .u32 a0_6).wf = true) (w7 : (Lit.int .u32 a0_7).wf = true)
    (_hl : l1.length ≤ maxLen) (_hm : l1.length * 1 ≤ 140737488351232) (hw : ∀ x ∈ l1, (Lit.int .u8 x).wf = true) : ∃ k, grottolaw07_HeaderBack.f k a0_0 a0_1 a0_2 a0_3 a0_4 a0_5 a0_6 a0_7 l1 = some true := by
  have hb : Byt l1 := fun x hx => wf_u8 (hw x hx)
  have nat : ∀ a : Int, (Lit.int .u32 a).wf = true → ∃ n : Nat, a = (n : Int) ∧ n < 4294967296 := fun a h => ⟨a.toNat, by have := wf_u32 h; omega, by have := wf_u32 h; omega⟩
  obtain ⟨h0, rfl, r0⟩ := nat _ w0
  obtain ⟨h1, rfl, r1⟩ := nat _ w1
  obtain ⟨h2, rfl, r2⟩ := nat _ w2
  obtain ⟨h3, rfl, r3⟩ := nat _ w3
  obtain ⟨h4, rfl, r4⟩ := nat _ w4
  obtain ⟨h5, rfl, r5⟩ := nat _ w5
  obtain ⟨h6, rfl, r6⟩ := nat _ w6
  refine ⟨400000, ?_⟩
  have num : ∀ x : Int, grottolaw07_num.f x = some x := fun x => rfl
  have lv : grottolaw07_live.f 400000 = some true := live_k (by omega)
  unfold grottolaw07_HeaderBack.f
  rw [lv]
  by_cases c : (l1.length : Int) > 65536
  · rw [if_pos c]; rfl
  rw [if_neg c, make_eq a0_7 hb (by omega) (by omega), Option.bind_some]
  have ml : (made h0 h1 h2 h3 h4 h5 h6 l1).length = 36 + l1.length := made_len
  have mb : Byt (made h0 h1 h2 h3 h4 h5 h6 l1) := made_byt hb
  obtain ⟨k0, k1, k2, k3, k4, k5, k6, k7⟩ := made_words (rest := l1) r0 r1 r2 r3 r4 r5 r6
  rcases told_cases (made h0 h1 h2 h3 h4 h5 h6 l1) with ⟨e, a, h, he, _, _⟩ | ⟨h, _, _, _, _, _, hs⟩
  · have hm : make h0 h1 h2 h3 h4 h5 h6 l1 = ([], e) := by
      unfold make
      rw [h]
      exact if_neg he
    rw [hm]
    dsimp only
    rw [num, Option.bind_some, if_neg he]
    rfl
  · have hm : make h0 h1 h2 h3 h4 h5 h6 l1 = (made h0 h1 h2 h3 h4 h5 h6 l1, 0) := by
      unfold make
      rw [h]
      exact if_pos rfl
    rw [hm]
    dsimp only
    rw [num, Option.bind_some, if_pos rfl, parse_eq mb (by omega) (by omega), Option.bind_some, sum_eq mb (by omega) (by omega), Option.bind_some, h, k0, k1, k2, k3, k4, k5, k6]
    rw [k7] at hs
    rw [k7, hs]
    dsimp only
    have d : (made h0 h1 h2 h3 h4 h5 h6 l1).drop 36 = l1 := by
      unfold made
      rw [List.drop_append, List.drop_of_length_le (by rw [head32_len]; omega), head32_len, List.nil_append, List.drop_append, List.drop_of_length_le (by rw [byts_len]; omega), byts_len, List.nil_append]
      rfl
    rw [if_pos (by simp only [beq_self_eq_true, Bool.and_self]), num, Option.bind_some, if_pos rfl, if_pos rfl, if_pos (by rw [ml, w64 (by omega) (by omega)]; omega), if_pos (by omega), d, if_pos rfl]
    rfl
end Go.Proofs.Ytpklekleehcglaa.Pure
