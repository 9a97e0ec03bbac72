/- What is reckoned of two singles is what is reckoned of their doubles, made a single (but whole quotients): for every number of what is done and every two singles. -/
import Derived.Test.YthkifpdachjlgaaPQx38
import Derived.Test.YthkifpdachjlgaaRK
import Derived.Test.YthkifpdachjlgaaLive04
namespace Go.Proofs.Ythkifpdachjlgaa.Pure
set_option linter.all false
open Go.RowKit Go.Proofs.Ythkifpdachjlgaa.PQ Go.Proofs.YthkifpdachjlgaaW.PrintWords Go.Proofs.YthkifpdachjlgaaW.PrintLast Go.Proofs.YthkifpdachjlgaaW.PrintMore
open FT RS
theorem RealsAgree (op : Int) (a1 : Int) (a2 : Int) (_w0 : (Lit.int .i64 op).wf = true) (w1 : (Lit.int .u32 a1).wf = true) (w2 : (Lit.int .u32 a2).wf = true) : ∃ k, grottolaw04_RealsAgree.f k op a1 a2 = some true := by
  obtain ⟨a, rfl, ha⟩ := wf_u32 w1
  obtain ⟨b, rfl, hb⟩ := wf_u32 w2
  clear w1 w2 _w0
  refine ⟨6001, ?_⟩
  have pa := pt_s.2 ha
  have pb := pt_s.2 hb
  have pxa := pt_conv (M := 23) (X := 8) (M' := 52) (X' := 11) (by omega) (by omega) (by omega) (by omega) a
  have pxb := pt_conv (M := 23) (X := 8) (M' := 52) (X' := 11) (by omega) (by omega) (by omega) (by omega) b
  have hy := pt_d.1 (pt_reck (M := 52) (X := 11) (by omega) (by omega) (by omega) (by omega) op pxa (convS 23 8 52 11 b))
  have l1 : grottolaw04_live.f 6000 = some true := live04_k (by omega)
  unfold grottolaw04_RealsAgree.f
  rw [single_eq (by omega) op ha hb, Option.bind_some, widen_eq (by omega) ha, Option.bind_some, widen_eq (by omega) hb, Option.bind_some, double_eq (by omega) op (pt_d.1 pxa) (pt_d.1 pxb), Option.bind_some]
  have bad : (op < 1 ∨ 9 < op) → grottolaw04_RealsAgree.j0 6001 op ((reck 23 8 op a b : Nat) : Int) (rerr op) ((reck 52 11 op (convS 23 8 52 11 a) (convS 23 8 52 11 b) : Nat) : Int) (rerr op) true = some true := by
    intro h
    have e1 : rerr op = 1 := by unfold rerr; rw [if_neg (by omega)]
    have z : ∀ M X x y, reck M X op x y = 0 := by
      intro M X x y
      unfold reck
      simp only [show op ≠ 1 by omega, show op ≠ 2 by omega, show op ≠ 3 by omega, show op ≠ 4 by omega, show op ≠ 5 by omega, show op ≠ 6 by omega, show op ≠ 7 by omega, show op ≠ 8 by omega, show op ≠ 9 by omega, if_false]
    rw [grottolaw04_RealsAgree.j0.eq_2, if_pos rfl, e1, z, z]
    simp only [grottolaw04_num.f, Option.bind_some, if_true, l1]
    rfl
  dsimp only
  by_cases h1 : op < 1
  · rw [if_pos h1]; exact bad (Or.inl h1)
  · rw [if_neg h1]
    by_cases h9 : 9 < op
    · rw [decide_eq_true (show op > 9 from h9)]; exact bad (Or.inr h9)
    · have e0 : rerr op = 0 := by unfold rerr; rw [if_pos (by omega)]
      have w0 : wrap64 (0 + 0) = 0 := by decide +kernel
      rw [decide_eq_false (show ¬ op > 9 from h9), grottolaw04_RealsAgree.j0.eq_2, if_neg (by simp), e0]
      simp only [grottolaw04_num.f, Option.bind_some]
      rw [w0, if_pos rfl, l1]
      by_cases h6 : op = 6
      · rw [if_pos h6]; rfl
      · rw [if_neg h6, narrow_eq (by omega) hy, Option.bind_some]
        have key : reck 23 8 op a b = convS 52 11 23 8 (reck 52 11 op (convS 23 8 52 11 a) (convS 23 8 52 11 b)) := by
          have s1 := wide_add (M := 23) (X := 8) (M' := 52) (X' := 11) (by omega) (by omega) (by omega) (by omega) (by omega) (by omega) pa pb
          have s2 := wide_sub (M := 23) (X := 8) (M' := 52) (X' := 11) (by omega) (by omega) (by omega) (by omega) (by omega) (by omega) pa pb
          have s3 := wide_mul (M := 23) (X := 8) (M' := 52) (X' := 11) (by omega) (by omega) (by omega) (by omega) (by omega) (by omega) pa pb
          have s4 := wide_div (M := 23) (X := 8) (M' := 52) (X' := 11) (by omega) (by omega) (by omega) (by omega) (by omega) (by omega) pa pb
          have s5 := wide_mod (M := 23) (X := 8) (M' := 52) (X' := 11) (by omega) (by omega) (by omega) (by omega) (by omega) (by omega) pa pb
          have s7 := wide_sqrt (M := 23) (X := 8) (M' := 52) (X' := 11) (by omega) (by omega) (by omega) (by omega) (by omega) (by omega) pa
          have s8 := wide_step (M := 23) (X := 8) (M' := 52) (X' := 11) (by omega) (by omega) (by omega) (by omega) (by omega) (by omega) pa true
          have s9 := wide_step (M := 23) (X := 8) (M' := 52) (X' := 11) (by omega) (by omega) (by omega) (by omega) (by omega) (by omega) pa false
          unfold reck
          rcases op_cases op with h | h | h | h | h | h | h | h | h | h
          · rw [if_pos h, if_pos h, s1]
          · rw [if_neg (by omega), if_pos h, if_neg (by omega), if_pos h, s2]
          · subst h; simp (config := { decide := true }) only [if_true, if_false, s3]
          · subst h; simp (config := { decide := true }) only [if_true, if_false, s4]
          · subst h; simp (config := { decide := true }) only [if_true, if_false, s5]
          · exact absurd h h6
          · subst h; simp (config := { decide := true }) only [if_true, if_false, s7]
          · subst h; simp (config := { decide := true }) only [if_true, if_false, s8]
          · subst h; simp (config := { decide := true }) only [if_true, if_false, s9]
          · omega
        rw [key, if_pos rfl]; rfl
end Go.Proofs.Ythkifpdachjlgaa.Pure
