/- Of below, alike and above just one holds of any two words, with signs and without; each comparison's contrary holds just if it does not; the order goes on: for any three words. -/
import Derived.Test.YtefdfmnlcfopaaaPQx2
namespace Go.Proofs.Ytefdfmnlcfopaaa.Pure
set_option linter.all false
open Go.RowKit Go.Proofs.Ytefdfmnlcfopaaa.PQ Go.Proofs.YtefdfmnlcfopaaaW.PrintWords Go.Proofs.YtefdfmnlcfopaaaW.PrintLast Go.Proofs.YtefdfmnlcfopaaaW.PrintMore
theorem wf_u32 {a : Int} (h : (Lit.int .u32 a).wf = true) : 0 ≤ a ∧ a < 4294967296 := by
  simp [Lit.wf, IntKind.min, IntKind.max, IntKind.signed, IntKind.bits] at h
  omega
theorem wo_step (f : Int → Int) {a b c i lt ge gt le : Int} (hf : f a = f b ↔ a = b) (hlt : ∀ a b, word_Holds.f lt a b = some (decide (f a < f b))) (hge : ∀ a b, word_Holds.f ge a b = some (decide (f a ≥ f b)))
    (hgt : ∀ a b, word_Holds.f gt a b = some (decide (f a > f b))) (hle : ∀ a b, word_Holds.f le a b = some (decide (f a ≤ f b))) (k : Nat) :
    ((word_Holds.f lt a b).bind fun t103 => (if t103 = true then (grottolaw01_WordOrder.j1 (k + 4) a b c i lt ge gt le (0 + 1)) else (grottolaw01_WordOrder.j1 (k + 4) a b c i lt ge gt le 0))) = grottolaw01_WordOrder.l0 k a b c (wrap64 (i + 1)) := by
  have h1 : ∀ a b, word_Holds.f 1 a b = some (a == b) := fun a b => by unfold word_Holds.f; rw [if_pos rfl]
  have w1 : wrap64 (0 + 1) = 1 := by decide +kernel
  have w1' : wrap64 (0 + 1 + 1) = 2 := by decide +kernel
  have w2 : wrap64 (1 + 1) = 2 := by decide +kernel
  have tail : grottolaw01_WordOrder.j4 (k + 1) a b c i le false = grottolaw01_WordOrder.l0 k a b c (wrap64 (i + 1)) := by
    rw [grottolaw01_WordOrder.j4.eq_2, if_neg (by simp), hle, hle, hle]
    simp only [Option.bind_some, decide_eq_true_eq]
    by_cases p : f a ≤ f b
    · by_cases q : f b ≤ f c
      · rw [if_pos p, if_pos q, if_pos (by omega)]
      · rw [if_pos p, if_neg q]
    · rw [if_neg p]
  have three : f a < f b ∨ f a = f b ∨ f b < f a := by omega
  simp only [grottolaw01_WordOrder.j1.eq_2, grottolaw01_WordOrder.j2.eq_2, grottolaw01_WordOrder.j3.eq_2, hlt, hge, hgt, hle, h1, Option.bind_some, w1, w1', w2]
  rcases three with h | h | h
  · have hne : (a == b) = false := by
      rw [beq_eq_false_iff_ne]; intro he; have := hf.2 he; omega
    have d1 : decide (f a < f b) = true := decide_eq_true h
    have d2 : decide (f a > f b) = false := decide_eq_false (by omega)
    have d3 : decide (f a ≥ f b) = false := decide_eq_false (by omega)
    have d4 : decide (f a ≤ f b) = true := decide_eq_true (by omega)
    have d5 : decide (f b > f a) = true := decide_eq_true h
    simp only [hne, d1, d2, d3, d4, d5, if_true, if_false, Bool.false_eq_true, bne_self_eq_false]
    simpa using tail
  · have heq : (a == b) = true := by rw [beq_iff_eq]; exact hf.1 h
    have d1 : decide (f a < f b) = false := decide_eq_false (by omega)
    have d2 : decide (f a > f b) = false := decide_eq_false (by omega)
    have d3 : decide (f a ≥ f b) = true := decide_eq_true (by omega)
    have d4 : decide (f a ≤ f b) = true := decide_eq_true (by omega)
    have d5 : decide (f b > f a) = false := decide_eq_false (by omega)
    simp only [heq, d1, d2, d3, d4, d5, if_true, if_false, Bool.false_eq_true, bne_self_eq_false]
    simpa using tail
  · have hne : (a == b) = false := by
      rw [beq_eq_false_iff_ne]; intro he; have := hf.2 he; omega
    have d1 : decide (f a < f b) = false := decide_eq_false (by omega)
    have d2 : decide (f a > f b) = true := decide_eq_true h
    have d3 : decide (f a ≥ f b) = true := decide_eq_true (by omega)
    have d4 : decide (f a ≤ f b) = false := decide_eq_false (by omega)
    have d5 : decide (f b > f a) = false := decide_eq_false (by omega)
    simp only [hne, d1, d2, d3, d4, d5, if_true, if_false, Bool.false_eq_true, bne_self_eq_false]
    simpa using tail
theorem WordOrder (a0 : Int) (a1 : Int) (a2 : Int) (w0 : (Lit.int .u32 a0).wf = true) (w1 : (Lit.int .u32 a1).wf = true) (_w2 : (Lit.int .u32 a2).wf = true) : ∃ k, grottolaw01_WordOrder.f k a0 a1 a2 = some true := by
  have r0 := wf_u32 w0
  have r1 := wf_u32 w1
  refine ⟨11, ?_⟩
  have s := fun k => wo_step (a := a0) (b := a1) (c := a2) (i := 0) (lt := 3) (ge := 4) (gt := 5) (le := 6) wrap32 (by unfold wrap32; omega) (fun a b => rfl) (fun a b => rfl) (fun a b => rfl) (fun a b => rfl) k
  have u := fun k => wo_step (a := a0) (b := a1) (c := a2) (i := 1) (lt := 7) (ge := 8) (gt := 9) (le := 10) (fun a => a) Iff.rfl (fun a b => rfl) (fun a b => rfl) (fun a b => rfl) (fun a b => rfl) k
  have e3 : wrap64 (3 + wrap64 (4 * 0)) = 3 := by decide +kernel
  have e4 : wrap64 (4 + wrap64 (4 * 0)) = 4 := by decide +kernel
  have e5 : wrap64 (5 + wrap64 (4 * 0)) = 5 := by decide +kernel
  have e6 : wrap64 (6 + wrap64 (4 * 0)) = 6 := by decide +kernel
  have e7 : wrap64 (3 + wrap64 (4 * 1)) = 7 := by decide +kernel
  have e8 : wrap64 (4 + wrap64 (4 * 1)) = 8 := by decide +kernel
  have e9 : wrap64 (5 + wrap64 (4 * 1)) = 9 := by decide +kernel
  have e10 : wrap64 (6 + wrap64 (4 * 1)) = 10 := by decide +kernel
  have i1 : wrap64 (0 + 1) = 1 := by decide +kernel
  have i2 : wrap64 (1 + 1) = 2 := by decide +kernel
  unfold grottolaw01_WordOrder.f
  rw [grottolaw01_WordOrder.l0.eq_2, if_pos (by decide), e3, e4, e5, e6, s 6, i1, grottolaw01_WordOrder.l0.eq_2, if_pos (by decide), e7, e8, e9, e10, u 1, i2, grottolaw01_WordOrder.l0.eq_2, if_neg (by decide)]
  have h1 : word_Holds.f 1 a0 a1 = some (a0 == a1) := rfl
  have h2 : word_Holds.f 2 a0 a1 = some (a0 != a1) := rfl
  rw [h1, h2, Option.bind_some, Option.bind_some]
  by_cases h : a0 = a1
  · subst h; simp
  · simp [bne, h]
end Go.Proofs.Ytefdfmnlcfopaaa.Pure
