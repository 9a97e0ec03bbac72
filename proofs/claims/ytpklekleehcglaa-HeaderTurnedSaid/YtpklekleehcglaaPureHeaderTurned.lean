/- A game in which one bit is turned is refused: nothing but a fault is told, at one of the header's places. -/
import Derived.Test.YtpklekleehcglaaPQx15
import Derived.Test.YtpklekleehcglaaHM
namespace Go.Proofs.Ytpklekleehcglaa.Pure
set_option linter.all false
open Go.RowKit Go.Proofs.Ytpklekleehcglaa.PQ Go.Proofs.YtpklekleehcglaaW.PrintWords Go.Proofs.YtpklekleehcglaaW.PrintLast
theorem turn_bit : ∀ v : Fin 256, ∀ t : Fin 8, 0 ≤ Go.bits .xor .u8 (v.val : Int) (shl .u8 1 (t.val : Int)) ∧ Go.bits .xor .u8 (v.val : Int) (shl .u8 1 (t.val : Int)) < 256 ∧ Go.bits .xor .u8 (v.val : Int) (shl .u8 1 (t.val : Int)) ≠ (v.val : Int) := by decide +kernel
theorem mg_bytes {l : List Int} (h36 : 36 ≤ l.length) (g : mg l = true) : bn l 0 = 71 ∧ bn l 1 = 108 ∧ bn l 2 = 117 ∧ bn l 3 = 108 := by
  match l, h36, g with
  | a :: b :: c :: d :: t, _, g =>
    simp only [mg, Bool.and_eq_true, beq_iff_eq] at g
    obtain ⟨rfl, rfl, rfl, rfl⟩ := g
    exact ⟨rfl, rfl, rfl, rfl⟩
/-- one byte is another: a game that was right is refused -/
theorem turned {l : List Int} (hb : Byt l) {j v : Nat} (hj : j < l.length) (hv : v < 256) (hn : v ≠ bn l j) (h : told l = (wd l 0, wd l 1, wd l 2, wd l 3, wd l 4, wd l 5, wd l 6, wd l 7, 0, 36) ∧ mg l = true ∧ 36 ≤ l.length ∧ l.length ≤ 1048576 ∧ wd l 2 = (l.length : Int) ∧ Int.tmod (wd l 2) 256 = 0 ∧ wd l 7 = (hsum l : Int)) :
    ∃ e a, told (l.set j (v : Int)) = bad e a ∧ e ≠ 0 ∧ a ≤ 32 := by
  obtain ⟨_, g, h36, hmax, h2, h256, hs⟩ := h
  rw [h2, Int.tmod_eq_emod_of_nonneg (by omega)] at h256
  have hl : (l.set j (v : Int)).length = l.length := List.length_set
  rcases told_cases (l.set j (v : Int)) with ⟨e, a, h, he, _, ha⟩ | ⟨_, g', _, _, _, _, hs'⟩
  · refine ⟨e, a, h, he, ?_⟩
    rcases ha with ha | ⟨ha, _⟩
    · exact ha
    · rw [hl] at ha; omega
  · exfalso
    unfold wd at hs hs'
    rw [show 4 + 4 * 7 = 32 from rfl] at hs hs'
    have ww := ws_set (l := l) (j := j) (v := (v : Int)) hj (l.length / 4) 0 (by omega) rfl
    by_cases c1 : j < 4
    · have m := mg_bytes h36 g
      have m' := mg_bytes (by omega) g'
      rw [bn_set hj, bn_set hj, bn_set hj, bn_set hj, Int.toNat_natCast] at m'
      have : j = 0 ∨ j = 1 ∨ j = 2 ∨ j = 3 := by omega
      rcases this with e | e | e | e <;> subst e
      · have := m'.1; rw [if_pos rfl] at this; omega
      · have := m'.2.1; rw [if_pos rfl] at this; omega
      · have := m'.2.2.1; rw [if_pos rfl] at this; omega
      · have := m'.2.2.2; rw [if_pos rfl] at this; omega
    · unfold hsum at hs hs'
      rw [hl] at hs'
      by_cases c2 : 32 ≤ j ∧ j < 36
      · rw [if_neg (by omega), if_neg (by omega)] at ww
        have ne := be4_set_ne hb (j := j) (p := 32) (by omega) (by omega) hv hn
        apply ne
        have ww2 : ws (l.set j (v : Int)) (l.length / 4) 0 = ws l (l.length / 4) 0 := by omega
        rw [ww2] at hs'
        omega
      · have hw : 4 * (j / 4) + 4 ≤ l.length := by omega
        rw [be4_set hj (by omega) (by omega)] at hs'
        have ne := be4_set_ne hb (j := j) (p := 4 * (j / 4)) hw (by omega) hv hn
        rw [if_pos (by omega), if_pos (by omega)] at ww
        have b1 := be4_lt hb hw
        have sb : Byt (l.set j (v : Int)) := by
          intro x hx
          rcases List.mem_or_eq_of_mem_set hx with h | h
          · exact hb x h
          · subst h; omega
        have b2 := be4_lt sb (i := 4 * (j / 4)) (by omega)
        generalize be4 l (4 * (j / 4)) = x at *
        generalize be4 (l.set j (v : Int)) (4 * (j / 4)) = y at *
        generalize ws l (l.length / 4) 0 = s at *
        generalize ws (l.set j (v : Int)) (l.length / 4) 0 = s' at *
        generalize be4 l 32 = z at *
        omega
theorem HeaderTurned (a0_0 a0_1 a0_2 a0_3 a0_4 a0_5 a0_6 a0_7 : Int) (l1 : List Int) (a2 : Int) (w0 : (Lit.int .u32 a0_0).wf = true) (w1 : (Lit.int .u32 a0_1).wf = true) (w2 : (Lit.int .u32 a0_2).wf = true) (w3 : (Lit.int .u32 a0_3).wf = true) (w4 : (Lit.int .u32 a0_4).wf = true) (w5 : (Lit.int .u32 a0_5).wf = true) (w6 : (Lit.int .u32 a0_6).wf = true) (w7 : (Lit.int .u32 a0_7).wf = true)
    (_hl : l1.length ≤ maxLen) (_hm : l1.length * 1 ≤ 140737488351232) (hw : ∀ x ∈ l1, (Lit.int .u8 x).wf = true) (w8 : (Lit.int .i64 a2).wf = true) : ∃ k, grottolaw07_HeaderTurned.f k a0_0 a0_1 a0_2 a0_3 a0_4 a0_5 a0_6 a0_7 l1 a2 = some true := by
  have hb : Byt l1 := fun x hx => wf_u8 (hw x hx)
  have nat : ∀ a : Int, (Lit.int .u32 a).wf = true → ∃ n : Nat, a = (n : Int) ∧ n < 4294967296 := fun a h => ⟨a.toNat, by have := wf_u32 h; omega, by have := wf_u32 h; omega⟩
  obtain ⟨h0, rfl, r0⟩ := nat _ w0
  obtain ⟨h1, rfl, r1⟩ := nat _ w1
  obtain ⟨h2, rfl, r2⟩ := nat _ w2
  obtain ⟨h3, rfl, r3⟩ := nat _ w3
  obtain ⟨h4, rfl, r4⟩ := nat _ w4
  obtain ⟨h5, rfl, r5⟩ := nat _ w5
  obtain ⟨h6, rfl, r6⟩ := nat _ w6
  have r8 := wf_i64 w8
  refine ⟨400001, ?_⟩
  have num : ∀ x : Int, grottolaw07_num.f x = some x := fun x => rfl
  have out : ∀ b : List Int, grottolaw07_HeaderTurned.j0 400001 a2 b true = some true := by
    intro b
    rw [grottolaw07_HeaderTurned.j0.eq_2, if_pos rfl, live_k (by omega)]; rfl
  unfold grottolaw07_HeaderTurned.f
  by_cases c : (l1.length : Int) > 65536
  · rw [if_pos c, live_k (by omega)]; rfl
  rw [if_neg c, make_eq a0_7 hb (by omega) (by omega), Option.bind_some]
  have ml : (made h0 h1 h2 h3 h4 h5 h6 l1).length = 36 + l1.length := made_len
  have mb : Byt (made h0 h1 h2 h3 h4 h5 h6 l1) := made_byt hb
  rcases told_cases (made h0 h1 h2 h3 h4 h5 h6 l1) with ⟨e, a, h, he, _, _⟩ | ht
  · have hm : make h0 h1 h2 h3 h4 h5 h6 l1 = ([], e) := by
      unfold make
      rw [h]
      exact if_neg he
    rw [hm]
    dsimp only
    rw [num, Option.bind_some, if_neg he, out]
  · have hm : make h0 h1 h2 h3 h4 h5 h6 l1 = (made h0 h1 h2 h3 h4 h5 h6 l1, 0) := by
      unfold make
      rw [ht.1]
      exact if_pos rfl
    rw [hm]
    dsimp only
    rw [num, Option.bind_some, if_pos rfl]
    generalize made h0 h1 h2 h3 h4 h5 h6 l1 = b at ml mb ht
    by_cases c1 : a2 < 0
    · rw [if_pos c1, out]
    rw [if_neg c1, w64 (n := 8 * (b.length : Int)) (by omega) (by omega)]
    by_cases c2 : a2 ≥ 8 * (b.length : Int)
    · rw [decide_eq_true c2, out]
    rw [decide_eq_false c2, grottolaw07_HeaderTurned.j0.eq_2, if_neg (by simp)]
    have d8 : Int.tdiv a2 8 = a2 / 8 := Int.tdiv_eq_ediv_of_nonneg (by omega)
    have m8 : Int.tmod a2 8 = a2 % 8 := Int.tmod_eq_emod_of_nonneg (by omega)
    obtain ⟨j, hj⟩ : ∃ j : Nat, a2 / 8 = (j : Int) := ⟨(a2 / 8).toNat, by omega⟩
    obtain ⟨t, htm⟩ : ∃ t : Nat, a2 % 8 = (t : Int) := ⟨(a2 % 8).toNat, by omega⟩
    have hjl : j < b.length := by omega
    have ht8 : t < 8 := by omega
    rw [d8, m8, hj, htm, w64 (n := (j : Int)) (by omega) (by omega), if_pos (by omega), if_pos (by omega), if_pos (by omega), Int.toNat_natCast, rd_bn mb]
    have tb := turn_bit ⟨bn b j, bn_lt mb j⟩ ⟨t, ht8⟩
    dsimp only at tb
    obtain ⟨v, hv⟩ : ∃ v : Nat, Go.bits .xor .u8 (bn b j : Int) (shl .u8 1 (t : Int)) = (v : Int) := ⟨(Go.bits .xor .u8 (bn b j : Int) (shl .u8 1 (t : Int))).toNat, by omega⟩
    rw [hv] at tb ⊢
    have sb : Byt (b.set j (v : Int)) := by
      intro x hx
      rcases List.mem_or_eq_of_mem_set hx with h | h
      · exact mb x h
      · subst h; omega
    obtain ⟨e, a, h, he, ha⟩ := turned mb hjl (v := v) (by omega) (by omega) ht
    rw [parse_eq sb (by rw [List.length_set]; omega) (by omega), Option.bind_some, h]
    show (if ((0 : Int) == 0 && ((0 : Int) == 0 && ((0 : Int) == 0 && ((0 : Int) == 0 && ((0 : Int) == 0 && ((0 : Int) == 0 && ((0 : Int) == 0 && ((0 : Int) == 0)))))))) = true then ((grottolaw07_num.f e).bind fun t393 => (if t393 = 0 then (some false) else (if a ≤ 32 then ((grottolaw07_live.f 400000).bind fun t394 => (some t394)) else (some false)))) else (some false)) = some true
    rw [if_pos (by decide), num, Option.bind_some, if_neg he, if_pos ha, live_k (by omega)]
    rfl
end Go.Proofs.Ytpklekleehcglaa.Pure
