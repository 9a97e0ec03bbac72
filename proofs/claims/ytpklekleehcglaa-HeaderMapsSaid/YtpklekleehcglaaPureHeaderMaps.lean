/- What is taken has its memory in order, in whole pages, within the limits; what is refused says nothing. -/
import Derived.Test.YtpklekleehcglaaPQx17
import Derived.Test.YtpklekleehcglaaHP
namespace Go.Proofs.Ytpklekleehcglaa.Pure
set_option linter.all false
open Go.RowKit Go.Proofs.Ytpklekleehcglaa.PQ Go.Proofs.YtpklekleehcglaaW.PrintWords Go.Proofs.YtpklekleehcglaaW.PrintLast
theorem or_page {a b : Nat} (ha : a < 2 ^ 32) (hb : b < 2 ^ 32) (h1 : a % 256 = 0) (h2 : b % 256 = 0) : ∃ c : Nat, Go.bits .or .u32 (a : Int) (b : Int) = (c : Int) ∧ c < 2 ^ 32 ∧ c % 256 = 0 := by
  have h := (bits_nat .u32 32 (by decide) (fun n h0 h1 => by rw [u32w]; omega) a b ha hb).2
  refine ⟨a ||| b, h, Nat.or_lt_two_pow ha hb, ?_⟩
  have e1 : a % 2 ^ 8 = 0 := h1
  have e2 : b % 2 ^ 8 = 0 := h2
  show (a ||| b) % 2 ^ 8 = 0
  rw [Nat.or_mod_two_pow, e1, e2]
  rfl
theorem pages {a b c d : Int} (ha : 0 ≤ a ∧ a < 4294967296) (hb : 0 ≤ b ∧ b < 4294967296) (hc : 0 ≤ c ∧ c < 4294967296) (hd : 0 ≤ d ∧ d < 4294967296) (h1 : Int.tmod a 256 = 0) (h2 : Int.tmod b 256 = 0) (h3 : Int.tmod c 256 = 0) (h4 : Int.tmod d 256 = 0) :
    Int.tmod (Go.bits .or .u32 (Go.bits .or .u32 (Go.bits .or .u32 a b) c) d) 256 = 0 := by
  rw [Int.tmod_eq_emod_of_nonneg (by omega)] at h1 h2 h3 h4
  have n : ∀ x : Int, 0 ≤ x ∧ x < 4294967296 → x % 256 = 0 → ∃ n : Nat, x = (n : Int) ∧ n < 2 ^ 32 ∧ n % 256 = 0 := fun x hx h => ⟨x.toNat, by omega, by omega, by omega⟩
  obtain ⟨a, rfl, a1, a2⟩ := n a ha h1
  obtain ⟨b, rfl, b1, b2⟩ := n b hb h2
  obtain ⟨c, rfl, c1, c2⟩ := n c hc h3
  obtain ⟨d, rfl, d1, d2⟩ := n d hd h4
  obtain ⟨x, e, x1, x2⟩ := or_page a1 b1 a2 b2
  rw [e]
  obtain ⟨y, e, y1, y2⟩ := or_page x1 c1 x2 c2
  rw [e]
  obtain ⟨z, e, z1, z2⟩ := or_page y1 d1 y2 d2
  rw [e, Int.tmod_eq_emod_of_nonneg (by omega)]
  omega
theorem HeaderMaps : grottolaw07_HeaderMaps.Pure := by
  intro l0 _ _ h3
  have hb : Byt l0 := fun x hx => wf_u8 (h3 x hx)
  refine ⟨300000, ?_⟩
  unfold grottolaw07_HeaderMaps.f
  have lv : grottolaw07_live.f 300000 = some true := live_k (by omega)
  rw [lv]
  by_cases c : (l0.length : Int) > 65536
  · rw [if_pos c]; rfl
  rw [if_neg c, parse_eq hb (by omega) (by omega), Option.bind_some]
  have num : ∀ x : Int, grottolaw07_num.f x = some x := fun x => rfl
  rw [num, Option.bind_some]
  have fail : ∀ e a : Int, told l0 = bad e a → e ≠ 0 → (if (told l0).2.2.2.2.2.2.2.2.1 = 0 then (none : Option Bool) else (if ((told l0).1 == 0 && ((told l0).2.1 == 0 && ((told l0).2.2.1 == 0 && ((told l0).2.2.2.1 == 0 && ((told l0).2.2.2.2.1 == 0 && ((told l0).2.2.2.2.2.1 == 0 && ((told l0).2.2.2.2.2.2.1 == 0 && ((told l0).2.2.2.2.2.2.2.1 == 0)))))))) = true then some true else some false)) = some true := by
    intro e a h he
    rw [h]
    show (if e = 0 then _ else _) = _
    rw [if_neg he]
    rfl
  have fail2 : ∀ (e a : Int) (X : Option Bool), told l0 = bad e a → e ≠ 0 → (if (told l0).2.2.2.2.2.2.2.2.1 = 0 then X else (if ((told l0).1 == 0 && ((told l0).2.1 == 0 && ((told l0).2.2.1 == 0 && ((told l0).2.2.2.1 == 0 && ((told l0).2.2.2.2.1 == 0 && ((told l0).2.2.2.2.2.1 == 0 && ((told l0).2.2.2.2.2.2.1 == 0 && ((told l0).2.2.2.2.2.2.2.1 == 0)))))))) = true then ((some true).bind fun t437 => (some t437)) else some false)) = some true := by
    intro e a X h he
    rw [h]
    show (if e = 0 then _ else _) = _
    rw [if_neg he]
    rfl
  by_cases g : mg l0 = true
  · by_cases s : l0.length < 36
    · exact fail2 2 (l0.length : Int) _ (by unfold told; rw [if_neg (by omega), if_pos g, if_pos s]) (by decide)
    · have ht : told l0 = chk (l0.length : Int) (hsum l0 : Int) (wd l0 0) (wd l0 1) (wd l0 2) (wd l0 3) (wd l0 4) (wd l0 5) (wd l0 6) (wd l0 7) := by
        unfold told; rw [if_neg (by omega), if_pos g, if_neg s]
      have r := fun (i : Nat) (hi : i < 8) => wd_range hb (by omega) hi
      rcases chk_cases (l0.length : Int) (hsum l0 : Int) (wd l0 0) (wd l0 1) (wd l0 2) (wd l0 3) (wd l0 4) (wd l0 5) (wd l0 6) (wd l0 7) with ⟨e, a, h, he, _, _⟩ | ⟨h, q0, q1, q2, q3, q4, q5, q6, q7, q8, q9, q10, q11, q12, q13, q14, q15, _⟩
      · exact fail2 e a _ (ht.trans h) he
      · have hp := pages (r 1 (by decide)) (r 2 (by decide)) (r 3 (by decide)) (r 4 (by decide)) q3 q6 q9 q12
        have r2 := r 2 (by decide)
        have r4 := r 4 (by decide)
        rw [ht, h]
        dsimp only
        generalize wd l0 0 = v0 at *
        generalize wd l0 1 = v1 at *
        generalize wd l0 2 = v2 at *
        generalize wd l0 3 = v3 at *
        generalize wd l0 4 = v4 at *
        generalize wd l0 5 = v5 at *
        generalize wd l0 6 = v6 at *
        rw [if_pos rfl, if_pos hp, if_pos q2, if_pos q4, if_pos (by rw [w64 (by omega) (by omega)]; exact q5), if_pos q7, if_pos q8, if_pos (by omega), if_pos q11, if_pos q13, if_pos q14, if_pos q15]
        rfl
  · exact fail2 63 0 _ (by unfold told; rw [if_neg (by omega), if_neg g]) (by decide)
end Go.Proofs.Ytpklekleehcglaa.Pure
