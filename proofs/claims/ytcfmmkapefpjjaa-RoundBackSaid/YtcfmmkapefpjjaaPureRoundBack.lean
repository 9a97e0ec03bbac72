/- What a pattern says has that pattern: for every format and every pattern; what is none is refused. -/
import Derived.Test.YtcfmmkapefpjjaaPQx20
import Derived.Test.YtcfmmkapefpjjaaRO
import Derived.Test.YtcfmmkapefpjjaaLive02
namespace Go.Proofs.Ytcfmmkapefpjjaa.Pure
open Go.RowKit Go.Proofs.Ytcfmmkapefpjjaa.PQ Go.Proofs.YtcfmmkapefpjjaaW.PrintWords Go.Proofs.YtcfmmkapefpjjaaW.PrintLast Go.Proofs.YtcfmmkapefpjjaaW.PrintMore
open FT RS

theorem RoundBack (a0_0 : Int) (a0_1 : Int) (a1 : Int) (_w0_0 : (Lit.int .i64 a0_0).wf = true) (_w0_1 : (Lit.int .i64 a0_1).wf = true) (w1 : (Lit.int .u64 a1).wf = true) : ∃ k, grottolaw02_RoundBack.f k a0_0 a0_1 a1 = some true := by
  obtain ⟨x, rfl, hx⟩ := wf_u64 w1
  have h0 : (0 : Nat) < 18446744073709551616 := by omega
  refine ⟨20, ?_⟩
  unfold grottolaw02_RoundBack.f
  simp only [grottolaw02_num.f, live02_k (show 10 ≤ 20 by omega)]
  by_cases hok : Ok a0_0 a0_1 ∧ (blen x : Int) ≤ 1 + a0_1 + a0_0
  · obtain ⟨hf, hb⟩ := hok
    obtain ⟨M, X, rfl, rfl, hM, hM', hX, hX'⟩ := hf.nat
    have hlt : x < 2 ^ (M + X) * 2 := by
      rw [← Nat.pow_succ]
      exact Nat.lt_of_lt_of_le (blen_lt x) (Nat.pow_le_pow_right (by omega) (by omega))
    have po : round_Open.f 20 (M : Int) (X : Int) (x : Int) = _ := open_ok hM hM' hX hX' 16 hlt
    have hsp := sign_split hlt
    have hinf := inf_lt (M := M) (X := X)
    obtain ⟨y, hy⟩ : ∃ y, x % 2 ^ (M + X) = y := ⟨_, rfl⟩
    obtain ⟨s, hs⟩ : ∃ s, decide (2 ^ (M + X) ≤ x) = s := ⟨_, rfl⟩
    rw [hy, hs] at hsp po
    rw [po]
    simp only [Option.bind_some]
    rw [if_pos trivial]
    by_cases k1 : y = 0
    · have hk : kind M X y = 1 := by
        have : 0 < inf M X := Nat.mul_pos (by have := Nat.pow_le_pow_right (n := 2) (by omega) hX; omega) (two_pos M)
        unfold kind; rw [if_neg (by omega), if_neg (by omega), if_pos k1]
      rw [hk, if_pos (by rfl), zero_eq hM hM' hX hX']
      simp only [Option.bind_some]
      rw [if_pos (by omega)]
    · by_cases k3 : y = inf M X
      · have hk : kind M X y = 3 := by unfold kind; rw [if_pos k3]
        rw [hk, if_neg (by decide), if_pos (by rfl), inf_eq hM hM' hX hX']
        simp only [Option.bind_some]
        rw [if_pos (by omega)]
      · by_cases k4 : inf M X < y
        · have hk : kind M X y = 4 := by unfold kind; rw [if_neg k3, if_pos k4]
          have hn := nan_bound hM hM' hX hX'
          have po2 : round_Open.f 20 (M : Int) (X : Int) ((inf M X + 2 ^ (M - 1) : Nat) : Int) = _ := open_ok hM hM' hX hX' 16 (by omega)
          have hk2 : kind M X ((inf M X + 2 ^ (M - 1)) % 2 ^ (M + X)) = 4 := by
            rw [Nat.mod_eq_of_lt hn]
            have := two_pos (M - 1)
            unfold kind; rw [if_neg (by omega), if_pos (by omega)]
          rw [hk, if_neg (by decide), if_neg (by decide), if_pos (by rfl), nan_eq hM hM' hX hX']
          simp only [Option.bind_some, po2]
          rw [if_pos trivial, hk2, if_pos (by rfl), decide_eq_false (by omega), if_neg (by simp)]
        · have hk : kind M X y = 2 := by unfold kind; rw [if_neg k3, if_neg k4, if_neg k1]
          have hle : y ≤ inf M X := by omega
          have he : exo M X y = least M X + (sh M y : Int) := by unfold exo; rw [if_pos hk]
          have hm : mnt M X y = man M y := by unfold mnt; rw [if_pos hk]
          obtain ⟨l1, l2, l3⟩ := least_bounds hM hM' hX hX'
          have hsb := sh_bound hM hM' hX hX' hle
          have pp : round_Pack.f 20 (M : Int) (X : Int) s 0 ((man M y : Nat) : Int) (least M X + (sh M y : Int)) false = _ := pack_ok hM hM' hX hX' 17 s (hi := 0) (lo := man M y) h0 (man_bound hM' y) (e := least M X + (sh M y : Int)) (by omega) (by omega) false (by simp)
          rw [zero_lo, if_neg (by simp), npat_back hle] at pp
          have hpos : 0 < man M y := by
            refine Nat.pos_of_ne_zero fun h => ?_
            by_cases hz : sh M y = 0
            · have := man_add M y; rw [hz, h] at this; omega
            · have := man_ge hz; have := two_pos M; omega
          rw [hk, if_neg (by decide), if_neg (by decide), if_neg (by decide), if_pos (by rfl), he, hm, pp]
          simp only [Option.bind_some]
          rw [if_pos trivial, if_pos (by omega), if_pos (by omega)]
  · have po : round_Open.f 20 a0_0 a0_1 (x : Int) = some (0, false, 0, 0, 1) := open_bad 19 hx (by
      by_cases hO : Ok a0_0 a0_1
      · exact Or.inr (Int.not_le.1 fun h => hok ⟨hO, h⟩)
      · exact Or.inl hO)
    rw [po]
    simp only [Option.bind_some]
    rw [if_neg (by decide), if_pos (by decide), if_pos trivial]
end Go.Proofs.Ytcfmmkapefpjjaa.Pure
