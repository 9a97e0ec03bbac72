/- The root of a number's square is the number, without its sign: for every format and every pattern whose square is neither too great nor too small for it. -/
import Derived.Test.YtmmbgbchimangaaPQx33
import Derived.Test.YtmmbgbchimangaaPQx15
import Derived.Test.YtmmbgbchimangaaRN3
import Derived.Test.YtmmbgbchimangaaSM2
import Derived.Test.YtmmbgbchimangaaSQ
import Derived.Test.YtmmbgbchimangaaFT7
import Derived.Test.YtmmbgbchimangaaLive03
namespace Go.Proofs.Ytmmbgbchimangaa.Pure
set_option linter.all false
open Go.RowKit Go.Proofs.Ytmmbgbchimangaa.PQ Go.Proofs.YtmmbgbchimangaaW.PrintWords Go.Proofs.YtmmbgbchimangaaW.PrintLast Go.Proofs.YtmmbgbchimangaaW.PrintMore
open FT RS
theorem val_inf' {M X : Nat} (hX : 2 ≤ X) : val M (inf M X) = 2 ^ (M + 2 ^ X - 2) := by
  have h4 : 4 ≤ 2 ^ X := Nat.pow_le_pow_right (n := 2) (by omega) hX
  have e : inf M X = (2 ^ X - 3) * 2 ^ M + 2 ^ (M + 1) := by
    unfold inf
    rw [Nat.pow_succ, Nat.mul_comm (2 ^ M) 2, ← Nat.add_mul]; congr 1; omega
  rw [e, val_at (Nat.le_refl _) (Or.inr (Nat.pow_le_pow_right (by omega) (by omega))), ← Nat.pow_add]
  congr 1; omega
theorem big_root' {V r st m : Nat} (hr : Root V r st) (hV : 2 ^ (m + 1) * 2 ^ (m + 1) ≤ V) : 2 ^ (m + 1) ≤ r := by
  refine Nat.le_of_not_lt fun hlt => ?_
  have h2 : (r + 1) * (r + 1) ≤ 2 ^ (m + 1) * 2 ^ (m + 1) := Nat.mul_le_mul hlt hlt
  exact absurd hr.hi (Nat.not_lt.2 (Nat.le_trans h2 hV))
/-- the spec's own law -/
theorem square_law {M X : Nat} (hM : 2 ≤ M) (hM' : M ≤ 52) (hX : 2 ≤ X) (hX' : X ≤ 11) {a : Nat} (h2 : kd M X a = 2) (hn : 2 ^ M ≤ man M (mg M X a)) {B : Nat} (hB : B = 2 ^ (X - 1) - 1)
    (hu : ex M X a + M ≤ ((B / 2 : Nat) : Int) - 1) (hl : -(((B / 2 : Nat) : Int) - 1) ≤ ex M X a + M) : sqrtS M X (mulS M X a a) = mg M X a := by
  obtain ⟨l1, l2, l3⟩ := least_bounds hM hM' hX hX'
  rw [← hB] at l3
  obtain ⟨a1, a2, a3, a4, a5⟩ := fin_form hM hM' hX hX' h2
  obtain ⟨a6, _⟩ := fin_ex h2
  have hle := ((kd2 hM hM' hX hX').1 h2).2
  have hma := man_add M (mg M X a)
  rw [a6] at hu hl
  have hs0 : sgn M X false = 0 := rfl
  have h2X : 2 ^ X = 2 * B + 2 := by
    have h1 : 2 ^ X = 2 * 2 ^ (X - 1) := by rw [← Nat.pow_succ']; congr 1; omega
    have h3 := two_pos (X - 1)
    omega
  have hmul : mulS M X a a = npat M X (av M X a * av M X a) 1 (least M X) := by
    unfold mulS
    rw [if_neg (by omega), if_neg (by omega), bne_self_eq_false, hs0, Nat.zero_add]
  rw [a5] at hmul
  generalize mg M X a = y at *
  generalize man M y = m at *
  generalize sh M y = s at *
  have hy : (-(least M X)).toNat ≤ M + 2 * s := by omega
  obtain ⟨c, hc, hcy, hv⟩ := square_raw (x := 2 * s) hn a2 hy
  have hpat : npat M X (m * 2 ^ s * (m * 2 ^ s)) 1 (least M X) = min (inf M X) (raw M (m * m * 2 ^ (2 * s)) (2 ^ (-(least M X)).toNat)) := by
    unfold npat pat
    have e1 : (least M X).toNat = 0 := by omega
    rw [e1, Nat.pow_zero, Nat.mul_one, Nat.one_mul]
    congr 2
    rw [Nat.two_mul, Nat.pow_add]; ac_rfl
  rw [hpat] at hmul
  generalize hp : raw M (m * m * 2 ^ (2 * s)) (2 ^ (-(least M X)).toNat) = p at *
  obtain ⟨q, hq⟩ : ∃ q, q = rne (m * m) (2 ^ c) := ⟨_, rfl⟩
  rw [← hq] at hv
  have hcM : c ≤ M + 1 := by omega
  have hq1 : q ≤ 2 ^ (M + 1) := by
    rw [hq]
    refine rne_le (two_pos c) ?_
    rcases hc with ⟨rfl, h⟩ | ⟨rfl, h⟩
    · rw [← Nat.pow_add, show c + 1 + c = 2 * c + 1 by omega]; exact Nat.le_of_lt h
    · rw [← Nat.pow_add]
      have := Nat.mul_le_mul (Nat.le_of_lt a2) (Nat.le_of_lt a2)
      rwa [← Nat.pow_add] at this
  have hq0 : 1 ≤ q := by
    rw [hq]
    refine le_rne (two_pos c) ?_
    rw [Nat.one_mul]
    have h3 := Nat.mul_le_mul hn hn
    rw [← Nat.pow_add] at h3
    exact Nat.le_trans (Nat.pow_le_pow_right (by omega) (by omega)) h3
  have hlt : p < inf M X := by
    refine Nat.lt_of_not_le fun hge => ?_
    have h3 := val_mono (M := M) hge
    rw [hv, val_inf' hX] at h3
    have h4 : q * 2 ^ (c + 2 * s - (-(least M X)).toNat) ≤ 2 ^ (M + 1) * 2 ^ (c + 2 * s - (-(least M X)).toNat) := Nat.mul_le_mul_right _ hq1
    rw [← Nat.pow_add] at h4
    have h5 := (Nat.pow_le_pow_iff_right (a := 2) (by omega)).1 (Nat.le_trans h3 h4)
    omega
  have hp0 : 0 < p := by
    refine Nat.pos_of_ne_zero fun h0 => ?_
    rw [h0, val_zero] at hv
    have := Nat.mul_pos (show 0 < q by omega) (two_pos (c + 2 * s - (-(least M X)).toNat))
    omega
  rw [Nat.min_eq_right (Nat.le_of_lt hlt)] at hmul
  rw [hmul]
  have hpl : p < 2 ^ (M + X) := Nat.lt_trans hlt inf_lt
  obtain ⟨s1, s2⟩ := sg_mk (M := M) (X := X) (neg := false) hpl
  rw [hs0, Nat.zero_add] at s1 s2
  have hk : kd M X p = 2 := by unfold kd; rw [s2]; exact (kind_iff (inf_pos hM hM' hX hX')).2.1.2 ⟨hp0, hlt⟩
  have hav : av M X p = q * 2 ^ (c + 2 * s - (-(least M X)).toNat) := by unfold av; rw [s2]; exact hv
  have hsq : sqrtS M X p = rootp M X (av M X p) := by
    unfold sqrtS
    rw [if_neg (fun h => h.elim (fun h => by omega) (fun h => absurd h.1 (by omega))), if_neg (fun h => h.elim (fun h => by omega) (fun h => by rw [s1] at h; exact absurd h (by decide)))]
  rw [hsq, hav]
  obtain ⟨k, hk2⟩ : ∃ k : Nat, 2 * (k : Int) = 2 * s + least M X + 128 + least M X % 2 := ⟨((2 * s + least M X + 128 + least M X % 2) / 2).toNat, by omega⟩
  have hR := root_isq (q * 2 ^ (c + 2 * s - (-(least M X)).toNat) * 2 ^ (128 + (least M X % 2).toNat))
  have hV : q * 2 ^ (c + 2 * s - (-(least M X)).toNat) * 2 ^ (128 + (least M X % 2).toNat) = q * 2 ^ c * 4 ^ k := by
    have e1 : 4 ^ k = 2 ^ (2 * k) := by rw [Nat.pow_mul]
    rw [e1, Nat.mul_assoc, Nat.mul_assoc, ← Nat.pow_add, ← Nat.pow_add]; congr 2; omega
  unfold rootp
  rw [hV] at hR ⊢
  generalize isq (q * 2 ^ c * 4 ^ k) = R at *
  generalize (if R * R = q * 2 ^ c * 4 ^ k then 0 else 1) = S at *
  have key := square_root (s := s) hM hn a2 hc hq (by omega) hR
  have fin : raw M ((2 * R + S) * 2 ^ ((least M X - least M X % 2) / 2 - 64 - 1 - least M X).toNat) (1 * 2 ^ (-((least M X - least M X % 2) / 2 - 64 - 1 - least M X)).toNat) = raw M ((2 * R + S) * 2 ^ s) (2 * 2 ^ k) := by
    refine raw_congr (Nat.mul_pos (by omega) (two_pos _)) (Nat.mul_pos (by omega) (two_pos _)) ?_
    have e1 : (2 * R + S) * 2 ^ ((least M X - least M X % 2) / 2 - 64 - 1 - least M X).toNat * (2 * 2 ^ k) = (2 * R + S) * 2 ^ (((least M X - least M X % 2) / 2 - 64 - 1 - least M X).toNat + k + 1) := by rw [Nat.pow_succ, Nat.pow_add]; ac_rfl
    have e2 : (2 * R + S) * 2 ^ s * (1 * 2 ^ (-((least M X - least M X % 2) / 2 - 64 - 1 - least M X)).toNat) = (2 * R + S) * 2 ^ (s + (-((least M X - least M X % 2) / 2 - 64 - 1 - least M X)).toNat) := by rw [Nat.pow_add]; ac_rfl
    rw [e1, e2]; congr 2; omega
  unfold npat pat
  rw [fin, key, hma, Nat.min_eq_right (Nat.le_of_lt hle)]
theorem rturn_eq {M X : Nat} (hM : 2 ≤ M) (hM' : M ≤ 52) (hX : 2 ≤ X) (hX' : X ≤ 11) {k : Nat} (hk : 64 < k) {a : Nat} (ha : Pt M X a) : grottoref03_Turn.f k (M : Int) (X : Int) (a : Int) = some (((sgn M X (!sg M X a) + mg M X a : Nat) : Int)) := by
  have hlt := pt_lt hM hM' hX hX' ha
  have hs := pt_split ha
  have ht : sgn M X true = 2 ^ (M + X) := rfl
  have hf : sgn M X false = 0 := rfl
  have hm := mg_lt M X a
  have hp2 : 2 ^ (M + X) * 2 ≤ 18446744073709551616 := by
    have := Nat.pow_le_pow_right (n := 2) (by omega) (show M + X + 1 ≤ 64 by omega)
    rw [Nat.pow_succ] at this; exact this
  unfold grottoref03_Turn.f
  rw [rzero_eq hM hM' hX hX' hk, Option.bind_some, ht]
  cases hb : sg M X a
  · rw [hb, hf, Nat.zero_add] at hs
    have hn : (!false) = true := rfl
    rw [if_neg (by omega), hn, ht]
    have : IntKind.u64.wrap ((a : Int) + ((2 ^ (M + X) : Nat) : Int)) = ((a + 2 ^ (M + X) : Nat) : Int) := by
      rw [← Int.natCast_add]; exact wuN (by omega)
    rw [this, ← hs, Nat.add_comm]
  · rw [hb, ht] at hs
    have hn : (!true) = false := rfl
    rw [if_pos (by omega), hn, hf, Nat.zero_add]
    have : IntKind.u64.wrap ((a : Int) - ((2 ^ (M + X) : Nat) : Int)) = ((a - 2 ^ (M + X) : Nat) : Int) := by
      rw [← Int.ofNat_sub (by omega)]; exact wuN (by omega)
    rw [this]; congr 2; omega
theorem SoftSquares (a0_0 : Int) (a0_1 : Int) (a1 : Int) (_w0_0 : (Lit.int .i64 a0_0).wf = true) (_w0_1 : (Lit.int .i64 a0_1).wf = true) (w1 : (Lit.int .u64 a1).wf = true) : ∃ k, grottolaw03_SoftSquares.f k a0_0 a0_1 a1 = some true := by
  obtain ⟨a, rfl, ha⟩ := wf_u64 w1
  clear w1 _w0_0 _w0_1
  refine ⟨300, ?_⟩
  have hj : ∀ x y b c d e, grottolaw03_SoftSquares.j0 300 (a : Int) true x y b c d e = some true := by
    intro x y b c d e; rw [grottolaw03_SoftSquares.j0.eq_2, if_pos rfl, live03_k (by omega)]; rfl
  have hj1 : ∀ x y b c d e, grottolaw03_SoftSquares.j1 299 (a : Int) true x y b c d e = some true := by
    intro x y b c d e; rw [grottolaw03_SoftSquares.j1.eq_2, if_pos rfl, live03_k (by omega)]; rfl
  unfold grottolaw03_SoftSquares.f
  by_cases hg : RS.Good a0_0 a0_1 a
  · obtain ⟨M, X, rfl, rfl, hM, hM', hX, hX', pa⟩ := hg.nat
    have op : grottoref02_Open.f 300 (M : Int) (X : Int) (a : Int) = some (((kd M X a : Nat) : Int), sg M X a, ex M X a, ((mt M X a : Nat) : Int), 0) := ropen_ok hM hM' hX hX' (k := 300) (by omega) pa
    rw [op, Option.bind_some]
    dsimp only
    rw [if_pos rfl]
    by_cases h2 : kd M X a = 2
    · have c2 : (((kd M X a : Nat) : Int) != 2) = false := by rw [h2]; rfl
      obtain ⟨l1, l2, l3⟩ := least_bounds hM hM' hX hX'
      obtain ⟨a1, a2, a3, a4, a5⟩ := fin_form hM hM' hX hX' h2
      obtain ⟨a6, a7⟩ := fin_ex h2
      have hM53 : 2 ^ (M + 1) ≤ 9007199254740992 := Nat.pow_le_pow_right (n := 2) (by omega) (show M + 1 ≤ 53 by omega)
      obtain ⟨B, hB⟩ : ∃ B, B = 2 ^ (X - 1) - 1 := ⟨_, rfl⟩
      have hBb : B ≤ 1023 := by
        have hb : 2 ^ (X - 1) ≤ 1024 := Nat.le_trans (Nat.pow_le_pow_right (by omega) (show X - 1 ≤ 10 by omega)) (by decide)
        omega
      have rb := rbias_eq hM hM' hX hX' (k := 299) (by omega)
      rw [← hB] at rb l3
      have wE : Unit → wrap64 (ex M X a + (M : Int)) = ex M X a + M := fun _ => by rw [a6, w64 (by omega) (by omega)]
      have wB : Unit → wrap64 (wrap64 (Int.tdiv (B : Int) 2) - 1) = ((B / 2 : Nat) : Int) - 1 := fun _ => by
        have : Int.tdiv (B : Int) 2 = ((B / 2 : Nat) : Int) := by rw [Int.tdiv_eq_ediv_of_nonneg (by omega)]; omega
        rw [this, w64 (n := ((B / 2 : Nat) : Int)) (by omega) (by omega), w64 (by omega) (by omega)]
      have wN : Unit → wrap64 (-(((B / 2 : Nat) : Int) - 1)) = -(((B / 2 : Nat) : Int) - 1) := fun _ => w64 (by omega) (by omega)
      rw [c2, grottolaw03_SoftSquares.j0.eq_2, if_neg (by simp), rb, Option.bind_some, if_pos (by omega), a7, shr_nat (by omega), wE (), wB (), wN ()]
      by_cases hn : man M (mg M X a) / 2 ^ M = 0
      · rw [if_pos (natz hn), hj1]
      · have hn2 : 2 ^ M ≤ man M (mg M X a) := Nat.le_of_not_lt fun h => hn (Nat.div_eq_of_lt h)
        rw [if_neg (nat0 hn)]
        by_cases hu : ex M X a + M > ((B / 2 : Nat) : Int) - 1
        · rw [if_pos hu, hj1]
        · rw [if_neg hu]
          by_cases hl : ex M X a + M < -(((B / 2 : Nat) : Int) - 1)
          · rw [decide_eq_true hl, hj1]
          · have law := square_law hM hM' hX hX' h2 hn2 hB (Int.not_lt.1 hu) (Int.not_lt.1 hl)
            have pm : Pt M X (mulS M X a a) := by
              unfold mulS
              rw [if_neg (by omega), if_neg (by omega)]
              exact pt_mk (Nat.lt_of_le_of_lt (npat_le_inf ..) inf_lt)
            have w00 : wrap64 (0 + 0) = 0 := by decide +kernel
            have hs := pt_split pa
            rw [decide_eq_false hl, grottolaw03_SoftSquares.j1.eq_2, if_neg (by simp), mul_eq hM hM' hX hX' (by omega) pa pa, Option.bind_some]
            dsimp only
            rw [sqrt_eq hM hM' hX hX' (by omega) pm, Option.bind_some, law]
            dsimp only
            simp only [grottolaw03_num.f, Option.bind_some]
            by_cases hb : sg M X a = true
            · have hf : sgn M X (!true) = 0 := rfl
              rw [if_pos hb, rturn_eq hM hM' hX hX' (by omega) pa, Option.bind_some, w00, if_pos rfl, hb, hf, Nat.zero_add, if_pos rfl, live03_k (by omega)]; rfl
            · have hb2 : sg M X a = false := by simpa using hb
              have hf : sgn M X false = 0 := rfl
              rw [hb2, hf, Nat.zero_add] at hs
              rw [if_neg hb, w00, if_pos rfl, if_pos (nate hs.symm), live03_k (by omega)]; rfl
    · have c2 : (((kd M X a : Nat) : Int) != 2) = true := bne_iff_ne.2 (by omega)
      rw [c2, hj]
  · have op : grottoref02_Open.f 300 a0_0 a0_1 (a : Int) = some (0, false, 0, 0, 1) := by
      refine ropen_bad (by omega) ha ?_
      by_cases hf : Ok a0_0 a0_1
      · right; exact Int.not_le.1 fun h2 => hg ⟨hf, h2⟩
      · exact Or.inl hf
    rw [op, Option.bind_some]
    dsimp only
    rw [if_neg (by decide), hj]
end Go.Proofs.Ytmmbgbchimangaa.Pure
