/- No pattern of a small format is nearer to a number than the one that is told, and of two as near it is the even one: for all formats of 2 to 4 bits, all numbers of 16 bits and all powers that the law lets in. -/
import Derived.Test.YtcfmmkapefpjjaaPQx15
import Derived.Test.YtcfmmkapefpjjaaPQx14
import Derived.Test.YtcfmmkapefpjjaaPQx13
import Derived.Test.YtcfmmkapefpjjaaFT2
import Derived.Test.YtcfmmkapefpjjaaLive02
namespace Go.Proofs.Ytcfmmkapefpjjaa.Pure
set_option linter.all false
open Go.RowKit Go.Proofs.Ytcfmmkapefpjjaa.PQ Go.Proofs.YtcfmmkapefpjjaaW.PrintWords Go.Proofs.YtcfmmkapefpjjaaW.PrintLast Go.Proofs.YtcfmmkapefpjjaaW.PrintMore
open FT RS
theorem value_tab : ∀ M : Fin 3, ∀ X : Fin 3, ∀ y : Fin 241, y.val ≤ inf (M.val + 2) (X.val + 2) →
    grottolaw02_value.f 80 ((M.val + 2 : Nat) : Int) ((X.val + 2 : Nat) : Int) ((y.val : Nat) : Int) = some ((val (M.val + 2) y.val * 2 ^ (24 + least (M.val + 2) (X.val + 2)).toNat : Nat) : Int) := by decide +kernel
theorem top_tab : ∀ M : Fin 3, ∀ X : Fin 3, shl .i64 (wrap64 ((shl .i64 1 ((X.val + 2 : Nat) : Int)) - 1)) ((M.val + 2 : Nat) : Int) = ((inf (M.val + 2) (X.val + 2) : Nat) : Int) ∧ inf (M.val + 2) (X.val + 2) ≤ 240
    ∧ val (M.val + 2) (inf (M.val + 2) (X.val + 2)) * 2 ^ (24 + least (M.val + 2) (X.val + 2)).toNat ≤ 1099511627776 ∧ -10 ≤ least (M.val + 2) (X.val + 2) ∧ least (M.val + 2) (X.val + 2) ≤ 0 := by decide +kernel
theorem fin3 {M : Nat} (h : 2 ≤ M) (h' : M ≤ 4) : ∃ i : Fin 3, M = i.val + 2 := ⟨⟨M - 2, by omega⟩, by simp; omega⟩
theorem max_abs (z : Int) : max z (-z) = (z.natAbs : Int) := by omega
def V (M X y : Nat) : Nat := val M y * 2 ^ (24 + least M X).toNat
theorem shl_i64 {a k : Nat} (hk : k < 64) (h : a * 2 ^ k < 9223372036854775808) : shl .i64 (a : Int) (k : Int) = ((a * 2 ^ k : Nat) : Int) := by
  unfold shl
  have e : min (Int.toNat (k : Int)) IntKind.i64.bits = k := by simp [IntKind.bits]; omega
  rw [e, IntKind.wrap_i64]
  have e2 : ((a : Int) * 2 ^ k) = ((a * 2 ^ k : Nat) : Int) := by simp
  rw [e2]; omega
theorem nr_l0 {M X x top : Nat} {v : Nat} {d : Int} (W : Nat → Nat) (hV : ∀ y, y ≤ top → ∀ k, 80 ≤ k → grottolaw02_value.f k (M : Int) (X : Int) (y : Int) = some (W y : Int))
    (hb : ∀ y, y ≤ top → W y ≤ 1099511627776) (hv : v ≤ 1125899906842624) (hx : x ≤ top) (ht : top ≤ 1000)
    (hno : ∀ y, y ≤ top → y ≠ x → ¬ ((((v : Int) - (W y : Int)).natAbs : Int) < d) ∧ ((((v : Int) - (W y : Int)).natAbs : Int) = d → x % 2 = 0)) :
    ∀ (n y k : Nat), y + n = top + 1 → n + 90 < k → grottolaw02_RoundNearest.l0 k (x : Int) (top : Int) (v : Int) d (y : Int) (M : Int) (X : Int) = some true := by
  intro n
  induction n with
  | zero =>
    intro y k hy hk
    obtain ⟨k, rfl⟩ : ∃ j, k = j + 1 := ⟨k - 1, by omega⟩
    rw [grottolaw02_RoundNearest.l0.eq_2, if_neg (by omega), live02_k (by omega)]; rfl
  | succ n ih =>
    intro y k hy hk
    obtain ⟨k, rfl⟩ : ∃ j, k = j + 1 := ⟨k - 1, by omega⟩
    have hyt : y ≤ top := by omega
    have hby := hb y hyt
    have w1 : Unit → wrap64 (x : Int) = (x : Int) := fun _ => w64 (by omega) (by omega)
    have w2 : Unit → wrap64 ((v : Int) - (W y : Int)) = (v : Int) - (W y : Int) := fun _ => w64 (by omega) (by omega)
    have w3 : Unit → wrap64 (-((v : Int) - (W y : Int))) = -((v : Int) - (W y : Int)) := fun _ => w64 (by omega) (by omega)
    have w4 : Unit → wrap64 ((y : Int) + 1) = ((y + 1 : Nat) : Int) := fun _ => by rw [w64 (by omega) (by omega)]; omega
    have hi := ih (y + 1) k (by omega) (by omega)
    rw [grottolaw02_RoundNearest.l0.eq_2, if_pos (by omega), hV y hyt k (by omega), Option.bind_some, w1 (), w2 (), w3 (), w4 (), mx_int, max_abs]
    by_cases hyx : y = x
    · rw [if_pos (by omega)]; exact hi
    · obtain ⟨h1, h2⟩ := hno y hyt hyx
      rw [if_neg (by omega), if_neg h1]
      have hm : Int.tmod (x : Int) 2 = ((x % 2 : Nat) : Int) := by rw [Int.tmod_eq_emod_of_nonneg (by omega)]; omega
      by_cases he : (((v : Int) - (W y : Int)).natAbs : Int) = d
      · rw [if_pos he, hm, h2 he, if_neg (by decide)]; exact hi
      · rw [if_neg he]; exact hi
/-- what is nearest in units of the least number is nearest in the law's units -/
theorem nr_scale {M X m y : Nat} {e : Int} (hL : 0 ≤ 24 + least M X) (he : 0 ≤ 24 + e) :
    (((m * 2 ^ (24 + e).toNat : Nat) : Int) - (V M X y : Int)).natAbs * (1 * 2 ^ (-(e - least M X)).toNat) = (((m * 2 ^ (e - least M X).toNat : Nat) : Int) - (val M y * (1 * 2 ^ (-(e - least M X)).toNat : Nat) : Int)).natAbs * 2 ^ (24 + least M X).toNat := by
  have h : (24 + e).toNat + (-(e - least M X)).toNat = (e - least M X).toNat + (24 + least M X).toNat := by omega
  unfold V
  generalize (24 + e).toNat = p at *
  generalize (-(e - least M X)).toNat = q at *
  generalize (e - least M X).toNat = r at *
  generalize (24 + least M X).toNat = s at *
  have n1 : ∀ (A : Int) (c : Nat), A.natAbs * c = (A * (c : Int)).natAbs := by intro A c; rw [Int.natAbs_mul, Int.natAbs_natCast]
  rw [n1, n1]
  congr 1
  rw [Int.sub_mul, Int.sub_mul, ← Int.natCast_mul, ← Int.natCast_mul, ← Int.natCast_mul, ← Int.natCast_mul, ← Int.natCast_mul]
  have e1 : m * 2 ^ p * (1 * 2 ^ q) = m * 2 ^ r * 2 ^ s := by rw [Nat.one_mul, Nat.mul_assoc, Nat.mul_assoc, ← Nat.pow_add, ← Nat.pow_add, h]
  have e2 : val M y * 2 ^ s * (1 * 2 ^ q) = val M y * (1 * 2 ^ q) * 2 ^ s := by ac_rfl
  rw [e1, e2]
theorem nr_no {M X m : Nat} {e : Int} (hM : 2 ≤ M) (hL : 0 ≤ 24 + least M X) (he : 0 ≤ 24 + e) (x : Nat) (hx : npat M X m 1 (e - least M X) = x) (d : Int)
    (hd : (x = inf M X ∧ V M X (inf M X) < m * 2 ^ (24 + e).toNat ∧ d = 0) ∨ (¬ (x = inf M X ∧ V M X (inf M X) < m * 2 ^ (24 + e).toNat) ∧ d = (((m * 2 ^ (24 + e).toNat : Nat) : Int) - (V M X x : Int)).natAbs)) :
    ∀ y, y ≤ inf M X → y ≠ x → ¬ (((((m * 2 ^ (24 + e).toNat : Nat) : Int) - (V M X y : Int)).natAbs : Int) < d) ∧ (((((m * 2 ^ (24 + e).toNat : Nat) : Int) - (V M X y : Int)).natAbs : Int) = d → x % 2 = 0) := by
  intro y hy hyx
  rcases hd with ⟨h1, h2, h3⟩ | ⟨h1, h2⟩
  · have hV : V M X y ≤ V M X (inf M X) := Nat.mul_le_mul_right _ (val_mono hy)
    generalize m * 2 ^ (24 + e).toNat = v at *
    subst h3
    exact ⟨by omega, fun h => by omega⟩
  · have hDp : 0 < 1 * 2 ^ (-(e - least M X)).toNat := Nat.mul_pos (by omega) (two_pos _)
    have hraw : raw M (m * 2 ^ (e - least M X).toNat) (1 * 2 ^ (-(e - least M X)).toNat) = x := by
      unfold npat pat at hx
      rcases Nat.lt_or_ge (inf M X) (raw M (m * 2 ^ (e - least M X).toNat) (1 * 2 ^ (-(e - least M X)).toNat)) with hlt | hge
      · exfalso
        refine h1 ⟨by omega, ?_⟩
        obtain ⟨p, hp⟩ : ∃ p, raw M (m * 2 ^ (e - least M X).toNat) (1 * 2 ^ (-(e - least M X)).toNat) = p + 1 := ⟨_, (Nat.succ_pred_eq_of_pos (by omega)).symm⟩
        obtain ⟨l1, _⟩ := mid_lo (by omega) hDp hp
        have v1 : val M (inf M X) ≤ val M p := val_mono (by omega)
        have v2 : val M p < val M (p + 1) := val_lt (by omega)
        have v3 : val M (inf M X) * (1 * 2 ^ (-(e - least M X)).toNat) ≤ val M p * (1 * 2 ^ (-(e - least M X)).toNat) := Nat.mul_le_mul_right _ v1
        have v4 : val M p * (1 * 2 ^ (-(e - least M X)).toNat) < val M (p + 1) * (1 * 2 ^ (-(e - least M X)).toNat) := Nat.mul_lt_mul_of_pos_right v2 hDp
        rw [Nat.add_mul] at l1
        have v5 : val M (inf M X) * (1 * 2 ^ (-(e - least M X)).toNat) < m * 2 ^ (e - least M X).toNat := by omega
        have v6 := Nat.mul_lt_mul_of_pos_right v5 (two_pos (24 + least M X).toNat)
        have h : (24 + e).toNat + (-(e - least M X)).toNat = (e - least M X).toNat + (24 + least M X).toNat := by omega
        have e1 : m * 2 ^ (24 + e).toNat * (1 * 2 ^ (-(e - least M X)).toNat) = m * 2 ^ (e - least M X).toNat * 2 ^ (24 + least M X).toNat := by
          rw [Nat.one_mul, Nat.mul_assoc, Nat.mul_assoc, ← Nat.pow_add, ← Nat.pow_add, h]
        have e2 : V M X (inf M X) * (1 * 2 ^ (-(e - least M X)).toNat) = val M (inf M X) * (1 * 2 ^ (-(e - least M X)).toNat) * 2 ^ (24 + least M X).toNat := by unfold V; ac_rfl
        rw [← e1, ← e2] at v6
        exact Nat.lt_of_mul_lt_mul_right v6
      · omega
    have hn := nearest (M := M) (n := m * 2 ^ (e - least M X).toNat) (d := 1 * 2 ^ (-(e - least M X)).toNat) (y := y) (by omega) hDp (by rw [hraw]; exact hyx)
    rw [hraw] at hn
    obtain ⟨n1, n2⟩ := hn
    have s1 := nr_scale (M := M) (X := X) (m := m) (y := y) hL he
    have s2 := nr_scale (M := M) (X := X) (m := m) (y := x) hL he
    have hsp := two_pos (24 + least M X).toNat
    rw [h2]
    refine ⟨fun h => ?_, fun h => n2 ?_⟩
    · have h' : (((m * 2 ^ (24 + e).toNat : Nat) : Int) - (V M X y : Int)).natAbs < (((m * 2 ^ (24 + e).toNat : Nat) : Int) - (V M X x : Int)).natAbs := by omega
      have h3 := Nat.mul_lt_mul_of_pos_right h' hDp
      rw [s1, s2] at h3
      exact absurd (Nat.lt_of_mul_lt_mul_right h3) (Nat.not_lt.2 n1)
    · have h' : (((m * 2 ^ (24 + e).toNat : Nat) : Int) - (V M X y : Int)).natAbs = (((m * 2 ^ (24 + e).toNat : Nat) : Int) - (V M X x : Int)).natAbs := by omega
      have h3 : (((m * 2 ^ (24 + e).toNat : Nat) : Int) - (V M X x : Int)).natAbs * (1 * 2 ^ (-(e - least M X)).toNat) = (((m * 2 ^ (24 + e).toNat : Nat) : Int) - (V M X y : Int)).natAbs * (1 * 2 ^ (-(e - least M X)).toNat) := by rw [h']
      rw [s1, s2] at h3
      exact Nat.eq_of_mul_eq_mul_right hsp h3
theorem wf_u16 {a : Int} (h : (Lit.int .u16 a).wf = true) : ∃ n : Nat, a = (n : Int) ∧ n < 65536 := by
  simp [Lit.wf, IntKind.min, IntKind.max, IntKind.signed, IntKind.bits] at h
  exact ⟨a.toNat, by omega, by omega⟩
theorem nr_j1 {M X : Nat} (hM : 2 ≤ M) (hM' : M ≤ 4) (hX : 2 ≤ X) (hX' : X ≤ 4) {m x : Nat} {e : Int} (he : -12 ≤ e) (he' : e ≤ 4) (hm : m < 65536) (hx : npat M X m 1 (e - least M X) = x) (hxi : x ≤ inf M X) :
    grottolaw02_RoundNearest.j1 601 (m : Int) e (x : Int) ((inf M X : Nat) : Int) false (M : Int) (X : Int) = some true := by
  obtain ⟨i, hi⟩ := fin3 hM hM'
  obtain ⟨j, hj⟩ := fin3 hX hX'
  obtain ⟨_, ht, hvm, hl1, hl2⟩ := top_tab i j
  rw [← hi, ← hj] at ht hvm hl1 hl2
  have hval : ∀ y, y ≤ inf M X → ∀ k, 80 ≤ k → grottolaw02_value.f k (M : Int) (X : Int) (y : Int) = some (V M X y : Int) := by
    intro y hy k hk
    have := value_tab i j ⟨y, by omega⟩
    rw [← hi, ← hj] at this
    exact at_rounds (grottolaw02_value.mono _ _ _) hk (this hy)
  have hb : ∀ y, y ≤ inf M X → V M X y ≤ 1099511627776 := fun y hy => Nat.le_trans (Nat.mul_le_mul_right _ (val_mono hy)) hvm
  have hp28 : 2 ^ (24 + e).toNat ≤ 268435456 := Nat.pow_le_pow_right (n := 2) (by omega) (show (24 + e).toNat ≤ 28 by omega)
  have hv : m * 2 ^ (24 + e).toNat ≤ 65535 * 268435456 := Nat.mul_le_mul (by omega) hp28
  have hno := nr_no (X := X) (m := m) hM (by omega) (show 0 ≤ 24 + e by omega) x hx
  have w0 : Unit → wrap64 (24 + e) = (((24 + e).toNat : Nat) : Int) := fun _ => by rw [w64 (by omega) (by omega)]; omega
  have w1 : Unit → wrap64 (m : Int) = (m : Int) := fun _ => w64 (by omega) (by omega)
  have w2 : Unit → wrap64 (x : Int) = (x : Int) := fun _ => w64 (by omega) (by omega)
  have hsh : shl .i64 (m : Int) (((24 + e).toNat : Nat) : Int) = ((m * 2 ^ (24 + e).toNat : Nat) : Int) := shl_i64 (by omega) (by omega)
  have hbx := hb x hxi
  have w3 : Unit → wrap64 (((m * 2 ^ (24 + e).toNat : Nat) : Int) - (V M X x : Int)) = ((m * 2 ^ (24 + e).toNat : Nat) : Int) - (V M X x : Int) := fun _ => w64 (by omega) (by omega)
  have w4 : Unit → wrap64 (-(((m * 2 ^ (24 + e).toNat : Nat) : Int) - (V M X x : Int))) = -(((m * 2 ^ (24 + e).toNat : Nat) : Int) - (V M X x : Int)) := fun _ => w64 (by omega) (by omega)
  rw [grottolaw02_RoundNearest.j1.eq_2, if_neg (by simp), w0 (), if_pos (Int.natCast_nonneg _), w2 (), hval x hxi _ (by omega), Option.bind_some, w1 (), hsh, w3 (), w4 (), mx_int, max_abs]
  have fin : ∀ d : Int, ((x = inf M X ∧ V M X (inf M X) < m * 2 ^ (24 + e).toNat ∧ d = 0) ∨ (¬ (x = inf M X ∧ V M X (inf M X) < m * 2 ^ (24 + e).toNat) ∧ d = (((m * 2 ^ (24 + e).toNat : Nat) : Int) - (V M X x : Int)).natAbs)) →
      grottolaw02_RoundNearest.l0 598 (x : Int) ((inf M X : Nat) : Int) ((m * 2 ^ (24 + e).toNat : Nat) : Int) d 0 (M : Int) (X : Int) = some true := fun d hd =>
    nr_l0 (V M X) hval hb (by omega) hxi (by omega) (hno d hd) (inf M X + 1) 0 598 (by omega) (by omega)
  by_cases hxt : x = inf M X
  · rw [if_pos (by rw [hxt]), hval _ (Nat.le_refl _) _ (by omega), Option.bind_some, grottolaw02_RoundNearest.j2.eq_2]
    by_cases hg : V M X (inf M X) < m * 2 ^ (24 + e).toNat
    · rw [decide_eq_true (by omega), if_pos rfl, grottolaw02_RoundNearest.j3.eq_2]
      exact fin 0 (Or.inl ⟨hxt, hg, rfl⟩)
    · rw [decide_eq_false (by omega), if_neg (by simp), grottolaw02_RoundNearest.j3.eq_2]
      exact fin _ (Or.inr ⟨fun h => hg h.2, rfl⟩)
  · rw [if_neg (fun h => hxt (Int.ofNat_inj.1 h)), grottolaw02_RoundNearest.j2.eq_2, if_neg (by simp), grottolaw02_RoundNearest.j3.eq_2]
    exact fin _ (Or.inr ⟨fun h => hxt h.1, rfl⟩)
theorem RoundNearest (a0_0 : Int) (a0_1 : Int) (a1 : Int) (a2 : Int) (_w0_0 : (Lit.int .i64 a0_0).wf = true) (_w0_1 : (Lit.int .i64 a0_1).wf = true) (w1 : (Lit.int .u16 a1).wf = true) (_w2 : (Lit.int .i64 a2).wf = true) : ∃ k, grottolaw02_RoundNearest.f k a0_0 a0_1 a1 a2 = some true := by
  obtain ⟨m, rfl, hm⟩ := wf_u16 w1
  clear _w0_0 _w0_1 w1 _w2
  refine ⟨602, ?_⟩
  have hj : grottolaw02_RoundNearest.j0 602 (m : Int) a2 true a0_0 a0_1 = some true := by
    rw [grottolaw02_RoundNearest.j0.eq_2, if_pos rfl, live02_k (by omega)]; rfl
  unfold grottolaw02_RoundNearest.f grottolaw02_tiny.f
  by_cases h : (2 ≤ a0_0 ∧ a0_0 ≤ 4 ∧ 2 ≤ a0_1 ∧ a0_1 ≤ 4)
  · obtain ⟨h1, h2, h3, h4⟩ := h
    obtain ⟨M, rfl⟩ := Int.eq_ofNat_of_zero_le (show 0 ≤ a0_0 by omega)
    obtain ⟨X, rfl⟩ := Int.eq_ofNat_of_zero_le (show 0 ≤ a0_1 by omega)
    have hM : 2 ≤ M := by omega
    have hM' : M ≤ 4 := by omega
    have hX : 2 ≤ X := by omega
    have hX' : X ≤ 4 := by omega
    rw [if_pos h1, if_pos h2, if_pos h3, Option.bind_some, decide_eq_true h4, if_pos rfl]
    by_cases h5 : a2 < -12
    · rw [if_pos h5, hj]
    · rw [if_neg h5]
      by_cases h6 : a2 > 4
      · rw [decide_eq_true h6, hj]
      · rw [decide_eq_false h6, grottolaw02_RoundNearest.j0.eq_2, if_neg (by simp)]
        have wm : Unit → IntKind.u64.wrap (m : Int) = (m : Int) := fun _ => wuN (by omega)
        have p1 := pack_ok hM (by omega) hX (by omega) 598 false (hi := 0) (lo := m) (by omega) (by omega) (e := a2) (by omega) (by omega) false (by simp)
        rw [zero_lo] at p1
        have p2 : round_Pack.f 601 (M : Int) (X : Int) false 0 (m : Int) a2 false = _ := p1
        obtain ⟨i, hi⟩ := fin3 hM hM'
        obtain ⟨j, hj⟩ := fin3 hX hX'
        obtain ⟨htop, ht, _, _, _⟩ := top_tab i j
        rw [← hi, ← hj] at ht htop
        obtain ⟨x, hx⟩ : ∃ x, npat M X m 1 (a2 - least M X) = x := ⟨_, rfl⟩
        have hxi : x ≤ inf M X := by rw [← hx]; exact npat_le_inf ..
        have p3 : round_Pack.f 601 (M : Int) (X : Int) false 0 (m : Int) a2 false = some ((x : Int), 0) := by
          rw [p2, if_neg (by simp), npat_half, hx]
          have : sgn M X false + x = x := by unfold sgn; simp
          rw [this]
        have wi : Unit → IntKind.u64.wrap ((inf M X : Nat) : Int) = ((inf M X : Nat) : Int) := fun _ => wuN (by omega)
        have hd : decide ((x : Int) > ((inf M X : Nat) : Int)) = false := decide_eq_false (by omega)
        clear p1 p2
        rw [wm (), p3, Option.bind_some, if_pos (by omega), if_pos (by omega), htop, wi ()]
        simp only [grottolaw02_num.f, Option.bind_some]
        rw [if_pos trivial, hd]
        exact nr_j1 hM hM' hX hX' (by omega) (by omega) hm hx hxi
  · by_cases h1 : a0_0 ≥ 2
    · rw [if_pos h1]
      by_cases h2 : a0_0 ≤ 4
      · rw [if_pos h2]
        by_cases h3 : a0_1 ≥ 2
        · rw [if_pos h3, Option.bind_some, decide_eq_false (by omega), if_neg (by simp), hj]
        · rw [if_neg h3, Option.bind_some, if_neg (by simp), hj]
      · rw [if_neg h2, Option.bind_some, if_neg (by simp), hj]
    · rw [if_neg h1, Option.bind_some, if_neg (by simp), hj]
end Go.Proofs.Ytcfmmkapefpjjaa.Pure
