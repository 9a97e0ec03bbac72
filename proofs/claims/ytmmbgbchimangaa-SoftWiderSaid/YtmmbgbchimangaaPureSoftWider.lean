/- Sums, differences, products, quotients and roots that are reckoned in a format more than twice as wide, and converted back, are the same: for every format that the law lets in and any two patterns. -/
import Derived.Test.YtmmbgbchimangaaPQx43
import Derived.Test.YtmmbgbchimangaaRN3
import Derived.Test.YtmmbgbchimangaaWD
import Derived.Test.YtmmbgbchimangaaPT
import Derived.Test.YtmmbgbchimangaaLive03
namespace Go.Proofs.Ytmmbgbchimangaa.Pure
set_option linter.all false
open Go.RowKit Go.Proofs.Ytmmbgbchimangaa.PQ Go.Proofs.YtmmbgbchimangaaW.PrintWords Go.Proofs.YtmmbgbchimangaaW.PrintLast Go.Proofs.YtmmbgbchimangaaW.PrintMore
open FT RS
theorem wd_step {M X M' X' : Nat} (hM : 2 ≤ M) (hX : 2 ≤ X) (gM : M' ≤ 52) (gX : X' ≤ 11) (w1 : 2 * M + 4 ≤ M') (w2 : X + 2 ≤ X') {k : Nat} (hk : 30 ≤ k) (a b x y i : Int) {u v : Nat} (hv : Pt M' X' v) (h : convS M' X' M X v = u) :
    grottolaw03_SoftWider.j2 (k + 1) a b x y i (u : Int) (v : Int) 0 0 (M : Int) (X : Int) (M' : Int) (X' : Int) = grottolaw03_SoftWider.l0 k a b x y (wrap64 (i + 1)) (M : Int) (X : Int) (M' : Int) (X' : Int) := by
  have w0 : wrap64 (wrap64 (0 + 0) + 0) = 0 := by decide +kernel
  rw [grottolaw03_SoftWider.j2.eq_2, conv_eq (by omega) gM (by omega) gX hM (by omega) hX (by omega) (by omega) hv, Option.bind_some]
  simp only [grottolaw03_num.f, Option.bind_some]
  rw [w0, if_pos rfl, h, if_pos rfl]
theorem SoftWider (a0_0 : Int) (a0_1 : Int) (a1 : Int) (a2 : Int) (_w0_0 : (Lit.int .i64 a0_0).wf = true) (_w0_1 : (Lit.int .i64 a0_1).wf = true) (w1 : (Lit.int .u64 a1).wf = true) (w2 : (Lit.int .u64 a2).wf = true) : ∃ k, grottolaw03_SoftWider.f k a0_0 a0_1 a1 a2 = some true := by
  obtain ⟨a, rfl, ha⟩ := wf_u64 w1
  obtain ⟨b, rfl, hb⟩ := wf_u64 w2
  clear w1 w2 _w0_0 _w0_1
  refine ⟨300, ?_⟩
  have hj : ∀ x y z t, grottolaw03_SoftWider.j0 300 (a : Int) (b : Int) true x y z t = some true := by
    intro x y z t; rw [grottolaw03_SoftWider.j0.eq_2, if_pos rfl, live03_k (by omega)]; rfl
  have ng : ∀ c : Nat, c < 18446744073709551616 → ¬ RS.Good a0_0 a0_1 c → grottoref02_Open.f 300 a0_0 a0_1 (c : Int) = some (0, false, 0, 0, 1) := by
    intro c hc h
    refine ropen_bad (by omega) hc ?_
    by_cases hf : Ok a0_0 a0_1
    · right; exact Int.not_le.1 fun h2 => h ⟨hf, h2⟩
    · exact Or.inl hf
  have op : ∀ c : Nat, c < 18446744073709551616 → ∃ x1 x2 x3 x4 x5, grottoref02_Open.f 300 a0_0 a0_1 (c : Int) = some (x1, x2, x3, x4, x5) ∧ ((x5 = 0 ∧ RS.Good a0_0 a0_1 c) ∨ (x5 = 1 ∧ ¬ RS.Good a0_0 a0_1 c)) := by
    intro c hc
    by_cases h : RS.Good a0_0 a0_1 c
    · obtain ⟨M, X, rfl, rfl, hM, hM', hX, hX', hp⟩ := h.nat
      exact ⟨_, _, _, _, _, ropen_ok hM hM' hX hX' (k := 300) (by omega) hp, Or.inl ⟨rfl, h⟩⟩
    · exact ⟨_, _, _, _, _, ng c hc h, Or.inr ⟨rfl, h⟩⟩
  obtain ⟨x1, x2, x3, x4, x5, ox, hx⟩ := op a ha
  obtain ⟨y1, y2, y3, y4, y5, oy, hy⟩ := op b hb
  unfold grottolaw03_SoftWider.f
  rw [ox, Option.bind_some, oy, Option.bind_some]
  dsimp only
  by_cases h23 : a0_0 > 23
  · rw [if_pos h23, hj]
  rw [if_neg h23]
  by_cases h9 : a0_1 > 9
  · rw [if_pos h9, hj]
  rw [if_neg h9]
  rcases hx with ⟨rfl, gx⟩ | ⟨rfl, gx⟩
  · rw [if_pos rfl]
    rcases hy with ⟨rfl, gy⟩ | ⟨rfl, gy⟩
    · obtain ⟨M, X, rfl, rfl, hM, hM', hX, hX', pa⟩ := gx.nat
      obtain ⟨M2, X2, e1, e2, _, _, _, _, pb⟩ := gy.nat
      obtain rfl : M = M2 := by omega
      obtain rfl : X = X2 := by omega
      clear ox oy ng op hj
      have c0 : ((0 : Int) != 0) = false := by decide
      have wM : wrap64 (wrap64 (2 * (M : Int)) + 4) = ((2 * M + 4 : Nat) : Int) := by rw [w64 (n := 2 * (M : Int)) (by omega) (by omega), w64 (by omega) (by omega)]; omega
      have wX : wrap64 ((X : Int) + 2) = ((X + 2 : Nat) : Int) := by rw [w64 (by omega) (by omega)]; omega
      have gM : 2 * M + 4 ≤ 52 := by clear wM wX; omega
      have gX : X + 2 ≤ 11 := by clear wM wX; omega
      have m1 : M ≤ 52 := hM'
      have hM2 : 2 ≤ 2 * M + 4 := by clear wM wX; omega
      have hX2 : 2 ≤ X + 2 := by clear wM wX; omega
      have w00 : wrap64 (0 + 0) = 0 := by decide +kernel
      rw [c0, wM, wX]
      clear wM wX
      obtain ⟨qa, _, _, _⟩ := wide_conv (M' := 2 * M + 4) (X' := X + 2) hM hX gM gX (Nat.le_refl _) (Nat.le_refl _) pa
      obtain ⟨qb, _, _, _⟩ := wide_conv (M' := 2 * M + 4) (X' := X + 2) hM hX gM gX (Nat.le_refl _) (Nat.le_refl _) pb
      have s0 := wide_add (M' := 2 * M + 4) (X' := X + 2) hM hX gM gX (Nat.le_refl _) (Nat.le_refl _) pa pb
      have s1 := wide_sub (M' := 2 * M + 4) (X' := X + 2) hM hX gM gX (Nat.le_refl _) (Nat.le_refl _) pa pb
      have s2 := wide_mul (M' := 2 * M + 4) (X' := X + 2) hM hX gM gX (Nat.le_refl _) (Nat.le_refl _) pa pb
      have s3 := wide_div (M' := 2 * M + 4) (X' := X + 2) hM hX gM gX (Nat.le_refl _) (Nat.le_refl _) pa pb
      have s4 := wide_sqrt (M' := 2 * M + 4) (X' := X + 2) hM hX gM gX (Nat.le_refl _) (Nat.le_refl _) pa
      have i1 : wrap64 (0 + 1) = 1 := by decide +kernel
      have i2 : wrap64 (1 + 1) = 2 := by decide +kernel
      have i3 : wrap64 (2 + 1) = 3 := by decide +kernel
      have i4 : wrap64 (3 + 1) = 4 := by decide +kernel
      have i5 : wrap64 (4 + 1) = 5 := by decide +kernel
      rw [grottolaw03_SoftWider.j0.eq_2, if_neg (by simp), conv_eq hM hM' hX hX' hM2 gM hX2 gX (by omega) pa, Option.bind_some, conv_eq hM hM' hX hX' hM2 gM hX2 gX (by omega) pb, Option.bind_some]
      simp only [grottolaw03_num.f, Option.bind_some]
      rw [w00, if_pos rfl]
      generalize convS M X (2 * M + 4) (X + 2) a = x at *
      generalize convS M X (2 * M + 4) (X + 2) b = y at *
      have stp := fun {k : Nat} (hk : 30 ≤ k) (i : Int) {u v : Nat} (hv : Pt (2 * M + 4) (X + 2) v) (h : convS (2 * M + 4) (X + 2) M X v = u) => wd_step (M' := 2 * M + 4) (X' := X + 2) hM hX gM gX (Nat.le_refl _) (Nat.le_refl _) hk (a : Int) (b : Int) (x : Int) (y : Int) i hv h
      rw [grottolaw03_SoftWider.l0.eq_2, if_pos (by decide), if_pos rfl, add_eq hM hM' hX hX' (by omega) pa pb, Option.bind_some, add_eq hM2 gM hX2 gX (by omega) qa qb, Option.bind_some]
      dsimp only
      rw [stp (by omega) _ (pt_add hM2 gM hX2 gX _ _) s0, i1]
      rw [grottolaw03_SoftWider.l0.eq_2, if_pos (by decide), if_neg (by decide), if_pos rfl, sub_eq hM hM' hX hX' (by omega) pa pb, Option.bind_some, sub_eq hM2 gM hX2 gX (by omega) qa qb, Option.bind_some]
      dsimp only
      rw [stp (by omega) _ (pt_add hM2 gM hX2 gX _ _) s1, i2]
      rw [grottolaw03_SoftWider.l0.eq_2, if_pos (by decide), if_neg (by decide), if_neg (by decide), if_pos rfl, mul_eq hM hM' hX hX' (by omega) pa pb, Option.bind_some, mul_eq hM2 gM hX2 gX (by omega) qa qb, Option.bind_some]
      dsimp only
      rw [stp (by omega) _ (pt_mul hM2 gM hX2 gX _ _) s2, i3]
      rw [grottolaw03_SoftWider.l0.eq_2, if_pos (by decide), if_neg (by decide), if_neg (by decide), if_neg (by decide), if_pos rfl, div_eq hM hM' hX hX' (by omega) pa pb, Option.bind_some, div_eq hM2 gM hX2 gX (by omega) qa qb, Option.bind_some]
      dsimp only
      rw [stp (by omega) _ (pt_div hM2 gM hX2 gX _ _) s3, i4]
      rw [grottolaw03_SoftWider.l0.eq_2, if_pos (by decide), if_neg (by decide), if_neg (by decide), if_neg (by decide), if_neg (by decide), if_pos rfl, sqrt_eq hM hM' hX hX' (by omega) pa, Option.bind_some, sqrt_eq hM2 gM hX2 gX (by omega) qa, Option.bind_some]
      dsimp only
      rw [stp (by omega) _ (pt_root hM2 gM hX2 gX qa) s4, i5, grottolaw03_SoftWider.l0.eq_2, if_neg (by decide), live03_k (by omega)]
      rfl
    · have c1 : ((1 : Int) != 0) = true := by decide
      rw [c1, hj]
  · rw [if_neg (by decide), hj]
end Go.Proofs.Ytmmbgbchimangaa.Pure
