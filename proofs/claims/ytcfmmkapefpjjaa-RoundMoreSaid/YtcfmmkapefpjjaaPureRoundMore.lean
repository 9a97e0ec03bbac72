/- What is a little greater has the pattern of the number, or the next one, and is the pattern of twice the number and one: for every format, number and power; or it is refused. -/
import Derived.Test.YtcfmmkapefpjjaaPQx18
import Derived.Test.YtcfmmkapefpjjaaLive02
namespace Go.Proofs.Ytcfmmkapefpjjaa.Pure
open Go.RowKit Go.Proofs.Ytcfmmkapefpjjaa.PQ Go.Proofs.YtcfmmkapefpjjaaW.PrintWords Go.Proofs.YtcfmmkapefpjjaaW.PrintLast Go.Proofs.YtcfmmkapefpjjaaW.PrintMore
open FT RS

theorem more_next {M X N : Nat} {s : Int} (h : 2 ^ (M + 1) ≤ N) :
    npat M X (2 * N + 1) 1 (s - 1) = npat M X (2 * N + 0) 1 (s - 1) ∨ npat M X (2 * N + 1) 1 (s - 1) = npat M X (2 * N + 0) 1 (s - 1) + 1 := by
  obtain ⟨j, c, hr⟩ := raw_big (M := M) (N := N) (s := s) h
  have h1 := hr 1 (by omega)
  have h0 := hr 0 (by omega)
  rw [rne_bits (by omega)] at h1 h0
  unfold npat pat
  rw [h1, h0]
  by_cases hb : N / 2 ^ c % 2 = 1
  · rw [if_pos ⟨hb, Or.inr (Or.inl rfl)⟩]
    split <;> omega
  · rw [if_neg (fun h => hb h.1), if_neg (fun h => hb h.1)]; omega
theorem more_e1 (A : Nat) : ((A : Int) / 9223372036854775808) = ((A / 9223372036854775808 : Nat) : Int) := by omega
theorem more_e2 (A : Nat) : Go.bits .or .u64 (IntKind.u64.wrap ((A : Int) * 2)) 1 = ((2 * A % 18446744073709551616 + 1 : Nat) : Int) := by
  have h1 : Unit → IntKind.u64.wrap ((A : Int) * 2) = ((A % 9223372036854775808 * 2 ^ 1 : Nat) : Int) := fun _ => by rw [wu64]; omega
  rw [(h1 ())]
  have := or_add (a := A % 9223372036854775808) (b := 1) (i := 1) (by omega) (by omega)
  have h2 : ((1 : Nat) : Int) = 1 := rfl
  rw [h2] at this
  rw [this]; congr 1; omega
theorem more_N (A : Nat) : A / 9223372036854775808 * 18446744073709551616 + (2 * A % 18446744073709551616 + 1) = 2 * A + 1 := by omega
theorem more_small {A M : Nat} (hl : blen A ≤ M + 2) (h64 : M + 2 < 64) : shr .u64 (A : Int) ((M + 2 : Nat) : Int) = 0 := by
  have hsm : A / 2 ^ (M + 2) = 0 := Nat.div_eq_of_lt (Nat.lt_of_lt_of_le (blen_lt A) (Nat.pow_le_pow_right (by decide) hl))
  rw [shr_nat (Nat.le_of_lt h64), hsm]; rfl
theorem more_w {x : Nat} (h : x + 1 < 18446744073709551616) : IntKind.u64.wrap (((0 + x : Nat) : Int) + 1) = ((0 + x + 1 : Nat) : Int) := by
  rw [wu (by omega) (by omega)]; omega
theorem more_z {M X A y : Nat} {a2 : Int} (hM : 2 ≤ M) (hM' : M ≤ 52) (hX : 2 ≤ X) (hX' : X ≤ 11) (hA : A < 18446744073709551616) (he' : a2 ≤ 4096) (hye : npat M X (2 * A + 1) 1 (a2 - 1 - least M X) = y) :
    ∃ z g, round_Pack.f 20 (M : Int) (X : Int) false ((A / 9223372036854775808 : Nat) : Int) ((2 * A % 18446744073709551616 + 1 : Nat) : Int) (a2 - 1) false = some (z, g) ∧ (g ≠ 0 ∨ z = ((0 + y : Nat) : Int)) := by
  have hh : A / 9223372036854775808 < 18446744073709551616 := by omega
  have hl : 2 * A % 18446744073709551616 + 1 < 18446744073709551616 := by omega
  by_cases hlow : -4096 ≤ a2 - 1
  · have hhi : a2 - 1 ≤ 4096 := by omega
    have p3 : round_Pack.f 20 (M : Int) (X : Int) false ((A / 9223372036854775808 : Nat) : Int) ((2 * A % 18446744073709551616 + 1 : Nat) : Int) (a2 - 1) false = _ := pack_ok hM hM' hX hX' 17 false hh hl hlow hhi false (by simp)
    refine ⟨_, _, p3, Or.inr ?_⟩
    rw [more_N, if_neg (by simp), npat_half, ← hye]; rfl
  · have p3 : round_Pack.f 20 (M : Int) (X : Int) false ((A / 9223372036854775808 : Nat) : Int) ((2 * A % 18446744073709551616 + 1 : Nat) : Int) (a2 - 1) false = some (0, 1) := pack_bad 19 false hh hl (a2 - 1) false (Or.inr (Or.inl (by omega)))
    exact ⟨_, _, p3, Or.inl (by omega)⟩
theorem more_main {m s e A x y z f h g : Int} (p1 : round_Pack.f 20 m s false 0 A e false = some (x, f)) (p2 : round_Pack.f 20 m s false 0 A e true = some (y, h))
    (p3 : f = 0 → h = 0 → round_Pack.f 20 m s false (A / 9223372036854775808) (Go.bits .or .u64 (IntKind.u64.wrap (A * 2)) 1) (wrap64 (e - 1)) false = some (z, g))
    (c1 : f ≠ 0 → h = 1) (c2 : f = 0 → h ≠ 0 → y = 0 ∧ 0 ≤ wrap64 (m + 2) ∧ shr .u64 A (wrap64 (m + 2)) = 0)
    (c3 : f = 0 → h = 0 → (y = x ∨ y = IntKind.u64.wrap (x + 1)) ∧ (g ≠ 0 ∨ z = y)) : grottolaw02_RoundMore.f 20 m s A e = some true := by
  unfold grottolaw02_RoundMore.f
  simp only [grottolaw02_num.f, Option.bind_some, live02_k (show 10 ≤ 20 by omega), p1, p2]
  by_cases hf : f = 0
  · by_cases hh : h = 0
    · obtain ⟨c, d⟩ := c3 hf hh
      rw [if_pos hf, if_pos hh, p3 hf hh, Option.bind_some]
      have fin : (if g = 0 then (if z = y then some true else some false) else some true) = some true := by
        by_cases hg : g = 0
        · rcases d with d | d
          · exact absurd hg d
          · rw [if_pos hg, if_pos d]
        · rw [if_neg hg]
      by_cases hc : y = x
      · rw [if_pos hc]; exact fin
      · rcases c with c | c
        · exact absurd c hc
        · rw [if_neg hc, if_pos c]; exact fin
    · obtain ⟨h1, h2, h3⟩ := c2 hf hh
      rw [if_pos hf, if_neg hh, if_pos h1, if_pos h2, if_pos h3]
  · rw [if_neg hf, if_pos (c1 hf)]
theorem RoundMore (a0_0 : Int) (a0_1 : Int) (a1 : Int) (a2 : Int) (w0_0 : (Lit.int .i64 a0_0).wf = true) (_w0_1 : (Lit.int .i64 a0_1).wf = true) (w1 : (Lit.int .u64 a1).wf = true) (w2 : (Lit.int .i64 a2).wf = true) : ∃ k, grottolaw02_RoundMore.f k a0_0 a0_1 a1 a2 = some true := by
  obtain ⟨A, rfl, hA⟩ := wf_u64 w1
  clear w1
  have h0 : (0 : Nat) < 18446744073709551616 := by omega
  refine ⟨20, ?_⟩
  by_cases hok : Ok a0_0 a0_1 ∧ -4096 ≤ a2 ∧ a2 ≤ 4096
  · obtain ⟨hf, he, he'⟩ := hok
    obtain ⟨M, X, rfl, rfl, hM, hM', hX, hX'⟩ := hf.nat
    clear w0_0 _w0_1 w2
    have p1 : round_Pack.f 20 (M : Int) (X : Int) false 0 (A : Int) a2 false = _ := pack_ok hM hM' hX hX' 17 false (hi := 0) (lo := A) h0 hA he he' false (by simp)
    have p2 := pack_ok hM hM' hX hX' 17 false (hi := 0) (lo := A) h0 hA he he' true
    have p2b := fun hb => pack_bad 19 (m := (M : Int)) (x := (X : Int)) false (hi := 0) (lo := A) h0 hA a2 true (Or.inr (Or.inr (Or.inr ⟨rfl, hb⟩)))
    rw [zero_lo] at p1 p2 p2b
    have ew : Unit → wrap64 ((M : Int) + 2) = ((M + 2 : Nat) : Int) := fun _ => by rw [w64 (by omega) (by omega)]; omega
    by_cases hb : M + 3 ≤ blen A
    · have hbig : 2 ^ (M + 1) ≤ A := by
        have h1 := blen_ge (a := A) (by intro h; subst h; simp [blen] at hb)
        exact Nat.le_trans (Nat.pow_le_pow_right (by omega) (by omega)) h1
      have hnext := more_next (M := M) (X := X) (N := A) (s := a2 - least M X) hbig
      rw [show a2 - least M X - 1 = a2 - 1 - least M X by omega] at hnext
      obtain ⟨y, hye⟩ : ∃ y, npat M X (2 * A + 1) 1 (a2 - 1 - least M X) = y := ⟨_, rfl⟩
      obtain ⟨z, g, p3, hzg⟩ := more_z hM hM' hX hX' hA he' hye
      have ee : Unit → wrap64 (a2 - 1) = a2 - 1 := fun _ => w64 (by omega) (by omega)
      rw [← more_e1, ← more_e2, ← ee ()] at p3
      have hx := npat_le_inf M X (2 * A + 0) 1 (a2 - 1 - least M X)
      have hxb : 0 + npat M X (2 * A + 0) 1 (a2 - 1 - least M X) + 1 < 18446744073709551616 := by
        rw [Nat.zero_add]
        exact Nat.lt_of_le_of_lt (Nat.succ_le_of_lt (Nat.lt_of_le_of_lt hx inf_lt)) (pow_lt (k := M + X) (by omega))
      refine more_main p1 (p2 fun _ => hb) (fun _ _ => p3) (fun h => absurd rfl h) (fun _ h => absurd rfl h) (fun _ _ => ⟨?_, ?_⟩)
      · rcases hnext with h | h
        · left; rw [if_pos rfl, h]; rfl
        · right
          rw [if_pos rfl, h]
          have := wuN hxb
          exact this.symm
      · rcases hzg with h | h
        · exact Or.inl h
        · right; rw [h, if_pos rfl, hye]; rfl
    · have hlt3 : (blen A : Int) < (M : Int) + 3 := by omega
      refine more_main (z := 0) (g := 0) p1 (p2b hlt3) (fun _ h => absurd h (by decide)) (fun h => absurd rfl h) (fun _ _ => ⟨rfl, ?_, ?_⟩) (fun _ h => absurd h (by decide))
      · rw [ew ()]; exact Int.natCast_nonneg _
      · rw [ew ()]; exact more_small (A := A) (by omega) (by omega)
  · have hb : ∀ more, ¬ (2 ≤ a0_0 ∧ a0_0 ≤ 52 ∧ 2 ≤ a0_1 ∧ a0_1 ≤ 11) ∨ a2 < -4096 ∨ 4096 < a2 ∨ (more = true ∧ (blen (0 * 18446744073709551616 + A) : Int) < a0_0 + 3) := by
      intro more
      by_cases h1 : Ok a0_0 a0_1
      · by_cases h2 : -4096 ≤ a2
        · exact Or.inr (Or.inr (Or.inl (Int.not_le.1 fun h3 => hok ⟨h1, h2, h3⟩)))
        · exact Or.inr (Or.inl (Int.not_le.1 h2))
      · exact Or.inl h1
    have p1 := pack_bad 19 (m := a0_0) (x := a0_1) false (hi := 0) (lo := A) h0 hA a2 false (hb _)
    have p2 := pack_bad 19 (m := a0_0) (x := a0_1) false (hi := 0) (lo := A) h0 hA a2 true (hb _)
    exact more_main (z := 0) (g := 0) p1 p2 (fun h => absurd h (by decide)) (fun _ => rfl) (fun h => absurd h (by decide)) (fun h => absurd h (by decide))
end Go.Proofs.Ytcfmmkapefpjjaa.Pure
