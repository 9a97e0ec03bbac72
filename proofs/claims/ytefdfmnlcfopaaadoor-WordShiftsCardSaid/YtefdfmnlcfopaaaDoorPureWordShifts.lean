/- Shifts by any number, and the lowest bytes as integers, are the reference's: for every two words and every number of bytes. -/
import Derived.Test.YtefdfmnlcfopaaaDoorPQx14
import Derived.Test.YtefdfmnlcfopaaaDoorLw
namespace Go.Proofs.YtefdfmnlcfopaaaDoor.Pure
open Go.RowKit Go.Proofs.YtefdfmnlcfopaaaDoor.PQ Go.Proofs.YtefdfmnlcfopaaaDoorW.PrintWords Go.Proofs.YtefdfmnlcfopaaaDoorW.PrintLast Go.Proofs.YtefdfmnlcfopaaaDoorW.PrintMore
theorem shl_l0 : ∀ (d i k x n : Nat), i + d = 32 → d < k → x < 4294967296 → n < 4294967296 → grottoref01_Shl.l0 k (x : Int) (n : Int) (i : Int) = some ((x * 2 ^ min n d % 4294967296 : Nat) : Int) := by
  intro d
  induction d with
  | zero =>
    intro i k x n hi hk hx hn
    obtain ⟨k, rfl⟩ : ∃ j, k = j + 1 := ⟨k - 1, by omega⟩
    rw [grottoref01_Shl.l0.eq_2, if_neg (by omega), Nat.min_zero, Nat.pow_zero, Nat.mul_one, Nat.mod_eq_of_lt hx]
  | succ d ih =>
    intro i k x n hi hk hx hn
    obtain ⟨k, rfl⟩ : ∃ j, k = j + 1 := ⟨k - 1, by omega⟩
    rw [grottoref01_Shl.l0.eq_2, if_pos (by omega)]
    by_cases h0 : n = 0
    · subst h0
      rw [if_neg (by omega), Nat.zero_min, Nat.pow_zero, Nat.mul_one, Nat.mod_eq_of_lt hx]
    · have e1 : (x : Int) * 2 % 4294967296 = ((x * 2 % 4294967296 : Nat) : Int) := by omega
      have e2 : ((n : Int) - 1) % 4294967296 = ((n - 1 : Nat) : Int) := by omega
      have e3 : (i : Int) + 1 = ((i + 1 : Nat) : Int) := by omega
      rw [if_pos (by omega), of_eq, Option.bind_some, w64 (n := (x : Int)) (by omega) (by omega), w64 (n := (x : Int) * 2) (by omega) (by omega), e1, e2, w64 (by omega) (by omega), e3, ih (i + 1) k (x * 2 % 4294967296) (n - 1) (by omega) (by omega) (Nat.mod_lt _ (by omega)) (by omega)]
      have e4 : min n (d + 1) = min (n - 1) d + 1 := by omega
      congr 2
      rw [e4, Nat.pow_succ, Nat.mod_mul_mod]
      congr 1
      ac_rfl
theorem shr_l0 : ∀ (d i k x n : Nat), i + d = 32 → d < k → x < 4294967296 → n < 4294967296 → grottoref01_Shr.l0 k (x : Int) (n : Int) (i : Int) = some ((x / 2 ^ min n d : Nat) : Int) := by
  intro d
  induction d with
  | zero =>
    intro i k x n hi hk hx hn
    obtain ⟨k, rfl⟩ : ∃ j, k = j + 1 := ⟨k - 1, by omega⟩
    rw [grottoref01_Shr.l0.eq_2, if_neg (by omega), Nat.min_zero, Nat.pow_zero, Nat.div_one]
  | succ d ih =>
    intro i k x n hi hk hx hn
    obtain ⟨k, rfl⟩ : ∃ j, k = j + 1 := ⟨k - 1, by omega⟩
    rw [grottoref01_Shr.l0.eq_2, if_pos (by omega)]
    by_cases h0 : n = 0
    · subst h0
      rw [if_neg (by omega), Nat.zero_min, Nat.pow_zero, Nat.div_one]
    · have e1 : Int.tdiv (x : Int) 2 % 4294967296 = ((x / 2 : Nat) : Int) := by rw [Int.tdiv_eq_ediv_of_nonneg (by omega)]; omega
      have e2 : ((n : Int) - 1) % 4294967296 = ((n - 1 : Nat) : Int) := by omega
      have e3 : (i : Int) + 1 = ((i + 1 : Nat) : Int) := by omega
      rw [if_pos (by omega), e1, e2, w64 (by omega) (by omega), e3, ih (i + 1) k (x / 2) (n - 1) (by omega) (by omega) (by omega) (by omega)]
      have e4 : min n (d + 1) = min (n - 1) d + 1 := by omega
      congr 2
      rw [e4, Nat.pow_succ', Nat.div_div_eq_div_mul]
/-- one step of a shift that keeps the sign -/
theorem sar_step {s : Int} (h : -2147483648 ≤ s) (h' : s < 2147483648) (g : Int) (hg : g = if s < 0 then 1 else 0) : ((Int.tdiv (s % 4294967296) 2 % 4294967296) + ((g * 2147483648) % 4294967296)) % 4294967296 = (s / 2) % 4294967296 := by
  rw [Int.tdiv_eq_ediv_of_nonneg (by omega), hg]
  split <;> omega
theorem sar_l0 (g : Int) : ∀ (d i k n : Nat) (s : Int), i + d = 32 → d < k → -2147483648 ≤ s → s < 2147483648 → g = (if s < 0 then 1 else 0) → n < 4294967296 → grottoref01_Sar.l0 k (s % 4294967296) (n : Int) g (i : Int) = some ((s / 2 ^ min n d) % 4294967296) := by
  intro d
  induction d with
  | zero =>
    intro i k n s hi hk hs hs' hg hn
    obtain ⟨k, rfl⟩ : ∃ j, k = j + 1 := ⟨k - 1, by omega⟩
    rw [grottoref01_Sar.l0.eq_2, if_neg (by omega), Nat.min_zero, Int.pow_zero, Int.ediv_one]
  | succ d ih =>
    intro i k n s hi hk hs hs' hg hn
    obtain ⟨k, rfl⟩ : ∃ j, k = j + 1 := ⟨k - 1, by omega⟩
    rw [grottoref01_Sar.l0.eq_2, if_pos (by omega)]
    by_cases h0 : n = 0
    · subst h0
      rw [if_neg (by omega), Nat.zero_min, Int.pow_zero, Int.ediv_one]
    · have e2 : ((n : Int) - 1) % 4294967296 = ((n - 1 : Nat) : Int) := by omega
      have e3 : (i : Int) + 1 = ((i + 1 : Nat) : Int) := by omega
      rw [if_pos (by omega), sar_step hs hs' g hg, e2, w64 (by omega) (by omega), e3, ih (i + 1) k (n - 1) (s / 2) (by omega) (by omega) (by omega) (by omega) (by rw [hg]; split <;> split <;> omega) (by omega)]
      have e4 : min n (d + 1) = min (n - 1) d + 1 := by omega
      congr 2
      rw [e4, Int.pow_succ', Int.ediv_ediv_of_nonneg (by omega)]
theorem WordShifts (a0 : Int) (a1 : Int) (a2 : Int) (w0 : (Lit.int .u32 a0).wf = true) (w1 : (Lit.int .u32 a1).wf = true) (w2 : (Lit.int .i64 a2).wf = true) : ∃ k, grottolaw01_WordShifts.f k a0 a1 a2 = some true := by
  refine ⟨100, ?_⟩
  have h1 := wf_u32 w0
  have h2 := wf_u32 w1
  have hl := live_k (show 100 ≤ 100 by omega)
  have i1 := i32_cases h1.1 h1.2
  obtain ⟨x, hx⟩ : ∃ x : Nat, a0 = x := ⟨a0.toNat, by omega⟩
  obtain ⟨n, hn⟩ : ∃ n : Nat, a1 = n := ⟨a1.toNat, by omega⟩
  have z0 : ((0 : Nat) : Int) = 0 := rfl
  have p32 : ∀ m : Nat, m ≤ 31 → x * 2 ^ m < 4294967296 * 2 ^ 32 := by
    intro m hm
    have h3 : 2 ^ m ≤ 2 ^ 31 := Nat.pow_le_pow_right (by omega) hm
    have := Nat.mul_le_mul_left x h3
    omega
  have s1 : grottoref01_Shl.f 100 a0 a1 = word_Shl.f a0 a1 := by
    have h := shl_l0 32 0 100 x n (by omega) (by omega) (by omega) (by omega)
    unfold grottoref01_Shl.f word_Shl.f
    rw [z0] at h
    rw [hx, hn, h]
    by_cases c : (n : Int) > 31
    · have e : min n 32 = 32 := by omega
      rw [if_pos c, e]
      congr 1
      have : x * 2 ^ 32 % 4294967296 = 0 := Nat.mul_mod_left x 4294967296
      rw [this]; rfl
    · have e : min n 32 = n := by omega
      rw [if_neg c, if_pos (by omega), e]
      unfold shl
      congr 1
      have hw : ∀ z : Int, IntKind.u32.wrap z = z % 4294967296 := fun z => IntKind.wrap_u32 z
      have e5 : min ((n : Int)).toNat IntKind.u32.bits = n := by
        rw [Int.toNat_natCast]; exact Nat.min_eq_left (by have : IntKind.u32.bits = 32 := rfl; omega)
      rw [hw, e5]
      simp
  have s2 : grottoref01_Shr.f 100 a0 a1 = word_Shr.f a0 a1 := by
    have h := shr_l0 32 0 100 x n (by omega) (by omega) (by omega) (by omega)
    unfold grottoref01_Shr.f word_Shr.f
    rw [z0] at h
    rw [hx, hn, h]
    by_cases c : (n : Int) > 31
    · have e : min n 32 = 32 := by omega
      rw [if_pos c, e]
      congr 1
      have : x / 2 ^ 32 = 0 := Nat.div_eq_of_lt (by omega)
      rw [this]; rfl
    · have e : min n 32 = n := by omega
      rw [if_neg c, if_pos (by omega), e]
      unfold shr
      congr 1
      have e5 : min ((n : Int)).toNat IntKind.u32.bits = n := by
        rw [Int.toNat_natCast]; exact Nat.min_eq_left (by have : IntKind.u32.bits = 32 := rfl; omega)
      rw [e5]
      simp
  have s3 : grottoref01_Sar.f 100 a0 a1 = word_Sar.f a0 a1 := by
    have hs : wrap32 a0 % 4294967296 = a0 := by unfold wrap32; omega
    have hg : (Int.tdiv a0 2147483648) % 4294967296 = if wrap32 a0 < 0 then 1 else 0 := by
      rw [Int.tdiv_eq_ediv_of_nonneg (by omega)]; split <;> omega
    have h := sar_l0 _ 32 0 100 n (wrap32 a0) (by omega) (by omega) (by omega) (by omega) hg (by omega)
    rw [z0, hs] at h
    unfold grottoref01_Sar.f word_Sar.f
    rw [hn, h]
    have hm : mn (n : Int) 31 = ((min n 31 : Nat) : Int) := by unfold mn; split <;> omega
    rw [hm, if_pos (by omega), Int.toNat_natCast]
    congr 2
    by_cases c : n ≤ 31
    · have e1 : min n 32 = n := by omega
      have e2 : min n 31 = n := by omega
      rw [e1, e2]
    · have e1 : min n 32 = 32 := by omega
      have e2 : min n 31 = 31 := by omega
      rw [e1, e2]
      have p1 : (2 : Int) ^ 32 = 4294967296 := by decide
      have p2 : (2 : Int) ^ 31 = 2147483648 := by decide
      rw [p1, p2]; omega
  have s4 : grottoref01_Extend.f 100 a0 a2 = word_Extend.f a0 a2 := by
    have t8 : IntKind.i8.wrap a0 = (a0 + 128) % 256 - 128 := by
      simp [IntKind.wrap, IntKind.bits, IntKind.signed]
      split <;> omega
    have t16 : IntKind.i16.wrap a0 = (a0 + 32768) % 65536 - 32768 := by
      simp [IntKind.wrap, IntKind.bits, IntKind.signed]
      split <;> omega
    unfold grottoref01_Extend.f word_Extend.f
    by_cases c1 : a2 = 1
    · rw [if_pos c1, if_pos c1, grottoref01_Extend.j0.eq_2, if_neg (by omega), grottoref01_Extend.j1.eq_2, if_neg (by omega), w64 (n := a0) (by omega) (by omega), Int.tmod_eq_emod_of_nonneg (by omega)]
      have hd : wrap64 (Int.tdiv 256 2) = 128 := by decide +kernel
      rw [hd, t8]
      unfold wrap32
      by_cases c : a0 % 256 ≥ 128
      · rw [if_pos c, w64 (by omega) (by omega), of_eq, Option.bind_some]
        congr 1; omega
      · rw [if_neg c, of_eq, Option.bind_some]
        congr 1; omega
    · rw [if_neg c1, if_neg c1]
      by_cases c2 : a2 = 2
      · rw [if_pos c2, grottoref01_Extend.j0.eq_2, if_pos c2, grottoref01_Extend.j1.eq_2, if_neg (by omega), w64 (n := a0) (by omega) (by omega), Int.tmod_eq_emod_of_nonneg (by omega)]
        have hd : wrap64 (Int.tdiv 65536 2) = 32768 := by decide +kernel
        rw [hd, t16]
        unfold wrap32
        by_cases c : a0 % 65536 ≥ 32768
        · rw [if_pos c, w64 (by omega) (by omega), of_eq, Option.bind_some]
          congr 1; omega
        · rw [if_neg c, of_eq, Option.bind_some]
          congr 1; omega
      · rw [if_neg c2, grottoref01_Extend.j0.eq_2, if_neg c2, grottoref01_Extend.j1.eq_2, if_pos rfl]
  have some4 : ∀ (o : Option Int), (o.isSome = true) → ∃ v, o = some v := fun o h => Option.isSome_iff_exists.1 h
  obtain ⟨v1, e1⟩ : ∃ v, word_Shl.f a0 a1 = some v := by unfold word_Shl.f; rw [if_pos h2.1]; split <;> exact ⟨_, rfl⟩
  obtain ⟨v2, e2⟩ : ∃ v, word_Shr.f a0 a1 = some v := by unfold word_Shr.f; rw [if_pos h2.1]; split <;> exact ⟨_, rfl⟩
  obtain ⟨v3, e3⟩ : ∃ v, word_Sar.f a0 a1 = some v := by unfold word_Sar.f mn; rw [if_pos (by split <;> omega)]; exact ⟨_, rfl⟩
  obtain ⟨v4, e4⟩ : ∃ v, word_Extend.f a0 a2 = some v := by unfold word_Extend.f; repeat' split
                                                            all_goals exact ⟨_, rfl⟩
  unfold grottolaw01_WordShifts.f
  rw [s1, s2, s3, s4, e1, Option.bind_some, Option.bind_some, if_pos rfl, e2, Option.bind_some, Option.bind_some, if_pos rfl, e3, Option.bind_some, Option.bind_some, if_pos rfl, e4, Option.bind_some, Option.bind_some, if_pos rfl, hl, Option.bind_some]
end Go.Proofs.YtefdfmnlcfopaaaDoor.Pure
