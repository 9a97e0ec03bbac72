/- Bytes that are put are read back, wherever they stand: for every two words and every number of bytes. -/
import Derived.Test.YtefdfmnlcfopaaaDoorPQx13
import Derived.Test.YtefdfmnlcfopaaaDoorBy
namespace Go.Proofs.YtefdfmnlcfopaaaDoor.Pure
set_option linter.all false
open Go.RowKit Go.Proofs.YtefdfmnlcfopaaaDoor.PQ Go.Proofs.YtefdfmnlcfopaaaDoorW.PrintWords Go.Proofs.YtefdfmnlcfopaaaDoorW.PrintLast Go.Proofs.YtefdfmnlcfopaaaDoorW.PrintMore
theorem mask_eq {y m : Nat} (hy : y < 4294967296) (hm : m ≤ 32) : Go.bits .andNot .u32 (y : Int) ((4294967296 - 2 ^ m : Nat) : Int) = ((y % 2 ^ m : Nat) : Int) := by
  have hp : 2 ^ m ≤ 2 ^ 32 := Nat.pow_le_pow_right (by omega) hm
  have hpos : 0 < 2 ^ m := Nat.pow_pos (by omega)
  have key : (BitVec.ofInt IntKind.u32.bits (y : Int) &&& ~~~ BitVec.ofInt IntKind.u32.bits ((4294967296 - 2 ^ m : Nat) : Int)).toNat = y % 2 ^ m := by
    have hb : IntKind.u32.bits = 32 := rfl
    rw [BitVec.toNat_and, BitVec.toNat_not, BitVec.ofInt_natCast, BitVec.ofInt_natCast, BitVec.toNat_ofNat, BitVec.toNat_ofNat, hb]
    by_cases h32 : m = 32
    · subst h32
      have e : 2 ^ 32 - 1 - (4294967296 - 2 ^ 32) % 2 ^ 32 = 2 ^ 32 - 1 := by decide
      rw [e, Nat.and_two_pow_sub_one_eq_mod]
      omega
    · have hlt : 2 ^ m < 2 ^ 32 := Nat.pow_lt_pow_right (by omega) (by omega)
      have e : 2 ^ 32 - 1 - (4294967296 - 2 ^ m) % 2 ^ 32 = 2 ^ m - 1 := by
        rw [Nat.mod_eq_of_lt (by omega)]; omega
      rw [e, Nat.and_two_pow_sub_one_eq_mod, Nat.mod_eq_of_lt (show y < 2 ^ 32 from hy)]
  have hle := Nat.mod_le y (2 ^ m)
  unfold Go.bits
  dsimp only
  rw [key, u32w]
  omega
theorem WordBack (a0 : Int) (a1 : Int) (a2 : Int) (w0 : (Lit.int .u32 a0).wf = true) (w1 : (Lit.int .u32 a1).wf = true) (w2 : (Lit.int .i64 a2).wf = true) : ∃ k, grottolaw01_WordBack.f k a0 a1 a2 = some true := by
  refine ⟨202, ?_⟩
  have h1 := wf_u32 w0
  have h2 := wf_u32 w1
  obtain ⟨x, rfl⟩ : ∃ x : Nat, a0 = x := ⟨a0.toNat, by omega⟩
  obtain ⟨y, rfl⟩ : ∃ y : Nat, a1 = y := ⟨a1.toNat, by omega⟩
  have hl : ∀ {k : Nat}, 100 ≤ k → grottolaw01_live.f k = some true := fun h => live_k h
  have l4 : (byts x 4).length = 4 := byts_len 4 x
  have nm0 : grottolaw01_num.f 0 = some 0 := rfl
  have nm1 : grottolaw01_num.f 1 = some 1 := rfl
  have p4 : word_Put.f 202 (x : Int) 4 = some (byts x 4) := put_eq (n := 4) (by omega) (by omega)
  have first : ∀ tl : List Int, Byt tl → tl.length ≤ 4 → word_Be.f 202 (byts x 4 ++ tl) 0 4 = some ((x : Int), 0) := by
    intro tl ht hlen
    have h := be_eq (k := 202) (n := 4) (at_ := 0) (l := byts x 4 ++ tl) (by omega) (fun b hb => (List.mem_append.1 hb).elim (byts_byt 4 x b) (ht b)) (by omega) (by rw [List.length_append]; omega) (by rw [List.length_append]; omega)
    have e : ((byts x 4 ++ tl).take (0 + 4)).drop 0 = byts x 4 := by
      rw [List.drop_zero, Nat.zero_add, List.take_append_of_le_length (by omega), List.take_of_length_le (by omega)]
    rw [e, bev_byts, Nat.mod_eq_of_lt (by omega)] at h
    exact h
  have b00 : ((0 : Int) != 0) = false := by decide
  unfold grottolaw01_WordBack.f
  rw [p4, Option.bind_some]
  by_cases hn : a2 = 1 ∨ a2 = 2 ∨ a2 = 4
  · obtain ⟨n, rfl⟩ : ∃ n : Nat, a2 = n := ⟨a2.toNat, by omega⟩
    have hn' : n = 1 ∨ n = 2 ∨ n = 4 := by omega
    have ln : (byts y n).length = n := byts_len n y
    rw [put_eq (by omega) hn', Option.bind_some, if_pos (by omega), Option.bind_some, first _ (byts_byt n y) (by omega), Option.bind_some]
    dsimp only
    have second : word_Be.f 201 (byts x 4 ++ byts y n) 4 (n : Int) = some (((y % 256 ^ n : Nat) : Int), 0) := by
      have h := be_eq (k := 201) (n := n) (at_ := 4) (l := byts x 4 ++ byts y n) (by omega) (fun b hb => (List.mem_append.1 hb).elim (byts_byt 4 x b) (byts_byt n y b)) hn' (by rw [List.length_append]; omega) (by rw [List.length_append]; omega)
      have e : ((byts x 4 ++ byts y n).take (4 + n)).drop 4 = byts y n := by
        rw [List.take_of_length_le (by rw [List.length_append]; omega), List.drop_append_of_le_length (by omega), List.drop_eq_nil_of_le (by omega), List.nil_append]
      rw [e, bev_byts] at h
      exact h
    have shlv : word_Shl.f 4294967295 ((wrap64 (8 * (n : Int))) % 4294967296) = some ((4294967296 - 2 ^ (8 * n) : Nat) : Int) := by
      rcases hn' with h | h | h <;> subst h <;> decide +kernel
    have hbit : Go.bits .andNot .u32 (y : Int) ((4294967296 - 2 ^ (8 * n) : Nat) : Int) = ((y % 256 ^ n : Nat) : Int) := by
      have h := mask_eq (y := y) (m := 8 * n) (by omega) (by omega)
      have e : 256 ^ n = 2 ^ (8 * n) := by rw [Nat.pow_mul]
      rw [e]; exact h
    have hlen : ((byts x 4 ++ byts y n).length : Int) = wrap64 (4 + (n : Int)) := by
      rw [List.length_append, l4, ln, w64 (by omega) (by omega)]; omega
    have tail : grottolaw01_WordBack.j1 201 (y : Int) (n : Int) (byts x 4 ++ byts y n) ((y % 256 ^ n : Nat) : Int) 0 false = some true := by
      rw [grottolaw01_WordBack.j1.eq_2, if_neg (by simp), shlv, Option.bind_some, if_pos hlen, nm0, Option.bind_some, if_pos rfl, hbit, if_pos rfl, hl (by omega), Option.bind_some]
    rw [if_pos rfl, nm0, Option.bind_some, b00, grottolaw01_WordBack.j0.eq_2, if_neg (by simp), second, Option.bind_some]
    dsimp only
    by_cases c1 : (n : Int) = 1
    · rw [if_pos c1, tail]
    · rw [if_neg c1]
      by_cases c2 : (n : Int) = 2
      · rw [if_pos c2, tail]
      · have c4 : ((n : Int) != 4) = false := by
          have : (n : Int) = 4 := by omega
          rw [this]; rfl
        rw [if_neg c2, c4, tail]
  · rw [put_bad hn, Option.bind_some, if_pos (by rw [l4]; simp), Option.bind_some, first _ (fun b h => by cases h) (by simp), Option.bind_some]
    dsimp only
    have c4 : (a2 != 4) = true := bne_iff_ne.2 (by omega)
    rw [if_pos rfl, nm0, Option.bind_some, b00, grottolaw01_WordBack.j0.eq_2, if_neg (by simp), be_bad (by omega) (Or.inl hn), Option.bind_some]
    dsimp only
    rw [if_neg (by omega), if_neg (by omega), c4, grottolaw01_WordBack.j1.eq_2, if_pos rfl, List.append_nil, l4, if_pos (by rfl), if_pos rfl, nm1, Option.bind_some, if_pos rfl, hl (by omega), Option.bind_some]
end Go.Proofs.YtefdfmnlcfopaaaDoor.Pure
