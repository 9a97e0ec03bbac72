/- Words as bytes. -/
import Derived.Test.YtefdfmnlcfopaaaDoorPQx1
import Derived.Test.YtefdfmnlcfopaaaDoorLw
namespace Go.Proofs.YtefdfmnlcfopaaaDoor.Pure
set_option linter.all false
open Go.RowKit Go.Proofs.YtefdfmnlcfopaaaDoor.PQ Go.Proofs.YtefdfmnlcfopaaaDoorW.PrintWords Go.Proofs.YtefdfmnlcfopaaaDoorW.PrintLast Go.Proofs.YtefdfmnlcfopaaaDoorW.PrintMore
theorem u32w (z : Int) : IntKind.u32.wrap z = z % 4294967296 := IntKind.wrap_u32 z
theorem or_byte {a b : Nat} (ha : a < 16777216) (hb : b < 256) : Go.bits .or .u32 ((a : Int) * 256 % 4294967296) ((b : Int) % 4294967296) = ((a * 256 + b : Nat) : Int) := by
  have e1 : (a : Int) * 256 % 4294967296 = ((a * 2 ^ 8 : Nat) : Int) := by omega
  have e2 : (b : Int) % 4294967296 = (b : Int) := by omega
  have h := (bits_nat .u32 32 (by decide) (fun n h0 h1 => by rw [u32w]; omega) (a * 2 ^ 8) b (by omega) (by omega)).2
  rw [e1, e2, h, Nat.mul_comm a, ← Nat.two_pow_add_eq_or_of_lt (i := 8) (by omega) a]
/-- the number that bytes say, the highest first -/
def bev (acc : Nat) : List Int → Nat
  | [] => acc
  | b :: l => bev (acc * 256 + b.toNat) l
def Byt (l : List Int) : Prop := ∀ b ∈ l, 0 ≤ b ∧ b < 256
theorem Byt.at {l : List Int} (h : Byt l) {i : Nat} (hi : i < l.length) : 0 ≤ rd l (i : Int) ∧ rd l (i : Int) < 256 := by
  have : rd l (i : Int) = l[i] := by unfold rd; simp [hi]
  rw [this]; exact h _ (List.getElem_mem hi)
theorem drop_at {l : List Int} {i : Nat} (h : i < l.length) : l.drop i = rd l (i : Int) :: l.drop (i + 1) := by
  rw [List.drop_eq_getElem_cons h]; congr 1; unfold rd; simp [h]
theorem be_l0 (l : List Int) (hb : Byt l) (hl : l.length ≤ 4) : ∀ (d i k acc : Nat), i + d = l.length → d < k → acc < 256 ^ i → word_Be.l0 k (acc : Int) l (l.length : Int) (i : Int) = some ((bev acc (l.drop i) : Int), 0) := by
  intro d
  induction d with
  | zero =>
    intro i k acc hi hk ha
    obtain ⟨k, rfl⟩ : ∃ j, k = j + 1 := ⟨k - 1, by omega⟩
    rw [word_Be.l0.eq_2, if_neg (by omega), List.drop_eq_nil_of_le (by omega)]; rfl
  | succ d ih =>
    intro i k acc hi hk ha
    obtain ⟨k, rfl⟩ : ∃ j, k = j + 1 := ⟨k - 1, by omega⟩
    have hil : i < l.length := by omega
    have hr := hb.at hil
    obtain ⟨b, hbb⟩ : ∃ b : Nat, rd l (i : Int) = (b : Int) := ⟨(rd l (i : Int)).toNat, by omega⟩
    have hp : 256 ^ i ≤ 256 ^ 3 := Nat.pow_le_pow_right (by omega) (by omega)
    have hp2 : 256 ^ (i + 1) = 256 ^ i * 256 := Nat.pow_succ ..
    have p3 : 256 ^ 3 = 16777216 := by decide
    have e3 : (i : Int) + 1 = ((i + 1 : Nat) : Int) := by omega
    rw [word_Be.l0.eq_2, if_pos (by omega), if_pos (by omega), if_pos (by omega), hbb, or_byte (by omega) (by omega), w64 (by omega) (by omega), e3, ih (i + 1) k (acc * 256 + b) (by omega) (by omega) (by omega), drop_at hil, hbb, bev]
    rw [Int.toNat_natCast]
/-- the word that n bytes at a place say -/
theorem be_eq {k n at_ : Nat} {l : List Int} (hk : 10 < k) (hb : Byt l) (hn : n = 1 ∨ n = 2 ∨ n = 4) (hat : at_ + n ≤ l.length) (hl : l.length ≤ 1000000) : word_Be.f k l (at_ : Int) (n : Int) = some ((bev 0 ((l.take (at_ + n)).drop at_) : Int), 0) := by
  obtain ⟨k, rfl⟩ : ∃ j, k = j + 1 := ⟨k - 1, by omega⟩
  have hs : word_sized.f (n : Int) = some true := by
    unfold word_sized.f
    rcases hn with h | h | h <;> subst h <;> rfl
  have hlen : ((l.take (at_ + n)).drop at_).length = n := by rw [List.length_drop, List.length_take]; omega
  have hby : Byt ((l.take (at_ + n)).drop at_) := fun b h => hb b (List.mem_of_mem_take (List.mem_of_mem_drop h))
  have e1 : wrap64 ((at_ : Int) + (n : Int)) = ((at_ + n : Nat) : Int) := by rw [w64 (by omega) (by omega)]; omega
  have h := be_l0 _ hby (by omega) n 0 k 0 (by omega) (by omega) (by omega)
  rw [List.drop_zero] at h
  have z : ((0 : Nat) : Int) = 0 := rfl
  rw [z] at h
  unfold word_Be.f
  rw [hs, Option.bind_some, if_pos rfl, decide_eq_false (by omega), word_Be.j0.eq_2, if_neg (by simp), if_neg (by omega), if_neg (by rw [w64 (by omega) (by omega)]; omega), if_pos (by omega), e1, if_pos (by omega), if_pos (by omega), Int.toNat_natCast, Int.toNat_natCast]
  exact h
theorem be_short {k n at_ : Nat} {l : List Int} (hk : 10 < k) (hn : n = 1 ∨ n = 2 ∨ n = 4) (hat : l.length < at_ + n) (ha : at_ ≤ 9223372036854775807) (hl : l.length ≤ 1000000) : word_Be.f k l (at_ : Int) (n : Int) = some (0, 2) := by
  obtain ⟨k, rfl⟩ : ∃ j, k = j + 1 := ⟨k - 1, by omega⟩
  have hs : word_sized.f (n : Int) = some true := by
    unfold word_sized.f
    rcases hn with h | h | h <;> subst h <;> rfl
  unfold word_Be.f
  rw [hs, Option.bind_some, if_pos rfl, decide_eq_false (by omega), word_Be.j0.eq_2, if_neg (by simp)]
  by_cases c : (at_ : Int) > (l.length : Int)
  · rw [if_pos c]
  · rw [if_neg c, if_pos (by rw [w64 (by omega) (by omega)]; omega)]
theorem be_bad {k : Nat} {n a : Int} {l : List Int} (hk : 10 < k) (h : ¬ (n = 1 ∨ n = 2 ∨ n = 4) ∨ a < 0) : word_Be.f k l a n = some (0, 1) := by
  obtain ⟨k, rfl⟩ : ∃ j, k = j + 1 := ⟨k - 1, by omega⟩
  unfold word_Be.f
  by_cases hn : n = 1 ∨ n = 2 ∨ n = 4
  · have hs : word_sized.f n = some true := by
      unfold word_sized.f
      rcases hn with h | h | h <;> subst h <;> rfl
    have ha : a < 0 := h.resolve_left (fun h2 => h2 hn)
    rw [hs, Option.bind_some, if_pos rfl, decide_eq_true ha, word_Be.j0.eq_2, if_pos rfl]
  · have hs : word_sized.f n = some false := by
      unfold word_sized.f
      rw [if_neg (by omega), if_neg (by omega)]
      congr 1
      exact beq_eq_false_iff_ne.2 (by omega)
    rw [hs, Option.bind_some, if_neg (by simp), word_Be.j0.eq_2, if_pos rfl]
/-- the bytes of a word -/
def byts (x : Nat) : Nat → List Int
  | 0 => []
  | n + 1 => byts (x / 256) n ++ [((x % 256 : Nat) : Int)]
theorem byts_len (n : Nat) : ∀ x, (byts x n).length = n := by
  induction n with
  | zero => intro x; rfl
  | succ n ih => intro x; rw [byts, List.length_append, ih]; rfl
theorem byts_byt (n : Nat) : ∀ x, Byt (byts x n) := by
  induction n with
  | zero => intro x b h; cases h
  | succ n ih =>
    intro x b h
    rcases List.mem_append.1 h with h | h
    · exact ih _ b h
    · rw [List.mem_singleton] at h; subst h; omega
theorem bev_app (l l' : List Int) : ∀ acc, bev acc (l ++ l') = bev (bev acc l) l' := by
  induction l with
  | nil => intro acc; rfl
  | cons b l ih => intro acc; exact ih _
theorem bev_byts (n : Nat) : ∀ x, bev 0 (byts x n) = x % 256 ^ n := by
  induction n with
  | zero => intro x; rw [Nat.pow_zero, Nat.mod_one]; rfl
  | succ n ih =>
    intro x
    rw [byts, bev_app, ih]
    have h : bev (x / 256 % 256 ^ n) [((x % 256 : Nat) : Int)] = x / 256 % 256 ^ n * 256 + x % 256 := by unfold bev bev; rw [Int.toNat_natCast]
    rw [h, Nat.pow_succ, Nat.mul_comm (256 ^ n) 256, Nat.mod_mul]
    omega
theorem put_l0 : ∀ (n k x : Nat) (tl : List Int), n < k → n ≤ 1000 → word_Put.l0 k (x : Int) (List.replicate n 0 ++ tl) ((n : Int) - 1) = some (byts x n ++ tl) := by
  intro n
  induction n with
  | zero =>
    intro k x tl hk hn
    obtain ⟨k, rfl⟩ : ∃ j, k = j + 1 := ⟨k - 1, by omega⟩
    rw [word_Put.l0.eq_2, if_neg (by omega)]; rfl
  | succ n ih =>
    intro k x tl hk hn
    obtain ⟨k, rfl⟩ : ∃ j, k = j + 1 := ⟨k - 1, by omega⟩
    have e1 : ((n + 1 : Nat) : Int) - 1 = (n : Int) := by omega
    have e2 : (x : Int) / 256 = ((x / 256 : Nat) : Int) := by omega
    have e3 : (x : Int) % 256 = ((x % 256 : Nat) : Int) := by omega
    have e4 : (List.replicate (n + 1) (0 : Int) ++ tl).set n ((x % 256 : Nat) : Int) = List.replicate n 0 ++ (((x % 256 : Nat) : Int) :: tl) := by
      rw [List.replicate_succ', List.append_assoc, List.set_append_right _ _ (by simp)]
      simp
    have hlen : (List.replicate (n + 1) (0 : Int) ++ tl).length = n + 1 + tl.length := by simp
    rw [e1, word_Put.l0.eq_2, if_pos (by omega), if_pos (by omega), if_pos (by rw [hlen]; omega), e2, e3, Int.toNat_natCast, e4, w64 (by omega) (by omega), ih k (x / 256) _ (by omega) (by omega), byts, List.append_assoc]
    rfl
theorem put_eq {k n x : Nat} (hk : 10 < k) (hn : n = 1 ∨ n = 2 ∨ n = 4) : word_Put.f k (x : Int) (n : Int) = some (byts x n) := by
  have hs : word_sized.f (n : Int) = some true := by
    unfold word_sized.f
    rcases hn with h | h | h <;> subst h <;> rfl
  have h := put_l0 n k x [] (by omega) (by omega)
  rw [List.append_nil, List.append_nil] at h
  unfold word_Put.f
  rw [hs, Option.bind_some, if_pos rfl, if_pos (by omega), Int.toNat_natCast, if_pos (by omega), w64 (by omega) (by omega)]
  exact h
theorem put_bad {k : Nat} {x n : Int} (h : ¬ (n = 1 ∨ n = 2 ∨ n = 4)) : word_Put.f k x n = some [] := by
  have hs : word_sized.f n = some false := by
    unfold word_sized.f
    rw [if_neg (by omega), if_neg (by omega)]
    congr 1
    exact beq_eq_false_iff_ne.2 (by omega)
  unfold word_Put.f
  rw [hs, Option.bind_some, if_neg (by simp)]
end Go.Proofs.YtefdfmnlcfopaaaDoor.Pure
