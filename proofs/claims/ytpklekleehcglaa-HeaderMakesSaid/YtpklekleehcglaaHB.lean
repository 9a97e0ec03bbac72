/- Words as bytes, sums, headers: what the functions of this seat compute. -/
import Derived.Test.YtpklekleehcglaaPQx7
import Derived.Test.YtpklekleehcglaaPQx8
import Derived.Lib.Bytes
namespace Go.Proofs.Ytpklekleehcglaa.Pure
set_option linter.all false
open Go.RowKit Go.Proofs.Ytpklekleehcglaa.PQ Go.Proofs.YtpklekleehcglaaW.PrintWords Go.Proofs.YtpklekleehcglaaW.PrintLast Go.Proofs.YtpklekleehcglaaW.PrintMore
theorem wf_u32 {a : Int} (h : (Lit.int .u32 a).wf = true) : 0 ≤ a ∧ a < 4294967296 := by
  simp [Lit.wf, IntKind.min, IntKind.max, IntKind.signed, IntKind.bits] at h; omega
theorem wf_u8 {a : Int} (h : (Lit.int .u8 a).wf = true) : 0 ≤ a ∧ a < 256 := by
  simp [Lit.wf, IntKind.min, IntKind.max, IntKind.signed, IntKind.bits] at h; omega
theorem wf_i64 {a : Int} (h : (Lit.int .i64 a).wf = true) : -9223372036854775808 ≤ a ∧ a ≤ 9223372036854775807 := by
  simp [Lit.wf, IntKind.min, IntKind.max, IntKind.signed, IntKind.bits] at h; omega
theorem at_k {α : Type} {g : Nat → Option α} (h : ∀ k, LeO (g k) (g (k + 1))) {k k' : Nat} (hk : k ≤ k') {r : α} (hr : g k = some r) : g k' = some r := by
  induction k' with
  | zero => have : k = 0 := by omega
            subst this; exact hr
  | succ n ih =>
    by_cases hn : k ≤ n
    · exact h n _ (ih hn)
    · have : k = n + 1 := by omega
      subst this; exact hr
theorem live_k {k : Nat} (h : 100 ≤ k) : grottolaw07_live.f k = some true := at_k grottolaw07_live.mono h grottolaw07_live.is
theorem w64 {n : Int} (h : -9223372036854775808 ≤ n) (h' : n ≤ 9223372036854775807) : wrap64 n = n := by unfold wrap64; omega
theorem u32w (z : Int) : IntKind.u32.wrap z = z % 4294967296 := IntKind.wrap_u32 z
theorem or_byte {a b : Nat} (ha : a < 16777216) (hb : b < 256) : Go.bits .or .u32 ((a : Int) * 256 % 4294967296) ((b : Int) % 4294967296) = ((a * 256 + b : Nat) : Int) := by
  have e1 : (a : Int) * 256 % 4294967296 = ((a * 2 ^ 8 : Nat) : Int) := by omega
  have e2 : (b : Int) % 4294967296 = (b : Int) := by omega
  have h := (bits_nat .u32 32 (by decide) (fun n h0 h1 => by rw [u32w]; omega) (a * 2 ^ 8) b (by omega) (by omega)).2
  rw [e1, e2, h, Nat.mul_comm a, ← Nat.two_pow_add_eq_or_of_lt (i := 8) (by omega) a]
/-- the number that bytes say, the highest first -/
def bev (acc : Nat) : List Int → Nat
  | [] => acc
  | b :: l => bev (acc * 256 + b.toNat) l
def Byt (l : List Int) : Prop := ∀ b ∈ l, 0 ≤ b ∧ b < 256
theorem Byt.at {l : List Int} (h : Byt l) {i : Nat} (hi : i < l.length) : 0 ≤ rd l (i : Int) ∧ rd l (i : Int) < 256 := by
  have : rd l (i : Int) = l[i] := by unfold rd; simp [hi]
  rw [this]; exact h _ (List.getElem_mem hi)
theorem Byt.app {a b : List Int} (h : Byt a) (g : Byt b) : Byt (a ++ b) := fun x hx => (List.mem_append.1 hx).elim (h x) (g x)
theorem Byt.take {a : List Int} (h : Byt a) (n : Nat) : Byt (a.take n) := fun x hx => h x (List.mem_of_mem_take hx)
theorem Byt.drop {a : List Int} (h : Byt a) (n : Nat) : Byt (a.drop n) := fun x hx => h x (List.mem_of_mem_drop hx)
theorem drop_at {l : List Int} {i : Nat} (h : i < l.length) : l.drop i = rd l (i : Int) :: l.drop (i + 1) := by
  rw [List.drop_eq_getElem_cons h]; congr 1; unfold rd; simp [h]
theorem be_l0 (l : List Int) (hb : Byt l) (hl : l.length ≤ 4) : ∀ (d i k acc : Nat), i + d = l.length → d < k → acc < 256 ^ i → word_Be.l0 k (acc : Int) l (l.length : Int) (i : Int) = some ((bev acc (l.drop i) : Int), 0) := by
  intro d
  induction d with
  | zero =>
    intro i k acc hi hk ha
    obtain ⟨k, rfl⟩ : ∃ j, k = j + 1 := ⟨k - 1, by omega⟩
    rw [word_Be.l0.eq_2, if_neg (by omega), List.drop_eq_nil_of_le (by omega)]; rfl
  | succ d ih =>
    intro i k acc hi hk ha
    obtain ⟨k, rfl⟩ : ∃ j, k = j + 1 := ⟨k - 1, by omega⟩
    have hil : i < l.length := by omega
    have hr := hb.at hil
    obtain ⟨b, hbb⟩ : ∃ b : Nat, rd l (i : Int) = (b : Int) := ⟨(rd l (i : Int)).toNat, by omega⟩
    have hp : 256 ^ i ≤ 256 ^ 3 := Nat.pow_le_pow_right (by omega) (by omega)
    have hp2 : 256 ^ (i + 1) = 256 ^ i * 256 := Nat.pow_succ ..
    have p3 : 256 ^ 3 = 16777216 := by decide
    have e3 : (i : Int) + 1 = ((i + 1 : Nat) : Int) := by omega
    rw [word_Be.l0.eq_2, if_pos (by omega), if_pos (by omega), if_pos (by omega), hbb, or_byte (by omega) (by omega), w64 (by omega) (by omega), e3, ih (i + 1) k (acc * 256 + b) (by omega) (by omega) (by omega), drop_at hil, hbb, bev]
    rw [Int.toNat_natCast]
/-- the word at a place -/
def be4 (l : List Int) (i : Nat) : Nat := bev 0 ((l.take (i + 4)).drop i)
theorem be_eq {k at_ : Nat} {l : List Int} (hk : 10 < k) (hb : Byt l) (hat : at_ + 4 ≤ l.length) (hl : l.length ≤ 1000000000) : word_Be.f k l (at_ : Int) 4 = some ((be4 l at_ : Int), 0) := by
  obtain ⟨k, rfl⟩ : ∃ j, k = j + 1 := ⟨k - 1, by omega⟩
  have hs : word_sized.f 4 = some true := rfl
  have hlen : ((l.take (at_ + 4)).drop at_).length = 4 := by rw [List.length_drop, List.length_take]; omega
  have hby : Byt ((l.take (at_ + 4)).drop at_) := (hb.take _).drop _
  have e1 : wrap64 ((at_ : Int) + 4) = ((at_ + 4 : Nat) : Int) := by rw [w64 (by omega) (by omega)]; omega
  have h := be_l0 _ hby (by omega) 4 0 k 0 (by omega) (by omega) (by omega)
  rw [List.drop_zero] at h
  have z : ((0 : Nat) : Int) = 0 := rfl
  rw [z] at h
  unfold word_Be.f
  rw [hs, Option.bind_some, if_pos rfl, decide_eq_false (by omega), word_Be.j0.eq_2, if_neg (by simp), if_neg (by omega), if_neg (by rw [w64 (by omega) (by omega)]; omega), if_pos (by omega), e1, if_pos (by omega), if_pos (by omega), Int.toNat_natCast, Int.toNat_natCast]
  exact h
theorem take4 {l : List Int} {i : Nat} (h : i + 4 ≤ l.length) : (l.take (i + 4)).drop i = [rd l (i : Int), rd l ((i + 1 : Nat) : Int), rd l ((i + 2 : Nat) : Int), rd l ((i + 3 : Nat) : Int)] := by
  rw [List.drop_take, drop_at (by omega), drop_at (i := i + 1) (by omega), drop_at (i := i + 1 + 1) (by omega), drop_at (i := i + 1 + 1 + 1) (by omega)]
  have : i + 4 - i = 4 := by omega
  rw [this]
  rfl
/-- the byte at a place -/
def bn (l : List Int) (i : Nat) : Nat := (rd l (i : Int)).toNat
theorem bn_lt {l : List Int} (h : Byt l) (i : Nat) : bn l i < 256 := by
  unfold bn
  by_cases hi : i < l.length
  · have := h.at hi; omega
  · have : rd l (i : Int) = 0 := by unfold rd; simp [List.getD_eq_getElem?_getD, List.getElem?_eq_none (by omega : l.length ≤ i)]
    rw [this]; decide
theorem rd_bn {l : List Int} (h : Byt l) (i : Nat) : rd l (i : Int) = (bn l i : Int) := by
  unfold bn
  by_cases hi : i < l.length
  · have := h.at hi; omega
  · have : rd l (i : Int) = 0 := by unfold rd; simp [List.getD_eq_getElem?_getD, List.getElem?_eq_none (by omega : l.length ≤ i)]
    rw [this]; rfl
theorem be4_eq {l : List Int} {i : Nat} (h : i + 4 ≤ l.length) : be4 l i = ((bn l i * 256 + bn l (i + 1)) * 256 + bn l (i + 2)) * 256 + bn l (i + 3) := by
  unfold be4
  rw [take4 h]
  unfold bn bev bev bev bev bev
  omega
theorem be4_lt {l : List Int} (hb : Byt l) {i : Nat} (h : i + 4 ≤ l.length) : be4 l i < 4294967296 := by
  rw [be4_eq h]
  have a := bn_lt hb i
  have b := bn_lt hb (i + 1)
  have c := bn_lt hb (i + 2)
  have d := bn_lt hb (i + 3)
  omega
theorem rbe_step (l : List Int) (at_ : Nat) (hb : Byt l) (hl : l.length ≤ 1000000000) (hat : at_ + 4 ≤ l.length) (i k acc : Nat) (hi : i < 4) (ha : acc < 16777216) : grottoref01_Be.l0 (k + 1) l (at_ : Int) 4 (acc : Int) (i : Int) = grottoref01_Be.l0 k l (at_ : Int) 4 ((acc * 256 + bn l (at_ + i) : Nat) : Int) ((i + 1 : Nat) : Int) := by
  have hr := bn_lt hb (at_ + i)
  have e6 : rd l ((at_ + i : Nat) : Int) = (bn l (at_ + i) : Int) := rd_bn hb _
  generalize bn l (at_ + i) = b at hr e6
  rw [grottoref01_Be.l0.eq_2, if_pos (by omega), w64 (n := (l.length : Int) - (i : Int)) (by omega) (by omega), if_neg (by omega), w64 (n := (at_ : Int) + (i : Int)) (by omega) (by omega), if_pos (by omega), if_pos (by omega)]
  rw [show (at_ : Int) + (i : Int) = ((at_ + i : Nat) : Int) by omega, e6, w64 (n := 256 * (acc : Int)) (by omega) (by omega), w64 (n := (b : Int)) (by omega) (by omega), w64 (n := 256 * (acc : Int) + (b : Int)) (by omega) (by omega), w64 (n := (i : Int) + 1) (by omega) (by omega)]
  rw [show 256 * (acc : Int) + (b : Int) = ((acc * 256 + b : Nat) : Int) by omega, show (i : Int) + 1 = ((i + 1 : Nat) : Int) by omega]
theorem rbe_end (l : List Int) (a : Int) (k acc : Nat) (ha : acc < 4294967296) : grottoref01_Be.l0 (k + 1) l a 4 (acc : Int) ((4 : Nat) : Int) = some ((acc : Int), 0) := by
  rw [grottoref01_Be.l0.eq_2, if_neg (by omega), Int.emod_eq_of_lt (by omega) (by omega)]
theorem rbe_eq {k at_ : Nat} {l : List Int} (hk : 10 < k) (hb : Byt l) (hat : at_ + 4 ≤ l.length) (hl : l.length ≤ 1000000000) : grottoref01_Be.f k l (at_ : Int) 4 = some ((be4 l at_ : Int), 0) := by
  obtain ⟨k, rfl⟩ : ∃ j, k = j + 6 := ⟨k - 6, by omega⟩
  have z0 : (0 : Int) = ((0 : Nat) : Int) := rfl
  have b0 := bn_lt hb (at_ + 0)
  have b1 := bn_lt hb (at_ + 1)
  have b2 := bn_lt hb (at_ + 2)
  have b3 := bn_lt hb (at_ + 3)
  have h : grottoref01_Be.l0 (k + 5) l (at_ : Int) 4 ((0 : Nat) : Int) ((0 : Nat) : Int) = some ((be4 l at_ : Int), 0) := by
    refine (rbe_step l at_ hb hl hat 0 (k + 4) 0 (by omega) (by omega)).trans ?_
    refine (rbe_step l at_ hb hl hat 1 (k + 3) _ (by omega) (by omega)).trans ?_
    refine (rbe_step l at_ hb hl hat 2 (k + 2) _ (by omega) (by omega)).trans ?_
    refine (rbe_step l at_ hb hl hat 3 (k + 1) _ (by omega) (by omega)).trans ?_
    refine (rbe_end l _ k _ (by omega)).trans ?_
    rw [be4_eq hat, Nat.zero_mul, Nat.zero_add, Nat.add_zero]
  unfold grottoref01_Be.f
  rw [if_neg (by omega), if_neg (by omega), if_pos rfl, decide_eq_false (by omega), grottoref01_Be.j0.eq_2, if_neg (by simp)]
  exact h
/-- the bytes of a word -/
def byts (x : Nat) : Nat → List Int
  | 0 => []
  | n + 1 => byts (x / 256) n ++ [((x % 256 : Nat) : Int)]
theorem byts_len (n : Nat) : ∀ x, (byts x n).length = n := by
  induction n with
  | zero => intro x; rfl
  | succ n ih => intro x; rw [byts, List.length_append, ih]; rfl
theorem byts_byt (n : Nat) : ∀ x, Byt (byts x n) := by
  induction n with
  | zero => intro x b h; cases h
  | succ n ih =>
    intro x b h
    rcases List.mem_append.1 h with h | h
    · exact ih _ b h
    · rw [List.mem_singleton] at h; subst h; omega
theorem bev_app (l l' : List Int) : ∀ acc, bev acc (l ++ l') = bev (bev acc l) l' := by
  induction l with
  | nil => intro acc; rfl
  | cons b l ih => intro acc; exact ih _
theorem bev_byts (n : Nat) : ∀ x, bev 0 (byts x n) = x % 256 ^ n := by
  induction n with
  | zero => intro x; rw [Nat.pow_zero, Nat.mod_one]; rfl
  | succ n ih =>
    intro x
    rw [byts, bev_app, ih]
    have h : bev (x / 256 % 256 ^ n) [((x % 256 : Nat) : Int)] = x / 256 % 256 ^ n * 256 + x % 256 := by unfold bev bev; rw [Int.toNat_natCast]
    rw [h, Nat.pow_succ, Nat.mul_comm (256 ^ n) 256, Nat.mod_mul]
    omega
theorem put_l0 : ∀ (n k x : Nat) (tl : List Int), n < k → n ≤ 1000 → word_Put.l0 k (x : Int) (List.replicate n 0 ++ tl) ((n : Int) - 1) = some (byts x n ++ tl) := by
  intro n
  induction n with
  | zero =>
    intro k x tl hk hn
    obtain ⟨k, rfl⟩ : ∃ j, k = j + 1 := ⟨k - 1, by omega⟩
    rw [word_Put.l0.eq_2, if_neg (by omega)]; rfl
  | succ n ih =>
    intro k x tl hk hn
    obtain ⟨k, rfl⟩ : ∃ j, k = j + 1 := ⟨k - 1, by omega⟩
    have e1 : ((n + 1 : Nat) : Int) - 1 = (n : Int) := by omega
    have e2 : (x : Int) / 256 = ((x / 256 : Nat) : Int) := by omega
    have e3 : (x : Int) % 256 = ((x % 256 : Nat) : Int) := by omega
    have e4 : (List.replicate (n + 1) (0 : Int) ++ tl).set n ((x % 256 : Nat) : Int) = List.replicate n 0 ++ (((x % 256 : Nat) : Int) :: tl) := by
      rw [List.replicate_succ', List.append_assoc, List.set_append_right _ _ (by simp)]
      simp
    have hlen : (List.replicate (n + 1) (0 : Int) ++ tl).length = n + 1 + tl.length := by simp
    rw [e1, word_Put.l0.eq_2, if_pos (by omega), if_pos (by omega), if_pos (by rw [hlen]; omega), e2, e3, Int.toNat_natCast, e4, w64 (by omega) (by omega), ih k (x / 256) _ (by omega) (by omega), byts, List.append_assoc]
    rfl
theorem put_eq {k x : Nat} (hk : 10 < k) : word_Put.f k (x : Int) 4 = some (byts x 4) := by
  have hs : word_sized.f 4 = some true := rfl
  have h := put_l0 4 k x [] (by omega) (by omega)
  rw [List.append_nil, List.append_nil] at h
  unfold word_Put.f
  rw [hs, Option.bind_some, if_pos rfl, if_pos (by omega), if_pos (by decide), w64 (by omega) (by omega)]
  exact h
/-- the sum of n words from p on, without the one at 32 -/
def ws (l : List Int) : Nat → Nat → Nat
  | 0, _ => 0
  | n + 1, p => (if p = 32 then 0 else be4 l p) + ws l n (p + 4)
def hsum (l : List Int) : Nat := ws l (l.length / 4) 0 % 4294967296
theorem sum_l0 (l : List Int) (hb : Byt l) (hl : l.length ≤ 1000000000) : ∀ (n p k s : Nat), p + 4 * n ≤ l.length → l.length < p + 4 * n + 4 → n + 12 < k → s < 4294967296 → header_Sum.l0 k l (s : Int) (p : Int) = some (((s + ws l n p) % 4294967296 : Nat) : Int) := by
  intro n
  induction n with
  | zero =>
    intro p k s h1 h2 hk hs
    obtain ⟨k, rfl⟩ : ∃ j, k = j + 1 := ⟨k - 1, by omega⟩
    have e : wrap64 ((p : Int) + 4) = (p : Int) + 4 := w64 (by omega) (by omega)
    rw [header_Sum.l0.eq_2, e, if_neg (by omega), ws, Nat.add_zero, Nat.mod_eq_of_lt hs]
  | succ n ih =>
    intro p k s h1 h2 hk hs
    obtain ⟨k, rfl⟩ : ∃ j, k = j + 1 := ⟨k - 1, by omega⟩
    have e : wrap64 ((p : Int) + 4) = ((p + 4 : Nat) : Int) := by rw [w64 (by omega) (by omega)]; omega
    rw [header_Sum.l0.eq_2, e, if_pos (by omega)]
    by_cases c : p = 32
    · rw [if_pos (by omega), ih (p + 4) k s (by omega) (by omega) (by omega) hs, ws, if_pos c, Nat.zero_add]
    · have hw := be4_lt hb (i := p) (by omega)
      have e2 : ((s : Int) + (be4 l p : Int)) % 4294967296 = (((s + be4 l p) % 4294967296 : Nat) : Int) := by omega
      rw [if_neg (by omega), be_eq (by omega) hb (by omega) hl, Option.bind_some]
      dsimp only
      rw [e2, ih (p + 4) k _ (by omega) (by omega) (by omega) (Nat.mod_lt _ (by decide)), ws, if_neg c]
      congr 2
      omega
theorem sum_eq {l : List Int} (hb : Byt l) (hl : l.length ≤ 1000000000) {k : Nat} (hk : l.length / 4 + 12 < k) : header_Sum.f k l = some (hsum l : Int) := by
  have h := sum_l0 l hb hl (l.length / 4) 0 k 0 (by omega) (by omega) hk (by decide)
  rw [Nat.zero_add] at h
  exact h
theorem shl_w {a : Nat} (ha : a < 256) : shl .u32 ((a : Int) % 4294967296) 24 = ((a * 16777216 : Nat) : Int) ∧ shl .u32 ((a : Int) % 4294967296) 16 = ((a * 65536 : Nat) : Int) ∧ shl .u32 ((a : Int) % 4294967296) 8 = ((a * 256 : Nat) : Int) ∧ shl .u32 ((a : Int) % 4294967296) 0 = ((a : Nat) : Int) := by
  have e : (a : Int) % 4294967296 = (a : Int) := by omega
  have s : ∀ n : Nat, n < 32 → shl .u32 (a : Int) (n : Int) = (a : Int) * 2 ^ n % 4294967296 := by
    intro n hn
    unfold shl
    have hm : min n IntKind.u32.bits = n := Nat.min_eq_left (Nat.le_of_lt hn)
    rw [Int.toNat_natCast, hm, u32w]
  rw [e]
  have h1 := s 24 (by decide)
  have h2 := s 16 (by decide)
  have h3 := s 8 (by decide)
  have h4 := s 0 (by decide)
  have p1 : (2 : Int) ^ 24 = 16777216 := by decide
  have p2 : (2 : Int) ^ 16 = 65536 := by decide
  have p3 : (2 : Int) ^ 8 = 256 := by decide
  have p4 : (2 : Int) ^ 0 = 1 := by decide
  rw [p1] at h1; rw [p2] at h2; rw [p3] at h3; rw [p4] at h4
  refine ⟨h1.trans (by omega), h2.trans (by omega), h3.trans (by omega), h4.trans (by omega)⟩
end Go.Proofs.Ytpklekleehcglaa.Pure
