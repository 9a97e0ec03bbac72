/- Texts FB M1 ML M2 CM M3 M4 M5 M6 M7 M8 in one. -/
import Derived.Test.YtmpiifjckhcbmaaPQx1
import Derived.Test.YtmpiifjckhcbmaaPQx4
import Derived.Lib.Bytes
import Derived.Test.YtmpiifjckhcbmaaPQx0
import Derived.Lib.Bytealg
import Derived.Lib.BytesEntry
/- Bytes and words: what the functions of this seat compute. -/
namespace Go.Proofs.Ytmpiifjckhcbmaa.Pure
set_option linter.all false
open Go.RowKit Go.Proofs.Ytmpiifjckhcbmaa.PQ Go.Proofs.YtmpiifjckhcbmaaW.PrintWords Go.Proofs.YtmpiifjckhcbmaaW.PrintLast Go.Proofs.YtmpiifjckhcbmaaW.PrintMore
theorem wf_u32 {a : Int} (h : (Lit.int .u32 a).wf = true) : 0 ≤ a ∧ a < 4294967296 := by
  simp [Lit.wf, IntKind.min, IntKind.max, IntKind.signed, IntKind.bits] at h; omega
theorem wf_u8 {a : Int} (h : (Lit.int .u8 a).wf = true) : 0 ≤ a ∧ a < 256 := by
  simp [Lit.wf, IntKind.min, IntKind.max, IntKind.signed, IntKind.bits] at h; omega
theorem wf_i64 {a : Int} (h : (Lit.int .i64 a).wf = true) : -9223372036854775808 ≤ a ∧ a ≤ 9223372036854775807 := by
  simp [Lit.wf, IntKind.min, IntKind.max, IntKind.signed, IntKind.bits] at h; omega
theorem at_k {α : Type} {g : Nat → Option α} (h : ∀ k, LeO (g k) (g (k + 1))) {k k' : Nat} (hk : k ≤ k') {r : α} (hr : g k = some r) : g k' = some r := by
  induction k' with
  | zero => have : k = 0 := by omega
            subst this; exact hr
  | succ n ih =>
    by_cases hn : k ≤ n
    · exact h n _ (ih hn)
    · have : k = n + 1 := by omega
      subst this; exact hr
theorem w64 {n : Int} (h : -9223372036854775808 ≤ n) (h' : n ≤ 9223372036854775807) : wrap64 n = n := by unfold wrap64; omega
theorem u32w (z : Int) : IntKind.u32.wrap z = z % 4294967296 := IntKind.wrap_u32 z
theorem or_byte {a b : Nat} (ha : a < 16777216) (hb : b < 256) : Go.bits .or .u32 ((a : Int) * 256 % 4294967296) ((b : Int) % 4294967296) = ((a * 256 + b : Nat) : Int) := by
  have e1 : (a : Int) * 256 % 4294967296 = ((a * 2 ^ 8 : Nat) : Int) := by omega
  have e2 : (b : Int) % 4294967296 = (b : Int) := by omega
  have h := (bits_nat .u32 32 (by decide) (fun n h0 h1 => by rw [u32w]; omega) (a * 2 ^ 8) b (by omega) (by omega)).2
  rw [e1, e2, h, Nat.mul_comm a, ← Nat.two_pow_add_eq_or_of_lt (i := 8) (by omega) a]
/-- the number that bytes say, the highest first -/
def bev (acc : Nat) : List Int → Nat
  | [] => acc
  | b :: l => bev (acc * 256 + b.toNat) l
def Byt (l : List Int) : Prop := ∀ b ∈ l, 0 ≤ b ∧ b < 256
theorem Byt.at {l : List Int} (h : Byt l) {i : Nat} (hi : i < l.length) : 0 ≤ rd l (i : Int) ∧ rd l (i : Int) < 256 := by
  have : rd l (i : Int) = l[i] := by unfold rd; simp [hi]
  rw [this]; exact h _ (List.getElem_mem hi)
theorem Byt.app {a b : List Int} (h : Byt a) (g : Byt b) : Byt (a ++ b) := fun x hx => (List.mem_append.1 hx).elim (h x) (g x)
theorem Byt.take {a : List Int} (h : Byt a) (n : Nat) : Byt (a.take n) := fun x hx => h x (List.mem_of_mem_take hx)
theorem Byt.drop {a : List Int} (h : Byt a) (n : Nat) : Byt (a.drop n) := fun x hx => h x (List.mem_of_mem_drop hx)
theorem drop_at {l : List Int} {i : Nat} (h : i < l.length) : l.drop i = rd l (i : Int) :: l.drop (i + 1) := by
  rw [List.drop_eq_getElem_cons h]; congr 1; unfold rd; simp [h]
theorem be_l0 (l : List Int) (hb : Byt l) (hl : l.length ≤ 4) : ∀ (d i k acc : Nat), i + d = l.length → d < k → acc < 256 ^ i → word_Be.l0 k (acc : Int) l (l.length : Int) (i : Int) = some ((bev acc (l.drop i) : Int), 0) := by
  intro d
  induction d with
  | zero =>
    intro i k acc hi hk ha
    obtain ⟨k, rfl⟩ : ∃ j, k = j + 1 := ⟨k - 1, by omega⟩
    rw [word_Be.l0.eq_2, if_neg (by omega), List.drop_eq_nil_of_le (by omega)]; rfl
  | succ d ih =>
    intro i k acc hi hk ha
    obtain ⟨k, rfl⟩ : ∃ j, k = j + 1 := ⟨k - 1, by omega⟩
    have hil : i < l.length := by omega
    have hr := hb.at hil
    obtain ⟨b, hbb⟩ : ∃ b : Nat, rd l (i : Int) = (b : Int) := ⟨(rd l (i : Int)).toNat, by omega⟩
    have hp : 256 ^ i ≤ 256 ^ 3 := Nat.pow_le_pow_right (by omega) (by omega)
    have hp2 : 256 ^ (i + 1) = 256 ^ i * 256 := Nat.pow_succ ..
    have p3 : 256 ^ 3 = 16777216 := by decide
    have e3 : (i : Int) + 1 = ((i + 1 : Nat) : Int) := by omega
    rw [word_Be.l0.eq_2, if_pos (by omega), if_pos (by omega), if_pos (by omega), hbb, or_byte (by omega) (by omega), w64 (by omega) (by omega), e3, ih (i + 1) k (acc * 256 + b) (by omega) (by omega) (by omega), drop_at hil, hbb, bev]
    rw [Int.toNat_natCast]
/-- the byte at a place -/
def bn (l : List Int) (i : Nat) : Nat := (rd l (i : Int)).toNat
theorem bn_lt {l : List Int} (h : Byt l) (i : Nat) : bn l i < 256 := by
  unfold bn
  by_cases hi : i < l.length
  · have := h.at hi; omega
  · have : rd l (i : Int) = 0 := by unfold rd; simp [List.getD_eq_getElem?_getD, List.getElem?_eq_none (by omega : l.length ≤ i)]
    rw [this]; decide
theorem rd_bn {l : List Int} (h : Byt l) (i : Nat) : rd l (i : Int) = (bn l i : Int) := by
  unfold bn
  by_cases hi : i < l.length
  · have := h.at hi; omega
  · have : rd l (i : Int) = 0 := by unfold rd; simp [List.getD_eq_getElem?_getD, List.getElem?_eq_none (by omega : l.length ≤ i)]
    rw [this]; rfl
/-- the bytes of a word -/
def byts (x : Nat) : Nat → List Int
  | 0 => []
  | n + 1 => byts (x / 256) n ++ [((x % 256 : Nat) : Int)]
theorem byts_len (n : Nat) : ∀ x, (byts x n).length = n := by
  induction n with
  | zero => intro x; rfl
  | succ n ih => intro x; rw [byts, List.length_append, ih]; rfl
theorem byts_byt (n : Nat) : ∀ x, Byt (byts x n) := by
  induction n with
  | zero => intro x b h; cases h
  | succ n ih =>
    intro x b h
    rcases List.mem_append.1 h with h | h
    · exact ih _ b h
    · rw [List.mem_singleton] at h; subst h; omega
theorem bev_app (l l' : List Int) : ∀ acc, bev acc (l ++ l') = bev (bev acc l) l' := by
  induction l with
  | nil => intro acc; rfl
  | cons b l ih => intro acc; exact ih _
theorem bev_byts (n : Nat) : ∀ x, bev 0 (byts x n) = x % 256 ^ n := by
  induction n with
  | zero => intro x; rw [Nat.pow_zero, Nat.mod_one]; rfl
  | succ n ih =>
    intro x
    rw [byts, bev_app, ih]
    have h : bev (x / 256 % 256 ^ n) [((x % 256 : Nat) : Int)] = x / 256 % 256 ^ n * 256 + x % 256 := by unfold bev bev; rw [Int.toNat_natCast]
    rw [h, Nat.pow_succ, Nat.mul_comm (256 ^ n) 256, Nat.mod_mul]
    omega
theorem put_l0 : ∀ (n k x : Nat) (tl : List Int), n < k → n ≤ 1000 → word_Put.l0 k (x : Int) (List.replicate n 0 ++ tl) ((n : Int) - 1) = some (byts x n ++ tl) := by
  intro n
  induction n with
  | zero =>
    intro k x tl hk hn
    obtain ⟨k, rfl⟩ : ∃ j, k = j + 1 := ⟨k - 1, by omega⟩
    rw [word_Put.l0.eq_2, if_neg (by omega)]; rfl
  | succ n ih =>
    intro k x tl hk hn
    obtain ⟨k, rfl⟩ : ∃ j, k = j + 1 := ⟨k - 1, by omega⟩
    have e1 : ((n + 1 : Nat) : Int) - 1 = (n : Int) := by omega
    have e2 : (x : Int) / 256 = ((x / 256 : Nat) : Int) := by omega
    have e3 : (x : Int) % 256 = ((x % 256 : Nat) : Int) := by omega
    have e4 : (List.replicate (n + 1) (0 : Int) ++ tl).set n ((x % 256 : Nat) : Int) = List.replicate n 0 ++ (((x % 256 : Nat) : Int) :: tl) := by
      rw [List.replicate_succ', List.append_assoc, List.set_append_right _ _ (by simp)]
      simp
    have hlen : (List.replicate (n + 1) (0 : Int) ++ tl).length = n + 1 + tl.length := by simp
    rw [e1, word_Put.l0.eq_2, if_pos (by omega), if_pos (by omega), if_pos (by rw [hlen]; omega), e2, e3, Int.toNat_natCast, e4, w64 (by omega) (by omega), ih k (x / 256) _ (by omega) (by omega), byts, List.append_assoc]
    rfl
theorem put_eq {k x : Nat} (hk : 10 < k) : word_Put.f k (x : Int) 4 = some (byts x 4) := by
  have hs : word_sized.f 4 = some true := rfl
  have h := put_l0 4 k x [] (by omega) (by omega)
  rw [List.append_nil, List.append_nil] at h
  unfold word_Put.f
  rw [hs, Option.bind_some, if_pos rfl, if_pos (by omega), if_pos (by decide), w64 (by omega) (by omega)]
  exact h
/-- the number that n bytes at a place say -/
def beN (l : List Int) (i n : Nat) : Nat := bev 0 ((l.take (i + n)).drop i)
theorem be_eqn {k at_ n : Nat} {l : List Int} (hk : 10 < k) (hn : n = 1 ∨ n = 2 ∨ n = 4) (hb : Byt l) (hat : at_ + n ≤ l.length) (hl : l.length ≤ 1000000000) : word_Be.f k l (at_ : Int) (n : Int) = some ((beN l at_ n : Int), 0) := by
  obtain ⟨k, rfl⟩ : ∃ j, k = j + 1 := ⟨k - 1, by omega⟩
  have hs : word_sized.f (n : Int) = some true := by rcases hn with rfl | rfl | rfl <;> rfl
  have hlen : ((l.take (at_ + n)).drop at_).length = n := by rw [List.length_drop, List.length_take]; omega
  have hby : Byt ((l.take (at_ + n)).drop at_) := (hb.take _).drop _
  have e1 : wrap64 ((at_ : Int) + (n : Int)) = ((at_ + n : Nat) : Int) := by rw [w64 (by omega) (by omega)]; omega
  have h := be_l0 _ hby (by omega) n 0 k 0 (by omega) (by omega) (by omega)
  rw [List.drop_zero] at h
  have z : ((0 : Nat) : Int) = 0 := rfl
  rw [z] at h
  unfold word_Be.f
  rw [hs, Option.bind_some, if_pos rfl, decide_eq_false (by omega), word_Be.j0.eq_2, if_neg (by simp), if_neg (by omega), if_neg (by rw [w64 (by omega) (by omega)]; omega), if_pos (by omega), e1, if_pos (by omega), if_pos (by omega), Int.toNat_natCast, Int.toNat_natCast]
  exact h
theorem bev_lt : ∀ (l : List Int), Byt l → ∀ acc, bev acc l < (acc + 1) * 256 ^ l.length := by
  intro l
  induction l with
  | nil => intro _ acc; simp [bev]
  | cons b l ih =>
    intro h acc
    have hb := h b List.mem_cons_self
    have := ih (fun x hx => h x (List.mem_cons_of_mem _ hx)) (acc * 256 + b.toNat)
    rw [bev, List.length_cons, Nat.pow_succ, Nat.mul_comm (256 ^ l.length) 256, ← Nat.mul_assoc]
    refine Nat.lt_of_lt_of_le this (Nat.mul_le_mul_right _ ?_)
    omega
theorem beN_lt {l : List Int} (hb : Byt l) (i n : Nat) : beN l i n < 256 ^ n := by
  have h := bev_lt ((l.take (i + n)).drop i) ((hb.take _).drop _) 0
  have hl : ((l.take (i + n)).drop i).length ≤ n := by rw [List.length_drop, List.length_take]; omega
  unfold beN
  have := Nat.pow_le_pow_right (n := 256) (by omega) hl
  omega
theorem beN_lt4 {l : List Int} (hb : Byt l) {i n : Nat} (hn : n = 1 ∨ n = 2 ∨ n = 4) : beN l i n < 4294967296 := by
  have := beN_lt hb i n
  rcases hn with rfl | rfl | rfl <;> omega
theorem put_eqn {k x n : Nat} (hk : 10 < k) (hn : n = 1 ∨ n = 2 ∨ n = 4) : word_Put.f k (x : Int) (n : Int) = some (byts x n) := by
  have hs : word_sized.f (n : Int) = some true := by rcases hn with rfl | rfl | rfl <;> rfl
  have h := put_l0 n k x [] (by omega) (by omega)
  rw [List.append_nil, List.append_nil] at h
  unfold word_Put.f
  rw [hs, Option.bind_some, if_pos rfl, if_pos (by omega), if_pos (by omega), w64 (by omega) (by omega), Int.toNat_natCast]
  exact h
theorem rd_nat {l : List Int} {i : Nat} (h : i < l.length) : rd l (i : Int) = l[i] := by unfold rd; simp [h]
theorem beN_one {l : List Int} (hb : Byt l) {i : Nat} (h : i < l.length) : ((beN l i 1 : Nat) : Int) = rd l (i : Int) := by
  have e : (l.take (i + 1)).drop i = [rd l (i : Int)] := by
    rw [List.drop_take, drop_at h, show i + 1 - i = 1 by omega]; rfl
  have := hb.at h
  unfold beN
  rw [e]
  show ((0 * 256 + (rd l (i : Int)).toNat : Nat) : Int) = _
  omega
end Go.Proofs.Ytmpiifjckhcbmaa.Pure

/- The game's memory, read: a struct behind a pointer whose bytes lie in a row of their own. -/
namespace Go.Proofs.Ytmpiifjckhcbmaa.PQ
open Go.RowKit Go.Proofs.YtmpiifjckhcbmaaW.PrintWords Go.Proofs.YtmpiifjckhcbmaaW.PrintLast Go.Proofs.YtmpiifjckhcbmaaW.PrintMore Go.Proofs.Ytmpiifjckhcbmaa.Z
set_option linter.unusedVariables false
set_option linter.unusedSimpArgs false
theorem u64_w (z : Int) : IntKind.u64.wrap z = z % 18446744073709551616 := IntKind.wrap_u64 z
set_option maxHeartbeats 2000000 in
theorem there.calls (g gb n c : Nat) (a m : Int) (w : World) (hb : w.cell? ⟨g, 11, none⟩ = some (.slice (some ⟨gb, 0, none⟩) n c)) (h0 : 0 ≤ a ∧ a < 4294967296) (h1 : 0 ≤ m ∧ m ≤ 4294967296) (hn : n ≤ 1048576) :
    Calls Try.prog 31 #[.pointer (some ⟨g, 0, none⟩), .int .u32 a, .int .u64 m] w fun e w' => e = .returned (.bool (decide (a + m ≤ (n : Int)))) ∧ w = w' := by
  have e1 : IntKind.u64.wrap (IntKind.u64.wrap a + m) = a + m := by rw [u64_w, u64_w]; omega
  have e2 : IntKind.u64.wrap (n : Int) = (n : Int) := by rw [u64_w]; omega
  have E1 := Aside0.mk e1
  have E2 := Aside0.mk e2
  clear e1 e2 h0 h1 hn
  go_enter Try.func31, Try.ntmps31
  go_wp2
  go_ret
  exact ⟨by first | rfl | (rw [E1.out, E2.out]; rfl), rfl⟩
def memory_Read.f (k : Nat) (bs : List Int) (a n : Int) : Option (Int × Int) := if n = 1 ∨ n = 2 ∨ n = 4 then (if a + n ≤ (bs.length : Int) then word_Be.f k bs a n else some (0, 90)) else some (0, 1)
set_option maxHeartbeats 4000000 in
theorem memory_Read.calls (k : Nat) (g gb c : Nat) (bs : List Int) (a n : Int) (r1 r2 : Int) (w : World) (hb : w.cell? ⟨g, 11, none⟩ = some (.slice (some ⟨gb, 0, none⟩) bs.length c)) (hr : Kd.C (Kd.int .u8) w (some ⟨gb, 0, none⟩) bs.length bs) (hc : bs.length ≤ c) (hl : bs.length ≤ 1048576) (h0 : 0 ≤ a ∧ a < 4294967296) (h : memory_Read.f k bs a n = some (r1, r2)) :
    Calls Try.prog 12 #[.pointer (some ⟨g, 0, none⟩), .int .u32 a, .int .i64 n] w fun e w' => e = .returned (.tuple #[.int .u32 r1, .int .i64 r2]) ∧ Drawn0 w w' := by
  have HR := Aside0.mk hr
  have HC := Aside0.mk hc
  have HL := Aside0.mk hl
  have H0 := Aside0.mk h0
  clear hr hc hl h0
  unfold memory_Read.f at h
  by_cases c1 : n = 1 ∨ n = 2 ∨ n = 4
  · rw [if_pos c1] at h
    have hs : memory_sized.f n = some true := by
      unfold memory_sized.f
      rcases c1 with h | h | h <;> subst h <;> rfl
    have e3 : IntKind.u64.wrap n = n := by rw [u64_w]; omega
    have e4 : wrap64 a = a := by unfold wrap64; have := H0.out; omega
    have hn : 0 ≤ n ∧ n ≤ 4294967296 := by omega
    have HS := Aside0.mk hs
    have HN := Aside0.mk hn
    have E3 := Aside0.mk e3
    have E4 := Aside0.mk e4
    clear c1 hs hn e3 e4
    by_cases c2 : a + n ≤ (bs.length : Int)
    · rw [if_pos c2] at h
      have c2b0 : decide (a + n ≤ (bs.length : Int)) = true := decide_eq_true c2
      have H := Aside0.mk h
      clear c2 h
      go_enter Try.func12, Try.ntmps12
      go_wp2_with (first | ((with_reducible refine gate_callee (f := 28) rfl ?_); refine zgo (some 13) Try.func28 #[.int .i64 n] ?_; (with_reducible refine (memory_sized.calls n true _ HS.out).mono ?_); rintro e w' ⟨rfl, ⟨nd, rfl⟩⟩; refine ⟨_, rfl, ?_⟩) | (go_at_call 31; rw [E3.out]; (with_reducible refine (there.calls g gb bs.length c a n _ ?side1 H0.out HN.out HL.out).mono ?_); (case side1 => first | exact hb | simpa using hb); rintro e w' ⟨rfl, rfl⟩) | (go_at_call 32; (first | rw [E4.out] | skip); (with_reducible refine (word_Be.calls k _ _ bs a n r1 r2 _ ?side1 ?side2 H.out).mono ?_); (case side1 => repeat (first | exact HR.out | (with_reducible refine Kd.C_drewN ?_ _) | (with_reducible refine Kd.C_drew ?_))); (case side2 => exact HC.out); rintro e w' ⟨rfl, ⟨nd, rfl⟩⟩))
      go_ret2
      exact ⟨rfl, by repeat (first | exact Drawn0.refl _ | exact ⟨_, rfl⟩ | apply Drawn0.step)⟩
    · rw [if_neg c2] at h
      have c2b0 : decide (a + n ≤ (bs.length : Int)) = false := decide_eq_false c2
      simp only [Option.some.injEq, Prod.mk.injEq] at h
      obtain ⟨rfl, rfl⟩ := h
      clear c2
      go_enter Try.func12, Try.ntmps12
      go_wp2_with (first | ((with_reducible refine gate_callee (f := 28) rfl ?_); refine zgo (some 13) Try.func28 #[.int .i64 n] ?_; (with_reducible refine (memory_sized.calls n true _ HS.out).mono ?_); rintro e w' ⟨rfl, ⟨nd, rfl⟩⟩; refine ⟨_, rfl, ?_⟩) | (go_at_call 31; rw [E3.out]; (with_reducible refine (there.calls g gb bs.length c a n _ ?side1 H0.out HN.out HL.out).mono ?_); (case side1 => first | exact hb | simpa using hb); rintro e w' ⟨rfl, rfl⟩))
      go_ret2
      exact ⟨rfl, by repeat (first | exact Drawn0.refl _ | exact ⟨_, rfl⟩ | apply Drawn0.step)⟩
  · rw [if_neg c1] at h
    have hs : memory_sized.f n = some false := by
      unfold memory_sized.f
      rw [if_neg (by omega), if_neg (by omega)]
      congr 1
      exact beq_eq_false_iff_ne.2 (by omega)
    simp only [Option.some.injEq, Prod.mk.injEq] at h
    obtain ⟨rfl, rfl⟩ := h
    have HS := Aside0.mk hs
    clear c1 hs
    go_enter Try.func12, Try.ntmps12
    go_wp2_with (first | ((with_reducible refine gate_callee (f := 28) rfl ?_); refine zgo (some 13) Try.func28 #[.int .i64 n] ?_; (with_reducible refine (memory_sized.calls n false _ HS.out).mono ?_); rintro e w' ⟨rfl, ⟨nd, rfl⟩⟩; refine ⟨_, rfl, ?_⟩))
    go_ret2
    exact ⟨rfl, by repeat (first | exact Drawn0.refl _ | exact ⟨_, rfl⟩ | apply Drawn0.step)⟩
open Go.Proofs.Ytmpiifjckhcbmaa.Pure
/-- the program's memory, as it is read: its bytes -/
structure PM (w : World) (g : Nat) (bs : List Int) : Prop where
  ex : ∃ gb c, w.cell? ⟨g, 11, none⟩ = some (.slice (some ⟨gb, 0, none⟩) bs.length c) ∧ bs.length ≤ c ∧ Kd.C (Kd.int .u8) w (some ⟨gb, 0, none⟩) bs.length bs
  len : bs.length ≤ 1048576
  byt : Byt bs
theorem PM.below {w w1 : World} {g : Nat} {bs : List Int} (h : PM w g bs) (hb : Below w.heap.size w w1) : PM w1 g bs := by
  obtain ⟨⟨gb, c, h1, h2, h3⟩, h4, h5⟩ := h
  exact ⟨⟨gb, c, pw_cell_below hb h1, h2, Kd.C_below h3 hb⟩, h4, h5⟩
/-- what is read: the number, the error -/
def rdS (bs : List Int) (a n : Int) : Int × Int := if n = 1 ∨ n = 2 ∨ n = 4 then (if a + n ≤ (bs.length : Int) then ((beN bs a.toNat n.toNat : Nat), 0) else (0, 90)) else (0, 1)
theorem memory_Read.is (g : Nat) (bs : List Int) (a n : Int) (w : World) (hm : PM w g bs) (h0 : 0 ≤ a ∧ a < 4294967296) :
    Calls Try.prog 12 #[.pointer (some ⟨g, 0, none⟩), .int .u32 a, .int .i64 n] w fun e w' => e = .returned (.tuple #[.int .u32 (rdS bs a n).1, .int .i64 (rdS bs a n).2]) ∧ Drawn0 w w' := by
  obtain ⟨⟨gb, c, h1, h2, h3⟩, h4, h5⟩ := hm
  refine memory_Read.calls 11 g gb c bs a n _ _ w h1 h3 h2 h4 h0 ?_
  unfold memory_Read.f rdS
  by_cases c1 : n = 1 ∨ n = 2 ∨ n = 4
  · rw [if_pos c1, if_pos c1]
    by_cases c2 : a + n ≤ (bs.length : Int)
    · rw [if_pos c2, if_pos c2]
      have := be_eqn (k := 11) (at_ := a.toNat) (n := n.toNat) (by omega) (by omega) h5 (by omega) (by omega)
      rw [show ((a.toNat : Nat) : Int) = a by omega, show ((n.toNat : Nat) : Int) = n by omega] at this
      exact this
    · rw [if_neg c2, if_neg c2]
  · rw [if_neg c1, if_neg c1]
end Go.Proofs.Ytmpiifjckhcbmaa.PQ

/- Small laws about memory that this claim's own walks use. -/
namespace Go.Proofs.Ytmpiifjckhcbmaa.PQ
open Go.RowKit Go.Proofs.YtmpiifjckhcbmaaW.PrintWords Go.Proofs.YtmpiifjckhcbmaaW.PrintLast Go.Proofs.YtmpiifjckhcbmaaW.PrintMore Go.Proofs.Ytmpiifjckhcbmaa.Z
theorem ne_of_R {α : Type} {d : Kd α} {e t : Nat} {W : World} {base g gv n c : Nat} {ok : Nat → Prop} {xs : List α} {cs : Array Value} (h : d.R e W base ok (.slice (some ⟨gv, 0, none⟩) n c) xs) (hb : W.heap[g]? = some (.cells cs t (0, 0))) (ht : e ≠ t) : g ≠ gv := fun he => Kd.R_ne h hb ht (by rw [he]; rfl)
section
variable {P : Program} {ops : Array Oper} {rest : List Oper} {o : Oper} {a : Act} {Q : Exit → Act → World → Prop}
theorem R_row {w0 W : World} {n c e : Nat} {k : IntKind} {xs : List Int} (hl : xs.length = n) (hc : n ≤ c) (h63 : c ≤ 9223372036854775807) {cs : Array Value} (hcs : cs.size = c) (ht : cs.toList.take n = nums k xs) (HB : Below w0.heap.size w0 W) :
    Kd.R (Kd.int k) e (W.alloc (.cells cs e)) w0.heap.size (fun _ => True) (.slice (some ⟨W.heap.size, 0, none⟩) n c) xs := by
  refine Kd.R_of_own (enc := Value.int k) (h1 := fun _ => rfl) ?_ (fun _ _ => trivial)
  rw [hl]
  refine ⟨by rw [Nat.mul_one]; show (List.map _ xs).length = n; rw [List.length_map, hl], .inr ⟨W.heap.size, c, cs, rfl, below_size HB, blk_new _ _, hc, by unfold maxLen; omega, by omega, ?_⟩⟩
  rw [Nat.mul_one, ht]
  rfl
/-- make with room: the row of noughts -/
theorem mk_cap {w0 W : World} (t e : TypeId) (k : IntKind) (bytes : Nat) (hgd : o.guard = none) {N : Tmp} (hd : o.dst = some N) (x y : Operand) (ho : o.op = .makeSlice t x y) (kl kc : IntKind) (l c : Int) (hx : a.eval x = .int kl l) (hy : a.eval y = .int kc c) (h0 : 0 ≤ l) (hlc : l ≤ c)
    (ht : P.underlying t = some (.slice e)) (hinfo : (P.info? e).map (fun i => (i.zero, i.size, i.bytes)) = some (some (.int k 0), 1, bytes)) (hb : (bytes : Int) * c ≤ 281474976710656) (hc : c ≤ 281474976710656) (HB : Below w0.heap.size w0 W)
    (h : ∀ v1 w1, Kd.R (Kd.int k) e w1 w0.heap.size (fun _ => True) v1 (List.replicate l.toNat 0) → Below w0.heap.size w0 w1 → Below W.heap.size W w1 → wpList P ops Q rest (a.put (some N) v1) w1) : wpList P ops Q (o :: rest) a W := by
  obtain ⟨i0, hi, hzz⟩ := Option.map_eq_some_iff.1 hinfo
  simp only [Prod.mk.injEq] at hzz
  obtain ⟨hz0, hz1, hz2⟩ := hzz
  have hr := run_make (P := P) W t e i0 (.int k 0) ht hi hz0 kl kc l c h0 hlc (by rw [hz2]; exact hb) (by omega)
  rw [hz1, Nat.mul_one] at hr
  rw [← hd] at h
  refine Kd.event_run hgd (v := .slice (some ⟨W.heap.size, 0, none⟩) l.toNat c.toNat) (w1 := W.alloc (.cells (madeCells #[.int k 0] c.toNat) e)) (by simp [execOp, ho, hx, hy, hr]; rfl) (h _ _ (R_row (by simp) (by omega) (by omega) (by simp [size_madeCells]) ?_ HB) (below_alloc HB _) (below_alloc (Below.refl _ _) _))
  apply List.ext_getElem
  · simp [nums, madeCells]; omega
  · intro i h1 h2
    simp [nums, madeCells, Nat.mod_one]
end
theorem store_blk {P : Program} {ops : Array Oper} {rest : List Oper} {o : Oper} {a : Act} {Q : Exit → Act → World → Prop} {W : World} (hN : o.dst = none) (hgd : o.guard = none) (t : TypeId) (p x : Operand) (ho : o.op = .store t p x) {g : Nat} {cs cs' : Array Value}
    (haddr : a.eval p = .pointer (some ⟨g, 0, none⟩)) (hx : a.eval x = .agg cs') (hh : W.heap[g]? = some (.cells cs t (0, 0))) (hsz : cs'.size = cs.size) (ht : (P.info? t).map (·.size) = some cs'.size) (h1 : ∀ q ∈ cs'.toList, q.oneCell' = true)
    (h : ∀ w1, w1.heap[g]? = some (.cells cs' t (0, 0)) → W.grownBy w1 (some g) → wpList P ops Q rest a w1) : wpList P ops Q (o :: rest) a W := by
  have hrun := run_store_run (P := P) (o := 0) t (.agg cs') cs'.toList hh rfl (by rw [Array.length_toList]; exact ht) (by rw [Array.length_toList]; omega) h1
  obtain ⟨cur', h3, h4, h5⟩ := setCells_row cs'.toList 0 W cs hh (by rw [Array.length_toList]; omega)
  obtain ⟨s1, s2, s3, s4⟩ := setCells_same g cs'.toList 0 W
  have hc : cur' = cs' := by
    apply Array.toList_inj.1
    rw [h5, List.take_zero, List.nil_append, List.drop_of_length_le (by rw [Array.length_toList, Array.length_toList]; omega), List.append_nil]
  rw [hc] at h3
  refine wpList_plain hgd fun K hK => ?_
  unfold Oper.wp execOp
  simp only [ho, haddr, hx, Sem.run_bind, Sem.run_pure, Result.andThen_ok, hrun]
  show K (a.put o.dst undef) _
  rw [hN]
  exact hK a _ (h _ h3 ⟨s1, s2, s3, by rw [s4]; exact Nat.le_refl _, fun k _ hk => setCells_far _ _ k (fun he => hk (by rw [he]))⟩)
theorem store_cell {P : Program} {ops : Array Oper} {rest : List Oper} {o : Oper} {a : Act} {Q : Exit → Act → World → Prop} {W : World} (hN : o.dst = none) (hgd : o.guard = none) (t t0 : TypeId) (p x : Operand) (ho : o.op = .store t p x) {g j : Nat} {k : IntKind} {z : Int} {cs : Array Value}
    (haddr : a.eval p = .pointer (some ⟨g, j, none⟩)) (hx : a.eval x = .int k z) (hh : W.heap[g]? = some (.cells cs t0 (0, 0))) (hj : j < cs.size) (ht : (P.info? t).map (·.size) = some 1)
    (h : ∀ w1, w1.heap[g]? = some (.cells (cs.setIfInBounds j (.int k z)) t0 (0, 0)) → W.grownBy w1 (some g) → wpList P ops Q rest a w1) : wpList P ops Q (o :: rest) a W := by
  have hrun := run_store_run (P := P) t (.int k z) [.int k z] hh rfl ht (by show j + 1 ≤ cs.size; omega) (by intro q hq; rw [List.mem_singleton] at hq; subst hq; rfl)
  obtain ⟨s1, s2, s3, s4⟩ := setCells_same g [.int k z] j W
  have h3 : (W.setCells g j [.int k z]).heap[g]? = some (.cells (cs.setIfInBounds j (.int k z)) t0 (0, 0)) := blk_set hh j _
  refine wpList_plain hgd fun K hK => ?_
  unfold Oper.wp execOp
  simp only [ho, haddr, hx, Sem.run_bind, Sem.run_pure, Result.andThen_ok, hrun]
  show K (a.put o.dst undef) _
  rw [hN]
  exact hK a _ (h _ h3 ⟨s1, s2, s3, by rw [s4]; exact Nat.le_refl _, fun k _ hk => setCells_far _ _ k (fun he => hk (by rw [he]))⟩)
end Go.Proofs.Ytmpiifjckhcbmaa.PQ

/- find.span: the bytes from an address on. -/
namespace Go.Proofs.Ytmpiifjckhcbmaa.PQ
open Go.RowKit Go.Proofs.YtmpiifjckhcbmaaW.PrintWords Go.Proofs.YtmpiifjckhcbmaaW.PrintLast Go.Proofs.YtmpiifjckhcbmaaW.PrintMore Go.Proofs.Ytmpiifjckhcbmaa.Z Go.Proofs.Ytmpiifjckhcbmaa.Pure
set_option linter.unusedVariables false
set_option linter.unusedSimpArgs false
/-- the bytes from an address on, the error -/
def spanS (bs : List Int) (a n : Int) : List Int × Int := if n = 0 ∨ a + n ≤ (bs.length : Int) then ((bs.drop a.toNat).take n.toNat, 0) else ([], 90)
theorem spanS_ok {bs : List Int} {a n : Int} (h : n = 0 ∨ a + n ≤ (bs.length : Int)) : spanS bs a n = ((bs.drop a.toNat).take n.toNat, 0) := if_pos h
theorem spanS_no {bs : List Int} {a n : Int} (h : ¬ (n = 0 ∨ a + n ≤ (bs.length : Int))) : spanS bs a n = ([], 90) := if_neg h
theorem take_snoc' {l : List Int} {a i : Nat} (h : a + i < l.length) : (l.drop a).take (i + 1) = (l.drop a).take i ++ [rd l ((a + i : Nat) : Int)] := by
  rw [List.take_succ_eq_append_getElem (by rw [List.length_drop]; omega), List.getElem_drop, rd_nat h]
set_option maxHeartbeats 4000000 in
set_option maxRecDepth 100000 in
theorem find_span.is (g : Nat) (bs : List Int) (a n : Int) (w : World) (hm : PM w g bs) (h0 : 0 ≤ a ∧ a < 4294967296) (hn : 0 ≤ n ∧ n ≤ 1048576) :
    Calls Try.prog 77 #[.pointer (some ⟨g, 0, none⟩), .int .u32 a, .int .u32 n] w fun e w' => ∃ v : Value, e = .returned (.tuple #[v, .int .i64 (spanS bs a n).2]) ∧ Kd.R (Kd.int .u8) 5 w' w.heap.size (fun _ => True) v (spanS bs a n).1 ∧ Below w.heap.size w w' := by
  have HM := Aside0.mk hm
  have H0 := Aside0.mk h0
  have HN := Aside0.mk hn
  have HB := Aside0.mk (Below.refl w.heap.size w)
  clear hm h0
  obtain ⟨hn0, hn1⟩ := hn
  go_enter Try.func77, Try.ntmps77
  go_wp2_with (first | ((with_reducible refine gate_dst (N := 13) rfl ?_); refine mk_cap (w0 := w) 41 5 .u8 1 rfl (N := 13) rfl _ _ rfl .i64 .u32 0 n rfl rfl (by omega) hn0 Try.underlying41 info5 (by omega) (by omega) HB.out ?_; intro v1 w1 ho hb hq; replace HB := Aside0.mk hb; have HO := Aside0.mk ho; clear hb ho hq))
  go_loopg [8, 15] (n.toNat + 1) (fun kq v8 v15 w' => ∃ i : Int, v15 = .int .u32 i ∧ Aside0 (0 ≤ i ∧ i ≤ n ∧ kq = (n - i).toNat + 1 ∧ (i = 0 ∨ a + i ≤ (bs.length : Int))) ∧ Aside0 (Kd.R (Kd.int .u8) 5 w' w.heap.size (fun _ => True) v8 ((bs.drop a.toNat).take i.toNat)) ∧ Aside0 (Below w.heap.size w w'))
  case atStart => exact ⟨0, rfl, ⟨by omega, by omega, by omega, Or.inl rfl⟩, ⟨HO.out⟩, ⟨zb HB⟩⟩
  case round =>
    obtain ⟨i, rfl, HI, HO, HB⟩ := hrel
    have hM := HM.out.below HB.out
    by_cases c1 : i < n
    · have c1b : decide (i < n) = true := decide_eq_true c1
      have e1 : IntKind.u64.wrap (IntKind.u64.wrap a + IntKind.u64.wrap i) = a + i := by
        have := HI.out; have := H0.out
        simp only [u64_w]; omega
      have E1 := Aside0.mk e1
      clear e1
      by_cases c2 : a + i > 4294967295
      · have c2b : decide (IntKind.u64.wrap (IntKind.u64.wrap a + IntKind.u64.wrap i) > 4294967295) = true := by rw [E1.out]; exact decide_eq_true c2
        have c2c : decide (4294967295 < IntKind.u64.wrap (IntKind.u64.wrap a + IntKind.u64.wrap i)) = true := by rw [E1.out]; exact decide_eq_true c2
        clear hn0 hn1
        go_wp2
        go_ret2
        rw [spanS_no (by have := HM.out.len; have := HI.out; omega)]
        exact ⟨_, rfl, Kd.R_nil _ _ _ _ _, zb HB⟩
      · have e2 : (a + i) % 4294967296 = a + i := by have := HI.out; have := H0.out; omega
        have E2 := Aside0.mk e2
        have HA := Aside0.mk (show 0 ≤ a + i ∧ a + i < 4294967296 by have := HI.out; have := H0.out; omega)
        clear e2
        by_cases c3 : a + i < (bs.length : Int)
        · have er : rdS bs (a + i) 1 = (rd bs (a + i), 0) := by
            have hi := HI.out
            have h0 := H0.out
            unfold rdS
            rw [if_pos (Or.inl rfl), if_pos (by omega)]
            have hb1 := beN_one HM.out.byt (i := (a + i).toNat) (by omega)
            rw [show (((a + i).toNat : Nat) : Int) = a + i by omega] at hb1
            rw [← hb1]; rfl
          have hrd : 0 ≤ rd bs (a + i) ∧ rd bs (a + i) < 256 := by
            have hi := HI.out
            have h0 := H0.out
            have := HM.out.byt.at (i := (a + i).toNat) (by omega)
            rwa [show (((a + i).toNat : Nat) : Int) = a + i by omega] at this
          have hsn : ((bs.drop a.toNat).take i.toNat) ++ [rd bs (a + i)] = (bs.drop a.toNat).take (i + 1).toNat := by
            have hi := HI.out
            have h0 := H0.out
            rw [show (i + 1).toNat = i.toNat + 1 by omega, take_snoc' (by omega)]
            rw [show ((a.toNat + i.toNat : Nat) : Int) = a + i by omega]
          have hlen : ((bs.drop a.toNat).take i.toNat).length ≤ 1048576 := by
            have hi := HI.out
            have := HN.out
            exact Nat.le_trans (List.length_take_le _ _) (by omega)
          have hnx : (i + 1) % 4294967296 = i + 1 := by have := HI.out; have := HN.out; omega
          have h8 : rd bs (a + i) % 256 = rd bs (a + i) := by omega
          have Hsn := Aside0.mk hsn
          have Her := Aside0.mk er
          have Hlen := Aside0.mk hlen
          have Hnx := Aside0.mk hnx
          have H8 := Aside0.mk h8
          clear hn0 hn1 er hsn hlen hnx h8 hrd
          have c2c : decide (4294967295 < IntKind.u64.wrap (IntKind.u64.wrap a + IntKind.u64.wrap i)) = false := by rw [E1.out]; exact decide_eq_false c2
          clear c2
          go_wp2_with (first | (go_at_call 12; (try rw [E2.out]); (with_reducible refine (memory_Read.is g bs (a + i) 1 _ hM HA.out).mono ?_); rintro e w' ⟨rfl, ⟨nd, rfl⟩⟩; rw [Her.out]) | ((with_reducible refine gate_builtin (b := .append) (xs := #[.tmp 35, .tmp 38]) rfl ?_); at_builtin; refine Kd.R_append (Kd.int .u8) (w0 := w) w.heap.size rfl (.tmp 35) (.tmp 38) 41 5 (.int .u8 0) 1 rfl Try.underlying41 info5 rfl (by decide) (by omega) u8 ((bs.drop a.toNat).take i.toNat) (rd bs (a + i) % 256) [.int .u8 (rd bs (a + i) % 256)] (fun _ => True) (fun _ => False) rfl rfl ?aP (fun _ hk => hk.elim) ?aF ?aO ?aB ?aS ?aL ?_; (case aP => exact rfl); (case aB => exact (zb HB)); (case aF => exact (fun _ _ => trivial)); (case aO => exact (by (with_reducible repeat (first | apply Kd.R_alloc | apply Kd.R_drewN | apply Kd.R_drew)); exact HO.out)); (case aS => exact (below_size (zb HB))); (case aL => have := Hlen.out; omega); intro v2 w5 ho hb hg hat; rw [H8.out, Hsn.out] at ho; have HO2 := Aside0.mk (ho); replace HB := Aside0.mk (hb); clear HO; clear ho hb hg hat))
          go_roundg ((n - (i + 1)).toNat + 1)
          case measure => have := HI.out; omega
          case rel => exact ⟨i + 1, by rw [Hnx.out], ⟨by have := HI.out; omega⟩, ⟨by (with_reducible repeat (first | apply Kd.R_alloc | apply Kd.R_drewN | apply Kd.R_drew)); exact HO2.out⟩, ⟨zb HB⟩⟩
        · have er : rdS bs (a + i) 1 = (0, 90) := by
            have hi := HI.out
            have h0 := H0.out
            unfold rdS
            rw [if_pos (Or.inl rfl), if_neg (by omega)]
          have Her := Aside0.mk er
          have Hno := Aside0.mk (spanS_no (bs := bs) (a := a) (n := n) (by have := HI.out; omega))
          clear hn0 hn1 er
          have c2c : decide (4294967295 < IntKind.u64.wrap (IntKind.u64.wrap a + IntKind.u64.wrap i)) = false := by rw [E1.out]; exact decide_eq_false c2
          clear c2
          go_wp2_with (first | (go_at_call 12; (try rw [E2.out]); (with_reducible refine (memory_Read.is g bs (a + i) 1 _ hM HA.out).mono ?_); rintro e w' ⟨rfl, ⟨nd, rfl⟩⟩; rw [Her.out]))
          go_ret2
          rw [Hno.out]
          exact ⟨_, rfl, Kd.R_nil _ _ _ _ _, zb HB⟩
    · have c1b : decide (i < n) = false := decide_eq_false c1
      have Hok := Aside0.mk (spanS_ok (bs := bs) (a := a) (n := n) (by have := HI.out; omega))
      have Hin := Aside0.mk (show i = n by have := HI.out; omega)
      clear hn0 hn1
      go_wp2
      go_ret2
      rw [Hok.out]
      exact ⟨_, rfl, by rw [← Hin.out]; exact HO.out, zb HB⟩
theorem find_span.to (g : Nat) (bs L : List Int) (a n er : Int) (w : World) (hm : PM w g bs) (h0 : 0 ≤ a ∧ a < 4294967296) (hn : 0 ≤ n ∧ n ≤ 1048576) (h : spanS bs a n = (L, er)) :
    Calls Try.prog 77 #[.pointer (some ⟨g, 0, none⟩), .int .u32 a, .int .u32 n] w fun e w' => ∃ (A : Option Addr) (c : Nat), e = .returned (.tuple #[.slice A L.length c, .int .i64 er]) ∧ Kd.R (Kd.int .u8) 5 w' w.heap.size (fun _ => True) (.slice A L.length c) L ∧ Below w.heap.size w w' :=
  (find_span.is g bs a n w hm h0 hn).mono fun e w' hh => by
    obtain ⟨v, he, hv, hb⟩ := hh
    rw [h] at he hv
    obtain ⟨A, c, rfl⟩ := Kd.R_slice hv
    exact ⟨A, c, he, hv, hb⟩
theorem spanS_byt {bs L : List Int} {a n er : Int} (hb : Byt bs) (h : spanS bs a n = (L, er)) : Byt L := by
  unfold spanS at h
  split at h
  · injection h with h1 h2
    subst h1
    exact (hb.drop _).take _
  · injection h with h1 h2
    subst h1
    intro x hx
    cases hx
theorem spanS_len {bs L : List Int} {a n : Int} (hn : 0 ≤ n) (h0 : 0 ≤ a) (h : spanS bs a n = (L, 0)) : (L.length : Int) = n := by
  unfold spanS at h
  split at h
  · injection h with h1 h2
    subst h1
    rw [List.length_take, List.length_drop]
    omega
  · injection h with h1 h2
    cases h2
theorem spanS_er (bs : List Int) (a n : Int) : ∃ L er, spanS bs a n = (L, er) ∧ (er = 0 ∨ (er = 90 ∧ L = [])) := by
  unfold spanS
  split
  · exact ⟨_, _, rfl, Or.inl rfl⟩
  · exact ⟨_, _, rfl, Or.inr ⟨rfl, rfl⟩⟩
end Go.Proofs.Ytmpiifjckhcbmaa.PQ

/- bytes.Compare at two rows that are read. -/
namespace Go.Proofs.Ytmpiifjckhcbmaa.PQ
open Go.RowKit Go.Proofs.YtmpiifjckhcbmaaW.PrintWords Go.Proofs.YtmpiifjckhcbmaaW.PrintLast Go.Proofs.YtmpiifjckhcbmaaW.PrintMore Go.Proofs.Ytmpiifjckhcbmaa.Z Go.Proofs.Ytmpiifjckhcbmaa.Pure
set_option linter.unusedVariables false
set_option linter.unusedSimpArgs false
/-- how two rows of bytes stand -/
def cmpI : List Int → List Int → Int
  | [], [] => 0
  | [], _ :: _ => -1
  | _ :: _, [] => 1
  | a :: l, b :: m => if a < b then -1 else if b < a then 1 else cmpI l m
theorem u8_lt {a b : Int} (ha : 0 ≤ a ∧ a < 256) (hb : 0 ≤ b ∧ b < 256) : (UInt8.ofNat a.toNat < UInt8.ofNat b.toNat) ↔ a < b := by
  rw [UInt8.lt_iff_toNat_lt, UInt8.toNat_ofNat', UInt8.toNat_ofNat']
  rw [Nat.mod_eq_of_lt (by omega), Nat.mod_eq_of_lt (by omega)]
  omega
theorem cmp_bytes : ∀ (a b : List Int), Byt a → Byt b → Lib.compareBytes (Lib.bytesOf a) (Lib.bytesOf b) = cmpI a b
  | [], [], _, _ => rfl
  | [], _ :: _, _, _ => rfl
  | _ :: _, [], _, _ => rfl
  | x :: a, y :: b, ha, hb => by
    have hx := ha x List.mem_cons_self
    have hy := hb y List.mem_cons_self
    have ih := cmp_bytes a b (fun q h => ha q (List.mem_cons_of_mem _ h)) (fun q h => hb q (List.mem_cons_of_mem _ h))
    show (if UInt8.ofNat x.toNat < UInt8.ofNat y.toNat then (-1 : Int) else if UInt8.ofNat y.toNat < UInt8.ofNat x.toNat then 1 else Lib.compareBytes (Lib.bytesOf a) (Lib.bytesOf b)) = if x < y then -1 else if y < x then 1 else cmpI a b
    rw [ih]
    simp only [u8_lt hx hy, u8_lt hy hx]
theorem load_x {P : Program} {w : World} {A : Option Addr} {n c : Nat} {xs : List Int} (h : Kd.C (Kd.int .u8) w A n xs) : (Extern.Bytes.bytesOf (.slice A n c)).run P w = .ok ⟨(Lib.bytesOf xs).toArray⟩ w := by
  have hR := Kd.reads_of_C (enc := Value.int .u8) (d := (0 : Int)) (h1 := fun _ => rfl) h
  have hn : xs.length = n := hR.1
  rcases A with _ | ad
  · have h0 : n = 0 := by
      rcases Nat.eq_zero_or_pos n with h0 | h0
      · exact h0
      · obtain ⟨ad, h', _⟩ := hR.2.2 h0
        cases h'
    subst h0
    obtain rfl : xs = [] := List.eq_nil_of_length_eq_zero hn
    rfl
  · have hl := Lib.run_loadBytesX (P := P) w xs ad .empty (fun j x hj => by
      obtain ⟨hjl, hjx⟩ := List.getElem?_eq_some_iff.1 hj
      obtain ⟨ad', he', hc⟩ := hR.2.2 (by omega)
      injection he' with he'
      subst he'
      rw [hc j (by omega), List.getD_eq_getElem?_getD, hj]
      rfl)
    rw [hn] at hl
    show (Extern.Bytes.loadBytes ad n .empty).run P w = _
    rw [hl]
    congr 1
    apply ByteArray.ext
    show (#[] : Array UInt8) ++ (Lib.bytesOf xs).toArray = (Lib.bytesOf xs).toArray
    simp
set_option maxHeartbeats 1000000 in
theorem bytes_Compare.is {A B : Option Addr} {n m c d : Nat} {xs ys : List Int} (w : World) (hx : Kd.C (Kd.int .u8) w A n xs) (hy : Kd.C (Kd.int .u8) w B m ys) (bx : Byt xs) (by_ : Byt ys) :
    Calls Try.prog 78 #[.slice A n c, .slice B m d] w fun e w' => e = .returned (.int .i64 (cmpI xs ys)) ∧ w = w' := by
  have hr : (callFunc 79 #[.slice A n c, .slice B m d]).run Try.prog w = .ok (.value (.int .i64 (cmpI xs ys))) w := by
    rw [run_callFunc_extern (e := Extern.BytealgCompare.compare) Try.func79 (by kernel_rfl) rfl rfl rfl]
    change ((do pure (goInt (Extern.BytealgCompare.cmp (← Extern.Bytes.bytesOf (.slice A n c)) (← Extern.Bytes.bytesOf (.slice B m d)))) : Sem Value).run Try.prog w).andThen _ = _
    simp only [Sem.run_bind, load_x hx, load_x hy, Sem.run_pure, Result.andThen]
    rw [Lib.cmp_eq]
    show Result.ok (Next.value (.int .i64 (Lib.compareBytes (Lib.bytesOf xs) (Lib.bytesOf ys)))) w = _
    rw [cmp_bytes _ _ bx by_]
  have HR := Aside0.mk hr
  clear hr hx hy bx by_
  go_enter Try.func78, Try.ntmps78
  go_wp2
  rw [HR.out]
  rw [Oper.upon_value]
  go_wp2
  go_ret
  exact ⟨rfl, rfl⟩
end Go.Proofs.Ytmpiifjckhcbmaa.PQ

/- find's search: what is looked for; told, none, at. -/
namespace Go.Proofs.Ytmpiifjckhcbmaa.PQ
open Go.RowKit Go.Proofs.YtmpiifjckhcbmaaW.PrintWords Go.Proofs.YtmpiifjckhcbmaaW.PrintLast Go.Proofs.YtmpiifjckhcbmaaW.PrintMore Go.Proofs.Ytmpiifjckhcbmaa.Z Go.Proofs.Ytmpiifjckhcbmaa.Pure
set_option linter.unusedVariables false
set_option linter.unusedSimpArgs false
/-- what is looked for, and where -/
structure Sr where
  key : Int
  ksz : Int
  start : Int
  size : Int
  count : Int
  off : Int
  next : Int
  opts : Int
structure Sr.Ok (s : Sr) : Prop where
  key : 0 ≤ s.key ∧ s.key < 4294967296
  ksz : 0 ≤ s.ksz ∧ s.ksz < 4294967296
  start : 0 ≤ s.start ∧ s.start < 4294967296
  size : 0 ≤ s.size ∧ s.size < 4294967296
  count : 0 ≤ s.count ∧ s.count < 4294967296
  off : 0 ≤ s.off ∧ s.off < 4294967296
  next : 0 ≤ s.next ∧ s.next < 4294967296
  opts : 0 ≤ s.opts ∧ s.opts < 4294967296
/-- its ten cells: the eight numbers, the memory, the key -/
abbrev Sr.cells (s : Sr) (g : Nat) (v : Value) : Array Value := #[.int .u32 s.key, .int .u32 s.ksz, .int .u32 s.start, .int .u32 s.size, .int .u32 s.count, .int .u32 s.off, .int .u32 s.next, .int .u32 s.opts, .pointer (some ⟨g, 0, none⟩), v]
def hasB (o b : Int) : Bool := (o / b) % 2 == 1
theorem and_pow (n j : Nat) : n &&& 2 ^ j = if n.testBit j then 2 ^ j else 0 := by
  apply Nat.eq_of_testBit_eq
  intro i
  rw [Nat.testBit_and, Nat.testBit_two_pow]
  by_cases h : j = i
  · subst h
    cases hb : n.testBit j <;> simp [Nat.testBit_two_pow_self]
  · cases hb : n.testBit j <;> simp [h, Nat.testBit_two_pow]
theorem bit_and {o b : Int} (h0 : 0 ≤ o ∧ o < 4294967296) (hb : b = 1 ∨ b = 2 ∨ b = 4) : (Go.bits .and .u32 o b != 0) = hasB o b := by
  obtain ⟨n, rfl⟩ := Int.eq_ofNat_of_zero_le h0.1
  have hw : ∀ m : Int, 0 ≤ m → m < 2 ^ 32 → IntKind.u32.wrap m = m := fun m h0 h1 => by rw [IntKind.wrap_u32]; omega
  have key : ∀ j : Nat, j < 3 → (Go.bits .and .u32 (n : Int) ((2 ^ j : Nat) : Int) != 0) = hasB (n : Int) ((2 ^ j : Nat) : Int) := by
    intro j hj
    have h2 : 2 ^ j < 2 ^ 32 := Nat.pow_lt_pow_right (by omega) (by omega)
    rw [(bits_nat .u32 32 (by decide) hw n (2 ^ j) (by omega) h2).1]
    unfold hasB
    rw [and_pow]
    have e : ((n : Int) / ((2 ^ j : Nat) : Int)) % 2 = ((n / 2 ^ j % 2 : Nat) : Int) := by omega
    have t : n.testBit j = decide (n / 2 ^ j % 2 = 1) := Nat.testBit_eq_decide_div_mod_eq
    rw [e, t]
    have hp : (2 ^ j : Nat) ≠ 0 := Nat.ne_of_gt (Nat.pow_pos (by omega))
    by_cases c : n / 2 ^ j % 2 = 1
    · simp only [c, decide_true, if_true]
      rw [bne_iff_ne.mpr (by omega : ((2 ^ j : Nat) : Int) ≠ 0)]
      rfl
    · have c0 : n / 2 ^ j % 2 = 0 := by omega
      simp [c0]
  rcases hb with rfl | rfl | rfl
  · exact key 0 (by omega)
  · exact key 1 (by omega)
  · exact key 2 (by omega)
/-- what is told of structure i; of none -/
def toldS (s : Sr) (i : Int) : Int := if hasB s.opts 4 then i else (s.start + i * s.size % 4294967296) % 4294967296
def noneS (s : Sr) : Int := if hasB s.opts 4 then 4294967295 else 0
set_option maxHeartbeats 1000000 in
theorem find_told.is (gs g : Nat) (s : Sr) (v : Value) (i : Int) (w : World) (hs : w.heap[gs]? = some (.cells (s.cells g v) 133 (0, 0))) (ho : s.Ok) :
    Calls Try.prog 74 #[.pointer (some ⟨gs, 0, none⟩), .int .u32 i] w fun e w' => e = .returned (.int .u32 (toldS s i)) ∧ Drawn0 w w' := by
  have hb := bit_and ho.opts (b := 4) (by omega)
  have c2 : w.cell? ⟨gs, 2, none⟩ = some (.int .u32 s.start) := (blk_cell hs 2).trans rfl
  have c3 : w.cell? ⟨gs, 3, none⟩ = some (.int .u32 s.size) := (blk_cell hs 3).trans rfl
  have c7 : w.cell? ⟨gs, 7, none⟩ = some (.int .u32 s.opts) := (blk_cell hs 7).trans rfl
  unfold toldS
  cases hc : hasB s.opts 4
  · rw [hc] at hb
    clear hc hs ho
    go_enter Try.func74, Try.ntmps74
    go_wp2
    repeat (go_quiet (fail); try go_wp2)
    go_ret
    exact ⟨rfl, by repeat (first | exact Drawn0.refl _ | exact ⟨_, rfl⟩ | apply Drawn0.step)⟩
  · rw [hc] at hb
    clear hc hs ho
    go_enter Try.func74, Try.ntmps74
    go_wp2
    go_ret
    exact ⟨rfl, by repeat (first | exact Drawn0.refl _ | exact ⟨_, rfl⟩ | apply Drawn0.step)⟩
set_option maxHeartbeats 1000000 in
theorem find_none.is (gs g : Nat) (s : Sr) (v : Value) (w : World) (hs : w.heap[gs]? = some (.cells (s.cells g v) 133 (0, 0))) (ho : s.Ok) :
    Calls Try.prog 75 #[.pointer (some ⟨gs, 0, none⟩)] w fun e w' => e = .returned (.int .u32 (noneS s)) ∧ Drawn0 w w' := by
  have hb := bit_and ho.opts (b := 4) (by omega)
  have c7 : w.cell? ⟨gs, 7, none⟩ = some (.int .u32 s.opts) := (blk_cell hs 7).trans rfl
  unfold noneS
  cases hc : hasB s.opts 4
  · rw [hc] at hb
    clear hc hs ho
    go_enter Try.func75, Try.ntmps75
    go_wp2
    go_ret
    exact ⟨rfl, by repeat (first | exact Drawn0.refl _ | exact ⟨_, rfl⟩ | apply Drawn0.step)⟩
  · rw [hc] at hb
    clear hc hs ho
    go_enter Try.func75, Try.ntmps75
    go_wp2
    go_ret
    exact ⟨rfl, by repeat (first | exact Drawn0.refl _ | exact ⟨_, rfl⟩ | apply Drawn0.step)⟩
/-- how the key of the structure at an address stands, whether it is all noughts, the error -/
def atS (bs : List Int) (s : Sr) (key : List Int) (a : Int) : Int × Bool × Int :=
  let r := spanS bs ((a + s.off) % 4294967296) s.ksz
  if r.2 = 0 then (cmpI r.1 key, r.1.all (· == 0), 0) else (0, false, r.2)
theorem at3 {w : World} {gs g : Nat} {s : Sr} {v : Value} (h : w.heap[gs]? = some (.cells (s.cells g v) 133 (0, 0))) : w.cell? ⟨gs, 8, none⟩ = some (.pointer (some ⟨g, 0, none⟩)) ∧ w.cell? ⟨gs, 5, none⟩ = some (.int .u32 s.off) ∧ w.cell? ⟨gs, 1, none⟩ = some (.int .u32 s.ksz) := ⟨(blk_cell h 8).trans rfl, (blk_cell h 5).trans rfl, (blk_cell h 1).trans rfl⟩
def allz (l : List Int) : Bool := l.all (· == 0)
theorem allz_snoc {l : List Int} {i : Nat} (h : i < l.length) : allz (l.take (i + 1)) = (allz (l.take i) && (rd l (i : Int) == 0)) := by
  unfold allz
  rw [List.take_succ_eq_append_getElem h, List.all_append, rd_nat h]
  simp
theorem atS_no {bs L : List Int} {s : Sr} {key : List Int} {a er : Int} (h : spanS bs ((a + s.off) % 4294967296) s.ksz = (L, er)) (he : er ≠ 0) : atS bs s key a = (0, false, er) := by
  unfold atS
  rw [h]
  exact if_neg he
theorem atS_ok {bs L : List Int} {s : Sr} {key : List Int} {a : Int} (h : spanS bs ((a + s.off) % 4294967296) s.ksz = (L, 0)) : atS bs s key a = (cmpI L key, allz L, 0) := by
  unfold atS
  rw [h]
  rfl
set_option maxHeartbeats 4000000 in
set_option maxRecDepth 100000 in
theorem find_at.is (gs g : Nat) (s : Sr) (A : Option Addr) (c : Nat) (key bs : List Int) (a : Int) (w : World) (hs : w.heap[gs]? = some (.cells (s.cells g (.slice A key.length c)) 133 (0, 0))) (ho : s.Ok) (hk : s.ksz ≤ 256) (hm : PM w g bs) (hr : Kd.C (Kd.int .u8) w A key.length key) (hy : Byt key) :
    Calls Try.prog 73 #[.pointer (some ⟨gs, 0, none⟩), .int .u32 a] w fun e w' => e = .returned (.tuple #[.int .i64 (atS bs s key a).1, .bool (atS bs s key a).2.1, .int .i64 (atS bs s key a).2.2]) ∧ Below w.heap.size w w' := by
  obtain ⟨L, er, hsp, her⟩ := spanS_er bs ((a + s.off) % 4294967296) s.ksz
  have HS := Aside0.mk hs
  have HM := Aside0.mk hm
  have HB := Aside0.mk (Below.refl w.heap.size w)
  have HO := Aside0.mk ho
  have HK := Aside0.mk hk
  have HR := Aside0.mk hr
  have HY := Aside0.mk hy
  have HP := Aside0.mk hsp
  clear hs hm ho hk hr hy hsp
  rcases her with rfl | ⟨rfl, rfl⟩
  · have Hat := Aside0.mk (atS_ok (key := key) HP.out)
    have HL := Aside0.mk (spanS_byt HM.out.byt HP.out)
    have Hlen := Aside0.mk (spanS_len HO.out.ksz.1 (by omega) HP.out)
    go_enter Try.func73, Try.ntmps73
    go_wp2
    go_region_held3 (fun w' => w'.cell? ⟨gs, 8, none⟩ = some (.pointer (some ⟨g, 0, none⟩)) ∧ w'.cell? ⟨gs, 5, none⟩ = some (.int .u32 s.off) ∧ w'.cell? ⟨gs, 1, none⟩ = some (.int .u32 s.ksz)) (first | exact at3 HS1.out | exact at3 (blk_drew HS.out)) ((go_at_call 77; rw [IntKind.wrap_u32]; (with_reducible refine (find_span.to g bs L ((a + s.off) % 4294967296) s.ksz 0 _ (HM.out.below (below_drew1 (Below.refl _ _))) (by omega) (by have := HK.out; have := HO.out.ksz; omega) HP.out).mono ?_); rintro e w1 ⟨A1, c1, rfl, hv, hb⟩; have HS1 : Aside0 (w1.heap[gs]? = some _) := ⟨blk_below (blk_drew HS.out) hb⟩; have HV := Aside0.mk hv; replace HB := Aside0.mk (below_step (below_drew1 HB.out) hb); clear hb hv))
    go_wp2
    go_loopg [9, 37] (L.length + 1) (fun kq v9 v37 w' => ∃ i : Int, v37 = .int .i64 i ∧ v9 = .bool (allz (L.take i.toNat)) ∧ Aside0 (0 ≤ i ∧ i ≤ (L.length : Int) ∧ kq = ((L.length : Int) - i).toNat + 1) ∧ Aside0 (Drawn0 w1 w'))
    case atStart => exact ⟨0, rfl, rfl, ⟨by omega, by omega, by omega⟩, ⟨by repeat (first | exact Drawn0.refl _ | exact ⟨_, rfl⟩ | apply Drawn0.step)⟩⟩
    case round =>
      obtain ⟨i, rfl, rfl, HI, ⟨⟨nd, rfl⟩⟩⟩ := hrel
      have hRL := (Kd.R_reads' HV.out).2.2
      by_cases c1 : i < (L.length : Int)
      · have c1b : decide (i < (L.length : Int)) = true := decide_eq_true c1
        have p1 : 0 ≤ i := HI.out.1
        obtain ⟨ad, ea, hx⟩ := Kd.at_int hRL i p1 c1
        subst ea
        have hz := allz_snoc (l := L) (i := i.toNat) (by have := HI.out; omega)
        rw [show ((i.toNat : Nat) : Int) = i by omega, show i.toNat + 1 = (i + 1).toNat by omega] at hz
        have hw : wrap64 (i + 1) = i + 1 := by have := HI.out; have := Hlen.out; have := HK.out; unfold wrap64; omega
        have Hz := Aside0.mk hz
        have Hw := Aside0.mk hw
        have Hn := Aside0.mk (show ((L.length : Int) - (i + 1)).toNat + 1 < gk by have := HI.out; omega)
        have Hi := Aside0.mk (show 0 ≤ i + 1 ∧ i + 1 ≤ (L.length : Int) by omega)
        clear hz hw hRL HI
        replace p1 := eq_true p1
        have q1 := eq_true c1
        clear c1
        cases hza : allz (L.take i.toNat)
        · have Hza := Aside0.mk hza
          clear hza
          go_wp2
          go_roundg (((L.length : Int) - (i + 1)).toNat + 1)
          case measure => exact Hn.out
          case rel => exact ⟨i + 1, by rw [Hw.out], by rw [Hz.out, Hza.out]; rfl, ⟨Hi.out.1, Hi.out.2, rfl⟩, ⟨by repeat (first | exact Drawn0.refl _ | exact ⟨_, rfl⟩ | apply Drawn0.step)⟩⟩
        · have Hza := Aside0.mk hza
          clear hza
          go_wp2
          go_roundg (((L.length : Int) - (i + 1)).toNat + 1)
          case measure => exact Hn.out
          case rel => exact ⟨i + 1, by rw [Hw.out], by rw [Hz.out, Hza.out]; rfl, ⟨Hi.out.1, Hi.out.2, rfl⟩, ⟨by repeat (first | exact Drawn0.refl _ | exact ⟨_, rfl⟩ | apply Drawn0.step)⟩⟩
      · have c1b : decide (i < (L.length : Int)) = false := decide_eq_false c1
        have Hi := Aside0.mk (show i.toNat = L.length by have := HI.out; omega)
        have h9 : (w1.drewN nd).cell? ⟨gs, 9, none⟩ = some (.slice A key.length c) := (blk_cell (blk_drewN HS1.out nd) 9).trans rfl
        clear hRL HI c1
        go_wp2_with (first | (go_at_call 78; (with_reducible refine (bytes_Compare.is _ (Kd.C_drewN (Kd.R_reads' HV.out).2.2 nd) (Kd.C_below HR.out (pw_below_drewN HB.out nd)) HL.out HY.out).mono ?_); rintro e w' ⟨rfl, rfl⟩))
        go_ret3
        rw [Hat.out]
        exact ⟨by rw [Hi.out, List.take_length]; rfl, zb HB⟩
  · have Hat := Aside0.mk (atS_no (key := key) HP.out (by decide))
    go_enter Try.func73, Try.ntmps73
    go_wp2
    go_region_held3 (fun w' => w'.cell? ⟨gs, 8, none⟩ = some (.pointer (some ⟨g, 0, none⟩)) ∧ w'.cell? ⟨gs, 5, none⟩ = some (.int .u32 s.off) ∧ w'.cell? ⟨gs, 1, none⟩ = some (.int .u32 s.ksz)) (first | exact at3 HS1.out | exact at3 (blk_drew HS.out)) ((go_at_call 77; rw [IntKind.wrap_u32]; (with_reducible refine (find_span.to g bs [] ((a + s.off) % 4294967296) s.ksz 90 _ (HM.out.below (below_drew1 (Below.refl _ _))) (by omega) (by have := HK.out; have := HO.out.ksz; omega) HP.out).mono ?_); rintro e w1 ⟨A1, c1, rfl, hv, hb⟩; have HS1 : Aside0 (w1.heap[gs]? = some _) := ⟨blk_below (blk_drew HS.out) hb⟩; replace HB := Aside0.mk (below_step (below_drew1 HB.out) hb); clear hb hv))
    go_wp2
    go_ret3
    rw [Hat.out]
    exact ⟨rfl, zb HB⟩
theorem find_at.to (gs g : Nat) (s : Sr) (A : Option Addr) (c : Nat) (key bs : List Int) (a x1 x3 : Int) (x2 : Bool) (w : World) (hs : w.heap[gs]? = some (.cells (s.cells g (.slice A key.length c)) 133 (0, 0))) (ho : s.Ok) (hk : s.ksz ≤ 256) (hm : PM w g bs) (hr : Kd.C (Kd.int .u8) w A key.length key) (hy : Byt key) (h : atS bs s key a = (x1, x2, x3)) :
    Calls Try.prog 73 #[.pointer (some ⟨gs, 0, none⟩), .int .u32 a] w fun e w' => e = .returned (.tuple #[.int .i64 x1, .bool x2, .int .i64 x3]) ∧ Below w.heap.size w w' := by
  have := find_at.is gs g s A c key bs a w hs ho hk hm hr hy
  rw [h] at this
  exact this
end Go.Proofs.Ytmpiifjckhcbmaa.PQ

/- find's three ways: one by one, by halves, along a chain. -/
namespace Go.Proofs.Ytmpiifjckhcbmaa.PQ
open Go.RowKit Go.Proofs.YtmpiifjckhcbmaaW.PrintWords Go.Proofs.YtmpiifjckhcbmaaW.PrintLast Go.Proofs.YtmpiifjckhcbmaaW.PrintMore Go.Proofs.Ytmpiifjckhcbmaa.Z Go.Proofs.Ytmpiifjckhcbmaa.Pure
set_option linter.unusedVariables false
set_option linter.unusedSimpArgs false
/-- one by one, from structure i on -/
def rowS (bs : List Int) (s : Sr) (key : List Int) : Nat → Int → Option (Int × Int)
  | 0, _ => none
  | k + 1, i =>
    if i < s.count ∨ s.count = 4294967295 then
      let r := atS bs s key ((s.start + i * s.size % 4294967296) % 4294967296)
      if r.2.2 ≠ 0 then some (0, r.2.2)
      else if r.1 = 0 then some (toldS s i, 0)
      else if (r.2.1 && hasB s.opts 2) = true ∨ s.size = 0 then some (noneS s, 0)
      else rowS bs s key k ((i + 1) % 4294967296)
    else some (noneS s, 0)
theorem row3 {w : World} {gs g : Nat} {s : Sr} {v : Value} (h : w.heap[gs]? = some (.cells (s.cells g v) 133 (0, 0))) : w.cell? ⟨gs, 2, none⟩ = some (.int .u32 s.start) ∧ w.cell? ⟨gs, 3, none⟩ = some (.int .u32 s.size) := ⟨(blk_cell h 2).trans rfl, (blk_cell h 3).trans rfl⟩
end Go.Proofs.Ytmpiifjckhcbmaa.PQ

/- find's ways: by halves. -/
namespace Go.Proofs.Ytmpiifjckhcbmaa.PQ
open Go.RowKit Go.Proofs.YtmpiifjckhcbmaaW.PrintWords Go.Proofs.YtmpiifjckhcbmaaW.PrintLast Go.Proofs.YtmpiifjckhcbmaaW.PrintMore Go.Proofs.Ytmpiifjckhcbmaa.Z Go.Proofs.Ytmpiifjckhcbmaa.Pure
set_option linter.unusedVariables false
set_option linter.unusedSimpArgs false
/-- by halves, between low and high -/
def sortS (bs : List Int) (s : Sr) (key : List Int) : Nat → Int → Int → Option (Int × Int)
  | 0, _, _ => none
  | k + 1, low, high =>
    if low < high then
      let i := (low + high) / 2
      let r := atS bs s key ((s.start + (i % 4294967296) * s.size % 4294967296) % 4294967296)
      if r.2.2 ≠ 0 then some (0, r.2.2)
      else if r.1 = 0 then some (toldS s (i % 4294967296), 0)
      else if r.1 < 0 then sortS bs s key k (i + 1) high
      else sortS bs s key k low i
    else some (noneS s, 0)
theorem half64 {a b : Int} (h0 : 0 ≤ a ∧ a ≤ 4294967296) (h1 : 0 ≤ b ∧ b ≤ 4294967296) : IntKind.u64.wrap ((IntKind.u64.wrap (a + b)).tdiv 2) = (a + b) / 2 := by
  have e1 : (a + b) % 18446744073709551616 = a + b := Int.emod_eq_of_lt (by omega) (by omega)
  rw [u64_w, u64_w, e1, Int.tdiv_eq_ediv_of_nonneg (by omega)]
  exact Int.emod_eq_of_lt (by omega) (by omega)
theorem next64 {a : Int} (h0 : 0 ≤ a ∧ a < 4294967296) : IntKind.u64.wrap (a + 1) = a + 1 := by
  rw [u64_w]
  exact Int.emod_eq_of_lt (by omega) (by omega)
set_option maxHeartbeats 8000000 in
set_option maxRecDepth 100000 in
theorem find_sorted.is (k gs g : Nat) (s : Sr) (A : Option Addr) (c : Nat) (key bs : List Int) (r1 r2 : Int) (w : World) (hs : w.heap[gs]? = some (.cells (s.cells g (.slice A key.length c)) 133 (0, 0))) (ho : s.Ok) (hk : s.ksz ≤ 256) (hm : PM w g bs) (hr : Kd.C (Kd.int .u8) w A key.length key) (hy : Byt key) (h : sortS bs s key k 0 s.count = some (r1, r2)) :
    Calls Try.prog 69 #[.pointer (some ⟨gs, 0, none⟩)] w fun e w' => e = .returned (.tuple #[.int .u32 r1, .int .i64 r2]) ∧ Below w.heap.size w w' := by
  have HS := Aside0.mk hs
  have HM := Aside0.mk hm
  have HB := Aside0.mk (Below.refl w.heap.size w)
  have HO := Aside0.mk ho
  have HK := Aside0.mk hk
  have HR := Aside0.mk hr
  have HY := Aside0.mk hy
  have H := Aside0.mk h
  have c4 : w.cell? ⟨gs, 4, none⟩ = some (.int .u32 s.count) := (blk_cell HS.out 4).trans rfl
  have h64 : IntKind.u64.wrap s.count = s.count := by have := ho.count; rw [u64_w]; omega
  have H64 := Aside0.mk h64
  clear hs hm ho hk hr hy h h64
  go_enter Try.func69, Try.ntmps69
  go_wp2
  repeat (go_quiet (fail); try go_wp2)
  go_loopg [4, 5] k (fun kq v4 v5 w' => ∃ low high : Int, v4 = .int .u64 low ∧ v5 = .int .u64 high ∧ Aside0 (sortS bs s key kq low high = some (r1, r2)) ∧ Aside0 (0 ≤ low ∧ low ≤ 4294967296 ∧ 0 ≤ high ∧ high ≤ 4294967296) ∧ Aside0 (Below w.heap.size w w'))
  case atStart => exact ⟨0, s.count, rfl, by rw [H64.out], H, ⟨by have := HO.out.count; omega⟩, ⟨zb HB⟩⟩
  case round =>
    obtain ⟨low, high, rfl, rfl, HA, HI, HB⟩ := hrel
    cases gk with
    | zero => exact absurd HA.out (by simp [sortS])
    | succ k1 =>
      clear H c4
      replace HS := Aside0.mk (blk_below HS.out HB.out)
      replace HM := Aside0.mk (HM.out.below HB.out)
      replace HR := Aside0.mk (Kd.C_below HR.out HB.out)
      have h := HA.out
      clear HA
      unfold sortS at h
      by_cases hc : low < high
      · rw [if_pos hc] at h
        obtain ⟨i, hi⟩ : ∃ i, (low + high) / 2 = i := ⟨_, rfl⟩
        rw [hi] at h
        have Hi := Aside0.mk hi
        have Hii := Aside0.mk (show 0 ≤ i ∧ i < 4294967296 by have := HI.out; omega)
        obtain ⟨x1, x2, x3, hat⟩ : ∃ x1 x2 x3, atS bs s key ((s.start + (i % 4294967296) * s.size % 4294967296) % 4294967296) = (x1, x2, x3) := ⟨_, _, _, rfl⟩
        dsimp only at h
        rw [hat] at h
        have HT := Aside0.mk hat
        have hs64 : IntKind.u64.wrap ((IntKind.u64.wrap (low + high)).tdiv 2) = i := (half64 ⟨HI.out.1, HI.out.2.1⟩ ⟨HI.out.2.2.1, HI.out.2.2.2⟩).trans hi
        have Hs64 := Aside0.mk hs64
        have hn64 : IntKind.u64.wrap (i + 1) = i + 1 := next64 Hii.out
        have Hn64 := Aside0.mk hn64
        have b0 : decide (low < high) = true := decide_eq_true hc
        have H := Aside0.mk h
        clear hat hi hs64 hn64 h hc
        go_wp2
        rw [Hs64.out]
        go_region_held3 (fun w' => w'.cell? ⟨gs, 2, none⟩ = some (.int .u32 s.start) ∧ w'.cell? ⟨gs, 3, none⟩ = some (.int .u32 s.size)) (first | exact row3 HS1.out | exact row3 (blk_drew HS.out)) ((go_at_call 73; rw [IntKind.wrap_u32, IntKind.wrap_u32, IntKind.wrap_u32]; (with_reducible refine (find_at.to gs g s A c key bs _ x1 x3 x2 _ (blk_drew HS.out) HO.out HK.out (HM.out.below (below_drew1 (Below.refl _ _))) (Kd.C_below HR.out (below_drew1 (Below.refl _ _))) HY.out HT.out).mono ?_); rintro e w1 ⟨rfl, hb⟩; have HS1 : Aside0 (w1.heap[gs]? = some _) := ⟨blk_below (blk_drew HS.out) hb⟩; replace HB := Aside0.mk (below_step (below_drew1 HB.out) hb); clear hb))
        have h := H.out
        clear H b0
        try dsimp only at h
        by_cases d1 : x3 = 0
        · rw [if_neg (by simp [d1])] at h
          subst d1
          by_cases d2 : x1 = 0
          · rw [if_pos d2] at h
            subst d2
            simp only [Option.some.injEq, Prod.mk.injEq] at h
            obtain ⟨rfl, rfl⟩ := h
            go_wp2_with (first | (go_at_call 74; (try rw [IntKind.wrap_u32]); (with_reducible refine (find_told.is gs g s _ (i % 4294967296) _ HS1.out HO.out).mono ?_); rintro e w' ⟨rfl, ⟨nd, rfl⟩⟩))
            go_ret2
            exact ⟨rfl, zb HB⟩
          · rw [if_neg d2] at h
            have d2b : (x1 == 0) = false := beq_eq_false_iff_ne.mpr d2
            by_cases d3 : x1 < 0
            · rw [if_pos d3] at h
              have d3b : decide (x1 < 0) = true := decide_eq_true d3
              have H := Aside0.mk h
              clear h d2 d3
              go_wp2
              go_roundg k1
              case measure => omega
              case rel => exact ⟨i + 1, high, by rw [Hn64.out], rfl, H, ⟨by have := Hii.out; have := HI.out; omega⟩, ⟨zb HB⟩⟩
            · rw [if_neg d3] at h
              have d3b : decide (x1 < 0) = false := decide_eq_false d3
              have H := Aside0.mk h
              clear h d2 d3
              go_wp2
              go_roundg k1
              case measure => omega
              case rel => exact ⟨low, i, rfl, rfl, H, ⟨by have := Hii.out; have := HI.out; omega⟩, ⟨zb HB⟩⟩
        · rw [if_pos d1] at h
          simp only [Option.some.injEq, Prod.mk.injEq] at h
          obtain ⟨rfl, rfl⟩ := h
          have d1b : (x3 != 0) = true := bne_iff_ne.mpr d1
          clear d1
          go_wp2
          go_ret2
          exact ⟨rfl, zb HB⟩
      · rw [if_neg hc] at h
        simp only [Option.some.injEq, Prod.mk.injEq] at h
        obtain ⟨rfl, rfl⟩ := h
        have b0 : decide (low < high) = false := decide_eq_false hc
        clear hc
        go_wp2_with (first | (go_at_call 75; (with_reducible refine (find_none.is gs g s _ _ HS.out HO.out).mono ?_); rintro e w' ⟨rfl, ⟨nd, rfl⟩⟩))
        go_ret2
        exact ⟨rfl, zb HB⟩
end Go.Proofs.Ytmpiifjckhcbmaa.PQ

/- find's ways: along a chain. -/
namespace Go.Proofs.Ytmpiifjckhcbmaa.PQ
open Go.RowKit Go.Proofs.YtmpiifjckhcbmaaW.PrintWords Go.Proofs.YtmpiifjckhcbmaaW.PrintLast Go.Proofs.YtmpiifjckhcbmaaW.PrintMore Go.Proofs.Ytmpiifjckhcbmaa.Z Go.Proofs.Ytmpiifjckhcbmaa.Pure
set_option linter.unusedVariables false
set_option linter.unusedSimpArgs false
/-- along a chain, from the address of link n on -/
def chainS (bs : List Int) (s : Sr) (key : List Int) : Nat → Int → Int → Option (Int × Int)
  | 0, _, _ => none
  | k + 1, a, n =>
    if a = 0 then some (0, 0)
    else if n = 65536 then some (0, 131)
    else
      let r := atS bs s key a
      if r.2.2 ≠ 0 then some (0, r.2.2)
      else if r.1 = 0 then some (a, 0)
      else if (r.2.1 && hasB s.opts 2) = true then some (0, 0)
      else
        let q := rdS bs ((a + s.next) % 4294967296) 4
        if q.2 ≠ 0 then some (0, q.2) else chainS bs s key k q.1 (n + 1)
theorem memory_Read.to (g : Nat) (bs : List Int) (a n q1 q2 : Int) (w : World) (hm : PM w g bs) (h0 : 0 ≤ a ∧ a < 4294967296) (h : rdS bs a n = (q1, q2)) :
    Calls Try.prog 12 #[.pointer (some ⟨g, 0, none⟩), .int .u32 a, .int .i64 n] w fun e w' => e = .returned (.tuple #[.int .u32 q1, .int .i64 q2]) ∧ w' = w.drewN 0 ∨ (e = .returned (.tuple #[.int .u32 q1, .int .i64 q2]) ∧ Drawn0 w w') := by
  have := memory_Read.is g bs a n w hm h0
  rw [h] at this
  exact this.mono fun _ _ h => Or.inr h
theorem memory_Read.be (g : Nat) (bs : List Int) (a n q1 q2 : Int) (w : World) (hm : PM w g bs) (h0 : 0 ≤ a ∧ a < 4294967296) (h : rdS bs a n = (q1, q2)) :
    Calls Try.prog 12 #[.pointer (some ⟨g, 0, none⟩), .int .u32 a, .int .i64 n] w fun e w' => e = .returned (.tuple #[.int .u32 q1, .int .i64 q2]) ∧ Below w.heap.size w w' := by
  have := memory_Read.is g bs a n w hm h0
  rw [h] at this
  exact this.mono fun _ _ h => ⟨h.1, h.2.below⟩
theorem ch2 {w : World} {gs g : Nat} {s : Sr} {v : Value} (h : w.heap[gs]? = some (.cells (s.cells g v) 133 (0, 0))) : w.cell? ⟨gs, 8, none⟩ = some (.pointer (some ⟨g, 0, none⟩)) ∧ w.cell? ⟨gs, 6, none⟩ = some (.int .u32 s.next) := ⟨(blk_cell h 8).trans rfl, (blk_cell h 6).trans rfl⟩
theorem rdS_u32 {bs : List Int} (hb : Byt bs) (a n : Int) : 0 ≤ (rdS bs a n).1 ∧ (rdS bs a n).1 < 4294967296 := by
  unfold rdS
  split
  · rename_i hn
    split
    · have := beN_lt4 hb (i := a.toNat) (n := n.toNat) (by omega)
      exact ⟨by show 0 ≤ ((_ : Nat) : Int); omega, by show ((_ : Nat) : Int) < _; omega⟩
    · exact ⟨by decide, by decide⟩
  · exact ⟨by decide, by decide⟩
end Go.Proofs.Ytmpiifjckhcbmaa.PQ

/- find.Key: what is looked for. -/
namespace Go.Proofs.Ytmpiifjckhcbmaa.PQ
open Go.RowKit Go.Proofs.YtmpiifjckhcbmaaW.PrintWords Go.Proofs.YtmpiifjckhcbmaaW.PrintLast Go.Proofs.YtmpiifjckhcbmaaW.PrintMore Go.Proofs.Ytmpiifjckhcbmaa.Z Go.Proofs.Ytmpiifjckhcbmaa.Pure
set_option linter.unusedVariables false
set_option linter.unusedSimpArgs false
def keyBad (s : Sr) : Bool := decide (s.ksz > 256) || (!hasB s.opts 1 && s.ksz != 1 && s.ksz != 2 && s.ksz != 4)
/-- what is looked for, the error -/
def keyS (bs : List Int) (s : Sr) : List Int × Int :=
  if keyBad s = true then ([], 130) else if hasB s.opts 1 = true then spanS bs s.key s.ksz else (byts s.key.toNat s.ksz.toNat, 0)
abbrev Sr.agg (s : Sr) : Value := .agg #[.int .u32 s.key, .int .u32 s.ksz, .int .u32 s.start, .int .u32 s.size, .int .u32 s.count, .int .u32 s.off, .int .u32 s.next, .int .u32 s.opts]
abbrev Sr.eight (s : Sr) : Array Value := #[.int .u32 s.key, .int .u32 s.ksz, .int .u32 s.start, .int .u32 s.size, .int .u32 s.count, .int .u32 s.off, .int .u32 s.next, .int .u32 s.opts]
theorem ei8 {w : World} {gb : Nat} {s : Sr} (h : w.heap[gb]? = some (.cells s.eight 115 (0, 0))) : w.cell? ⟨gb, 0, none⟩ = some (.int .u32 s.key) ∧ w.cell? ⟨gb, 1, none⟩ = some (.int .u32 s.ksz) ∧ w.cell? ⟨gb, 7, none⟩ = some (.int .u32 s.opts) := ⟨(blk_cell h 0).trans rfl, (blk_cell h 1).trans rfl, (blk_cell h 7).trans rfl⟩
set_option maxHeartbeats 4000000 in
set_option maxRecDepth 100000 in
theorem find_Key.nil (s : Sr) (w : World) (ho : s.Ok) :
    Calls Try.prog 72 #[.pointer none, s.agg] w fun e w' => e = .returned (.tuple #[.slice none 0 0, .int .i64 8]) ∧ Below w.heap.size w w' := by
  have HB := Aside0.mk (Below.refl w.heap.size w)
  have hb := bit_and ho.opts (b := 1) (by omega)
  clear ho
  go_enter Try.func72, Try.ntmps72
  go_wp2_with (first | ((with_reducible refine gate_dst (N := 3) rfl ?_); refine zbox (N := 3) (cs := s.eight) (t := 115) ?_; intro gb hg w2 hbox hb; have BK := Aside0.mk hbox; have GE := zge hg HB; replace HB := zbs HB hb; obtain ⟨z0, z1, z7⟩ := ei8 hbox; clear hb hbox hg))
  go_ret2
  exact ⟨rfl, zb HB⟩
theorem keyBad_ok {s : Sr} (h : keyBad s = false) : s.ksz ≤ 256 ∧ (hasB s.opts 1 = true ∨ (hasB s.opts 1 = false ∧ (s.ksz = 1 ∨ s.ksz = 2 ∨ s.ksz = 4))) := by
  unfold keyBad at h
  simp only [Bool.or_eq_false_iff, decide_eq_false_iff_not] at h
  refine ⟨by omega, ?_⟩
  cases hq : hasB s.opts 1
  · rw [hq] at h
    refine Or.inr ⟨rfl, ?_⟩
    have h2 := h.2
    simp at h2
    omega
  · exact Or.inl rfl
theorem shift_at {n i : Nat} (hn : n ≤ 4) (hi : i < n) : wrap64 (8 * wrap64 (wrap64 (wrap64 (n : Int) - 1) - (i : Int))) = ((8 * (n - 1 - i) : Nat) : Int) := by
  rw [w64 (n := (n : Int)) (by omega) (by omega), w64 (n := (n : Int) - 1) (by omega) (by omega), w64 (n := (n : Int) - 1 - i) (by omega) (by omega), w64 (by omega) (by omega)]
  omega
theorem pow_256 (x k : Nat) : (x : Int) / 2 ^ (8 * k) = ((x / 256 ^ k : Nat) : Int) := by
  have e : (2 : Int) ^ (8 * k) = ((256 ^ k : Nat) : Int) := by
    rw [Int.pow_mul, Int.natCast_pow]; rfl
  rw [e]
  omega
theorem byts_get (n : Nat) : ∀ x i, i < n → (byts x n)[i]? = some ((((x / 256 ^ (n - 1 - i)) % 256 : Nat) : Int)) := by
  induction n with
  | zero => intro x i h; omega
  | succ n ih =>
    intro x i h
    rw [byts]
    by_cases hi : i < n
    · rw [List.getElem?_append_left (by rw [byts_len]; exact hi), ih _ _ hi, Nat.div_div_eq_div_mul]
      have : 256 * 256 ^ (n - 1 - i) = 256 ^ (n + 1 - 1 - i) := by rw [Nat.mul_comm, ← Nat.pow_succ]; congr 1; omega
      rw [this]
    · have : i = n := by omega
      subst this
      rw [List.getElem?_append_right (by rw [byts_len]; exact Nat.le_refl _), byts_len, Nat.sub_self, show i + 1 - 1 - i = 0 by omega, Nat.pow_zero, Nat.div_one]
      rfl
theorem byts_set (x n i : Nat) (h : i < n) : ((byts x n).take i ++ List.replicate (n - i) 0).set i ((((x / 256 ^ (n - 1 - i) : Nat) : Int)) % 256) = (byts x n).take (i + 1) ++ List.replicate (n - (i + 1)) 0 := by
  have hl : ((byts x n).take i).length = i := by rw [List.length_take, byts_len]; omega
  have hg := byts_get n x i h
  have e : (((x / 256 ^ (n - 1 - i) : Nat) : Int)) % 256 = ((((x / 256 ^ (n - 1 - i)) % 256 : Nat) : Int)) := by omega
  rw [List.set_append_right _ _ (by omega), hl, Nat.sub_self, show n - i = (n - (i + 1)) + 1 by omega, List.replicate_succ, List.set_cons_zero, e, List.take_add_one, hg]
  simp
abbrev E8 (x n : Nat) (a b c' d e o : Int) : Array Value := #[.int .u32 x, .int .u32 n, .int .u32 a, .int .u32 b, .int .u32 c', .int .u32 d, .int .u32 e, .int .u32 o]
theorem eo8 {w : World} {gb x n : Nat} {a b c' d e o : Int} (h : w.heap[gb]? = some (.cells (E8 x n a b c' d e o) 115 (0, 0))) : w.cell? ⟨gb, 0, none⟩ = some (.int .u32 x) ∧ w.cell? ⟨gb, 1, none⟩ = some (.int .u32 n) ∧ w.cell? ⟨gb, 7, none⟩ = some (.int .u32 o) := ⟨(blk_cell h 0).trans rfl, (blk_cell h 1).trans rfl, (blk_cell h 7).trans rfl⟩
set_option maxHeartbeats 4000000 in
set_option maxRecDepth 100000 in
theorem find_Key.put (g x n : Nat) (a b c' d e o : Int) (w : World) (hn : n = 1 ∨ n = 2 ∨ n = 4) (hb : (Go.bits .and .u32 o 1 != 0) = false) :
    Calls Try.prog 72 #[.pointer (some ⟨g, 0, none⟩), .agg #[.int .u32 x, .int .u32 n, .int .u32 a, .int .u32 b, .int .u32 c', .int .u32 d, .int .u32 e, .int .u32 o]] w fun e w' => ∃ v : Value, e = .returned (.tuple #[v, .int .i64 0]) ∧ Kd.R (Kd.int .u8) 5 w' w.heap.size (fun _ => True) v (byts x n) ∧ Below w.heap.size w w' := by
  have HB := Aside0.mk (Below.refl w.heap.size w)
  have Hn := Aside0.mk hn
  have hk2 : decide (256 < (n : Int)) = false := decide_eq_false (by omega)
  have hk4 : ((n : Int) != 1) = false ∨ (((n : Int) != 1) = true ∧ ((n : Int) != 2) = false) ∨ (((n : Int) != 1) = true ∧ ((n : Int) != 2) = true ∧ ((n : Int) != 4) = false) := by
    rcases hn with rfl | rfl | rfl <;> decide
  clear hn
  rcases hk4 with hk4 | ⟨hk4, hk5⟩ | ⟨hk4, hk5, hk6⟩
  all_goals
    go_enter Try.func72, Try.ntmps72
    go_wp2_with (first | ((with_reducible refine gate_dst (N := 3) rfl ?_); refine zbox (N := 3) (cs := E8 x n a b c' d e o) (t := 115) ?_; intro gb hg w2 hbox hb; have BK := Aside0.mk hbox; have GE := zge hg HB; replace HB := zbs HB hb; obtain ⟨z0, z1, z7⟩ := eo8 hbox; clear hb hbox hg) | ((with_reducible refine gate_dst (N := 49) rfl ?_); refine mk_cap (w0 := w) 41 5 .u8 1 rfl (N := 49) rfl _ _ rfl .u32 .u32 n n rfl rfl (by omega) (by omega) Try.underlying41 info5 (by have := Hn.out; omega) (by have := Hn.out; omega) HB.out ?_; intro v1 w1 ho hb hq; replace HB := Aside0.mk hb; rw [Int.toNat_natCast] at ho; obtain ⟨gv, c1, he, hge, hlt, _⟩ := Kd.R_form ho (by rw [List.length_replicate]; have := Hn.out; omega); rw [List.length_replicate] at he; subst he; have HV := Aside0.mk ho; have GK := Aside0.mk hge; replace BK := zkb BK hq; have NB : Aside0 (gb ≠ gv) := ⟨ne_of_R ho BK.out (by decide)⟩; clear hb ho hge hlt hq))
    go_loopg [52] (n + 1) (fun kq v52 w' => ∃ i : Nat, v52 = .int .i64 i ∧ Aside0 (i ≤ n ∧ kq = n - i + 1) ∧ Aside0 (Kd.R (Kd.int .u8) 5 w' w.heap.size (fun _ => True) (.slice (some ⟨gv, 0, none⟩) n c1) ((byts x n).take i ++ List.replicate (n - i) 0)) ∧ Aside0 (w'.heap[gb]? = some (.cells (E8 x n a b c' d e o) 115 (0, 0))) ∧ Aside0 (Below w.heap.size w w'))
    case atStart => exact ⟨0, rfl, ⟨by omega, by omega⟩, ⟨HV.out⟩, ⟨BK.out⟩, ⟨zb HB⟩⟩
    case round =>
      clear HV BK z0 z1 z7
      obtain ⟨i, rfl, HI, HV, BK, HB⟩ := hrel
      obtain ⟨z0, z1, z7⟩ := eo8 BK.out
      by_cases c : i < n
      · have hl : ((byts x n).take i ++ List.replicate (n - i) 0).length = n := by
          rw [List.length_append, List.length_take, byts_len, List.length_replicate]; have := HI.out; omega
        have hx := Kd.R_celln 0 HV.out (i : Int) (by omega) (by omega)
        rw [Int.toNat_natCast] at hx
        obtain ⟨hx0, hx1⟩ := hx
        obtain ⟨J, hJ⟩ : ∃ J : Int, wrap64 (8 * wrap64 (wrap64 (wrap64 (n : Int) - 1) - (i : Int))) = J := ⟨_, rfl⟩
        have hJ1 : J = ((8 * (n - 1 - i) : Nat) : Int) := by rw [← hJ]; exact shift_at (by have := Hn.out; omega) c
        obtain ⟨q, hq⟩ : ∃ q : Int, (x : Int) / 2 ^ min J.toNat 32 = q := ⟨_, rfl⟩
        have hq1 : q = ((x / 256 ^ (n - 1 - i) : Nat) : Int) := by
          rw [← hq, hJ1, Int.toNat_natCast, Nat.min_eq_left (by have := Hn.out; omega)]
          exact pow_256 x _
        have hJ0 : 0 ≤ J := by omega
        have hJ2 : J ≤ 32 → (x : Int) / 2 ^ J.toNat = q := fun hh => by rw [← hq, Nat.min_eq_left (by omega)]
        have hset : ((byts x n).take i ++ List.replicate (n - i) 0).set i (q % 256) = (byts x n).take (i + 1) ++ List.replicate (n - (i + 1)) 0 := by rw [hq1]; exact byts_set x n i c
        have HP := Kd.R_putg HV.out (i : Int) (q % 256)
        rw [Int.toNat_natCast, hset] at HP
        have HPP := Aside0.mk HP
        have hci : wrap64 ((i : Int) + 1) = ((i + 1 : Nat) : Int) := by rw [w64 (by have := Hn.out; omega) (by have := Hn.out; omega)]; omega
        have Hci := Aside0.mk hci
        have Hc := Aside0.mk c
        clear hJ1 hq1 hset HP hl hci
        replace hJ0 := eq_true hJ0
        go_wp2_with (first | ((with_reducible refine gate_store (t := 5) (p := 68) rfl ?_); refine store_event (t := 5) (p := 68) (v := ?vo) (w1 := (wr.setCell ⟨gv, i, none⟩ (.int .u8 (q % 256)))) ?hg ?ho ?hn ?hr ?_; (case ho => rfl); (case hg => rfl); (case hn => rfl); (case hr => first | (go_simp; done) | (go_simp; rfl)); intro w14 hw; replace HV := Aside0.mk (show Kd.R (Kd.int .u8) 5 w14 w.heap.size (fun _ => True) _ _ by rw [hw]; exact HPP.out.1); replace HB := Aside0.mk ((by rw [hw]; exact below_set HB.out GK.out : Below w.heap.size w w14)); replace BK : Aside0 (w14.heap[gb]? = some (.cells (E8 x n a b c' d e o) 115 (0, 0))) := ⟨by rw [hw]; exact blk_far BK.out NB.out _⟩; clear hw HPP))
        go_roundg (n - (i + 1) + 1)
        case measure => have := HI.out; have := Hc.out; omega
        case rel => exact ⟨i + 1, by rw [Hci.out], ⟨by have := Hc.out; omega⟩, ⟨HV.out⟩, ⟨BK.out⟩, ⟨HB.out⟩⟩
      · have Hc := Aside0.mk (show i = n by have := HI.out; omega)
        go_wp2
        go_ret2
        refine ⟨_, rfl, ?_, zb HB⟩
        have := HV.out
        rw [Hc.out, Nat.sub_self, List.replicate_zero, List.append_nil, List.take_of_length_le (by rw [byts_len]; exact Nat.le_refl _)] at this
        exact this
set_option maxHeartbeats 4000000 in
set_option maxRecDepth 100000 in
theorem find_Key.is (g : Nat) (s : Sr) (bs : List Int) (w : World) (ho : s.Ok) (hm : PM w g bs) :
    Calls Try.prog 72 #[.pointer (some ⟨g, 0, none⟩), s.agg] w fun e w' => ∃ v : Value, e = .returned (.tuple #[v, .int .i64 (keyS bs s).2]) ∧ Kd.R (Kd.int .u8) 5 w' w.heap.size (fun _ => True) v (keyS bs s).1 ∧ Below w.heap.size w w' := by
  have HB := Aside0.mk (Below.refl w.heap.size w)
  have HO := Aside0.mk ho
  have HM := Aside0.mk hm
  have hb := bit_and ho.opts (b := 1) (by omega)
  clear ho hm
  cases hk : keyBad s
  · obtain ⟨hk0, hk1⟩ := keyBad_ok hk
    have hk2 : decide (256 < s.ksz) = false := decide_eq_false (by omega)
    rcases hk1 with hk1 | ⟨hk1, hk3⟩
    · obtain ⟨L, er, hsp, _⟩ := spanS_er bs s.key s.ksz
      have Hk := Aside0.mk (show keyS bs s = (L, er) from (if_neg (by rw [hk]; decide)).trans ((if_pos hk1).trans hsp))
      have Hsp := Aside0.mk hsp
      have Hk0 := Aside0.mk hk0
      rw [hk1] at hb
      clear hk hk0 hk1 hsp
      go_enter Try.func72, Try.ntmps72
      go_wp2_with (first | ((with_reducible refine gate_dst (N := 3) rfl ?_); refine zbox (N := 3) (cs := s.eight) (t := 115) ?_; intro gb hg w2 hbox hb; have BK := Aside0.mk hbox; have GE := zge hg HB; replace HB := zbs HB hb; obtain ⟨z0, z1, z7⟩ := ei8 hbox; clear hb hbox hg) | (go_at_call 77; (with_reducible refine (find_span.to g bs L s.key s.ksz er _ (HM.out.below HB.out) HO.out.key (by have := Hk0.out; have := HO.out.ksz; omega) Hsp.out).mono ?_); rintro e w1 ⟨A1, c1, rfl, hv, hb⟩; have HV := Aside0.mk (Kd.R_lower hv (below_size HB.out)); replace HB := Aside0.mk (below_step HB.out hb); clear hb hv))
      go_ret2
      rw [Hk.out]
      exact ⟨_, rfl, HV.out, zb HB⟩
    · have Hk := Aside0.mk (show keyS bs s = (byts s.key.toNat s.ksz.toNat, 0) from (if_neg (by rw [hk]; decide)).trans (if_neg (by rw [hk1]; decide)))
      have h2 := find_Key.put g s.key.toNat s.ksz.toNat s.start s.size s.count s.off s.next s.opts w (by omega) (by rw [hb, hk1])
      rw [Int.toNat_of_nonneg HO.out.key.1, Int.toNat_of_nonneg HO.out.ksz.1] at h2
      rw [Hk.out]
      exact h2
  · have Hk := Aside0.mk (show keyS bs s = ([], 130) from if_pos hk)
    unfold keyBad at hk
    have hk1 : decide (s.ksz > 256) = true ∨ (decide (s.ksz > 256) = false ∧ hasB s.opts 1 = false ∧ (s.ksz != 1) = true ∧ (s.ksz != 2) = true ∧ (s.ksz != 4) = true) := by
      cases h1 : decide (s.ksz > 256)
      · rw [h1] at hk
        simp only [Bool.false_or, Bool.and_eq_true, Bool.not_eq_true'] at hk
        exact Or.inr ⟨rfl, hk.1.1.1, hk.1.1.2, hk.1.2, hk.2⟩
      · exact Or.inl rfl
    rcases hk1 with hk1 | ⟨hk1, hk2, hk3, hk4, hk5⟩
    · have hk1 : decide (256 < s.ksz) = true := hk1
      cases hasB s.opts 1
      all_goals
        go_enter Try.func72, Try.ntmps72
        go_wp2_with (first | ((with_reducible refine gate_dst (N := 3) rfl ?_); refine zbox (N := 3) (cs := s.eight) (t := 115) ?_; intro gb hg w2 hbox hb; have BK := Aside0.mk hbox; have GE := zge hg HB; replace HB := zbs HB hb; obtain ⟨z0, z1, z7⟩ := ei8 hbox; clear hb hbox hg))
        go_ret2
        rw [Hk.out]
        exact ⟨_, rfl, Kd.R_nil _ _ _ _ _, zb HB⟩
    · have hk1 : decide (256 < s.ksz) = false := hk1
      rw [hk2] at hb
      clear hk hk2
      go_enter Try.func72, Try.ntmps72
      go_wp2_with (first | ((with_reducible refine gate_dst (N := 3) rfl ?_); refine zbox (N := 3) (cs := s.eight) (t := 115) ?_; intro gb hg w2 hbox hb; have BK := Aside0.mk hbox; have GE := zge hg HB; replace HB := zbs HB hb; obtain ⟨z0, z1, z7⟩ := ei8 hbox; clear hb hbox hg))
      go_ret2
      rw [Hk.out]
      exact ⟨_, rfl, Kd.R_nil _ _ _ _ _, zb HB⟩
end Go.Proofs.Ytmpiifjckhcbmaa.PQ

/- find.by with each of its ways; find.Linear, find.Binary, find.Linked. -/
namespace Go.Proofs.Ytmpiifjckhcbmaa.PQ
open Go.RowKit Go.Proofs.YtmpiifjckhcbmaaW.PrintWords Go.Proofs.YtmpiifjckhcbmaaW.PrintLast Go.Proofs.YtmpiifjckhcbmaaW.PrintMore Go.Proofs.Ytmpiifjckhcbmaa.Z Go.Proofs.Ytmpiifjckhcbmaa.Pure
set_option linter.unusedVariables false
set_option linter.unusedSimpArgs false
theorem all8m {w : World} {gb : Nat} {s : Sr} (h : w.heap[gb]? = some (.cells s.eight 115 (0, 0))) : w.cell? ⟨gb, 0, none⟩ = some (.int .u32 s.key) ∧ w.cell? ⟨gb, 1, none⟩ = some (.int .u32 s.ksz) ∧ w.cell? ⟨gb, 2, none⟩ = some (.int .u32 s.start) ∧ w.cell? ⟨gb, 3, none⟩ = some (.int .u32 s.size) ∧ w.cell? ⟨gb, 4, none⟩ = some (.int .u32 s.count) ∧ w.cell? ⟨gb, 5, none⟩ = some (.int .u32 s.off) ∧ w.cell? ⟨gb, 6, none⟩ = some (.int .u32 s.next) ∧ w.cell? ⟨gb, 7, none⟩ = some (.int .u32 s.opts) :=
  ⟨(blk_cell h 0).trans rfl, (blk_cell h 1).trans rfl, (blk_cell h 2).trans rfl, (blk_cell h 3).trans rfl, (blk_cell h 4).trans rfl, (blk_cell h 5).trans rfl, (blk_cell h 6).trans rfl, (blk_cell h 7).trans rfl⟩
theorem keyS_bytm {bs : List Int} (hb : Byt bs) (s : Sr) : Byt (keyS bs s).1 := by
  unfold keyS
  split
  · intro x hx; cases hx
  · split
    · exact spanS_byt (er := (spanS bs s.key s.ksz).2) hb rfl
    · exact byts_byt _ _
theorem keyS_er (bs : List Int) (s : Sr) : (keyS bs s).2 = 0 ∨ (keyS bs s).2 = 130 ∨ (keyS bs s).2 = 90 := by
  unfold keyS
  split
  · exact Or.inr (Or.inl rfl)
  · split
    · unfold spanS
      split
      · exact Or.inl rfl
      · exact Or.inr (Or.inr rfl)
    · exact Or.inl rfl
theorem keyS_kszm {bs : List Int} {s : Sr} (h : (keyS bs s).2 = 0) : s.ksz ≤ 256 := by
  unfold keyS at h
  split at h
  · cases h
  · rename_i hk
    exact (keyBad_ok (Bool.eq_false_iff.mpr hk)).1
/-- what Binary comes to -/
def BinaryS (bs : List Int) (s : Sr) (k : Nat) : Option (Int × Int) := if (keyS bs s).2 = 0 then sortS bs s (keyS bs s).1 k 0 s.count else some (0, (keyS bs s).2)
set_option maxHeartbeats 1000000 in
theorem cloBinary.is (gs : Nat) (w : World) : Calls Try.prog 68 #[.pointer (some ⟨gs, 0, none⟩)] w fun e w' => e = .returned (.func (.func 69) #[.pointer (some ⟨gs, 0, none⟩)] #[]) ∧ w = w' := by
  have hmf : ∀ (fn : Fn) (first cap : Array Value) (w : World), (Instr.makeFunc fn first cap).run Try.prog w = .ok (.func fn first cap) w := fun _ _ _ _ => rfl
  go_enter Try.func68, Try.ntmps68
  go_wp2
  go_ret
  exact ⟨rfl, rfl⟩
set_option maxHeartbeats 4000000 in
set_option maxRecDepth 100000 in
theorem byBinary.is (k g : Nat) (s : Sr) (bs : List Int) (r1 r2 : Int) (w : World) (ho : s.Ok) (hm : PM w g bs) (h : BinaryS bs s k = some (r1, r2)) :
    Calls Try.prog 67 #[.pointer (some ⟨g, 0, none⟩), s.agg, .func (.func 68) #[] #[]] w fun e w' => e = .returned (.tuple #[.int .u32 r1, .int .i64 r2]) ∧ Below w.heap.size w w' := by
  have HB := Aside0.mk (Below.refl w.heap.size w)
  have HO := Aside0.mk ho
  have HM := Aside0.mk hm
  have hmf : ∀ (fn : Fn) (first cap : Array Value) (w : World), (Instr.makeFunc fn first cap).run Try.prog w = .ok (.func fn first cap) w := fun _ _ _ _ => rfl
  unfold BinaryS at h
  obtain ⟨L, er, hk⟩ : ∃ L er, keyS bs s = (L, er) := ⟨_, _, rfl⟩
  have hby := keyS_bytm hm.byt s
  have hks := keyS_kszm (bs := bs) (s := s)
  rw [hk] at h hby hks
  have HY := Aside0.mk hby
  clear ho hm hby
  by_cases he : er = 0
  · subst he
    rw [if_pos rfl] at h
    have H := Aside0.mk h
    have HK := Aside0.mk (hks rfl)
    have Hk := Aside0.mk hk
    clear h hks hk
    go_enter Try.func67, Try.ntmps67
    go_wp2_with (first | ((with_reducible refine gate_dst (N := 4) rfl ?_); refine zbox (N := 4) (cs := s.eight) (t := 115) ?_; intro gb hg w2 hbox hb; have BK := Aside0.mk hbox; replace HB := zbs HB hb; replace HM := Aside0.mk (HM.out.below hb); obtain ⟨z0, z1, z2, z3, z4, z5, z6, z7⟩ := all8m BK.out; clear hb hbox hg) | (go_at_call 72; (with_reducible refine (find_Key.is g s bs _ HO.out HM.out).mono ?_); rintro e w3 ⟨v3, he_, hv, hb⟩; rw [Hk.out] at he_ hv; subst he_; obtain ⟨A3, c3, rfl⟩ := Kd.R_slice hv; have HV := Aside0.mk (Kd.R_reads' hv).2.2; replace BK := zkb BK hb; replace HB := zbs HB hb; replace HM := Aside0.mk (HM.out.below hb); clear z0 z1 z2 z3 z4 z5 z6 z7 hv hb; obtain ⟨z0, z1, z2, z3, z4, z5, z6, z7⟩ := all8m BK.out; skip) | ((with_reducible refine gate_dst (N := 24) rfl ?_); refine zbox (N := 24) (cs := s.cells g (.slice A3 L.length c3)) (t := 133) ?_; intro gs hg w4 hbox hb; have BS := Aside0.mk hbox; replace HB := zbs HB hb; replace HM := Aside0.mk (HM.out.below hb); replace HV := Aside0.mk (Kd.C_below HV.out hb); clear hb hbox hg z0 z1 z2 z3 z4 z5 z6 z7) | (go_at_call 68; (with_reducible refine (cloBinary.is gs _).mono ?_); rintro e w' ⟨rfl, rfl⟩) | (go_at_call 69; (with_reducible refine (find_sorted.is k gs g s A3 c3 L bs r1 r2 _ BS.out HO.out HK.out HM.out HV.out HY.out H.out).mono ?_); rintro e w5 ⟨rfl, hb⟩; replace HB := zbs HB hb; clear hb))
    go_ret2
    exact ⟨rfl, zb HB⟩
  · rw [if_neg he] at h
    simp only [Option.some.injEq, Prod.mk.injEq] at h
    obtain ⟨rfl, rfl⟩ := h
    have hne : (er != 0) = true := bne_iff_ne.mpr he
    have Hk := Aside0.mk hk
    clear hks hk he
    go_enter Try.func67, Try.ntmps67
    go_wp2_with (first | ((with_reducible refine gate_dst (N := 4) rfl ?_); refine zbox (N := 4) (cs := s.eight) (t := 115) ?_; intro gb hg w2 hbox hb; have BK := Aside0.mk hbox; replace HB := zbs HB hb; replace HM := Aside0.mk (HM.out.below hb); obtain ⟨z0, z1, z2, z3, z4, z5, z6, z7⟩ := all8m BK.out; clear hb hbox hg) | (go_at_call 72; (with_reducible refine (find_Key.is g s bs _ HO.out HM.out).mono ?_); rintro e w3 ⟨v3, he_, hv, hb⟩; rw [Hk.out] at he_ hv; subst he_; replace HB := zbs HB hb; clear hv hb))
    go_ret2
    exact ⟨rfl, zb HB⟩
set_option maxHeartbeats 4000000 in
set_option maxRecDepth 100000 in
theorem find_Binary.is (k g : Nat) (s : Sr) (bs : List Int) (r1 r2 : Int) (w : World) (ho : s.Ok) (hm : PM w g bs) (h : BinaryS bs s k = some (r1, r2)) :
    Calls Try.prog 57 #[.pointer (some ⟨g, 0, none⟩), s.agg] w fun e w' => e = .returned (.tuple #[.int .u32 r1, .int .i64 r2]) ∧ Below w.heap.size w w' := by
  have HB := Aside0.mk (Below.refl w.heap.size w)
  have HO := Aside0.mk ho
  have HM := Aside0.mk hm
  have H := Aside0.mk h
  clear ho hm h
  go_enter Try.func57, Try.ntmps57
  go_wp2_with (first | ((with_reducible refine gate_dst (N := 3) rfl ?_); refine zbox (N := 3) (cs := s.eight) (t := 115) ?_; intro gb hg w2 hbox hb; have BK := Aside0.mk hbox; replace HB := zbs HB hb; replace HM := Aside0.mk (HM.out.below hb); obtain ⟨z0, z1, z2, z3, z4, z5, z6, z7⟩ := all8m BK.out; clear hb hbox hg) | (go_at_call 67; (with_reducible refine (byBinary.is k g s bs r1 r2 _ HO.out HM.out H.out).mono ?_); rintro e w3 ⟨rfl, hb⟩; replace HB := zbs HB hb; clear hb))
  go_ret2
  exact ⟨rfl, zb HB⟩
set_option maxHeartbeats 4000000 in
set_option maxRecDepth 100000 in
theorem find_Binary.nil (s : Sr) (w : World) (ho : s.Ok) :
    Calls Try.prog 57 #[.pointer none, s.agg] w fun e w' => e = .returned (.tuple #[.int .u32 0, .int .i64 8]) ∧ Below w.heap.size w w' := by
  have HO := Aside0.mk ho
  clear ho
  have key : ∀ w : World, Calls Try.prog 67 #[.pointer none, s.agg, .func (.func 68) #[] #[]] w fun e w' => e = .returned (.tuple #[.int .u32 0, .int .i64 8]) ∧ Below w.heap.size w w' := by
    intro w
    have HB := Aside0.mk (Below.refl w.heap.size w)
    go_enter Try.func67, Try.ntmps67
    go_wp2_with (first | ((with_reducible refine gate_dst (N := 4) rfl ?_); refine zbox (N := 4) (cs := s.eight) (t := 115) ?_; intro gb hg w2 hbox hb; have BK := Aside0.mk hbox; replace HB := zbs HB hb; obtain ⟨z0, z1, z2, z3, z4, z5, z6, z7⟩ := all8m BK.out; clear hb hbox hg) | (go_at_call 72; (with_reducible refine (find_Key.nil s _ HO.out).mono ?_); rintro e w3 ⟨rfl, hb⟩; replace HB := zbs HB hb; clear hb))
    go_ret2
    exact ⟨rfl, zb HB⟩
  have KEY := Aside0.mk key
  have HB := Aside0.mk (Below.refl w.heap.size w)
  clear key
  go_enter Try.func57, Try.ntmps57
  go_wp2_with (first | ((with_reducible refine gate_dst (N := 3) rfl ?_); refine zbox (N := 3) (cs := s.eight) (t := 115) ?_; intro gb hg w2 hbox hb; have BK := Aside0.mk hbox; replace HB := zbs HB hb; obtain ⟨z0, z1, z2, z3, z4, z5, z6, z7⟩ := all8m BK.out; clear hb hbox hg) | (go_at_call 67; (with_reducible refine (KEY.out _).mono ?_); rintro e w3 ⟨rfl, hb⟩; replace HB := zbs HB hb; clear hb))
  go_ret2
  exact ⟨rfl, zb HB⟩
end Go.Proofs.Ytmpiifjckhcbmaa.PQ
