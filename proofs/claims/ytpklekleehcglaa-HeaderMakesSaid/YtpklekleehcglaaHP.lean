/- What a game says of itself: the program's Parse and the document's, both as one plain function of the bytes. -/
import Derived.Test.YtpklekleehcglaaPQx4
import Derived.Test.YtpklekleehcglaaPQx9
import Derived.Test.YtpklekleehcglaaHB
namespace Go.Proofs.Ytpklekleehcglaa.Pure
set_option linter.all false
open Go.RowKit Go.Proofs.Ytpklekleehcglaa.PQ Go.Proofs.YtpklekleehcglaaW.PrintWords Go.Proofs.YtpklekleehcglaaW.PrintLast Go.Proofs.YtpklekleehcglaaW.PrintMore
theorem ofNat_inj {a b : Nat} (ha : a < 256) (hb : b < 256) (h : UInt8.ofNat a = UInt8.ofNat b) : a = b := by
  have h2 := congrArg UInt8.toNat h
  rw [UInt8.toNat_ofNat_of_lt' (by show a < 256; exact ha), UInt8.toNat_ofNat_of_lt' (by show b < 256; exact hb)] at h2
  exact h2
theorem u8_eq {a : Int} (h : 0 ≤ a ∧ a < 256) {n : Nat} (hn : n < 256) : UInt8.ofNat a.toNat = UInt8.ofNat n ↔ a = (n : Int) := by
  constructor
  · intro e; have := ofNat_inj (by omega) hn e; omega
  · intro e; rw [e, Int.toNat_natCast]
theorem bytes_inj {a b : List Int} (ha : Byt a) (hb : Byt b) (h : (strOfNums a).toList = (strOfNums b).toList) : a = b := by
  rw [Go.Lib.strOfNums_toList, Go.Lib.strOfNums_toList] at h
  unfold Go.Lib.bytesOf at h
  induction a generalizing b with
  | nil => cases b with
    | nil => rfl
    | cons y t => cases h
  | cons x s ih =>
    cases b with
    | nil => cases h
    | cons y t =>
      rw [List.map_cons, List.map_cons, List.cons.injEq] at h
      have hx := ha x (List.mem_cons_self ..)
      have hy := hb y (List.mem_cons_self ..)
      have e := ofNat_inj (by omega) (by omega) h.1
      rw [ih (fun b hb' => ha b (List.mem_cons_of_mem _ hb')) (fun b hb' => hb b (List.mem_cons_of_mem _ hb')) h.2]
      congr 1
      omega
/-- do the first bytes say Glul, as far as there are any -/
def mg : List Int → Bool
  | a :: b :: c :: d :: _ => (a == 71) && ((b == 108) && ((c == 117) && (d == 108)))
  | [a, b, c] => (a == 71) && ((b == 108) && (c == 117))
  | [a, b] => (a == 71) && (b == 108)
  | [a] => a == 71
  | [] => true
theorem mg_prog {l : List Int} (hb : Byt l) : ((strOfNums (l.take (mn (l.length : Int) 4).toNat)).toList = ((⟨#[71, 108, 117, 108]⟩ : ByteArray).extract 0 (mn (l.length : Int) 4).toNat).toList) ↔ mg l = true := by
  rw [Go.Lib.strOfNums_toList]
  unfold Go.Lib.bytesOf
  have H : ∀ x ∈ l, ∀ n : Nat, n < 256 → (UInt8.ofNat x.toNat = UInt8.ofNat n ↔ x = (n : Int)) := fun x hx n hn => u8_eq (hb x hx) hn
  match l, hb, H with
  | [], _, _ =>
    have e : mn (([] : List Int).length : Int) 4 = 0 := by decide
    rw [e]; decide +kernel
  | [a], hb, H =>
    have e : mn (([a] : List Int).length : Int) 4 = 1 := by unfold mn; simp
    have x : ((⟨#[71, 108, 117, 108]⟩ : ByteArray).extract 0 (1 : Int).toNat).toList = [UInt8.ofNat 71] := by decide +kernel
    have ha := H a (by simp) 71 (by decide)
    rw [e, x]
    show [UInt8.ofNat a.toNat] = _ ↔ _
    rw [List.cons.injEq, ha]
    simp [mg]
  | [a, b], hb, H =>
    have e : mn (([a, b] : List Int).length : Int) 4 = 2 := by unfold mn; simp
    have x : ((⟨#[71, 108, 117, 108]⟩ : ByteArray).extract 0 (2 : Int).toNat).toList = [UInt8.ofNat 71, UInt8.ofNat 108] := by decide +kernel
    have ha := H a (by simp) 71 (by decide)
    have hb' := H b (by simp) 108 (by decide)
    rw [e, x]
    show [UInt8.ofNat a.toNat, UInt8.ofNat b.toNat] = _ ↔ _
    rw [List.cons.injEq, List.cons.injEq, ha, hb']
    simp [mg]
  | [a, b, c], hb, H =>
    have e : mn (([a, b, c] : List Int).length : Int) 4 = 3 := by unfold mn; simp
    have x : ((⟨#[71, 108, 117, 108]⟩ : ByteArray).extract 0 (3 : Int).toNat).toList = [UInt8.ofNat 71, UInt8.ofNat 108, UInt8.ofNat 117] := by decide +kernel
    have ha := H a (by simp) 71 (by decide)
    have hb' := H b (by simp) 108 (by decide)
    have hc := H c (by simp) 117 (by decide)
    rw [e, x]
    show [UInt8.ofNat a.toNat, UInt8.ofNat b.toNat, UInt8.ofNat c.toNat] = _ ↔ _
    rw [List.cons.injEq, List.cons.injEq, List.cons.injEq, ha, hb', hc]
    simp [mg]
  | a :: b :: c :: d :: t, hb, H =>
    have e : mn (((a :: b :: c :: d :: t) : List Int).length : Int) 4 = 4 := by
      unfold mn
      by_cases h : (4 : Int) < (((a :: b :: c :: d :: t) : List Int).length : Int)
      · rw [if_pos h]
      · rw [if_neg h]; simp only [List.length_cons] at h ⊢; omega
    have x : ((⟨#[71, 108, 117, 108]⟩ : ByteArray).extract 0 (4 : Int).toNat).toList = [UInt8.ofNat 71, UInt8.ofNat 108, UInt8.ofNat 117, UInt8.ofNat 108] := by decide +kernel
    have ha := H a (by simp) 71 (by decide)
    have hb' := H b (by simp) 108 (by decide)
    have hc := H c (by simp) 117 (by decide)
    have hd := H d (by simp) 108 (by decide)
    rw [e, x]
    show [UInt8.ofNat a.toNat, UInt8.ofNat b.toNat, UInt8.ofNat c.toNat, UInt8.ofNat d.toNat] = _ ↔ _
    rw [List.cons.injEq, List.cons.injEq, List.cons.injEq, List.cons.injEq, ha, hb', hc, hd]
    simp [mg]
abbrev Told := Int × Int × Int × Int × Int × Int × Int × Int × Int × Int
def bad (e a : Int) : Told := (0, 0, 0, 0, 0, 0, 0, 0, e, a)
/-- the checks of the eight numbers, in their order; n the length, s the sum -/
def chk (n s v0 v1 v2 v3 v4 v5 v6 v7 : Int) : Told :=
  if v0 < 131072 then bad 70 4 else if v0 > 197119 then bad 70 4
  else if v1 < 256 then bad 71 8 else if ¬ (Int.tmod v1 256 = 0) then bad 71 8
  else if v2 < v1 then bad 71 12 else if ¬ (v2 = n) then bad 71 12 else if ¬ (Int.tmod v2 256 = 0) then bad 71 12
  else if v3 < v2 then bad 71 16 else if v3 > 1048576 then bad 71 16 else if ¬ (Int.tmod v3 256 = 0) then bad 71 16
  else if v4 = 0 then bad 72 20 else if v4 > 65536 then bad 72 20 else if ¬ (Int.tmod v4 256 = 0) then bad 72 20
  else if v5 < 36 then bad 71 24 else if v5 ≥ v3 then bad 71 24
  else if v6 ≥ v3 then bad 71 28
  else if v7 = s then (v0, v1, v2, v3, v4, v5, v6, v7, 0, 36) else bad 73 32
def wd (l : List Int) (i : Nat) : Int := (be4 l (4 + 4 * i) : Int)
/-- what any bytes say of themselves -/
def told (l : List Int) : Told :=
  if 1048576 < l.length then bad 3 0 else if mg l = true then (if l.length < 36 then bad 2 (l.length : Int) else chk (l.length : Int) (hsum l : Int) (wd l 0) (wd l 1) (wd l 2) (wd l 3) (wd l 4) (wd l 5) (wd l 6) (wd l 7)) else bad 63 0
theorem some_ite {α : Type} {c : Prop} [Decidable c] {a b : α} {x y : Option α} (ha : x = some a) (hb : y = some b) : (if c then x else y) = some (if c then a else b) := by
  by_cases h : c
  · rw [if_pos h, if_pos h, ha]
  · rw [if_neg h, if_neg h, hb]
theorem tail_prog {l : List Int} (hb : Byt l) (hl : l.length ≤ 1048576) {k : Nat} (hk : 262200 < k) (v0 v1 v2 v3 v4 v5 v6 v7 : Int) : header_Parse.tail k l v0 v1 v2 v3 v4 v5 v6 v7 = some (chk (l.length : Int) (hsum l : Int) v0 v1 v2 v3 v4 v5 v6 v7) := by
  unfold header_Parse.tail chk
  have e : (l.length : Int) % 4294967296 = (l.length : Int) := by omega
  rw [sum_eq hb (by omega) (by omega), e]
  repeat' (first | rfl | refine some_ite ?_ ?_)
theorem tail_ref {l : List Int} {k : Nat} {s : Nat} (hs : grottoref07_Sum.f k l = some (s : Int)) (h2 : s < 4294967296) {v0 v1 v2 v3 v4 v5 v6 v7 : Int}
    (h0 : 0 ≤ v0 ∧ v0 < 4294967296) (h1 : 0 ≤ v1 ∧ v1 < 4294967296) (h2' : 0 ≤ v2 ∧ v2 < 4294967296) (h3 : 0 ≤ v3 ∧ v3 < 4294967296) (h4 : 0 ≤ v4 ∧ v4 < 4294967296) (h5 : 0 ≤ v5 ∧ v5 < 4294967296) (h6 : 0 ≤ v6 ∧ v6 < 4294967296) (h7 : 0 ≤ v7 ∧ v7 < 4294967296) :
    grottoref07_Parse.tail k l v0 v1 v2 v3 v4 v5 v6 v7 = some (chk (l.length : Int) (s : Int) v0 v1 v2 v3 v4 v5 v6 v7) := by
  have w : wrap64 (s : Int) = (s : Int) := w64 (by omega) (by omega)
  unfold grottoref07_Parse.tail chk
  rw [hs, Option.bind_some, w, Int.emod_eq_of_lt h0.1 h0.2, Int.emod_eq_of_lt h1.1 h1.2, Int.emod_eq_of_lt h2'.1 h2'.2, Int.emod_eq_of_lt h3.1 h3.2, Int.emod_eq_of_lt h4.1 h4.2, Int.emod_eq_of_lt h5.1 h5.2, Int.emod_eq_of_lt h6.1 h6.2, Int.emod_eq_of_lt h7.1 h7.2]
  repeat' (first | rfl | refine some_ite ?_ ?_)
theorem read_eq {l : List Int} (hb : Byt l) (h36 : 36 ≤ l.length) (hl : l.length ≤ 1048576) {k : Nat} (hk : 30 < k) : header_read.f k l = some (wd l 0, wd l 1, wd l 2, wd l 3, wd l 4, wd l 5, wd l 6, wd l 7) := by
  obtain ⟨k, rfl⟩ : ∃ j, k = j + 9 := ⟨k - 9, by omega⟩
  have step : ∀ (i j : Nat) (x : List Int), i < 8 → 10 < j → header_read.l0 (j + 1) l x (i : Int) = header_read.l0 j l (x.set i (wd l i)) ((i + 1 : Nat) : Int) := by
    intro i j x hi hj
    have e1 : wrap64 (4 + wrap64 (4 * (i : Int))) = ((4 + 4 * i : Nat) : Int) := by rw [w64 (n := 4 * (i : Int)) (by omega) (by omega), w64 (by omega) (by omega)]; omega
    have e2 : wrap64 ((i : Int) + 1) = ((i + 1 : Nat) : Int) := by rw [w64 (by omega) (by omega)]; omega
    rw [header_read.l0.eq_2, if_pos (by omega), e1, be_eq (by omega) hb (by omega) (by omega), Option.bind_some, e2, Int.toNat_natCast]
    rfl
  unfold header_read.f
  refine (step 0 (k + 8) _ (by omega) (by omega)).trans ?_
  refine (step 1 (k + 7) _ (by omega) (by omega)).trans ?_
  refine (step 2 (k + 6) _ (by omega) (by omega)).trans ?_
  refine (step 3 (k + 5) _ (by omega) (by omega)).trans ?_
  refine (step 4 (k + 4) _ (by omega) (by omega)).trans ?_
  refine (step 5 (k + 3) _ (by omega) (by omega)).trans ?_
  refine (step 6 (k + 2) _ (by omega) (by omega)).trans ?_
  refine (step 7 (k + 1) _ (by omega) (by omega)).trans ?_
  rw [header_read.l0.eq_2, if_neg (by omega)]
  rfl
theorem parse_eq {l : List Int} (hb : Byt l) (hl : l.length ≤ 1000000000) {k : Nat} (hk : 262200 < k) : header_Parse.f k l = some (told l) := by
  unfold header_Parse.f told
  by_cases c : 1048576 < l.length
  · rw [if_pos (by omega), if_pos c]; rfl
  · have m0 : 0 ≤ mn (l.length : Int) 4 ∧ mn (l.length : Int) 4 ≤ (l.length : Int) ∧ mn (l.length : Int) 4 ≤ 4 := by
      unfold mn
      by_cases h : (4 : Int) < (l.length : Int)
      · rw [if_pos h]; omega
      · rw [if_neg h]; omega
    rw [if_neg (by omega), if_neg c, if_pos m0.1, if_pos m0.2.1, if_pos m0.2.2]
    by_cases g : mg l = true
    · rw [if_pos ((mg_prog hb).2 g), if_pos g]
      by_cases s : l.length < 36
      · rw [if_pos (by omega), if_pos s]; rfl
      · rw [if_neg (by omega), if_neg s, read_eq hb (by omega) (by omega) (by omega), Option.bind_some]
        exact tail_prog hb (by omega) hk _ _ _ _ _ _ _ _
    · rw [if_neg (fun h => g ((mg_prog hb).1 h)), if_neg g]; rfl
/-- the document's sum, byte by byte -/
theorem rsum_l0 (l : List Int) (hb : Byt l) (hl : l.length ≤ 1000000000) : ∀ (n p k s : Nat), p + 4 * n ≤ l.length → l.length < p + 4 * n + 4 → p % 4 = 0 → 4 * n + 1 < k → s < 4294967296 → grottoref07_Sum.l0 k l (s : Int) (p : Int) = some (((s + ws l n p) % 4294967296 : Nat) : Int) := by
  have lim : wrap64 ((l.length : Int) - ((l.length : Int) % 4)) = (l.length : Int) - ((l.length : Int) % 4) := w64 (by omega) (by omega)
  have byte : ∀ (p j k s : Nat), p % 4 = 0 → j < 4 → p + j < l.length - l.length % 4 → s < 4294967296 → grottoref07_Sum.l0 (k + 1) l (s : Int) ((p + j : Nat) : Int) = grottoref07_Sum.l0 k l (((s + (if p = 32 then 0 else bn l (p + j) * (if j = 0 then 16777216 else if j = 1 then 65536 else if j = 2 then 256 else 1))) % 4294967296 : Nat) : Int) ((p + j + 1 : Nat) : Int) := by
    intro p j k s hp hj hpl hs
    have e1 : wrap64 (((p + j : Nat) : Int) + 1) = ((p + j + 1 : Nat) : Int) := by rw [w64 (by omega) (by omega)]; omega
    have tm : Int.tmod ((p + j : Nat) : Int) 4 = (j : Int) := by rw [Int.tmod_eq_emod_of_nonneg (by omega)]; omega
    have e3 : wrap64 (3 - (j : Int)) = 3 - (j : Int) := w64 (by omega) (by omega)
    have e4 : wrap64 (8 * (3 - (j : Int))) = 8 * (3 - (j : Int)) := w64 (by omega) (by omega)
    have rb := rd_bn hb (p + j)
    have bl := bn_lt hb (p + j)
    obtain ⟨s3, s2, s1, s0⟩ := shl_w bl
    have add : p ≠ 32 → ((s : Int) + shl .u32 ((bn l (p + j) : Int) % 4294967296) (8 * (3 - (j : Int)))) % 4294967296 = (((s + (if p = 32 then 0 else bn l (p + j) * (if j = 0 then 16777216 else if j = 1 then 65536 else if j = 2 then 256 else 1))) % 4294967296 : Nat) : Int) := by
      intro hp2
      rw [if_neg hp2]
      have : j = 0 ∨ j = 1 ∨ j = 2 ∨ j = 3 := by omega
      rcases this with h | h | h | h <;> subst h
      · rw [show 8 * (3 - ((0 : Nat) : Int)) = 24 by omega, s3, if_pos rfl]; omega
      · rw [show 8 * (3 - ((1 : Nat) : Int)) = 16 by omega, s2, if_neg (by decide), if_pos rfl]; omega
      · rw [show 8 * (3 - ((2 : Nat) : Int)) = 8 by omega, s1, if_neg (by decide), if_neg (by decide), if_pos rfl]; omega
      · rw [show 8 * (3 - ((3 : Nat) : Int)) = 0 by omega, s0, if_neg (by decide), if_neg (by decide), if_neg (by decide)]; omega
    rw [grottoref07_Sum.l0.eq_2, lim, if_pos (by omega), e1, tm, e3, e4, rb]
    by_cases h1 : p + j < 32
    · rw [if_pos (by omega), if_pos (by omega), if_pos (by omega), if_pos (by omega), add (by omega)]
    · rw [if_neg (by omega)]
      by_cases h2 : 36 ≤ p + j
      · rw [if_pos (by omega), if_pos (by omega), if_pos (by omega), if_pos (by omega), add (by omega)]
      · have p32 : p = 32 := by omega
        rw [if_neg (by omega), if_pos p32, Nat.add_zero s, Nat.mod_eq_of_lt hs]
  intro n
  induction n with
  | zero =>
    intro p k s h1 h2 h3 hk hs
    obtain ⟨k, rfl⟩ : ∃ j, k = j + 1 := ⟨k - 1, by omega⟩
    rw [grottoref07_Sum.l0.eq_2, lim, if_neg (by omega), ws, Nat.add_zero, Nat.mod_eq_of_lt hs]
  | succ n ih =>
    intro p k s h1 h2 h3 hk hs
    obtain ⟨k, rfl⟩ : ∃ j, k = j + 4 := ⟨k - 4, by omega⟩
    have M : ∀ x : Nat, x % 4294967296 < 4294967296 := fun x => Nat.mod_lt _ (by decide)
    refine (byte p 0 (k + 3) s h3 (by omega) (by omega) hs).trans ?_
    refine (byte p 1 (k + 2) _ h3 (by omega) (by omega) (M _)).trans ?_
    refine (byte p 2 (k + 1) _ h3 (by omega) (by omega) (M _)).trans ?_
    refine (byte p 3 k _ h3 (by omega) (by omega) (M _)).trans ?_
    refine (ih (p + 4) k _ (by omega) (by omega) (by omega) (by omega) (M _)).trans ?_
    rw [ws]
    by_cases c : p = 32
    · rw [if_pos c, if_pos c, if_pos c, if_pos c, if_pos c]
      congr 2
      omega
    · rw [if_neg c, if_neg c, if_neg c, if_neg c, if_neg c, be4_eq (by omega), Nat.add_zero, if_pos rfl, if_neg (by decide), if_pos rfl, if_neg (by decide), if_neg (by decide), if_pos rfl, if_neg (by decide), if_neg (by decide), if_neg (by decide)]
      generalize bn l p = b0
      generalize bn l (p + 1) = b1
      generalize bn l (p + 2) = b2
      generalize bn l (p + 3) = b3
      generalize ws l n (p + 4) = t
      congr 2
      omega
theorem rsum_eq {l : List Int} (hb : Byt l) (hl : l.length ≤ 1000000000) {k : Nat} (hk : l.length + 12 < k) : grottoref07_Sum.f k l = some (hsum l : Int) := by
  have h := rsum_l0 l hb hl (l.length / 4) 0 k 0 (by omega) (by omega) rfl (by omega) (by decide)
  rw [Nat.zero_add] at h
  exact h
theorem hsum_lt (l : List Int) : hsum l < 4294967296 := Nat.mod_lt _ (by decide)
theorem rat_eq {k at_ : Nat} {l : List Int} (hk : 10 < k) (hb : Byt l) (hat : at_ + 4 ≤ l.length) (hl : l.length ≤ 1000000000) : grottoref07_at.f k l (at_ : Int) = some (be4 l at_ : Int) := by
  have h := be4_lt hb hat
  unfold grottoref07_at.f
  rw [rbe_eq hk hb hat hl, Option.bind_some, w64 (by omega) (by omega)]
theorem wd_range {l : List Int} (hb : Byt l) (h36 : 36 ≤ l.length) {i : Nat} (hi : i < 8) : 0 ≤ wd l i ∧ wd l i < 4294967296 := by
  have := be4_lt hb (i := 4 + 4 * i) (by omega)
  unfold wd
  omega
theorem rest_eq {l : List Int} (hb : Byt l) (hl : l.length ≤ 1048576) {k : Nat} (hk : 1048600 < k) : grottoref07_Parse.rest k l = some (if l.length < 36 then bad 2 (l.length : Int) else chk (l.length : Int) (hsum l : Int) (wd l 0) (wd l 1) (wd l 2) (wd l 3) (wd l 4) (wd l 5) (wd l 6) (wd l 7)) := by
  unfold grottoref07_Parse.rest
  by_cases s : l.length < 36
  · rw [if_pos (by omega), if_pos s]; rfl
  · rw [if_neg (by omega), if_neg s]
    have a := fun (i : Nat) (hi : i < 8) => rat_eq (k := k) (at_ := 4 + 4 * i) (by omega) hb (by omega) (by omega)
    have a0 : grottoref07_at.f k l 4 = some (wd l 0) := a 0 (by decide)
    have a1 : grottoref07_at.f k l 8 = some (wd l 1) := a 1 (by decide)
    have a2 : grottoref07_at.f k l 12 = some (wd l 2) := a 2 (by decide)
    have a3 : grottoref07_at.f k l 16 = some (wd l 3) := a 3 (by decide)
    have a4 : grottoref07_at.f k l 20 = some (wd l 4) := a 4 (by decide)
    have a5 : grottoref07_at.f k l 24 = some (wd l 5) := a 5 (by decide)
    have a6 : grottoref07_at.f k l 28 = some (wd l 6) := a 6 (by decide)
    have a7 : grottoref07_at.f k l 32 = some (wd l 7) := a 7 (by decide)
    rw [a0, Option.bind_some, a1, Option.bind_some, a2, Option.bind_some, a3, Option.bind_some, a4, Option.bind_some, a5, Option.bind_some, a6, Option.bind_some, a7, Option.bind_some]
    have r := fun (i : Nat) (hi : i < 8) => wd_range hb (by omega) hi
    exact tail_ref (rsum_eq hb (by omega) (by omega)) (hsum_lt l) (r 0 (by decide)) (r 1 (by decide)) (r 2 (by decide)) (r 3 (by decide)) (r 4 (by decide)) (r 5 (by decide)) (r 6 (by decide)) (r 7 (by decide))
theorem ref_loop (l : List Int) (k : Nat) (hk : 10 < k) (R : Told) (hR : ∀ k', k ≤ k' + 5 → grottoref07_Parse.rest k' l = some R) (h36 : l.length < 36 → R = bad 2 (l.length : Int)) :
    grottoref07_Parse.l0 k l 0 = some (if mg l = true then R else bad 63 0) := by
  obtain ⟨k, rfl⟩ : ∃ j, k = j + 5 := ⟨k - 5, by omega⟩
  have w1 : wrap64 (0 + 1) = 1 := by decide +kernel
  have w2 : wrap64 (1 + 1) = 2 := by decide +kernel
  have w3 : wrap64 (2 + 1) = 3 := by decide +kernel
  have w4 : wrap64 (3 + 1) = 4 := by decide +kernel
  have b0 : bt (⟨#[71, 108, 117, 108]⟩ : ByteArray) 0 = 71 := by decide +kernel
  have b1 : bt (⟨#[71, 108, 117, 108]⟩ : ByteArray) 1 = 108 := by decide +kernel
  have b2 : bt (⟨#[71, 108, 117, 108]⟩ : ByteArray) 2 = 117 := by decide +kernel
  have b3 : bt (⟨#[71, 108, 117, 108]⟩ : ByteArray) 3 = 108 := by decide +kernel
  have stop : ∀ (k i : Nat), i < 4 → l.length = i → grottoref07_Parse.l0 (k + 1) l (i : Int) = some R := by
    intro k i hi hl
    rw [grottoref07_Parse.l0.eq_2, if_pos (by omega), if_neg (by omega), h36 (by omega)]; rfl
  have go : ∀ (k i : Nat), i < 4 → i < l.length → grottoref07_Parse.l0 (k + 1) l (i : Int) = if rd l (i : Int) = bt (⟨#[71, 108, 117, 108]⟩ : ByteArray) (i : Int) then grottoref07_Parse.l0 k l (wrap64 ((i : Int) + 1)) else some (bad 63 0) := by
    intro k i hi hl
    rw [grottoref07_Parse.l0.eq_2, if_pos (by omega), if_pos (by omega), if_pos (by omega)]; rfl
  have g0 := fun h => go (k + 4) 0 (by decide) h
  have g1 := fun h => go (k + 3) 1 (by decide) h
  have g2 := fun h => go (k + 2) 2 (by decide) h
  have g3 := fun h => go (k + 1) 3 (by decide) h
  have s0 := fun h => stop (k + 4) 0 (by decide) h
  have s1 := fun h => stop (k + 3) 1 (by decide) h
  have s2 := fun h => stop (k + 2) 2 (by decide) h
  have s3 := fun h => stop (k + 1) 3 (by decide) h
  have fin : grottoref07_Parse.l0 (k + 1) l 4 = some R := by
    rw [grottoref07_Parse.l0.eq_2, if_neg (by omega), hR k (by omega)]
  have z0 : ((0 : Nat) : Int) = 0 := rfl
  have z1 : ((1 : Nat) : Int) = 1 := rfl
  have z2 : ((2 : Nat) : Int) = 2 := rfl
  have z3 : ((3 : Nat) : Int) = 3 := rfl
  rw [z0] at g0 s0
  rw [z1] at g1 s1
  rw [z2] at g2 s2
  rw [z3] at g3 s3
  rw [w1, b0] at g0
  rw [w2, b1] at g1
  rw [w3, b2] at g2
  rw [w4, b3] at g3
  match l, g0, g1, g2, g3, s0, s1, s2, s3, fin with
  | [], _, _, _, _, s0, _, _, _, _ => rw [s0 rfl]; rfl
  | [a], g0, _, _, _, _, s1, _, _, _ =>
    rw [g0 (by simp), s1 rfl]
    show (if a = 71 then _ else _) = _
    by_cases h : a = 71 <;> simp [mg, h]
  | [a, b], g0, g1, _, _, _, _, s2, _, _ =>
    rw [g0 (by simp), g1 (by simp), s2 rfl]
    show (if a = 71 then (if b = 108 then _ else _) else _) = _
    by_cases h : a = 71 <;> by_cases h' : b = 108 <;> simp [mg, h, h']
  | [a, b, c], g0, g1, g2, _, _, _, _, s3, _ =>
    rw [g0 (by simp), g1 (by simp), g2 (by simp), s3 rfl]
    show (if a = 71 then (if b = 108 then (if c = 117 then _ else _) else _) else _) = _
    by_cases h : a = 71 <;> by_cases h' : b = 108 <;> by_cases h2 : c = 117 <;> simp [mg, h, h', h2]
  | a :: b :: c :: d :: t, g0, g1, g2, g3, _, _, _, _, fin =>
    rw [g0 (by simp), g1 (by simp), g2 (by simp), g3 (by simp), fin]
    show (if a = 71 then (if b = 108 then (if c = 117 then (if d = 108 then _ else _) else _) else _) else _) = _
    by_cases h : a = 71 <;> by_cases h' : b = 108 <;> by_cases h2 : c = 117 <;> by_cases h3 : d = 108 <;> simp [mg, h, h', h2, h3]
theorem rparse_eq {l : List Int} (hb : Byt l) (hl : l.length ≤ 1000000000) {k : Nat} (hk : 1048700 < k) : grottoref07_Parse.f k l = some (told l) := by
  unfold grottoref07_Parse.f told
  by_cases c : 1048576 < l.length
  · rw [if_pos (by omega), if_pos c]; rfl
  · rw [if_neg (by omega), if_neg c]
    exact ref_loop l k (by omega) _ (fun k' hk' => rest_eq hb (by omega) (by omega)) (fun h => by rw [if_pos h])
/-- a told header: refused with nothing but a fault, or within the rules -/
theorem chk_cases (n s v0 v1 v2 v3 v4 v5 v6 v7 : Int) : (∃ e a, chk n s v0 v1 v2 v3 v4 v5 v6 v7 = bad e a ∧ e ≠ 0 ∧ 0 ≤ a ∧ a ≤ 32) ∨
    (chk n s v0 v1 v2 v3 v4 v5 v6 v7 = (v0, v1, v2, v3, v4, v5, v6, v7, 0, 36) ∧ 131072 ≤ v0 ∧ v0 ≤ 197119 ∧ 256 ≤ v1 ∧ Int.tmod v1 256 = 0 ∧ v1 ≤ v2 ∧ v2 = n ∧ Int.tmod v2 256 = 0 ∧ v2 ≤ v3 ∧ v3 ≤ 1048576 ∧ Int.tmod v3 256 = 0 ∧ v4 ≠ 0 ∧ v4 ≤ 65536 ∧ Int.tmod v4 256 = 0 ∧ 36 ≤ v5 ∧ v5 < v3 ∧ v6 < v3 ∧ v7 = s) := by
  unfold chk
  by_cases c0 : v0 < 131072
  · exact Or.inl ⟨70, 4, if_pos c0, by decide, by decide, by decide⟩
  rw [if_neg c0]
  by_cases c1 : v0 > 197119
  · exact Or.inl ⟨70, 4, if_pos c1, by decide, by decide, by decide⟩
  rw [if_neg c1]
  by_cases c2 : v1 < 256
  · exact Or.inl ⟨71, 8, if_pos c2, by decide, by decide, by decide⟩
  rw [if_neg c2]
  by_cases c3 : ¬ (Int.tmod v1 256 = 0)
  · exact Or.inl ⟨71, 8, if_pos c3, by decide, by decide, by decide⟩
  rw [if_neg c3]
  by_cases c4 : v2 < v1
  · exact Or.inl ⟨71, 12, if_pos c4, by decide, by decide, by decide⟩
  rw [if_neg c4]
  by_cases c5 : ¬ (v2 = n)
  · exact Or.inl ⟨71, 12, if_pos c5, by decide, by decide, by decide⟩
  rw [if_neg c5]
  by_cases c6 : ¬ (Int.tmod v2 256 = 0)
  · exact Or.inl ⟨71, 12, if_pos c6, by decide, by decide, by decide⟩
  rw [if_neg c6]
  by_cases c7 : v3 < v2
  · exact Or.inl ⟨71, 16, if_pos c7, by decide, by decide, by decide⟩
  rw [if_neg c7]
  by_cases c8 : v3 > 1048576
  · exact Or.inl ⟨71, 16, if_pos c8, by decide, by decide, by decide⟩
  rw [if_neg c8]
  by_cases c9 : ¬ (Int.tmod v3 256 = 0)
  · exact Or.inl ⟨71, 16, if_pos c9, by decide, by decide, by decide⟩
  rw [if_neg c9]
  by_cases c10 : v4 = 0
  · exact Or.inl ⟨72, 20, if_pos c10, by decide, by decide, by decide⟩
  rw [if_neg c10]
  by_cases c11 : v4 > 65536
  · exact Or.inl ⟨72, 20, if_pos c11, by decide, by decide, by decide⟩
  rw [if_neg c11]
  by_cases c12 : ¬ (Int.tmod v4 256 = 0)
  · exact Or.inl ⟨72, 20, if_pos c12, by decide, by decide, by decide⟩
  rw [if_neg c12]
  by_cases c13 : v5 < 36
  · exact Or.inl ⟨71, 24, if_pos c13, by decide, by decide, by decide⟩
  rw [if_neg c13]
  by_cases c14 : v5 ≥ v3
  · exact Or.inl ⟨71, 24, if_pos c14, by decide, by decide, by decide⟩
  rw [if_neg c14]
  by_cases c15 : v6 ≥ v3
  · exact Or.inl ⟨71, 28, if_pos c15, by decide, by decide, by decide⟩
  rw [if_neg c15]
  by_cases c16 : v7 = s
  · rw [if_pos c16]
    refine Or.inr ⟨rfl, by omega, by omega, by omega, Classical.not_not.mp c3, by omega, Classical.not_not.mp c5, Classical.not_not.mp c6, by omega, by omega, Classical.not_not.mp c9, c10, by omega, Classical.not_not.mp c12, by omega, by omega, by omega, c16⟩
  · exact Or.inl ⟨73, 32, if_neg c16, by decide, by decide, by decide⟩
end Go.Proofs.Ytpklekleehcglaa.Pure
