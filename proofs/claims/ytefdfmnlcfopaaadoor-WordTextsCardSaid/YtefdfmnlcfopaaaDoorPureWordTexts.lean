/- Each word's digits, and any text as a word, as the reference says: for every word and every text. -/
import Derived.Test.YtefdfmnlcfopaaaDoorPQx19
import Derived.Test.YtefdfmnlcfopaaaDoorTx
namespace Go.Proofs.YtefdfmnlcfopaaaDoor.Pure
set_option linter.all false
open Go.RowKit Go.Proofs.YtefdfmnlcfopaaaDoor.PQ Go.Proofs.YtefdfmnlcfopaaaDoorW.PrintWords Go.Proofs.YtefdfmnlcfopaaaDoorW.PrintLast Go.Proofs.YtefdfmnlcfopaaaDoorW.PrintMore
open Go.Lib (decDigits itoa parseUintM parseUintB parseIntB NumEnd)
theorem rsz (s : ByteArray) : s.size = s.data.toList.length := by rw [Array.length_toList]; rfl
theorem bt_of {s : ByteArray} {i : Nat} {c : UInt8} {r : List UInt8} (h : s.data.toList.drop i = c :: r) : bt s i = c.toNat ∧ i < s.size := by
  have hi : i < s.data.toList.length := by
    rcases Nat.lt_or_ge i s.data.toList.length with h' | h'
    · exact h'
    · rw [List.drop_of_length_le h'] at h; cases h
  have hs : i < s.size := by rw [rsz]; exact hi
  refine ⟨?_, hs⟩
  unfold bt
  have hg : s.data.toList[i]? = some c := by
    have := List.getElem?_drop (xs := s.data.toList) (i := i) (j := 0)
    rw [h] at this
    simpa using this.symm
  have ht : ((i : Int)).toNat = i := by omega
  rw [dif_pos (by rw [ht]; exact hs)]
  have e : s[((i : Int)).toNat]'(by rw [ht]; exact hs) = s[i]'hs := by congr 1
  rw [e]
  have : s[i]'hs = c := by
    have h2 : s.data.toList[i]'hi = c := by
      have := List.getElem?_eq_getElem hi
      rw [hg] at this
      exact (Option.some.inj this).symm
    rw [← h2]
    rfl
  rw [this]
theorem cat_data (a b : List UInt8) : (⟨a.toArray⟩ : ByteArray) ++ ⟨b.toArray⟩ = ⟨(a ++ b).toArray⟩ := by
  apply ByteArray.ext
  simp [ByteArray.data_append]
theorem sz_data (a : List UInt8) : (⟨a.toArray⟩ : ByteArray).size = a.length := by simp [ByteArray.size]
theorem dl_step {x3 : Int} {u : Nat} {acc : List UInt8} (k : Nat) (h0 : 0 < u) (h1 : u < 4294967296) (hl : acc.length ≤ 50) :
    grottoref01_Decimal.l0 (k + 1) x3 u ⟨acc.toArray⟩ = grottoref01_Decimal.l0 k x3 ((u / 10 : Nat) : Int) ⟨(UInt8.ofNat (48 + u % 10) :: acc).toArray⟩ := by
  rw [grottoref01_Decimal.l0, if_pos (by omega)]
  have e1 : (wrap64 (48 + Int.tmod (u : Int) 10)) % 256 = ((48 + u % 10 : Nat) : Int) := by
    rw [Int.tmod_eq_emod_of_nonneg (by omega), w64 (by omega) (by omega)]; omega
  have e2 : wrap64 (Int.tdiv (u : Int) 10) = ((u / 10 : Nat) : Int) := by
    rw [Int.tdiv_eq_ediv_of_nonneg (by omega), w64 (by omega) (by omega)]; omega
  rw [e1, e2, Option.bind_some]
  have e3 : strOfNums [((48 + u % 10 : Nat) : Int)] = ⟨[UInt8.ofNat (48 + u % 10)].toArray⟩ := by
    unfold strOfNums; rfl
  rw [e3, cat_data, sz_data, sz_data, if_pos (by simp only [List.length_singleton]; omega), List.singleton_append]
theorem dl (x3 : Int) (u : Nat) : ∀ (k : Nat) (acc : List UInt8), 0 < u → u < 4294967296 → acc.length + (decDigits u).length ≤ 50 →
    grottoref01_Decimal.l0 (k + (decDigits u).length) x3 u ⟨acc.toArray⟩ = grottoref01_Decimal.l0 k x3 0 ⟨(decDigits u ++ acc).toArray⟩ := by
  induction u using Nat.strongRecOn with
  | _ u ih =>
    intro k acc h0 h1 hl
    by_cases h : u < 10
    · have e : decDigits u = [UInt8.ofNat (48 + u)] := by rw [decDigits, dif_pos h]
      rw [e, List.length_singleton, dl_step k h0 h1 (by omega), List.singleton_append]
      have e1 : u / 10 = 0 := by omega
      have e2 : u % 10 = u := by omega
      rw [e1, e2]; rfl
    · have e : decDigits u = decDigits (u / 10) ++ [UInt8.ofNat (48 + u % 10)] := by rw [decDigits, dif_neg h]
      rw [e, List.length_append, List.length_singleton] at hl ⊢
      rw [← Nat.add_assoc, dl_step _ h0 h1 (by omega), ih (u / 10) (by omega) k _ (by omega) (by omega) (by rw [List.length_cons]; omega), List.append_assoc, List.singleton_append]
/-- the reference's digits -/
theorem rdec {k : Nat} (hk : 20 ≤ k) {a : Int} (h : 0 ≤ a) (h' : a < 4294967296) : grottoref01_Decimal.f k a = some ⟨(itoa (wrap32 a)).toArray⟩ := by
  have hi := i32_cases h h'
  unfold grottoref01_Decimal.f
  rw [int_eq h h', Option.bind_some]
  generalize hv : wrap32 a = v at hi ⊢
  by_cases h0 : v = 0
  · rw [if_pos h0, h0]
    have : itoa 0 = [48] := by unfold itoa; rw [if_neg (by omega), Int.toNat_zero, decDigits, dif_pos (by omega)]; rfl
    rw [this]
  · rw [if_neg h0]
    have hlen : (decDigits v.natAbs).length ≤ 10 := by
      have p : (10 : Nat) ^ (9 + 1) = 10000000000 := by decide
      exact nd_le 9 v.natAbs (by omega)
    have habs : grottoref01_abs.f v = some ((v.natAbs : Nat) : Int) := by
      unfold grottoref01_abs.f
      by_cases hn : v < 0
      · rw [if_pos hn, w64 (by omega) (by omega)]; congr 1; omega
      · rw [if_neg hn]; congr 1; omega
    rw [habs, Option.bind_some]
    obtain ⟨j, hj⟩ : ∃ j, k = (j + 1) + (decDigits v.natAbs).length := ⟨k - 1 - (decDigits v.natAbs).length, by omega⟩
    have hd := dl v v.natAbs (j + 1) [] (by omega) (by omega) (by rw [List.length_nil]; omega)
    rw [hj, hd, List.append_nil, grottoref01_Decimal.l0, if_neg (by omega)]
    by_cases hn : v < 0
    · rw [if_pos hn, sz_data, if_pos (by omega)]
      have e : itoa v = 45 :: decDigits v.natAbs := by unfold itoa; rw [if_pos hn]
      rw [e]
      exact congrArg some (cat_data [45] (decDigits v.natAbs))
    · have e : itoa v = decDigits v.toNat := by unfold itoa; rw [if_neg hn]
      have e2 : v.toNat = v.natAbs := by omega
      rw [if_neg hn, e, e2]
/-- what the reference ends with -/
theorem rj4 {k : Nat} (hk : 20 ≤ k) (s : ByteArray) (x : Int) : grottoref01_Number.j4 (k + 1) s x = if -2147483648 ≤ x ∧ x < 2147483648 ∧ itoa x = s.toList then some (x % 4294967296, true) else some (0, false) := by
  rw [grottoref01_Number.j4]
  by_cases c1 : x < -2147483648
  · rw [if_pos c1, if_neg (by omega)]
  · rw [if_neg c1]
    by_cases c2 : x ≥ 2147483648
    · rw [if_pos c2, if_neg (by omega)]
    · rw [if_neg c2, of_eq, Option.bind_some, rdec hk (by omega) (by omega), Option.bind_some, Option.bind_some, wrap_wrap (by omega) (by omega)]
      have e : (⟨(itoa x).toArray⟩ : ByteArray).toList = itoa x := by rw [ByteArray.toList_eq]
      rw [e]
      by_cases c3 : itoa x = s.toList
      · rw [if_pos c3, if_pos ⟨by omega, by omega, c3⟩]
      · rw [if_neg c3, if_neg (fun h => c3 h.2.2)]
theorem rl_any (s : ByteArray) (neg : Bool) (hs : s.size ≤ 11) : ∀ (n : Nat) (i : Nat) (x : Int), i + n = s.size → (∃ m, grottoref01_Number.l0 (n + 25) s x neg i = some (m, true) ∧ 0 ≤ m ∧ m < 4294967296 ∧ itoa (wrap32 m) = s.toList) ∨ grottoref01_Number.l0 (n + 25) s x neg i = some (0, false) := by
  intro n
  induction n with
  | zero =>
    intro i x hi
    rw [grottoref01_Number.l0, if_neg (by omega)]
    have key : ∀ y : Int, (∃ m, grottoref01_Number.j4 (0 + 24) s y = some (m, true) ∧ 0 ≤ m ∧ m < 4294967296 ∧ itoa (wrap32 m) = s.toList) ∨ grottoref01_Number.j4 (0 + 24) s y = some (0, false) := by
      intro y
      rw [show 0 + 24 = 23 + 1 from rfl, rj4 (by omega)]
      by_cases c : -2147483648 ≤ y ∧ y < 2147483648 ∧ itoa y = s.toList
      · rw [if_pos c]; exact Or.inl ⟨_, rfl, by omega, by omega, by rw [wrap_wrap c.1 c.2.1]; exact c.2.2⟩
      · rw [if_neg c]; exact Or.inr rfl
    split <;> exact key _
  | succ n ih =>
    intro i x hi
    rw [show n + 1 + 25 = (n + 25) + 1 from by omega, grottoref01_Number.l0, if_pos (by omega), if_pos (by omega)]
    split
    · exact Or.inr rfl
    · split
      · exact Or.inr rfl
      · rw [show wrap64 ((i : Int) + 1) = ((i + 1 : Nat) : Int) from by rw [w64 (by omega) (by omega)]; omega]
        exact ih (i + 1) _ (by omega)
theorem rl_dec (s : ByteArray) (neg : Bool) (hs : s.size ≤ 11) (u : Nat) : ∀ (k i : Nat) (r : List UInt8), u ≤ 4294967296 → s.data.toList.drop i = decDigits u ++ r → grottoref01_Number.l0 (k + (decDigits u).length) s 0 neg i = grottoref01_Number.l0 k s u neg ((i + (decDigits u).length : Nat) : Int) := by
  have step : ∀ (k i v d : Nat) (c : UInt8) (r : List UInt8), v ≤ 4294967296 → d < 10 → c.toNat = 48 + d → s.data.toList.drop i = c :: r → grottoref01_Number.l0 (k + 1) s v neg i = grottoref01_Number.l0 k s ((v * 10 + d : Nat) : Int) neg ((i + 1 : Nat) : Int) := by
    intro k i v d c r hv hd hc hr
    have hb := bt_of hr
    rw [grottoref01_Number.l0, if_pos (by omega), if_pos (by omega), if_neg (by omega), if_neg (by omega)]
    have e1 : wrap64 ((i : Int) + 1) = ((i + 1 : Nat) : Int) := by rw [w64 (by omega) (by omega)]; omega
    have e2 : wrap64 (wrap64 (10 * (v : Int)) + (bt s i - 48) % 256) = ((v * 10 + d : Nat) : Int) := by
      rw [w64 (n := 10 * (v : Int)) (by omega) (by omega), hb.1, hc, w64 (by omega) (by omega)]; omega
    rw [e1, e2]
  induction u using Nat.strongRecOn with
  | _ u ih =>
    intro k i r hu hr
    by_cases h : u < 10
    · have e : decDigits u = [UInt8.ofNat (48 + u)] := by rw [decDigits, dif_pos h]
      rw [e] at hr ⊢
      have := step k i 0 u _ _ (by omega) h (dig_nat u h) hr
      rw [List.length_singleton]
      rw [show ((0 : Nat) : Int) = 0 from rfl] at this
      rw [this]
      congr 1; omega
    · have e : decDigits u = decDigits (u / 10) ++ [UInt8.ofNat (48 + u % 10)] := by rw [decDigits, dif_neg h]
      rw [e] at hr ⊢
      rw [List.append_assoc] at hr
      have h1 := ih (u / 10) (by omega) (k + 1) i _ (by omega) hr
      have hr2 : s.data.toList.drop (i + (decDigits (u / 10)).length) = UInt8.ofNat (48 + u % 10) :: r := by
        rw [← List.drop_drop, hr, List.drop_left, List.singleton_append]
      have h2 := step k (i + (decDigits (u / 10)).length) (u / 10) (u % 10) _ _ (by omega) (by omega) (dig_nat (u % 10) (by omega)) hr2
      rw [List.length_append, List.length_singleton, show k + ((decDigits (u / 10)).length + 1) = k + 1 + (decDigits (u / 10)).length from by omega, h1, h2]
      congr 1
      omega
theorem tl (s : ByteArray) : s.toList = s.data.toList := by rw [ByteArray.toList_eq]
/-- a text that is a word's digits -/
theorem rnum_dec {k : Nat} (hk : 60 ≤ k) (s : ByteArray) {v : Int} (h : -2147483648 ≤ v) (h' : v < 2147483648) (hs : itoa v = s.toList) : grottoref01_Number.f k s = some (v % 4294967296, true) := by
  have hl := itoa_len h h'
  rw [tl] at hs
  have hz := rsz s
  rw [← hs] at hz
  obtain ⟨j, hj⟩ : ∃ j, k = j + 60 := ⟨k - 60, by omega⟩
  subst hj
  by_cases hn : v < 0
  · have e : itoa v = 45 :: decDigits v.natAbs := by unfold itoa; rw [if_pos hn]
    have hd : s.data.toList.drop 0 = 45 :: decDigits v.natAbs := by rw [List.drop_zero, ← hs, e]
    have hb := bt_of hd
    have hb1 : bt s 0 = 45 := hb.1
    have hd1 : s.data.toList.drop 1 = decDigits v.natAbs ++ [] := by rw [← hs, e, List.append_nil]; rfl
    have hlen : s.size = 1 + (decDigits v.natAbs).length := by rw [hz, e, List.length_cons]; omega
    have hne : (decDigits v.natAbs).length ≠ 0 := fun h => dec_ne _ (List.length_eq_zero_iff.1 h)
    unfold grottoref01_Number.f
    rw [if_pos (by omega), if_pos (by omega), hb1, grottoref01_Number.j0.eq_2, if_pos (by rfl), grottoref01_Number.j1.eq_2, if_neg (by omega), grottoref01_Number.j2.eq_2, if_neg (by simp; omega)]
    obtain ⟨q, hq⟩ : ∃ q, j + 57 = q + 2 + 21 + (decDigits v.natAbs).length := ⟨j + 57 - 23 - (decDigits v.natAbs).length, by omega⟩
    have := rl_dec s ((45 : Int) == 45) (by omega) v.natAbs (q + 2 + 21) 1 [] (by omega) hd1
    rw [hq, show (1 : Int) = ((1 : Nat) : Int) from rfl, this, show q + 2 + 21 = (q + 1 + 20 + 1) + 1 from by omega, grottoref01_Number.l0, if_neg (by omega), if_pos (by rfl), w64 (by omega) (by omega), rj4 (by omega)]
    have ev : -((v.natAbs : Nat) : Int) = v := by omega
    rw [ev, if_pos ⟨h, h', by rw [tl]; exact hs⟩]
  · have e : itoa v = decDigits v.natAbs := by unfold itoa; rw [if_neg hn]; congr 1; omega
    have hd : s.data.toList.drop 0 = decDigits v.natAbs ++ [] := by rw [List.drop_zero, ← hs, e, List.append_nil]
    have hlen : s.size = (decDigits v.natAbs).length := by rw [hz, e]
    have hne : (decDigits v.natAbs).length ≠ 0 := fun h => dec_ne _ (List.length_eq_zero_iff.1 h)
    have hb1 : bt s 0 ≠ 45 := by
      cases hc : decDigits v.natAbs with
      | nil => exact absurd hc (dec_ne _)
      | cons c r =>
        have hb := bt_of (c := c) (r := r) (s := s) (i := 0) (by rw [hd, hc, List.append_nil])
        have h1 : bt s 0 = c.toNat := hb.1
        have := dec_all v.natAbs c (by rw [hc]; exact List.mem_cons_self ..)
        omega
    unfold grottoref01_Number.f
    rw [if_pos (by omega), if_pos (by omega), show (bt s 0 == 45) = false from by simpa using hb1, grottoref01_Number.j0.eq_2, if_neg (by simp), grottoref01_Number.j1.eq_2, if_neg (by omega), grottoref01_Number.j2.eq_2, if_neg (by simp; omega)]
    obtain ⟨q, hq⟩ : ∃ q, j + 57 = q + 2 + 21 + (decDigits v.natAbs).length := ⟨j + 57 - 23 - (decDigits v.natAbs).length, by omega⟩
    have := rl_dec s false (by omega) v.natAbs (q + 2 + 21) 0 [] (by omega) hd
    rw [show ((0 : Nat) : Int) = 0 from rfl] at this
    rw [hq, this, show q + 2 + 21 = (q + 1 + 20 + 1) + 1 from by omega, grottoref01_Number.l0, if_neg (by omega), if_neg (by simp), rj4 (by omega)]
    have ev : ((v.natAbs : Nat) : Int) = v := by omega
    rw [ev, if_pos ⟨h, h', by rw [tl]; exact hs⟩]
/-- what the reference reads of any text -/
theorem rnum_any {k : Nat} (hk : 60 ≤ k) (s : ByteArray) : (∃ m, grottoref01_Number.f k s = some (m, true) ∧ 0 ≤ m ∧ m < 4294967296 ∧ itoa (wrap32 m) = s.toList) ∨ grottoref01_Number.f k s = some (0, false) := by
  have up : ∀ n, (∃ j, n + j = 60) → ∀ r, grottoref01_Number.f n s = some r → grottoref01_Number.f k s = some r := by
    intro n ⟨j, hj⟩ r hr
    have : ∀ q, grottoref01_Number.f (n + q) s = some r := by
      intro q
      induction q with
      | zero => exact hr
      | succ q ihq => exact grottoref01_Number.mono s (n + q) _ ihq
    have := this (k - n)
    rwa [show n + (k - n) = k from by omega] at this
  suffices H : ∃ n, (∃ j, n + j = 60) ∧ ((∃ m, grottoref01_Number.f n s = some (m, true) ∧ 0 ≤ m ∧ m < 4294967296 ∧ itoa (wrap32 m) = s.toList) ∨ grottoref01_Number.f n s = some (0, false)) by
    obtain ⟨n, hn, H | H⟩ := H
    · obtain ⟨m, h1, h2⟩ := H; exact Or.inl ⟨m, up n hn _ h1, h2⟩
    · exact Or.inr (up n hn _ H)
  by_cases c2 : (s.size : Int) > 11
  · have hj : ∀ n i x6, grottoref01_Number.j1 (n + 2) s 0 i x6 = some (0, false) := by
      intro n i x6
      rw [grottoref01_Number.j1.eq_2]
      split
      · rw [grottoref01_Number.j2.eq_2, if_pos rfl]
      · rw [grottoref01_Number.j2.eq_2, if_pos (by simpa using c2)]
    refine ⟨3, ⟨57, rfl⟩, Or.inr ?_⟩
    unfold grottoref01_Number.f
    rw [if_pos (by omega), if_pos (by omega), grottoref01_Number.j0.eq_2]
    split
    · exact hj 0 _ _
    · exact hj 0 _ _
  · have j2 : ∀ (x6 : Bool) (i : Nat), i ≤ s.size → (∃ m, grottoref01_Number.j1 (s.size - i + 27) s 0 i x6 = some (m, true) ∧ 0 ≤ m ∧ m < 4294967296 ∧ itoa (wrap32 m) = s.toList) ∨ grottoref01_Number.j1 (s.size - i + 27) s 0 i x6 = some (0, false) := by
      intro x6 i hi
      rw [show s.size - i + 27 = (s.size - i + 25 + 1) + 1 from by omega, grottoref01_Number.j1.eq_2]
      by_cases c : (i : Int) = (s.size : Int)
      · rw [if_pos c, grottoref01_Number.j2.eq_2, if_pos rfl]; exact Or.inr rfl
      · rw [if_neg c, grottoref01_Number.j2.eq_2, if_neg (by simpa using c2)]
        exact rl_any s x6 (by omega) (s.size - i) i 0 (by omega)
    by_cases c0 : (s.size : Int) > 0
    · by_cases c1 : (bt s 0 == 45) = true
      · refine ⟨s.size - 1 + 27 + 1, ⟨32 - (s.size - 1), by omega⟩, ?_⟩
        unfold grottoref01_Number.f
        rw [if_pos c0, if_pos c0, grottoref01_Number.j0.eq_2, if_pos c1]
        exact j2 _ 1 (by omega)
      · refine ⟨s.size - 0 + 27 + 1, ⟨32 - s.size, by omega⟩, ?_⟩
        unfold grottoref01_Number.f
        rw [if_pos c0, if_pos c0, grottoref01_Number.j0.eq_2, if_neg c1]
        exact j2 _ 0 (by omega)
    · refine ⟨s.size - 0 + 27 + 1, ⟨32 - s.size, by omega⟩, ?_⟩
      unfold grottoref01_Number.f
      rw [if_neg c0, grottoref01_Number.j0.eq_2, if_neg (by simp)]
      exact j2 _ 0 (by omega)
/-- the program's reading of any text, told by its digits -/
theorem num_said (s : ByteArray) : (∃ v, -2147483648 ≤ v ∧ v < 2147483648 ∧ itoa v = s.toList ∧ word_Number.f s = some (v % 4294967296, true)) ∨ word_Number.f s = some (0, false) ∧ ∀ v, -2147483648 ≤ v → v < 2147483648 → itoa v ≠ s.toList := by
  by_cases H : ∃ v, -2147483648 ≤ v ∧ v < 2147483648 ∧ itoa v = s.toList
  · obtain ⟨v, h1, h2, h3⟩ := H
    have := num_dec (a := v % 4294967296) (by omega) (by omega)
    rw [wrap_wrap h1 h2] at this
    refine Or.inl ⟨v, h1, h2, h3, ?_⟩
    have e : (⟨(itoa v).toArray⟩ : ByteArray) = s := by
      rw [tl] at h3
      rw [h3]
    rw [e] at this
    exact this
  · refine Or.inr ⟨?_, fun v h1 h2 h3 => H ⟨v, h1, h2, h3⟩⟩
    unfold word_Number.f
    split
    · rfl
    · cases hp : parseIntB 32 s.data.toList with
      | ok n =>
        dsimp only
        rw [dec_f, Option.bind_some, if_neg]
        intro h
        rw [ByteArray.toList_eq] at h
        have b : -2147483648 ≤ wrap32 (n % 4294967296) ∧ wrap32 (n % 4294967296) < 2147483648 := by unfold wrap32; omega
        exact H ⟨_, b.1, b.2, h⟩
      | «syntax» => rfl
      | range => rfl
theorem WordTexts (a0 : Int) (a1 : ByteArray) (w0 : (Lit.int .u32 a0).wf = true) : ∃ k, grottolaw01_WordTexts.f k a0 a1 = some true := by
  refine ⟨201, ?_⟩
  have h1 := wf_u32 w0
  have hl : ∀ {k : Nat}, 100 ≤ k → grottolaw01_live.f k = some true := fun h => live_k h
  have fin : ∀ bt, (word_Number.f a1 = some bt) → (grottoref01_Number.f 201 a1 = some bt) → grottolaw01_WordTexts.f 201 a0 a1 = some true := by
    intro bt e1 e2
    unfold grottolaw01_WordTexts.f
    by_cases c : (a1.size : Int) > 4096
    · rw [if_pos c, hl (by omega), Option.bind_some]
    · rw [if_neg c, e1, Option.bind_some, e2, Option.bind_some, dec_f, Option.bind_some, rdec (by omega) h1.1 h1.2, Option.bind_some, if_pos rfl, if_pos rfl, if_pos (by simp), hl (by omega), Option.bind_some]
  rcases num_said a1 with ⟨v, v1, v2, v3, e⟩ | ⟨e, hno⟩
  · exact fin _ e (rnum_dec (by omega) a1 v1 v2 v3)
  · rcases rnum_any (k := 201) (by omega) a1 with ⟨m, f1, f2, f3, f4⟩ | f1
    · exfalso
      have b : -2147483648 ≤ wrap32 m ∧ wrap32 m < 2147483648 := by unfold wrap32; omega
      exact hno _ b.1 b.2 f4
    · exact fin _ e f1
end Go.Proofs.YtefdfmnlcfopaaaDoor.Pure
