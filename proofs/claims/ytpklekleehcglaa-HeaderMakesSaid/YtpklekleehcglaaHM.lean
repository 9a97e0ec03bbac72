/- The game of a header: the program's Make and the document's, both as one plain function. -/
import Derived.Test.YtpklekleehcglaaPQx6
import Derived.Test.YtpklekleehcglaaHS
namespace Go.Proofs.Ytpklekleehcglaa.Pure
set_option linter.all false
open Go.RowKit Go.Proofs.Ytpklekleehcglaa.PQ Go.Proofs.YtpklekleehcglaaW.PrintWords Go.Proofs.YtpklekleehcglaaW.PrintLast
/-- the first 32 bytes -/
def head32 (h0 h1 h2 h3 h4 h5 h6 : Nat) : List Int := [71, 108, 117, 108] ++ byts h0 4 ++ byts h1 4 ++ byts h2 4 ++ byts h3 4 ++ byts h4 4 ++ byts h5 4 ++ byts h6 4
theorem head32_len (h0 h1 h2 h3 h4 h5 h6 : Nat) : (head32 h0 h1 h2 h3 h4 h5 h6).length = 32 := by
  unfold head32
  simp only [List.length_append, byts_len]
  rfl
theorem head32_byt (h0 h1 h2 h3 h4 h5 h6 : Nat) : Byt (head32 h0 h1 h2 h3 h4 h5 h6) := by
  unfold head32
  refine ((((((Byt.app ?_ (byts_byt _ _)).app (byts_byt _ _)).app (byts_byt _ _)).app (byts_byt _ _)).app (byts_byt _ _)).app (byts_byt _ _)).app (byts_byt _ _)
  intro b hb
  simp only [List.mem_cons, List.not_mem_nil, or_false] at hb
  rcases hb with rfl | rfl | rfl | rfl <;> decide
/-- the game, before its sum is put -/
def raw (h0 h1 h2 h3 h4 h5 h6 : Nat) (rest : List Int) : List Int := head32 h0 h1 h2 h3 h4 h5 h6 ++ (byts 0 4 ++ rest)
def made (h0 h1 h2 h3 h4 h5 h6 : Nat) (rest : List Int) : List Int := head32 h0 h1 h2 h3 h4 h5 h6 ++ (byts (hsum (raw h0 h1 h2 h3 h4 h5 h6 rest)) 4 ++ rest)
def make (h0 h1 h2 h3 h4 h5 h6 : Nat) (rest : List Int) : List Int × Int :=
  if (told (made h0 h1 h2 h3 h4 h5 h6 rest)).2.2.2.2.2.2.2.2.1 = 0 then (made h0 h1 h2 h3 h4 h5 h6 rest, 0) else ([], (told (made h0 h1 h2 h3 h4 h5 h6 rest)).2.2.2.2.2.2.2.2.1)
theorem raw_byt {h0 h1 h2 h3 h4 h5 h6 : Nat} {rest : List Int} (hb : Byt rest) : Byt (raw h0 h1 h2 h3 h4 h5 h6 rest) := Byt.app (head32_byt h0 h1 h2 h3 h4 h5 h6) (Byt.app (byts_byt _ _) hb)
theorem made_byt {h0 h1 h2 h3 h4 h5 h6 : Nat} {rest : List Int} (hb : Byt rest) : Byt (made h0 h1 h2 h3 h4 h5 h6 rest) := Byt.app (head32_byt h0 h1 h2 h3 h4 h5 h6) (Byt.app (byts_byt _ _) hb)
theorem raw_len {h0 h1 h2 h3 h4 h5 h6 : Nat} {rest : List Int} : (raw h0 h1 h2 h3 h4 h5 h6 rest).length = 36 + rest.length := by
  unfold raw; rw [List.length_append, head32_len, List.length_append, byts_len]; omega
theorem made_len {h0 h1 h2 h3 h4 h5 h6 : Nat} {rest : List Int} : (made h0 h1 h2 h3 h4 h5 h6 rest).length = 36 + rest.length := by
  unfold made; rw [List.length_append, head32_len, List.length_append, byts_len]; omega
theorem made_cut {h0 h1 h2 h3 h4 h5 h6 : Nat} {rest : List Int} (s : List Int) : (raw h0 h1 h2 h3 h4 h5 h6 rest).take 32 ++ s ++ (raw h0 h1 h2 h3 h4 h5 h6 rest).drop 36 = head32 h0 h1 h2 h3 h4 h5 h6 ++ (s ++ rest) := by
  have hl := head32_len h0 h1 h2 h3 h4 h5 h6
  unfold raw
  rw [List.take_append_of_le_length (by omega), List.take_of_length_le (by omega), List.drop_append, List.drop_of_length_le (by omega), hl, List.nil_append, List.drop_append_of_le_length (by rw [byts_len]; omega), List.drop_of_length_le (by rw [byts_len]; omega), List.nil_append, List.append_assoc]
theorem make_eq {h0 h1 h2 h3 h4 h5 h6 : Nat} (h7 : Int) {rest : List Int} (hb : Byt rest) (hl : rest.length ≤ 1000000) {k : Nat} (hk : 300000 < k) :
    header_Make.f k (h0 : Int) (h1 : Int) (h2 : Int) (h3 : Int) (h4 : Int) (h5 : Int) (h6 : Int) h7 rest = some (make h0 h1 h2 h3 h4 h5 h6 rest) := by
  obtain ⟨k, rfl⟩ : ∃ j, k = j + 9 := ⟨k - 9, by omega⟩
  let LS : List Int := [(h0 : Int), (h1 : Int), (h2 : Int), (h3 : Int), (h4 : Int), (h5 : Int), (h6 : Int), 0]
  have step : ∀ (j i x : Nat) (b : List Int), 20 < j → i < 8 → rd LS (i : Int) = (x : Int) → b.length < 1000 → header_Make.l0 (j + 1) rest b LS (i : Int) = header_Make.l0 j rest (b ++ byts x 4) LS ((i + 1 : Nat) : Int) := by
    intro j i x b hj hi hx hbl
    have e : wrap64 ((i : Int) + 1) = ((i + 1 : Nat) : Int) := by rw [w64 (by omega) (by omega)]; omega
    rw [header_Make.l0.eq_2, if_pos (by omega), hx, put_eq (by omega), Option.bind_some, if_pos ⟨byts_len _ _, by omega⟩, e]
  unfold header_Make.f
  refine (step (k + 8) 0 h0 _ (by omega) (by omega) rfl (by decide)).trans ?_
  refine (step (k + 7) 1 h1 _ (by omega) (by omega) rfl (by simp [byts_len])).trans ?_
  refine (step (k + 6) 2 h2 _ (by omega) (by omega) rfl (by simp [byts_len])).trans ?_
  refine (step (k + 5) 3 h3 _ (by omega) (by omega) rfl (by simp [byts_len])).trans ?_
  refine (step (k + 4) 4 h4 _ (by omega) (by omega) rfl (by simp [byts_len])).trans ?_
  refine (step (k + 3) 5 h5 _ (by omega) (by omega) rfl (by simp [byts_len])).trans ?_
  refine (step (k + 2) 6 h6 _ (by omega) (by omega) rfl (by simp [byts_len])).trans ?_
  refine (step (k + 1) 7 0 _ (by omega) (by omega) rfl (by simp [byts_len])).trans ?_
  have hx : [71, 108, 117, 108] ++ byts h0 4 ++ byts h1 4 ++ byts h2 4 ++ byts h3 4 ++ byts h4 4 ++ byts h5 4 ++ byts h6 4 ++ byts 0 4 = head32 h0 h1 h2 h3 h4 h5 h6 ++ byts 0 4 := rfl
  have hy : head32 h0 h1 h2 h3 h4 h5 h6 ++ byts 0 4 ++ rest = raw h0 h1 h2 h3 h4 h5 h6 rest := by unfold raw; rw [List.append_assoc]
  have hl36 : (head32 h0 h1 h2 h3 h4 h5 h6 ++ byts 0 4).length = 36 := by rw [List.length_append, head32_len, byts_len]
  rw [hx, header_Make.l0.eq_2, if_neg (by omega), if_pos ⟨by omega, by omega⟩, Option.bind_some, hy]
  have hrl : (raw h0 h1 h2 h3 h4 h5 h6 rest).length = 36 + rest.length := raw_len
  have hml : (made h0 h1 h2 h3 h4 h5 h6 rest).length = 36 + rest.length := made_len
  rw [sum_eq (raw_byt hb) (by omega) (by omega), Option.bind_some, put_eq (by omega), Option.bind_some, if_pos (byts_len _ _), Option.bind_some, made_cut]
  rw [show head32 h0 h1 h2 h3 h4 h5 h6 ++ (byts (hsum (raw h0 h1 h2 h3 h4 h5 h6 rest)) 4 ++ rest) = made h0 h1 h2 h3 h4 h5 h6 rest from rfl, parse_eq (made_byt hb) (by omega) (by omega), Option.bind_some]
  unfold make
  by_cases c : (told (made h0 h1 h2 h3 h4 h5 h6 rest)).2.2.2.2.2.2.2.2.1 = 0
  · rw [if_pos c, if_pos c]
  · rw [if_neg c, if_neg c]
theorem be4_of_byts {x : Nat} (hx : x < 4294967296) (a b : List Int) : be4 (a ++ (byts x 4 ++ b)) a.length = x := by
  have h := be4_right (a := a) (b := byts x 4 ++ b) (i := 0) (by rw [List.length_append, byts_len]; omega)
  rw [Nat.add_zero] at h
  rw [h, be4_left (by rw [byts_len]; omega)]
  unfold be4
  rw [List.take_of_length_le (by rw [byts_len]; omega), List.drop_zero, bev_byts]
  exact Nat.mod_eq_of_lt hx
/-- the words of a made game -/
theorem made_words {h0 h1 h2 h3 h4 h5 h6 : Nat} {rest : List Int} (r0 : h0 < 4294967296) (r1 : h1 < 4294967296) (r2 : h2 < 4294967296) (r3 : h3 < 4294967296) (r4 : h4 < 4294967296) (r5 : h5 < 4294967296) (r6 : h6 < 4294967296) :
    wd (made h0 h1 h2 h3 h4 h5 h6 rest) 0 = h0 ∧ wd (made h0 h1 h2 h3 h4 h5 h6 rest) 1 = h1 ∧ wd (made h0 h1 h2 h3 h4 h5 h6 rest) 2 = h2 ∧ wd (made h0 h1 h2 h3 h4 h5 h6 rest) 3 = h3 ∧ wd (made h0 h1 h2 h3 h4 h5 h6 rest) 4 = h4 ∧ wd (made h0 h1 h2 h3 h4 h5 h6 rest) 5 = h5 ∧ wd (made h0 h1 h2 h3 h4 h5 h6 rest) 6 = h6 ∧ wd (made h0 h1 h2 h3 h4 h5 h6 rest) 7 = (hsum (raw h0 h1 h2 h3 h4 h5 h6 rest) : Int) := by
  have hs := hsum_lt (raw h0 h1 h2 h3 h4 h5 h6 rest)
  unfold made wd
  generalize hsum (raw h0 h1 h2 h3 h4 h5 h6 rest) = s at hs
  have key : ∀ (x i : Nat) (a b : List Int), x < 4294967296 → a.length = i → head32 h0 h1 h2 h3 h4 h5 h6 ++ (byts s 4 ++ rest) = a ++ (byts x 4 ++ b) → ((be4 (head32 h0 h1 h2 h3 h4 h5 h6 ++ (byts s 4 ++ rest)) i : Nat) : Int) = (x : Int) := by
    intro x i a b hx ha he
    rw [he, ← ha, be4_of_byts hx]
  refine ⟨?_, ?_, ?_, ?_, ?_, ?_, ?_, ?_⟩
  · exact key h0 4 [71, 108, 117, 108] (byts h1 4 ++ (byts h2 4 ++ (byts h3 4 ++ (byts h4 4 ++ (byts h5 4 ++ (byts h6 4 ++ (byts s 4 ++ rest))))))) r0 rfl (by unfold head32; simp only [List.append_assoc])
  · exact key h1 8 ([71, 108, 117, 108] ++ byts h0 4) (byts h2 4 ++ (byts h3 4 ++ (byts h4 4 ++ (byts h5 4 ++ (byts h6 4 ++ (byts s 4 ++ rest)))))) r1 (by simp [byts_len]) (by unfold head32; simp only [List.append_assoc])
  · exact key h2 12 ([71, 108, 117, 108] ++ byts h0 4 ++ byts h1 4) (byts h3 4 ++ (byts h4 4 ++ (byts h5 4 ++ (byts h6 4 ++ (byts s 4 ++ rest))))) r2 (by simp [byts_len]) (by unfold head32; simp only [List.append_assoc])
  · exact key h3 16 ([71, 108, 117, 108] ++ byts h0 4 ++ byts h1 4 ++ byts h2 4) (byts h4 4 ++ (byts h5 4 ++ (byts h6 4 ++ (byts s 4 ++ rest)))) r3 (by simp [byts_len]) (by unfold head32; simp only [List.append_assoc])
  · exact key h4 20 ([71, 108, 117, 108] ++ byts h0 4 ++ byts h1 4 ++ byts h2 4 ++ byts h3 4) (byts h5 4 ++ (byts h6 4 ++ (byts s 4 ++ rest))) r4 (by simp [byts_len]) (by unfold head32; simp only [List.append_assoc])
  · exact key h5 24 ([71, 108, 117, 108] ++ byts h0 4 ++ byts h1 4 ++ byts h2 4 ++ byts h3 4 ++ byts h4 4) (byts h6 4 ++ (byts s 4 ++ rest)) r5 (by simp [byts_len]) (by unfold head32; simp only [List.append_assoc])
  · exact key h6 28 ([71, 108, 117, 108] ++ byts h0 4 ++ byts h1 4 ++ byts h2 4 ++ byts h3 4 ++ byts h4 4 ++ byts h5 4) (byts s 4 ++ rest) r6 (by simp [byts_len]) (by unfold head32; simp only [List.append_assoc])
  · exact key s 32 (head32 h0 h1 h2 h3 h4 h5 h6) rest hs (head32_len ..) rfl
/-- the sum does not see its own place -/
theorem ws_skip {a b s t : List Int} (ha : a.length = 32) (hs : s.length = 4) (ht : t.length = 4) : ∀ n p, p % 4 = 0 → p + 4 * n ≤ 36 + b.length → ws (a ++ (s ++ b)) n p = ws (a ++ (t ++ b)) n p := by
  intro n
  induction n with
  | zero => intro p _ _; rfl
  | succ n ih =>
    intro p hp h
    rw [ws, ws, ih _ (by omega) (by omega)]
    by_cases c : p = 32
    · rw [if_pos c, if_pos c]
    · rw [if_neg c, if_neg c]
      congr 1
      by_cases d : p < 32
      · rw [be4_left (by omega), be4_left (by omega)]
      · obtain ⟨q, rfl⟩ : ∃ q, p = 36 + q := ⟨p - 36, by omega⟩
        have e1 : 36 + q = (a ++ s).length + q := by rw [List.length_append]; omega
        have e2 : 36 + q = (a ++ t).length + q := by rw [List.length_append]; omega
        have f1 : be4 (a ++ (s ++ b)) (36 + q) = be4 b q := by rw [← List.append_assoc, e1, be4_right (by omega)]
        have f2 : be4 (a ++ (t ++ b)) (36 + q) = be4 b q := by rw [← List.append_assoc, e2, be4_right (by omega)]
        rw [f1, f2]
theorem made_sum {h0 h1 h2 h3 h4 h5 h6 : Nat} {rest : List Int} : hsum (made h0 h1 h2 h3 h4 h5 h6 rest) = hsum (raw h0 h1 h2 h3 h4 h5 h6 rest) := by
  unfold hsum
  rw [made_len, raw_len]
  congr 1
  exact ws_skip (head32_len ..) (byts_len _ _) (byts_len _ _) _ _ rfl (by omega)
end Go.Proofs.Ytpklekleehcglaa.Pure
