/- Which word any bytes at any place say, and which bytes a word is, are the document's answers; the bytes stay. -/
import Derived.Test.YtefdfmnlcfopaaaDoorPQx9
import Derived.Test.YtefdfmnlcfopaaaDoorPQx8
import Derived.Test.YtefdfmnlcfopaaaDoorPQx8
import Derived.Test.YtefdfmnlcfopaaaDoorBy
namespace Go.Proofs.YtefdfmnlcfopaaaDoor.Pure
set_option linter.all false
open Go.RowKit Go.Proofs.YtefdfmnlcfopaaaDoor.PQ Go.Proofs.YtefdfmnlcfopaaaDoorW.PrintWords Go.Proofs.YtefdfmnlcfopaaaDoorW.PrintLast Go.Proofs.YtefdfmnlcfopaaaDoorW.PrintMore
theorem wf_u8 {a : Int} (h : (Lit.int .u8 a).wf = true) : 0 ≤ a ∧ a < 256 := by
  simp [Lit.wf, IntKind.min, IntKind.max, IntKind.signed, IntKind.bits] at h; omega
/-- the byte at a place -/
def bn (l : List Int) (i : Nat) : Nat := (rd l (i : Int)).toNat
theorem bn_lt {l : List Int} (h : Byt l) {i : Nat} (hi : i < l.length) : bn l i < 256 := by
  unfold bn
  have := h.at hi; omega
theorem rd_bn {l : List Int} (h : Byt l) {i : Nat} (hi : i < l.length) : rd l (i : Int) = (bn l i : Int) := by
  unfold bn
  have := h.at hi; omega
theorem rbe_step (l : List Int) (at_ n : Nat) (hb : Byt l) (hl : l.length ≤ 1000000) (i k acc : Nat) (hi : i < n) (hn : n ≤ 4) (hat : at_ + i < l.length) (ha : acc < 16777216) : grottoref01_Be.l0 (k + 1) l (at_ : Int) (n : Int) (acc : Int) (i : Int) = grottoref01_Be.l0 k l (at_ : Int) (n : Int) ((acc * 256 + bn l (at_ + i) : Nat) : Int) ((i + 1 : Nat) : Int) := by
  have hr := bn_lt hb hat
  have e6 : rd l ((at_ + i : Nat) : Int) = (bn l (at_ + i) : Int) := rd_bn hb hat
  generalize bn l (at_ + i) = b at hr e6
  rw [grottoref01_Be.l0.eq_2, if_pos (by omega), w64 (n := (l.length : Int) - (i : Int)) (by omega) (by omega), if_neg (by omega), w64 (n := (at_ : Int) + (i : Int)) (by omega) (by omega), if_pos (by omega), if_pos (by omega)]
  rw [show (at_ : Int) + (i : Int) = ((at_ + i : Nat) : Int) by omega, e6, w64 (n := 256 * (acc : Int)) (by omega) (by omega), w64 (n := (b : Int)) (by omega) (by omega), w64 (n := 256 * (acc : Int) + (b : Int)) (by omega) (by omega), w64 (n := (i : Int) + 1) (by omega) (by omega)]
  rw [show 256 * (acc : Int) + (b : Int) = ((acc * 256 + b : Nat) : Int) by omega, show (i : Int) + 1 = ((i + 1 : Nat) : Int) by omega]
theorem rbe_short (l : List Int) (at_ n : Nat) (hl : l.length ≤ 1000000) (i k : Nat) (acc : Int) (hi : i < n) (hn : n ≤ 4) (hat : l.length ≤ at_ + i) : grottoref01_Be.l0 (k + 1) l (at_ : Int) (n : Int) acc (i : Int) = some (0, 2) := by
  rw [grottoref01_Be.l0.eq_2, if_pos (by omega), w64 (n := (l.length : Int) - (i : Int)) (by omega) (by omega), if_pos (by omega)]
theorem rbe_end (l : List Int) (a : Int) (k acc n : Nat) (ha : acc < 4294967296) : grottoref01_Be.l0 (k + 1) l a (n : Int) (acc : Int) (n : Int) = some ((acc : Int), 0) := by
  rw [grottoref01_Be.l0.eq_2, if_neg (by omega), Int.emod_eq_of_lt (by omega) (by omega)]
theorem be_all (l : List Int) (hb : Byt l) (hl : l.length ≤ 1000000) (a n : Int) (ha : a ≤ 9223372036854775807) {k : Nat} (hk : 20 < k) : ∃ r, word_Be.f k l a n = some r ∧ grottoref01_Be.f k l a n = some r := by
  by_cases bad : ¬ (n = 1 ∨ n = 2 ∨ n = 4) ∨ a < 0
  · refine ⟨(0, 1), be_bad (by omega) bad, ?_⟩
    obtain ⟨k, rfl⟩ : ∃ j, k = j + 1 := ⟨k - 1, by omega⟩
    unfold grottoref01_Be.f
    by_cases c1 : n = 1
    · rw [if_pos c1, decide_eq_true (by omega), grottoref01_Be.j0.eq_2, if_pos rfl]
    rw [if_neg c1]
    by_cases c2 : n = 2
    · rw [if_pos c2, decide_eq_true (by omega), grottoref01_Be.j0.eq_2, if_pos rfl]
    rw [if_neg c2]
    by_cases c4 : n = 4
    · rw [if_pos c4, decide_eq_true (by omega), grottoref01_Be.j0.eq_2, if_pos rfl]
    rw [if_neg c4, grottoref01_Be.j0.eq_2, if_pos rfl]
  · obtain ⟨at_, rfl⟩ : ∃ x : Nat, a = (x : Int) := ⟨a.toNat, by omega⟩
    obtain ⟨m, rfl⟩ : ∃ x : Nat, n = (x : Int) := ⟨n.toNat, by omega⟩
    have hm : m = 1 ∨ m = 2 ∨ m = 4 := by omega
    have hf : ∀ k, 0 < k → grottoref01_Be.f k l (at_ : Int) (m : Int) = grottoref01_Be.l0 (k - 1) l (at_ : Int) (m : Int) 0 0 := by
      intro k hk
      obtain ⟨k, rfl⟩ : ∃ j, k = j + 1 := ⟨k - 1, by omega⟩
      have j : grottoref01_Be.j0 (k + 1) l (at_ : Int) (m : Int) (decide ((at_ : Int) < 0)) = grottoref01_Be.l0 k l (at_ : Int) (m : Int) 0 0 := by
        rw [decide_eq_false (by omega), grottoref01_Be.j0.eq_2, if_neg (by simp)]
      unfold grottoref01_Be.f
      by_cases c1 : (m : Int) = 1
      · rw [if_pos c1, j]; rfl
      rw [if_neg c1]
      by_cases c2 : (m : Int) = 2
      · rw [if_pos c2, j]; rfl
      rw [if_neg c2, if_pos (by omega), j]; rfl
    obtain ⟨k, rfl⟩ : ∃ j, k = j + 6 := ⟨k - 6, by omega⟩
    rw [hf (k + 6) (by omega)]
    show ∃ r, _ ∧ grottoref01_Be.l0 (k + 5) l (at_ : Int) (m : Int) ((0 : Nat) : Int) ((0 : Nat) : Int) = some r
    by_cases s : l.length < at_ + m
    · refine ⟨(0, 2), be_short (by omega) hm s (by omega) hl, ?_⟩
      by_cases q0 : l.length ≤ at_ + 0
      · exact rbe_short l at_ m hl 0 (k + 4) _ (by omega) (by omega) q0
      have b0 := bn_lt hb (i := at_ + 0) (by omega)
      refine (rbe_step l at_ m hb hl 0 (k + 4) 0 (by omega) (by omega) (by omega) (by omega)).trans ?_
      by_cases q1 : l.length ≤ at_ + 1
      · exact rbe_short l at_ m hl 1 (k + 3) _ (by omega) (by omega) q1
      have b1 := bn_lt hb (i := at_ + 1) (by omega)
      refine (rbe_step l at_ m hb hl 1 (k + 3) _ (by omega) (by omega) (by omega) (by omega)).trans ?_
      by_cases q2 : l.length ≤ at_ + 2
      · exact rbe_short l at_ m hl 2 (k + 2) _ (by omega) (by omega) q2
      have b2 := bn_lt hb (i := at_ + 2) (by omega)
      refine (rbe_step l at_ m hb hl 2 (k + 2) _ (by omega) (by omega) (by omega) (by omega)).trans ?_
      exact rbe_short l at_ m hl 3 (k + 1) _ (by omega) (by omega) (by omega)
    · have hw := be_eq (k := k + 6) (n := m) (at_ := at_) (by omega) hb hm (by omega) hl
      refine ⟨_, hw, ?_⟩
      have d := fun (i : Nat) (h : i < l.length) => drop_at (l := l) h
      rw [List.drop_take, Nat.add_sub_cancel_left]
      rcases hm with rfl | rfl | rfl
      · have b0 := bn_lt hb (i := at_ + 0) (by omega)
        refine (rbe_step l at_ 1 hb hl 0 (k + 4) 0 (by omega) (by omega) (by omega) (by omega)).trans ?_
        refine (rbe_end l _ (k + 3) _ 1 (by omega)).trans ?_
        rw [d at_ (by omega)]
        show _ = some ((bev 0 [rd l (at_ : Int)] : Int), 0)
        rw [bev, bev, Nat.add_zero]
        rfl
      · have b0 := bn_lt hb (i := at_ + 0) (by omega)
        have b1 := bn_lt hb (i := at_ + 1) (by omega)
        refine (rbe_step l at_ 2 hb hl 0 (k + 4) 0 (by omega) (by omega) (by omega) (by omega)).trans ?_
        refine (rbe_step l at_ 2 hb hl 1 (k + 3) _ (by omega) (by omega) (by omega) (by omega)).trans ?_
        refine (rbe_end l _ (k + 2) _ 2 (by omega)).trans ?_
        rw [d at_ (by omega), d (at_ + 1) (by omega)]
        show _ = some ((bev 0 [rd l (at_ : Int), rd l ((at_ + 1 : Nat) : Int)] : Int), 0)
        rw [bev, bev, bev, Nat.add_zero]
        rfl
      · have b0 := bn_lt hb (i := at_ + 0) (by omega)
        have b1 := bn_lt hb (i := at_ + 1) (by omega)
        have b2 := bn_lt hb (i := at_ + 2) (by omega)
        have b3 := bn_lt hb (i := at_ + 3) (by omega)
        refine (rbe_step l at_ 4 hb hl 0 (k + 4) 0 (by omega) (by omega) (by omega) (by omega)).trans ?_
        refine (rbe_step l at_ 4 hb hl 1 (k + 3) _ (by omega) (by omega) (by omega) (by omega)).trans ?_
        refine (rbe_step l at_ 4 hb hl 2 (k + 2) _ (by omega) (by omega) (by omega) (by omega)).trans ?_
        refine (rbe_step l at_ 4 hb hl 3 (k + 1) _ (by omega) (by omega) (by omega) (by omega)).trans ?_
        refine (rbe_end l _ k _ 4 (by omega)).trans ?_
        rw [d at_ (by omega), d (at_ + 1) (by omega), d (at_ + 1 + 1) (by omega), d (at_ + 1 + 1 + 1) (by omega)]
        show _ = some ((bev 0 [rd l (at_ : Int), rd l ((at_ + 1 : Nat) : Int), rd l ((at_ + 1 + 1 : Nat) : Int), rd l ((at_ + 1 + 1 + 1 : Nat) : Int)] : Int), 0)
        rw [bev, bev, bev, bev, bev, Nat.add_zero]
        rfl
theorem rput_step (x : Nat) (hx : x < 4294967296) (k p n : Nat) (l : List Int) (i : Nat) (h1 : i < n) (hn : n ≤ 4) (hp : 0 < p) (hp2 : p ≤ 16777216) (hl : l.length < 100) : grottoref01_Put.l1 (k + 1) (x : Int) (n : Int) l (p : Int) (i : Int) = grottoref01_Put.l1 k (x : Int) (n : Int) (l ++ [((x / p % 256 : Nat) : Int)]) ((p / 256 : Nat) : Int) ((i + 1 : Nat) : Int) := by
  have xp : x / p ≤ x := Nat.div_le_self _ _
  have d1 : Int.tdiv (x : Int) (p : Int) = ((x / p : Nat) : Int) := by rw [Int.tdiv_eq_ediv_of_nonneg (by omega)]; rfl
  generalize x / p = q at xp d1 ⊢
  have d2 : Int.tmod (q : Int) 256 = ((q % 256 : Nat) : Int) := by rw [Int.tmod_eq_emod_of_nonneg (by omega)]; rfl
  have d3 : Int.tdiv (p : Int) 256 = ((p / 256 : Nat) : Int) := by rw [Int.tdiv_eq_ediv_of_nonneg (by omega)]; rfl
  have m : ((q % 256 : Nat) : Int) % 256 = ((q % 256 : Nat) : Int) := by omega
  rw [grottoref01_Put.l1.eq_2, if_pos (by omega), if_neg (by omega), if_pos (by omega), w64 (n := (x : Int)) (by omega) (by omega), d1, w64 (n := (q : Int)) (by omega) (by omega), d2, d3, w64 (n := ((p / 256 : Nat) : Int)) (by omega) (by omega), w64 (n := (i : Int) + 1) (by omega) (by omega), m]
  rw [show (i : Int) + 1 = ((i + 1 : Nat) : Int) by omega]
theorem put_all (x : Nat) (hx : x < 4294967296) (n : Int) {k : Nat} (hk : 20 < k) : ∃ r, word_Put.f k (x : Int) n = some r ∧ grottoref01_Put.f k (x : Int) n = some r := by
  obtain ⟨k, rfl⟩ : ∃ j, k = j + 10 := ⟨k - 10, by omega⟩
  by_cases g : n = 1 ∨ n = 2 ∨ n = 4
  · obtain ⟨m, rfl⟩ : ∃ x : Nat, n = (x : Int) := ⟨n.toNat, by omega⟩
    have hm : m = 1 ∨ m = 2 ∨ m = 4 := by omega
    refine ⟨_, put_eq (by omega) hm, ?_⟩
    have w0 : wrap64 (256 * 1) = 256 := by decide +kernel
    have w1 : wrap64 (256 * 256) = 65536 := by decide +kernel
    have w2 : wrap64 (256 * 65536) = 16777216 := by decide +kernel
    have v1 : wrap64 (1 + 1) = 2 := by decide +kernel
    have v2 : wrap64 (2 + 1) = 3 := by decide +kernel
    have v3 : wrap64 (3 + 1) = 4 := by decide +kernel
    have a3 : x / 16777216 % 256 = x / 256 / 256 / 256 % 256 := by omega
    have a2 : x / 65536 % 256 = x / 256 / 256 % 256 := by omega
    rcases hm with rfl | rfl | rfl
    · have f : grottoref01_Put.f (k + 10) (x : Int) ((1 : Nat) : Int) = grottoref01_Put.l1 (k + 8) (x : Int) ((1 : Nat) : Int) [] ((1 : Nat) : Int) ((0 : Nat) : Int) := by
        unfold grottoref01_Put.f
        rw [if_pos (by decide), grottoref01_Put.j0.eq_2, if_neg (by decide), grottoref01_Put.l0.eq_2, if_neg (by decide)]
        rfl
      rw [f]
      refine (rput_step x hx (k + 7) 1 1 [] 0 (by decide) (by decide) (by decide) (by decide) (by simp)).trans ?_
      rw [grottoref01_Put.l1.eq_2, if_neg (by omega), Nat.div_one]
      rfl
    · have f : grottoref01_Put.f (k + 10) (x : Int) ((2 : Nat) : Int) = grottoref01_Put.l1 (k + 7) (x : Int) ((2 : Nat) : Int) [] ((256 : Nat) : Int) ((0 : Nat) : Int) := by
        unfold grottoref01_Put.f
        rw [if_neg (by decide), if_pos (by decide), grottoref01_Put.j0.eq_2, if_neg (by decide), grottoref01_Put.l0.eq_2, if_pos (by decide), w0, v1, grottoref01_Put.l0.eq_2, if_neg (by decide)]
        rfl
      rw [f]
      refine (rput_step x hx (k + 6) 256 2 [] 0 (by decide) (by decide) (by decide) (by decide) (by simp)).trans ?_
      refine (rput_step x hx (k + 5) 1 2 _ 1 (by decide) (by decide) (by decide) (by decide) (by simp)).trans ?_
      rw [grottoref01_Put.l1.eq_2, if_neg (by omega), Nat.div_one]
      rfl
    · have f : grottoref01_Put.f (k + 10) (x : Int) ((4 : Nat) : Int) = grottoref01_Put.l1 (k + 5) (x : Int) ((4 : Nat) : Int) [] ((16777216 : Nat) : Int) ((0 : Nat) : Int) := by
        unfold grottoref01_Put.f
        rw [if_neg (by decide), if_neg (by decide), grottoref01_Put.j0.eq_2, if_neg (by decide), grottoref01_Put.l0.eq_2, if_pos (by decide), w0, v1, grottoref01_Put.l0.eq_2, if_pos (by decide), w1, v2, grottoref01_Put.l0.eq_2, if_pos (by decide), w2, v3, grottoref01_Put.l0.eq_2, if_neg (by decide)]
        rfl
      rw [f]
      refine (rput_step x hx (k + 4) 16777216 4 [] 0 (by decide) (by decide) (by decide) (by decide) (by simp)).trans ?_
      refine (rput_step x hx (k + 3) 65536 4 _ 1 (by decide) (by decide) (by decide) (by decide) (by simp)).trans ?_
      refine (rput_step x hx (k + 2) 256 4 _ 2 (by decide) (by decide) (by decide) (by decide) (by simp)).trans ?_
      refine (rput_step x hx (k + 1) 1 4 _ 3 (by decide) (by decide) (by decide) (by decide) (by simp)).trans ?_
      rw [grottoref01_Put.l1.eq_2, if_neg (by omega), Nat.div_one, a3, a2]
      rfl
  · refine ⟨[], put_bad g, ?_⟩
    unfold grottoref01_Put.f
    rw [if_neg (by omega), if_neg (by omega), grottoref01_Put.j0.eq_2, if_pos (by rw [bne_iff_ne]; omega)]
theorem WordBytes (l0 : List Int) (a1 a2 a3 : Int) (_hm : l0.length ≤ maxLen) (_y : l0.length * 1 ≤ 140737488351232) (hw : ∀ x ∈ l0, (Lit.int .u8 x).wf = true) (w1 : (Lit.int .i64 a1).wf = true) (w2 : (Lit.int .i64 a2).wf = true) (w3 : (Lit.int .u32 a3).wf = true) :
    ∃ k, grottolaw01_WordBytes.f k l0 a1 a2 a3 = some true := by
  have hb : Byt l0 := fun x hx => wf_u8 (hw x hx)
  have r1 := wf_i64 w1
  have r3 := wf_u32 w3
  obtain ⟨x, rfl⟩ : ∃ x : Nat, a3 = (x : Int) := ⟨a3.toNat, by omega⟩
  refine ⟨200, ?_⟩
  have num : ∀ x : Int, grottolaw01_num.f x = some x := fun x => rfl
  have lv : grottolaw01_live.f 200 = some true := live_k (by omega)
  unfold grottolaw01_WordBytes.f
  rw [lv]
  by_cases c : (l0.length : Int) > 4096
  · rw [if_pos c]; rfl
  have hL : grottoref01_Lent.f l0 = some l0 := by unfold grottoref01_Lent.f; rw [if_pos (by omega)]
  have hK : grottoref01_Kept.f l0 l0 = some true := by unfold grottoref01_Kept.f; rw [if_pos rfl, if_pos (by omega)]
  obtain ⟨r, e1, e2⟩ := be_all l0 hb (by omega) a1 a2 r1.2 (k := 200) (by omega)
  obtain ⟨p, e3, e4⟩ := put_all x (by omega) a2 (k := 200) (by omega)
  have hS : grottoref01_Same.f p p = some true := by unfold grottoref01_Same.f; rw [beq_self_eq_true]
  rw [if_neg c, hL, Option.bind_some, e1, Option.bind_some, e2, Option.bind_some, e3, Option.bind_some]
  first
  | (rw [if_pos rfl, num, Option.bind_some, if_pos rfl, e4, Option.bind_some, hS, Option.bind_some, if_pos rfl, hK]; rfl)
  | (simp only [num, e4, hS, hK, Option.bind_some, if_true]; rfl)
end Go.Proofs.YtefdfmnlcfopaaaDoor.Pure
