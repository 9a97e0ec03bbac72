-- by a program of this claim
import Derived.Test.YtpklekleehcglaaPQx0
import Derived.Test.YtpklekleehcglaaPQx2
namespace Go.Proofs.Ytpklekleehcglaa.PQ
open Go.RowKit Go.Proofs.YtpklekleehcglaaW.PrintWords Go.Proofs.YtpklekleehcglaaW.PrintLast Go.Proofs.YtpklekleehcglaaW.PrintMore Go.Proofs.Ytpklekleehcglaa.Z
attribute [local go_sem] max2_int min2_int max_two min_two max_three min_three max_four min_four   -- for this text's walks alone
set_option linter.unusedVariables false
set_option linter.unusedSimpArgs false

/-! ### header_read: function 23 -/
def header_read.l0 : Nat → List Int → List Int → Int → Option (Int × Int × Int × Int × Int × Int × Int × Int)
  | 0, _, _, _ => none
  | k + 1, x0, x3, x5 => if x5 < 8 then ((word_Be.f k x0 (wrap64 (4 + (wrap64 (4 * x5)))) 4).bind fun bt110 => (header_read.l0 k x0 (x3.set (x5 : Int).toNat bt110.1) (wrap64 (x5 + 1)))) else some (rd x3 0, rd x3 1, rd x3 2, rd x3 3, rd x3 4, rd x3 5, rd x3 6, rd x3 7)
def header_read.f (k : Nat) (l0 : List Int) : Option (Int × Int × Int × Int × Int × Int × Int × Int) := header_read.l0 k l0 (([0, 0, 0, 0, 0, 0, 0, 0] : List Int)) 0
theorem header_read.mono_l : ∀ k, (∀ y0 y1 y2, LeO (header_read.l0 k y0 y1 y2) (header_read.l0 (k + 1) y0 y1 y2))
  | 0 => fun _ _ _ r h => by simp [header_read.l0] at h
  | k + 1 => by
    have ih0 := header_read.mono_l k
    · intro y0 y1 y2
      unfold header_read.l0
      repeat' first
      | (with_reducible exact ih0 _ _ _)
      | (with_reducible exact word_Be.mono _ _ _ _)
      | (with_reducible exact LeO.refl _)
      | (with_reducible refine LeO.ite ?_ ?_)
      | (with_reducible refine LeO.bind ?_ (fun _ => ?_))
theorem header_read.mono : ∀ a0 k, LeO (header_read.f k a0) (header_read.f (k + 1) a0) := fun a0 k => header_read.mono_l k _ _ _
theorem rd_at (xs : List Int) (i : Int) (h0 : 0 ≤ i) (h1 : i < (xs.length : Int)) : (xs.map (Value.int .u32)).toArray[i.toNat]? = some (.int .u32 (rd xs i)) := by
  have hl : i.toNat < xs.length := by omega
  simp [rd, hl, List.getD_eq_getElem?_getD]
theorem eight (xs : List Int) (h : xs.length = 8) : xs = [rd xs 0, rd xs 1, rd xs 2, rd xs 3, rd xs 4, rd xs 5, rd xs 6, rd xs 7] := by
  match xs, h with
  | [_, _, _, _, _, _, _, _], _ => rfl
set_option maxHeartbeats 8000000 in
set_option maxRecDepth 100000 in
theorem header_read.calls (k : Nat) (A0 : Option Addr) (c0 : Nat) (l0 : List Int) (r1 : Int) (r2 : Int) (r3 : Int) (r4 : Int) (r5 : Int) (r6 : Int) (r7 : Int) (r8 : Int) (w : World) (hr0 : Kd.C (Kd.int .u8) w A0 l0.length l0) (hc0 : l0.length ≤ c0) (h : header_read.f k l0 = some (r1, r2, r3, r4, r5, r6, r7, r8)) :
    Calls Try.prog 23 #[.slice A0 l0.length c0] w fun e w' => e = .returned (.agg #[.int .u32 r1, .int .u32 r2, .int .u32 r3, .int .u32 r4, .int .u32 r5, .int .u32 r6, .int .u32 r7, .int .u32 r8]) ∧ Below w.heap.size w w' := by
  have hu27 := Try.underlying27
  have HR0 := Aside0.mk hr0
  have HC0 := Aside0.mk hc0
  clear hr0 hc0
  have HB := Aside0.mk (Below.refl w.heap.size w)
  have H' := Aside0.mk h
  clear h
  go_enter Try.func23, Try.ntmps23
  go_wp2_with (first | ((with_reducible refine gate_dst (N := 2) rfl ?_); refine zbox (N := 2) (cs := #[.int .u32 0, .int .u32 0, .int .u32 0, .int .u32 0, .int .u32 0, .int .u32 0, .int .u32 0, .int .u32 0]) (t := 27) ?_; intro gb1 hg w2 hbox hb; have BK1 := Aside0.mk hbox; have GE1 := zge hg HB; replace HB := zbs HB hb; clear hb hbox hg) | ((with_reducible refine gate_dst (N := 3) rfl ?_); refine zbox (N := 3) (cs := #[.int .u32 0, .int .u32 0, .int .u32 0, .int .u32 0, .int .u32 0, .int .u32 0, .int .u32 0, .int .u32 0]) (t := 51) ?_; intro gb2 hg w3 hbox hb; have BK2 : Aside0 (w3.heap[gb2]? = some (.cells (([0, 0, 0, 0, 0, 0, 0, 0] : List Int).map (Value.int .u32)).toArray 51 (0, 0))) := ⟨hbox⟩; have GE2 := zge hg HB; replace BK1 : Aside0 (w3.heap[gb1]? = some _) := ⟨blk_below BK1.out hb⟩; replace HB := zbs HB hb; clear hb hbox hg))
  have HN : Aside0 (gb1 ≠ gb2) := ⟨fun e => by have h1 := BK1.out; have h2 := BK2.out; rw [e, h2] at h1; simp at h1⟩
  go_loopg [5] k (fun kq v5 w' => ∃ (x3_1 : List Int) (x5_1 : Int), v5 = .int .i64 x5_1 ∧ Aside0 (header_read.l0 kq l0 x3_1 x5_1 = some (r1, r2, r3, r4, r5, r6, r7, r8)) ∧ Aside0 (kq ≤ k) ∧ Aside0 (0 ≤ x5_1 ∧ x3_1.length = 8) ∧ Aside0 (w'.heap[gb2]? = some (.cells (x3_1.map (Value.int .u32)).toArray 51 (0, 0))) ∧ Aside0 (w'.heap[gb1]? = some (.cells #[.int .u32 0, .int .u32 0, .int .u32 0, .int .u32 0, .int .u32 0, .int .u32 0, .int .u32 0, .int .u32 0] 27 (0, 0))) ∧ Aside0 (Below w.heap.size w w'))
  case atStart => exact ⟨[0, 0, 0, 0, 0, 0, 0, 0], 0, rfl, H', ⟨Nat.le_refl _⟩, ⟨by decide, rfl⟩, ⟨zkp BK2⟩, ⟨zkp BK1⟩, ⟨zb HB⟩⟩
  case round =>
    clear H'
    obtain ⟨x3_1, x5_1, rfl, HA, HK1, HL, BK2, BK1, HB⟩ := hrel
    cases gk with
    | zero => exact absurd HA.out (by simp [header_read.l0])
    | succ k1 =>
      have H := HA.out
      clear HA
      simp only [header_read.l0] at H
      by_cases c5 : x5_1 < 8
      · rw [if_pos c5] at H
        have c5b0 : decide (x5_1 < 8) = true := decide_eq_true c5
        replace H := Option.bind_eq_some_iff.mp H
        obtain ⟨⟨t110, t111⟩, A60, H⟩ := H
        have A6 := Aside0.mk A60
        have H' := Aside0.mk H
        have hlt : x5_1.toNat < x3_1.length := by have := HL.out; omega
        have hcell := rd_at x3_1 x5_1 HL.out.1 (by have := HL.out; omega)
        have c6b0 : decide (0 ≤ x5_1) = true := decide_eq_true HL.out.1
        have hnext : wrap64 (x5_1 + 1) = x5_1 + 1 := by have := HL.out.1; unfold wrap64; omega
        have Hc := Aside0.mk hcell
        have Hn := Aside0.mk hnext
        clear A60 H hcell hnext hlt c5
        go_wp2_with (first | ((with_reducible refine gate_callee (f := 26) rfl ?_); refine zgo (some 14) Try.func26 #[.slice A0 l0.length c0, .int .i64 (wrap64 (4 + (wrap64 (4 * x5_1)))), .int .i64 4] ?_; (with_reducible refine (word_Be.calls k1 _ _ l0 (wrap64 (4 + (wrap64 (4 * x5_1)))) 4 t110 t111 _ ?side1 ?side2 A6.out).mono ?_); (case side1 => repeat (first | exact (Kd.C_below HR0.out HB.out) | (with_reducible refine Kd.C_alloc ?_ _) | (with_reducible refine Kd.C_drewN ?_ _) | (with_reducible refine Kd.C_drew ?_))); (case side2 => exact HC0.out); rintro e w' ⟨rfl, ⟨nd, rfl⟩⟩; refine ⟨_, rfl, ?_⟩; have p1 := eq_true (of_decide_eq_true c6b0); have p2 := eq_true (of_decide_eq_true c5b0); have hz1 : wr.cell? ⟨gb2, x5_1.toNat, none⟩ = some (.int .u32 (rd x3_1 x5_1)) := (blk_cell BK2.out _).trans Hc.out; have hz2 := blk_frozen BK2.out x5_1.toNat))
        go_roundg k1
        case measure => have := HK1.out; omega
        case rel => exact ⟨x3_1.set x5_1.toNat t110, wrap64 (x5_1 + 1), rfl, H', ⟨by have := HK1.out; omega⟩, ⟨by rw [Hn.out]; have := HL.out.1; omega, by rw [List.length_set]; exact HL.out.2⟩, ⟨by refine blk_put (blk_drewN BK2.out _) _ _ ?_; rw [List.map_set]; simp⟩, ⟨(blk_far (blk_drewN BK1.out _) (HN.out) _)⟩, ⟨below_set (pw_below_drewN HB.out _) GE2.out⟩⟩
      · rw [if_neg c5] at H
        have c5b0 : decide (x5_1 < 8) = false := decide_eq_false c5
        have hL := HL.out.2
        have he := eight x3_1 hL
        simp only [Option.some.injEq, Prod.mk.injEq] at H
        obtain ⟨rfl, rfl, rfl, rfl, rfl, rfl, rfl, rfl⟩ := H
        generalize rd x3_1 0 = a0 at he ⊢
        generalize rd x3_1 1 = a1 at he ⊢
        generalize rd x3_1 2 = a2 at he ⊢
        generalize rd x3_1 3 = a3 at he ⊢
        generalize rd x3_1 4 = a4 at he ⊢
        generalize rd x3_1 5 = a5 at he ⊢
        generalize rd x3_1 6 = a6 at he ⊢
        generalize rd x3_1 7 = a7 at he ⊢
        subst he
        have hw : ∀ i, wr.cell? ⟨gb2, i, none⟩ = ([a0, a1, a2, a3, a4, a5, a6, a7].map (Value.int .u32)).toArray[i]? := fun i => blk_cell BK2.out i
        have g0 : wr.cell? ⟨gb2, 0, none⟩ = some (.int .u32 a0) := hw 0
        have g1 : wr.cell? ⟨gb2, 1, none⟩ = some (.int .u32 a1) := hw 1
        have g2 : wr.cell? ⟨gb2, 2, none⟩ = some (.int .u32 a2) := hw 2
        have g3 : wr.cell? ⟨gb2, 3, none⟩ = some (.int .u32 a3) := hw 3
        have g4 : wr.cell? ⟨gb2, 4, none⟩ = some (.int .u32 a4) := hw 4
        have g5 : wr.cell? ⟨gb2, 5, none⟩ = some (.int .u32 a5) := hw 5
        have g6 : wr.cell? ⟨gb2, 6, none⟩ = some (.int .u32 a6) := hw 6
        have g7 : wr.cell? ⟨gb2, 7, none⟩ = some (.int .u32 a7) := hw 7
        have z0 : wr.cell? ⟨gb1, 0, none⟩ = some (.int .u32 0) := (blk_cell BK1.out 0).trans rfl
        have f0 := blk_frozen BK1.out 0
        have z1 : wr.cell? ⟨gb1, 1, none⟩ = some (.int .u32 0) := (blk_cell BK1.out 1).trans rfl
        have f1 := blk_frozen BK1.out 1
        have z2 : wr.cell? ⟨gb1, 2, none⟩ = some (.int .u32 0) := (blk_cell BK1.out 2).trans rfl
        have f2 := blk_frozen BK1.out 2
        have z3 : wr.cell? ⟨gb1, 3, none⟩ = some (.int .u32 0) := (blk_cell BK1.out 3).trans rfl
        have f3 := blk_frozen BK1.out 3
        have z4 : wr.cell? ⟨gb1, 4, none⟩ = some (.int .u32 0) := (blk_cell BK1.out 4).trans rfl
        have f4 := blk_frozen BK1.out 4
        have z5 : wr.cell? ⟨gb1, 5, none⟩ = some (.int .u32 0) := (blk_cell BK1.out 5).trans rfl
        have f5 := blk_frozen BK1.out 5
        have z6 : wr.cell? ⟨gb1, 6, none⟩ = some (.int .u32 0) := (blk_cell BK1.out 6).trans rfl
        have f6 := blk_frozen BK1.out 6
        have z7 : wr.cell? ⟨gb1, 7, none⟩ = some (.int .u32 0) := (blk_cell BK1.out 7).trans rfl
        have f7 := blk_frozen BK1.out 7
        clear hw
        go_wp2
        refine bodyPost_ret (results_cell_row rfl _ _ gb1 27 #[.int .u32 a0, .int .u32 a1, .int .u32 a2, .int .u32 a3, .int .u32 a4, .int .u32 a5, .int .u32 a6, .int .u32 a7] (0, 0) _ rfl (zkp BK1) Try.underlying27 rfl (by kernel_rfl)) rfl ?_
        exact ⟨rfl, zb HB⟩

end Go.Proofs.Ytpklekleehcglaa.PQ
