-- by a program of this claim
import Derived.Test.YtmpiifjckhcbmaaPQx0
import Derived.Test.YtmpiifjckhcbmaaPQx1
namespace Go.Proofs.Ytmpiifjckhcbmaa.PQ
open Go.RowKit Go.Proofs.YtmpiifjckhcbmaaW.PrintWords Go.Proofs.YtmpiifjckhcbmaaW.PrintLast Go.Proofs.YtmpiifjckhcbmaaW.PrintMore Go.Proofs.Ytmpiifjckhcbmaa.Z
attribute [local go_sem] max2_int min2_int max_two min_two max_three min_three max_four min_four   -- for this text's walks alone
set_option linter.unusedVariables false
set_option linter.unusedSimpArgs false

/-! ### header_read: function 64 -/
def header_read.l0 : Nat → List Int → List Int → Int → Option (Int × Int × Int × Int × Int × Int × Int × Int)
  | 0, _, _, _ => none
  | k + 1, x0, x3, x5 => if x5 < 8 then ((word_Be.f k x0 (wrap64 (4 + (wrap64 (4 * x5)))) 4).bind fun bt110 => (header_read.l0 k x0 (x3.set (x5 : Int).toNat bt110.1) (wrap64 (x5 + 1)))) else some (rd x3 0, rd x3 1, rd x3 2, rd x3 3, rd x3 4, rd x3 5, rd x3 6, rd x3 7)
def header_read.f (k : Nat) (l0 : List Int) : Option (Int × Int × Int × Int × Int × Int × Int × Int) := header_read.l0 k l0 (([0, 0, 0, 0, 0, 0, 0, 0] : List Int)) 0
theorem header_read.mono_l : ∀ k, (∀ y0 y1 y2, LeO (header_read.l0 k y0 y1 y2) (header_read.l0 (k + 1) y0 y1 y2))
  | 0 => fun _ _ _ r h => by simp [header_read.l0] at h
  | k + 1 => by
    have ih0 := header_read.mono_l k
    · intro y0 y1 y2
      unfold header_read.l0
      repeat' first
      | (with_reducible exact ih0 _ _ _)
      | (with_reducible exact word_Be.mono _ _ _ _)
      | (with_reducible exact LeO.refl _)
      | (with_reducible refine LeO.ite ?_ ?_)
      | (with_reducible refine LeO.bind ?_ (fun _ => ?_))
theorem header_read.mono : ∀ a0 k, LeO (header_read.f k a0) (header_read.f (k + 1) a0) := fun a0 k => header_read.mono_l k _ _ _
theorem rd_at (xs : List Int) (i : Int) (h0 : 0 ≤ i) (h1 : i < (xs.length : Int)) : (xs.map (Value.int .u32)).toArray[i.toNat]? = some (.int .u32 (rd xs i)) := by
  have hl : i.toNat < xs.length := by omega
  simp [rd, hl, List.getD_eq_getElem?_getD]
theorem eight (xs : List Int) (h : xs.length = 8) : xs = [rd xs 0, rd xs 1, rd xs 2, rd xs 3, rd xs 4, rd xs 5, rd xs 6, rd xs 7] := by
  match xs, h with
  | [_, _, _, _, _, _, _, _], _ => rfl
set_option maxHeartbeats 8000000 in
set_option maxRecDepth 100000 in
theorem header_read.calls (k : Nat) (A0 : Option Addr) (c0 : Nat) (l0 : List Int) (r1 : Int) (r2 : Int) (r3 : Int) (r4 : Int) (r5 : Int) (r6 : Int) (r7 : Int) (r8 : Int) (w : World) (hr0 : Kd.C (Kd.int .u8) w A0 l0.length l0) (hc0 : l0.length ≤ c0) (h : header_read.f k l0 = some (r1, r2, r3, r4, r5, r6, r7, r8)) :
    Calls Try.prog 64 #[.slice A0 l0.length c0] w fun e w' => e = .returned (.agg #[.int .u32 r1, .int .u32 r2, .int .u32 r3, .int .u32 r4, .int .u32 r5, .int .u32 r6, .int .u32 r7, .int .u32 r8]) ∧ Below w.heap.size w w' := by
  have hu27 := Try.underlying66
  have HR0 := Aside0.mk hr0
  have HC0 := Aside0.mk hc0
  clear hr0 hc0
  have HB := Aside0.mk (Below.refl w.heap.size w)
  have H' := Aside0.mk h
  clear h
  go_enter Try.func64, Try.ntmps64
  go_wp2_with (first | ((with_reducible refine gate_dst (N := 2) rfl ?_); refine zbox (N := 2) (cs := #[.int .u32 0, .int .u32 0, .int .u32 0, .int .u32 0, .int .u32 0, .int .u32 0, .int .u32 0, .int .u32 0]) (t := 66) ?_; intro gb1 hg w2 hbox hb; have BK1 := Aside0.mk hbox; have GE1 := zge hg HB; replace HB := zbs HB hb; clear hb hbox hg) | ((with_reducible refine gate_dst (N := 3) rfl ?_); refine zbox (N := 3) (cs := #[.int .u32 0, .int .u32 0, .int .u32 0, .int .u32 0, .int .u32 0, .int .u32 0, .int .u32 0, .int .u32 0]) (t := 129) ?_; intro gb2 hg w3 hbox hb; have BK2 : Aside0 (w3.heap[gb2]? = some (.cells (([0, 0, 0, 0, 0, 0, 0, 0] : List Int).map (Value.int .u32)).toArray 129 (0, 0))) := ⟨hbox⟩; have GE2 := zge hg HB; replace BK1 : Aside0 (w3.heap[gb1]? = some _) := ⟨blk_below BK1.out hb⟩; replace HB := zbs HB hb; clear hb hbox hg))
  have HN : Aside0 (gb1 ≠ gb2) := ⟨fun e => by have h1 := BK1.out; have h2 := BK2.out; rw [e, h2] at h1; simp at h1⟩
  go_loopg [5] k (fun kq v5 w' => ∃ (x3_1 : List Int) (x5_1 : Int), v5 = .int .i64 x5_1 ∧ Aside0 (header_read.l0 kq l0 x3_1 x5_1 = some (r1, r2, r3, r4, r5, r6, r7, r8)) ∧ Aside0 (kq ≤ k) ∧ Aside0 (0 ≤ x5_1 ∧ x3_1.length = 8) ∧ Aside0 (w'.heap[gb2]? = some (.cells (x3_1.map (Value.int .u32)).toArray 129 (0, 0))) ∧ Aside0 (w'.heap[gb1]? = some (.cells #[.int .u32 0, .int .u32 0, .int .u32 0, .int .u32 0, .int .u32 0, .int .u32 0, .int .u32 0, .int .u32 0] 66 (0, 0))) ∧ Aside0 (Below w.heap.size w w'))
  case atStart => exact ⟨[0, 0, 0, 0, 0, 0, 0, 0], 0, rfl, H', ⟨Nat.le_refl _⟩, ⟨by decide, rfl⟩, ⟨zkp BK2⟩, ⟨zkp BK1⟩, ⟨zb HB⟩⟩
  case round =>
    clear H'
    obtain ⟨x3_1, x5_1, rfl, HA, HK1, HL, BK2, BK1, HB⟩ := hrel
    cases gk with
    | zero => exact absurd HA.out (by simp [header_read.l0])
    | succ k1 =>
      have H := HA.out
      clear HA
      simp only [header_read.l0] at H
      by_cases c5 : x5_1 < 8
      · rw [if_pos c5] at H
        have c5b0 : decide (x5_1 < 8) = true := decide_eq_true c5
        replace H := Option.bind_eq_some_iff.mp H
        obtain ⟨⟨t110, t111⟩, A60, H⟩ := H
        have A6 := Aside0.mk A60
        have H' := Aside0.mk H
        have hlt : x5_1.toNat < x3_1.length := by have := HL.out; omega
        have hcell := rd_at x3_1 x5_1 HL.out.1 (by have := HL.out; omega)
        have c6b0 : decide (0 ≤ x5_1) = true := decide_eq_true HL.out.1
        have hnext : wrap64 (x5_1 + 1) = x5_1 + 1 := by have := HL.out.1; unfold wrap64; omega
        have Hc := Aside0.mk hcell
        have Hn := Aside0.mk hnext
        clear A60 H hcell hnext hlt c5
        go_wp2_with (first | ((with_reducible refine gate_callee (f := 32) rfl ?_); refine zgo (some 14) Try.func32 #[.slice A0 l0.length c0, .int .i64 (wrap64 (4 + (wrap64 (4 * x5_1)))), .int .i64 4] ?_; (with_reducible refine (word_Be.calls k1 _ _ l0 (wrap64 (4 + (wrap64 (4 * x5_1)))) 4 t110 t111 _ ?side1 ?side2 A6.out).mono ?_); (case side1 => repeat (first | exact (Kd.C_below HR0.out HB.out) | (with_reducible refine Kd.C_alloc ?_ _) | (with_reducible refine Kd.C_drewN ?_ _) | (with_reducible refine Kd.C_drew ?_))); (case side2 => exact HC0.out); rintro e w' ⟨rfl, ⟨nd, rfl⟩⟩; refine ⟨_, rfl, ?_⟩; have p1 := eq_true (of_decide_eq_true c6b0); have p2 := eq_true (of_decide_eq_true c5b0); have hz1 : wr.cell? ⟨gb2, x5_1.toNat, none⟩ = some (.int .u32 (rd x3_1 x5_1)) := (blk_cell BK2.out _).trans Hc.out; have hz2 := blk_frozen BK2.out x5_1.toNat))
        go_roundg k1
        case measure => have := HK1.out; omega
        case rel => exact ⟨x3_1.set x5_1.toNat t110, wrap64 (x5_1 + 1), rfl, H', ⟨by have := HK1.out; omega⟩, ⟨by rw [Hn.out]; have := HL.out.1; omega, by rw [List.length_set]; exact HL.out.2⟩, ⟨by refine blk_put (blk_drewN BK2.out _) _ _ ?_; rw [List.map_set]; simp⟩, ⟨(blk_far (blk_drewN BK1.out _) (HN.out) _)⟩, ⟨below_set (pw_below_drewN HB.out _) GE2.out⟩⟩
      · rw [if_neg c5] at H
        have c5b0 : decide (x5_1 < 8) = false := decide_eq_false c5
        have hL := HL.out.2
        have he := eight x3_1 hL
        simp only [Option.some.injEq, Prod.mk.injEq] at H
        obtain ⟨rfl, rfl, rfl, rfl, rfl, rfl, rfl, rfl⟩ := H
        generalize rd x3_1 0 = a0 at he ⊢
        generalize rd x3_1 1 = a1 at he ⊢
        generalize rd x3_1 2 = a2 at he ⊢
        generalize rd x3_1 3 = a3 at he ⊢
        generalize rd x3_1 4 = a4 at he ⊢
        generalize rd x3_1 5 = a5 at he ⊢
        generalize rd x3_1 6 = a6 at he ⊢
        generalize rd x3_1 7 = a7 at he ⊢
        subst he
        have hw : ∀ i, wr.cell? ⟨gb2, i, none⟩ = ([a0, a1, a2, a3, a4, a5, a6, a7].map (Value.int .u32)).toArray[i]? := fun i => blk_cell BK2.out i
        have g0 : wr.cell? ⟨gb2, 0, none⟩ = some (.int .u32 a0) := hw 0
        have g1 : wr.cell? ⟨gb2, 1, none⟩ = some (.int .u32 a1) := hw 1
        have g2 : wr.cell? ⟨gb2, 2, none⟩ = some (.int .u32 a2) := hw 2
        have g3 : wr.cell? ⟨gb2, 3, none⟩ = some (.int .u32 a3) := hw 3
        have g4 : wr.cell? ⟨gb2, 4, none⟩ = some (.int .u32 a4) := hw 4
        have g5 : wr.cell? ⟨gb2, 5, none⟩ = some (.int .u32 a5) := hw 5
        have g6 : wr.cell? ⟨gb2, 6, none⟩ = some (.int .u32 a6) := hw 6
        have g7 : wr.cell? ⟨gb2, 7, none⟩ = some (.int .u32 a7) := hw 7
        have z0 : wr.cell? ⟨gb1, 0, none⟩ = some (.int .u32 0) := (blk_cell BK1.out 0).trans rfl
        have f0 := blk_frozen BK1.out 0
        have z1 : wr.cell? ⟨gb1, 1, none⟩ = some (.int .u32 0) := (blk_cell BK1.out 1).trans rfl
        have f1 := blk_frozen BK1.out 1
        have z2 : wr.cell? ⟨gb1, 2, none⟩ = some (.int .u32 0) := (blk_cell BK1.out 2).trans rfl
        have f2 := blk_frozen BK1.out 2
        have z3 : wr.cell? ⟨gb1, 3, none⟩ = some (.int .u32 0) := (blk_cell BK1.out 3).trans rfl
        have f3 := blk_frozen BK1.out 3
        have z4 : wr.cell? ⟨gb1, 4, none⟩ = some (.int .u32 0) := (blk_cell BK1.out 4).trans rfl
        have f4 := blk_frozen BK1.out 4
        have z5 : wr.cell? ⟨gb1, 5, none⟩ = some (.int .u32 0) := (blk_cell BK1.out 5).trans rfl
        have f5 := blk_frozen BK1.out 5
        have z6 : wr.cell? ⟨gb1, 6, none⟩ = some (.int .u32 0) := (blk_cell BK1.out 6).trans rfl
        have f6 := blk_frozen BK1.out 6
        have z7 : wr.cell? ⟨gb1, 7, none⟩ = some (.int .u32 0) := (blk_cell BK1.out 7).trans rfl
        have f7 := blk_frozen BK1.out 7
        clear hw
        go_wp2
        refine bodyPost_ret (results_cell_row rfl _ _ gb1 66 #[.int .u32 a0, .int .u32 a1, .int .u32 a2, .int .u32 a3, .int .u32 a4, .int .u32 a5, .int .u32 a6, .int .u32 a7] (0, 0) _ rfl (zkp BK1) Try.underlying66 rfl (by kernel_rfl)) rfl ?_
        exact ⟨rfl, zb HB⟩
/-! ### header_Parse: function 45 -/
theorem cells8 {w : World} {g t : Nat} {a0 a1 a2 a3 a4 a5 a6 a7 : Value} (h : w.heap[g]? = some (.cells #[a0, a1, a2, a3, a4, a5, a6, a7] t (0, 0))) : w.cell? ⟨g, 0, none⟩ = some a0 ∧ w.cell? ⟨g, 1, none⟩ = some a1 ∧ w.cell? ⟨g, 2, none⟩ = some a2 ∧ w.cell? ⟨g, 3, none⟩ = some a3 ∧ w.cell? ⟨g, 4, none⟩ = some a4 ∧ w.cell? ⟨g, 5, none⟩ = some a5 ∧ w.cell? ⟨g, 6, none⟩ = some a6 ∧ w.cell? ⟨g, 7, none⟩ = some a7 ∧ w.frozen? ⟨g, 0, none⟩ = false ∧ w.frozen? ⟨g, 1, none⟩ = false ∧ w.frozen? ⟨g, 2, none⟩ = false ∧ w.frozen? ⟨g, 3, none⟩ = false ∧ w.frozen? ⟨g, 4, none⟩ = false ∧ w.frozen? ⟨g, 5, none⟩ = false ∧ w.frozen? ⟨g, 6, none⟩ = false ∧ w.frozen? ⟨g, 7, none⟩ = false :=
  ⟨(blk_cell h 0).trans rfl, (blk_cell h 1).trans rfl, (blk_cell h 2).trans rfl, (blk_cell h 3).trans rfl, (blk_cell h 4).trans rfl, (blk_cell h 5).trans rfl, (blk_cell h 6).trans rfl, (blk_cell h 7).trans rfl, blk_frozen h 0, blk_frozen h 1, blk_frozen h 2, blk_frozen h 3, blk_frozen h 4, blk_frozen h 5, blk_frozen h 6, blk_frozen h 7⟩
theorem wp_gen {P : Program} {c : Code} {Q : Exit → Act → World → Prop} {a : Act} {w W : World} {g g' : Nat} {o o' : Obj} (h1 : W.heap[g]? = some o) (h2 : W.heap[g']? = some o') (h3 : Below w.heap.size w W) (h : ∀ wc : World, wc.heap[g]? = some o → wc.heap[g']? = some o' → Below w.heap.size w wc → c.wp P Q a wc) : c.wp P Q a W := h W h1 h2 h3
theorem conv_ {P : Program} {ops : Array Oper} {Q : Exit → Act → World → Prop} {oi : Oper} {N : Option Tmp} {a : Act} {w : World} {K : Act → World → Prop} {s d : TypeId} {x : Operand} {u v : Value} (hw : Region.wanted oi (yielded ops a.tmps) = true) (hN : oi.dst = N) (hop : oi.op = .convert s d x) (hx : a.eval x = u) (hr : (convert s d u).run P w = .ok v w) (h : K (a.put N v) w) : if Region.wanted oi (yielded ops a.tmps) = true then Oper.wp P oi a w K Q else K (a.put N undef) w := by
  rw [if_pos hw]
  subst hN
  unfold Oper.wp execOp
  simp only [hop, hx, Sem.run_bind, Sem.run_pure, hr, Result.andThen_ok]
  exact h
def header_Parse.tail (k : Nat) (x0 : List Int) (t123 t124 t125 t126 t127 t128 t129 t130 : Int) : Option (Int × Int × Int × Int × Int × Int × Int × Int × Int × Int) := (if t123 < 131072 then some (0, 0, 0, 0, 0, 0, 0, 0, 70, 4) else (if t123 > 197119 then some (0, 0, 0, 0, 0, 0, 0, 0, 70, 4) else (if t124 < 256 then some (0, 0, 0, 0, 0, 0, 0, 0, 71, 8) else (if ¬ (Int.tmod t124 256 = 0) then some (0, 0, 0, 0, 0, 0, 0, 0, 71, 8) else (if t125 < t124 then some (0, 0, 0, 0, 0, 0, 0, 0, 71, 12) else (if ¬ (t125 = ((x0.length : Int) % 4294967296)) then some (0, 0, 0, 0, 0, 0, 0, 0, 71, 12) else (if ¬ (Int.tmod t125 256 = 0) then some (0, 0, 0, 0, 0, 0, 0, 0, 71, 12) else (if t126 < t125 then some (0, 0, 0, 0, 0, 0, 0, 0, 71, 16) else (if t126 > 1048576 then some (0, 0, 0, 0, 0, 0, 0, 0, 71, 16) else (if ¬ (Int.tmod t126 256 = 0) then some (0, 0, 0, 0, 0, 0, 0, 0, 71, 16) else (if t127 = 0 then some (0, 0, 0, 0, 0, 0, 0, 0, 72, 20) else (if t127 > 65536 then some (0, 0, 0, 0, 0, 0, 0, 0, 72, 20) else (if ¬ (Int.tmod t127 256 = 0) then some (0, 0, 0, 0, 0, 0, 0, 0, 72, 20) else (if t128 < 36 then some (0, 0, 0, 0, 0, 0, 0, 0, 71, 24) else (if t128 ≥ t126 then some (0, 0, 0, 0, 0, 0, 0, 0, 71, 24) else (if t129 ≥ t126 then some (0, 0, 0, 0, 0, 0, 0, 0, 71, 28) else ((header_Sum.f k x0).bind fun t136 => (if t130 = t136 then some (t123, t124, t125, t126, t127, t128, t129, t130, 0, 36) else some (0, 0, 0, 0, 0, 0, 0, 0, 73, 32)))))))))))))))))))
def header_Parse.f (k : Nat) (l0 : List Int) : Option (Int × Int × Int × Int × Int × Int × Int × Int × Int × Int) := if (l0.length : Int) > 1048576 then (some (0, 0, 0, 0, 0, 0, 0, 0, 3, 0)) else (if 0 ≤ (mn (l0.length : Int) 4) then (if (mn (l0.length : Int) 4) ≤ (l0.length : Int) then (if (mn (l0.length : Int) 4) ≤ 4 then (if (strOfNums (l0.take ((mn (l0.length : Int) 4) : Int).toNat)).toList = ((⟨#[71, 108, 117, 108]⟩ : ByteArray).extract 0 ((mn (l0.length : Int) 4) : Int).toNat).toList then (if (l0.length : Int) < 36 then (some (0, 0, 0, 0, 0, 0, 0, 0, 2, (l0.length : Int))) else ((header_read.f k l0).bind fun bt123 => (header_Parse.tail k l0 bt123.1 bt123.2.1 bt123.2.2.1 bt123.2.2.2.1 bt123.2.2.2.2.1 bt123.2.2.2.2.2.1 bt123.2.2.2.2.2.2.1 bt123.2.2.2.2.2.2.2))) else (some (0, 0, 0, 0, 0, 0, 0, 0, 63, 0))) else (none)) else (none)) else (none))
theorem header_Parse.mono_t (k : Nat) (x0 : List Int) (t123 t124 t125 t126 t127 t128 t129 t130 : Int) : LeO (header_Parse.tail k x0 t123 t124 t125 t126 t127 t128 t129 t130) (header_Parse.tail (k + 1) x0 t123 t124 t125 t126 t127 t128 t129 t130) := by
  unfold header_Parse.tail
  repeat' first
  | (with_reducible exact header_Sum.mono _ _)
  | (with_reducible exact LeO.refl _)
  | (with_reducible refine LeO.ite ?_ ?_)
  | (with_reducible refine LeO.bind ?_ (fun _ => ?_))
theorem header_Parse.mono : ∀ a0 k, LeO (header_Parse.f k a0) (header_Parse.f (k + 1) a0) := by
  intro a0 k
  unfold header_Parse.f
  repeat' first
  | (with_reducible exact header_Parse.mono_t _ _ _ _ _ _ _ _ _ _)
  | (with_reducible exact header_read.mono _ _)
  | (with_reducible exact LeO.refl _)
  | (with_reducible exact LeO.none _)
  | (with_reducible refine LeO.ite ?_ ?_)
  | (with_reducible refine LeO.bind ?_ (fun _ => ?_))
set_option maxHeartbeats 80000000 in
set_option maxRecDepth 100000 in
theorem header_Parse.calls (k : Nat) (A0 : Option Addr) (c0 : Nat) (l0 : List Int) (r1 : Int) (r2 : Int) (r3 : Int) (r4 : Int) (r5 : Int) (r6 : Int) (r7 : Int) (r8 : Int) (r9 : Int) (r10 : Int) (w : World) (hr0 : Kd.C (Kd.int .u8) w A0 l0.length l0) (hc0 : l0.length ≤ c0) (h : header_Parse.f k l0 = some (r1, r2, r3, r4, r5, r6, r7, r8, r9, r10)) :
    Calls Try.prog 45 #[.slice A0 l0.length c0] w fun e w' => e = .returned (.tuple #[.agg #[.int .u32 r1, .int .u32 r2, .int .u32 r3, .int .u32 r4, .int .u32 r5, .int .u32 r6, .int .u32 r7, .int .u32 r8], .int .i64 r9, .int .i64 r10]) ∧ Below w.heap.size w w' := by
  have hu27 := Try.underlying66
  have HR0 := Aside0.mk hr0
  have HC0 := Aside0.mk hc0
  clear hr0 hc0
  have HB := Aside0.mk (Below.refl w.heap.size w)
  have H : (if (l0.length : Int) > 1048576 then (some (0, 0, 0, 0, 0, 0, 0, 0, 3, 0)) else (if 0 ≤ (mn (l0.length : Int) 4) then (if (mn (l0.length : Int) 4) ≤ (l0.length : Int) then (if (mn (l0.length : Int) 4) ≤ 4 then (if (strOfNums (l0.take ((mn (l0.length : Int) 4) : Int).toNat)).toList = ((⟨#[71, 108, 117, 108]⟩ : ByteArray).extract 0 ((mn (l0.length : Int) 4) : Int).toNat).toList then (if (l0.length : Int) < 36 then (some (0, 0, 0, 0, 0, 0, 0, 0, 2, (l0.length : Int))) else ((header_read.f k l0).bind fun bt123 => (header_Parse.tail k l0 bt123.1 bt123.2.1 bt123.2.2.1 bt123.2.2.2.1 bt123.2.2.2.2.1 bt123.2.2.2.2.2.1 bt123.2.2.2.2.2.2.1 bt123.2.2.2.2.2.2.2))) else (some (0, 0, 0, 0, 0, 0, 0, 0, 63, 0))) else (none)) else (none)) else (none))) = some (r1, r2, r3, r4, r5, r6, r7, r8, r9, r10) := h
  clear h
  by_cases c2 : (l0.length : Int) > 1048576
  · rw [if_pos c2] at H
    have c2b0 : decide (1048576 < (l0.length : Int)) = true := decide_eq_true c2
    have c2b1 : decide (1048576 < l0.length) = true := decide_eq_true (by omega)
    clear c2
    simp only [Option.some.injEq, Prod.mk.injEq] at H
    obtain ⟨rfl, rfl, rfl, rfl, rfl, rfl, rfl, rfl, rfl, rfl⟩ := H
    go_enter Try.func45, Try.ntmps45
    go_wp2_with (first | ((with_reducible refine gate_dst (N := 2) rfl ?_); (try (refine gate_guard (by rfl) ?_; dsimp only)); refine zbox (N := 2) (cs := #[.int .u32 0, .int .u32 0, .int .u32 0, .int .u32 0, .int .u32 0, .int .u32 0, .int .u32 0, .int .u32 0]) (t := 66) ?_; intro gb121 hg w3 hbox hb; have BK121 := Aside0.mk hbox; have GW121 := zge hg HB; have GE121 := zge hg HB; replace HB := zbs HB hb; clear hb hbox hg; have hcz4_0 : w3.cell? ⟨gb121, 0, none⟩ = some (.int .u32 0) := (blk_cell BK121.out 0).trans rfl; have hcz4_1 : w3.cell? ⟨gb121, 1, none⟩ = some (.int .u32 0) := (blk_cell BK121.out 1).trans rfl; have hcz4_2 : w3.cell? ⟨gb121, 2, none⟩ = some (.int .u32 0) := (blk_cell BK121.out 2).trans rfl; have hcz4_3 : w3.cell? ⟨gb121, 3, none⟩ = some (.int .u32 0) := (blk_cell BK121.out 3).trans rfl; have hcz4_4 : w3.cell? ⟨gb121, 4, none⟩ = some (.int .u32 0) := (blk_cell BK121.out 4).trans rfl; have hcz4_5 : w3.cell? ⟨gb121, 5, none⟩ = some (.int .u32 0) := (blk_cell BK121.out 5).trans rfl; have hcz4_6 : w3.cell? ⟨gb121, 6, none⟩ = some (.int .u32 0) := (blk_cell BK121.out 6).trans rfl; have hcz4_7 : w3.cell? ⟨gb121, 7, none⟩ = some (.int .u32 0) := (blk_cell BK121.out 7).trans rfl; have hfz4_0 := blk_frozen BK121.out 0; have hfz4_1 := blk_frozen BK121.out 1; have hfz4_2 := blk_frozen BK121.out 2; have hfz4_3 := blk_frozen BK121.out 3; have hfz4_4 := blk_frozen BK121.out 4; have hfz4_5 := blk_frozen BK121.out 5; have hfz4_6 := blk_frozen BK121.out 6; have hfz4_7 := blk_frozen BK121.out 7))
    repeat (go_quiet (first | ((with_reducible refine gate_dst (N := 2) rfl ?_); (try (refine gate_guard (by rfl) ?_; dsimp only)); refine zbox (N := 2) (cs := #[.int .u32 0, .int .u32 0, .int .u32 0, .int .u32 0, .int .u32 0, .int .u32 0, .int .u32 0, .int .u32 0]) (t := 66) ?_; intro gb121 hg w3 hbox hb; have BK121 := Aside0.mk hbox; have GW121 := zge hg HB; have GE121 := zge hg HB; replace HB := zbs HB hb; clear hb hbox hg; have hcz4_0 : w3.cell? ⟨gb121, 0, none⟩ = some (.int .u32 0) := (blk_cell BK121.out 0).trans rfl; have hcz4_1 : w3.cell? ⟨gb121, 1, none⟩ = some (.int .u32 0) := (blk_cell BK121.out 1).trans rfl; have hcz4_2 : w3.cell? ⟨gb121, 2, none⟩ = some (.int .u32 0) := (blk_cell BK121.out 2).trans rfl; have hcz4_3 : w3.cell? ⟨gb121, 3, none⟩ = some (.int .u32 0) := (blk_cell BK121.out 3).trans rfl; have hcz4_4 : w3.cell? ⟨gb121, 4, none⟩ = some (.int .u32 0) := (blk_cell BK121.out 4).trans rfl; have hcz4_5 : w3.cell? ⟨gb121, 5, none⟩ = some (.int .u32 0) := (blk_cell BK121.out 5).trans rfl; have hcz4_6 : w3.cell? ⟨gb121, 6, none⟩ = some (.int .u32 0) := (blk_cell BK121.out 6).trans rfl; have hcz4_7 : w3.cell? ⟨gb121, 7, none⟩ = some (.int .u32 0) := (blk_cell BK121.out 7).trans rfl; have hfz4_0 := blk_frozen BK121.out 0; have hfz4_1 := blk_frozen BK121.out 1; have hfz4_2 := blk_frozen BK121.out 2; have hfz4_3 := blk_frozen BK121.out 3; have hfz4_4 := blk_frozen BK121.out 4; have hfz4_5 := blk_frozen BK121.out 5; have hfz4_6 := blk_frozen BK121.out 6; have hfz4_7 := blk_frozen BK121.out 7)); try go_wp2_with (first | ((with_reducible refine gate_dst (N := 2) rfl ?_); (try (refine gate_guard (by rfl) ?_; dsimp only)); refine zbox (N := 2) (cs := #[.int .u32 0, .int .u32 0, .int .u32 0, .int .u32 0, .int .u32 0, .int .u32 0, .int .u32 0, .int .u32 0]) (t := 66) ?_; intro gb121 hg w3 hbox hb; have BK121 := Aside0.mk hbox; have GW121 := zge hg HB; have GE121 := zge hg HB; replace HB := zbs HB hb; clear hb hbox hg; have hcz4_0 : w3.cell? ⟨gb121, 0, none⟩ = some (.int .u32 0) := (blk_cell BK121.out 0).trans rfl; have hcz4_1 : w3.cell? ⟨gb121, 1, none⟩ = some (.int .u32 0) := (blk_cell BK121.out 1).trans rfl; have hcz4_2 : w3.cell? ⟨gb121, 2, none⟩ = some (.int .u32 0) := (blk_cell BK121.out 2).trans rfl; have hcz4_3 : w3.cell? ⟨gb121, 3, none⟩ = some (.int .u32 0) := (blk_cell BK121.out 3).trans rfl; have hcz4_4 : w3.cell? ⟨gb121, 4, none⟩ = some (.int .u32 0) := (blk_cell BK121.out 4).trans rfl; have hcz4_5 : w3.cell? ⟨gb121, 5, none⟩ = some (.int .u32 0) := (blk_cell BK121.out 5).trans rfl; have hcz4_6 : w3.cell? ⟨gb121, 6, none⟩ = some (.int .u32 0) := (blk_cell BK121.out 6).trans rfl; have hcz4_7 : w3.cell? ⟨gb121, 7, none⟩ = some (.int .u32 0) := (blk_cell BK121.out 7).trans rfl; have hfz4_0 := blk_frozen BK121.out 0; have hfz4_1 := blk_frozen BK121.out 1; have hfz4_2 := blk_frozen BK121.out 2; have hfz4_3 := blk_frozen BK121.out 3; have hfz4_4 := blk_frozen BK121.out 4; have hfz4_5 := blk_frozen BK121.out 5; have hfz4_6 := blk_frozen BK121.out 6; have hfz4_7 := blk_frozen BK121.out 7)))
    refine bodyPost_ret (results_ctt rfl _ _ gb121 66 #[.int .u32 0, .int .u32 0, .int .u32 0, .int .u32 0, .int .u32 0, .int .u32 0, .int .u32 0, .int .u32 0] (0, 0) _ rfl (zkp BK121) Try.underlying66 rfl (by kernel_rfl)) rfl ?_
    exact ⟨by first | rfl | (simp [errW_none, errW_some] <;> rfl) | (simp [*, errW_none, errW_some] <;> rfl), zb HB⟩
  · rw [if_neg c2] at H
    have c2b0 : decide (1048576 < (l0.length : Int)) = false := decide_eq_false c2
    have c2b1 : decide (1048576 < l0.length) = false := decide_eq_false (by omega)
    clear c2
    obtain ⟨ji5, hji5⟩ : ∃ j_ : Int, (mn (l0.length : Int) 4) = j_ := ⟨_, rfl⟩
    replace H : (if 0 ≤ (ji5) then (if (ji5) ≤ (l0.length : Int) then (if (ji5) ≤ 4 then (if (strOfNums (l0.take ((ji5) : Int).toNat)).toList = ((⟨#[71, 108, 117, 108]⟩ : ByteArray).extract 0 ((ji5) : Int).toNat).toList then (if (l0.length : Int) < 36 then (some (0, 0, 0, 0, 0, 0, 0, 0, 2, (l0.length : Int))) else ((header_read.f k l0).bind fun bt123 => (header_Parse.tail k l0 bt123.1 bt123.2.1 bt123.2.2.1 bt123.2.2.2.1 bt123.2.2.2.2.1 bt123.2.2.2.2.2.1 bt123.2.2.2.2.2.2.1 bt123.2.2.2.2.2.2.2))) else (some (0, 0, 0, 0, 0, 0, 0, 0, 63, 0))) else (none)) else (none)) else (none)) = some (r1, r2, r3, r4, r5, r6, r7, r8, r9, r10) := by first | (rw [hji5] at H; exact H) | (simp only [hji5] at H ⊢; exact H)
    (try (have hji5h : ji5 ≤ 4 := by (rw [← hji5]; unfold mn; (repeat' split) <;> omega)))
    (try (have hji5g : ji5 ≤ 64 := by omega))
    (try (have hji5l : 0 ≤ ji5 := by (rw [← hji5]; unfold mn; (repeat' split) <;> omega)))
    (try (have hji5m : 0 ≤ ji5 := by omega))
    have hji5_ : (if 4 < (l0.length : Int) then 4 else (l0.length : Int)) = ji5 := hji5
    by_cases c6 : 0 ≤ (ji5)
    · rw [if_pos c6] at H
      have c6b0 := eq_true c6
      have c6b1 : decide (0 ≤ (ji5)) = true := decide_eq_true c6
      clear c6
      by_cases c7 : (ji5) ≤ (l0.length : Int)
      · rw [if_pos c7] at H
        have c7b0 := eq_true c7
        have c7b1 : decide ((ji5) ≤ (l0.length : Int)) = true := decide_eq_true c7
        clear c7
        have c8b0 := eq_true (of_decide_eq_true (by first | (with_reducible assumption) | assumption) : 0 ≤ (ji5))
        by_cases c9 : (ji5) ≤ 4
        · rw [if_pos c9] at H
          have c9b0 := eq_true c9
          have c9b1 : decide ((ji5) ≤ 4) = true := decide_eq_true c9
          clear c9
          by_cases c10 : (strOfNums (l0.take ((ji5) : Int).toNat)).toList = ((⟨#[71, 108, 117, 108]⟩ : ByteArray).extract 0 ((ji5) : Int).toNat).toList
          · rw [if_pos c10] at H
            have c10b0 : ((strOfNums (l0.take ((ji5) : Int).toNat)).toList == ((⟨#[71, 108, 117, 108]⟩ : ByteArray).extract 0 ((ji5) : Int).toNat).toList) = true := beq_iff_eq.mpr c10
            have c10b1 : ((strOfNums (l0.take ((ji5) : Int).toNat)).toList != ((⟨#[71, 108, 117, 108]⟩ : ByteArray).extract 0 ((ji5) : Int).toNat).toList) = false := bne_eq_false_iff_eq.mpr c10
            clear c10
            by_cases c11 : (l0.length : Int) < 36
            · rw [if_pos c11] at H
              have c11b0 : decide ((l0.length : Int) < 36) = true := decide_eq_true c11
              have c11b1 : decide (l0.length < 36) = true := decide_eq_true (by omega)
              clear c11
              simp only [Option.some.injEq, Prod.mk.injEq] at H
              obtain ⟨rfl, rfl, rfl, rfl, rfl, rfl, rfl, rfl, rfl, rfl⟩ := H
              go_enter Try.func45, Try.ntmps45
              go_wp2_with (first | ((with_reducible refine gate_dst (N := 2) rfl ?_); (try (refine gate_guard (by rfl) ?_; dsimp only)); refine zbox (N := 2) (cs := #[.int .u32 0, .int .u32 0, .int .u32 0, .int .u32 0, .int .u32 0, .int .u32 0, .int .u32 0, .int .u32 0]) (t := 66) ?_; intro gb121 hg w12 hbox hb; have BK121 := Aside0.mk hbox; have GW121 := zge hg HB; have GE121 := zge hg HB; replace HB := zbs HB hb; clear hb hbox hg; obtain ⟨i013, hi013, _, hsz13, _⟩ := info_parts info5; obtain ⟨hcut13, hA13, hC13⟩ := print_take_of (P := Try.prog) (Value.int .u8) 0 41 5 .i64 Try.underlying41 hi013 hsz13 A0 c0 l0 (ji5) (of_decide_eq_true (by first | (with_reducible assumption) | assumption)) (of_decide_eq_true (by first | (with_reducible assumption) | assumption)) HC0.out; have HR122 := Aside0.mk (Kd.C_of_reads (h1 := fun _ => rfl) (hA13 _ (Kd.reads_of_C HR0.out))); have HC122 := Aside0.mk hC13; clear hA13 hC13 hi013 hsz13; generalize (l0.take ((ji5) : Int).toNat) = sl_ at *; have hcv14 := Kd.C_string (P := Try.prog) (A := A0) (c := c0) Try.underlying41 Try.underlying5 Try.underlying9 (Kd.C_below HR122.out HB.out); have hcz15_0 : w12.cell? ⟨gb121, 0, none⟩ = some (.int .u32 0) := (blk_cell BK121.out 0).trans rfl; have hcz15_1 : w12.cell? ⟨gb121, 1, none⟩ = some (.int .u32 0) := (blk_cell BK121.out 1).trans rfl; have hcz15_2 : w12.cell? ⟨gb121, 2, none⟩ = some (.int .u32 0) := (blk_cell BK121.out 2).trans rfl; have hcz15_3 : w12.cell? ⟨gb121, 3, none⟩ = some (.int .u32 0) := (blk_cell BK121.out 3).trans rfl; have hcz15_4 : w12.cell? ⟨gb121, 4, none⟩ = some (.int .u32 0) := (blk_cell BK121.out 4).trans rfl; have hcz15_5 : w12.cell? ⟨gb121, 5, none⟩ = some (.int .u32 0) := (blk_cell BK121.out 5).trans rfl; have hcz15_6 : w12.cell? ⟨gb121, 6, none⟩ = some (.int .u32 0) := (blk_cell BK121.out 6).trans rfl; have hcz15_7 : w12.cell? ⟨gb121, 7, none⟩ = some (.int .u32 0) := (blk_cell BK121.out 7).trans rfl; have hfz15_0 := blk_frozen BK121.out 0; have hfz15_1 := blk_frozen BK121.out 1; have hfz15_2 := blk_frozen BK121.out 2; have hfz15_3 := blk_frozen BK121.out 3; have hfz15_4 := blk_frozen BK121.out 4; have hfz15_5 := blk_frozen BK121.out 5; have hfz15_6 := blk_frozen BK121.out 6; have hfz15_7 := blk_frozen BK121.out 7))
              repeat (go_quiet (first | ((with_reducible refine gate_dst (N := 2) rfl ?_); (try (refine gate_guard (by rfl) ?_; dsimp only)); refine zbox (N := 2) (cs := #[.int .u32 0, .int .u32 0, .int .u32 0, .int .u32 0, .int .u32 0, .int .u32 0, .int .u32 0, .int .u32 0]) (t := 66) ?_; intro gb121 hg w12 hbox hb; have BK121 := Aside0.mk hbox; have GW121 := zge hg HB; have GE121 := zge hg HB; replace HB := zbs HB hb; clear hb hbox hg; obtain ⟨i013, hi013, _, hsz13, _⟩ := info_parts info5; obtain ⟨hcut13, hA13, hC13⟩ := print_take_of (P := Try.prog) (Value.int .u8) 0 41 5 .i64 Try.underlying41 hi013 hsz13 A0 c0 l0 (ji5) (of_decide_eq_true (by first | (with_reducible assumption) | assumption)) (of_decide_eq_true (by first | (with_reducible assumption) | assumption)) HC0.out; have HR122 := Aside0.mk (Kd.C_of_reads (h1 := fun _ => rfl) (hA13 _ (Kd.reads_of_C HR0.out))); have HC122 := Aside0.mk hC13; clear hA13 hC13 hi013 hsz13; generalize (l0.take ((ji5) : Int).toNat) = sl_ at *; have hcv14 := Kd.C_string (P := Try.prog) (A := A0) (c := c0) Try.underlying41 Try.underlying5 Try.underlying9 (Kd.C_below HR122.out HB.out); have hcz15_0 : w12.cell? ⟨gb121, 0, none⟩ = some (.int .u32 0) := (blk_cell BK121.out 0).trans rfl; have hcz15_1 : w12.cell? ⟨gb121, 1, none⟩ = some (.int .u32 0) := (blk_cell BK121.out 1).trans rfl; have hcz15_2 : w12.cell? ⟨gb121, 2, none⟩ = some (.int .u32 0) := (blk_cell BK121.out 2).trans rfl; have hcz15_3 : w12.cell? ⟨gb121, 3, none⟩ = some (.int .u32 0) := (blk_cell BK121.out 3).trans rfl; have hcz15_4 : w12.cell? ⟨gb121, 4, none⟩ = some (.int .u32 0) := (blk_cell BK121.out 4).trans rfl; have hcz15_5 : w12.cell? ⟨gb121, 5, none⟩ = some (.int .u32 0) := (blk_cell BK121.out 5).trans rfl; have hcz15_6 : w12.cell? ⟨gb121, 6, none⟩ = some (.int .u32 0) := (blk_cell BK121.out 6).trans rfl; have hcz15_7 : w12.cell? ⟨gb121, 7, none⟩ = some (.int .u32 0) := (blk_cell BK121.out 7).trans rfl; have hfz15_0 := blk_frozen BK121.out 0; have hfz15_1 := blk_frozen BK121.out 1; have hfz15_2 := blk_frozen BK121.out 2; have hfz15_3 := blk_frozen BK121.out 3; have hfz15_4 := blk_frozen BK121.out 4; have hfz15_5 := blk_frozen BK121.out 5; have hfz15_6 := blk_frozen BK121.out 6; have hfz15_7 := blk_frozen BK121.out 7)); try go_wp2_with (first | ((with_reducible refine gate_dst (N := 2) rfl ?_); (try (refine gate_guard (by rfl) ?_; dsimp only)); refine zbox (N := 2) (cs := #[.int .u32 0, .int .u32 0, .int .u32 0, .int .u32 0, .int .u32 0, .int .u32 0, .int .u32 0, .int .u32 0]) (t := 66) ?_; intro gb121 hg w12 hbox hb; have BK121 := Aside0.mk hbox; have GW121 := zge hg HB; have GE121 := zge hg HB; replace HB := zbs HB hb; clear hb hbox hg; obtain ⟨i013, hi013, _, hsz13, _⟩ := info_parts info5; obtain ⟨hcut13, hA13, hC13⟩ := print_take_of (P := Try.prog) (Value.int .u8) 0 41 5 .i64 Try.underlying41 hi013 hsz13 A0 c0 l0 (ji5) (of_decide_eq_true (by first | (with_reducible assumption) | assumption)) (of_decide_eq_true (by first | (with_reducible assumption) | assumption)) HC0.out; have HR122 := Aside0.mk (Kd.C_of_reads (h1 := fun _ => rfl) (hA13 _ (Kd.reads_of_C HR0.out))); have HC122 := Aside0.mk hC13; clear hA13 hC13 hi013 hsz13; generalize (l0.take ((ji5) : Int).toNat) = sl_ at *; have hcv14 := Kd.C_string (P := Try.prog) (A := A0) (c := c0) Try.underlying41 Try.underlying5 Try.underlying9 (Kd.C_below HR122.out HB.out); have hcz15_0 : w12.cell? ⟨gb121, 0, none⟩ = some (.int .u32 0) := (blk_cell BK121.out 0).trans rfl; have hcz15_1 : w12.cell? ⟨gb121, 1, none⟩ = some (.int .u32 0) := (blk_cell BK121.out 1).trans rfl; have hcz15_2 : w12.cell? ⟨gb121, 2, none⟩ = some (.int .u32 0) := (blk_cell BK121.out 2).trans rfl; have hcz15_3 : w12.cell? ⟨gb121, 3, none⟩ = some (.int .u32 0) := (blk_cell BK121.out 3).trans rfl; have hcz15_4 : w12.cell? ⟨gb121, 4, none⟩ = some (.int .u32 0) := (blk_cell BK121.out 4).trans rfl; have hcz15_5 : w12.cell? ⟨gb121, 5, none⟩ = some (.int .u32 0) := (blk_cell BK121.out 5).trans rfl; have hcz15_6 : w12.cell? ⟨gb121, 6, none⟩ = some (.int .u32 0) := (blk_cell BK121.out 6).trans rfl; have hcz15_7 : w12.cell? ⟨gb121, 7, none⟩ = some (.int .u32 0) := (blk_cell BK121.out 7).trans rfl; have hfz15_0 := blk_frozen BK121.out 0; have hfz15_1 := blk_frozen BK121.out 1; have hfz15_2 := blk_frozen BK121.out 2; have hfz15_3 := blk_frozen BK121.out 3; have hfz15_4 := blk_frozen BK121.out 4; have hfz15_5 := blk_frozen BK121.out 5; have hfz15_6 := blk_frozen BK121.out 6; have hfz15_7 := blk_frozen BK121.out 7)))
              refine start_ (n := 7) (S := fun _ => True) (ds := []) #[false, false, false, false, false, false, false] (by kernel_rfl) rfl rfl trivial (fun _ => ?_)
              refine zpure_ (i := 0) (N := some 14) #[true, false, false, false, false, false, false] (by kernel_rfl) ?_
              refine zpure_ (i := 1) (N := some 15) #[true, true, false, false, false, false, false] (by kernel_rfl) ?_
              refine zpure_ (i := 2) (N := some 16) #[true, true, true, false, false, false, false] (by kernel_rfl) ?_
              refine zpure_ (i := 4) (N := some 18) #[true, true, true, false, true, false, false] (by kernel_rfl) ?_
              refine zpure_ (i := 5) (N := some 19) #[true, true, true, false, true, true, false] (by kernel_rfl) ?_
              refine one_ (i := 3) (N := some 17) #[true, true, true, true, true, true, false] rfl rfl (by kernel_rfl) (by decide) (fun K hK => ?_)
              refine conv_ (by rfl) rfl rfl (by rfl) (Kd.C_string (P := Try.prog) (A := A0) (c := c0) Try.underlying41 Try.underlying5 Try.underlying9 (Kd.C_drew (Kd.C_below HR122.out HB.out))) ?_
              refine hK.out _ _ trivial (fun _ => ?_)
              clear hK K
              refine norm_ (a' := ?_) ?_ ?_
              rotate_left
              · show Act.put _ (some 17) _ = _
                simp only [Act.put, List.setIfInBounds_toArray, List.set_cons_zero, List.set_cons_succ, i64_w, i32_w]
                rfl
              refine zpure_ (i := 6) (N := some 20) #[true, true, true, true, true, true, true] (by kernel_rfl) ?_
              refine done_ (by kernel_rfl) ?_
              go_wp2_with (first | ((with_reducible refine gate_dst (N := 2) rfl ?_); (try (refine gate_guard (by rfl) ?_; dsimp only)); refine zbox (N := 2) (cs := #[.int .u32 0, .int .u32 0, .int .u32 0, .int .u32 0, .int .u32 0, .int .u32 0, .int .u32 0, .int .u32 0]) (t := 66) ?_; intro gb121 hg w12 hbox hb; have BK121 := Aside0.mk hbox; have GW121 := zge hg HB; have GE121 := zge hg HB; replace HB := zbs HB hb; clear hb hbox hg; obtain ⟨i013, hi013, _, hsz13, _⟩ := info_parts info5; obtain ⟨hcut13, hA13, hC13⟩ := print_take_of (P := Try.prog) (Value.int .u8) 0 41 5 .i64 Try.underlying41 hi013 hsz13 A0 c0 l0 (ji5) (of_decide_eq_true (by first | (with_reducible assumption) | assumption)) (of_decide_eq_true (by first | (with_reducible assumption) | assumption)) HC0.out; have HR122 := Aside0.mk (Kd.C_of_reads (h1 := fun _ => rfl) (hA13 _ (Kd.reads_of_C HR0.out))); have HC122 := Aside0.mk hC13; clear hA13 hC13 hi013 hsz13; generalize (l0.take ((ji5) : Int).toNat) = sl_ at *; have hcv14 := Kd.C_string (P := Try.prog) (A := A0) (c := c0) Try.underlying41 Try.underlying5 Try.underlying9 (Kd.C_below HR122.out HB.out); have hcz15_0 : w12.cell? ⟨gb121, 0, none⟩ = some (.int .u32 0) := (blk_cell BK121.out 0).trans rfl; have hcz15_1 : w12.cell? ⟨gb121, 1, none⟩ = some (.int .u32 0) := (blk_cell BK121.out 1).trans rfl; have hcz15_2 : w12.cell? ⟨gb121, 2, none⟩ = some (.int .u32 0) := (blk_cell BK121.out 2).trans rfl; have hcz15_3 : w12.cell? ⟨gb121, 3, none⟩ = some (.int .u32 0) := (blk_cell BK121.out 3).trans rfl; have hcz15_4 : w12.cell? ⟨gb121, 4, none⟩ = some (.int .u32 0) := (blk_cell BK121.out 4).trans rfl; have hcz15_5 : w12.cell? ⟨gb121, 5, none⟩ = some (.int .u32 0) := (blk_cell BK121.out 5).trans rfl; have hcz15_6 : w12.cell? ⟨gb121, 6, none⟩ = some (.int .u32 0) := (blk_cell BK121.out 6).trans rfl; have hcz15_7 : w12.cell? ⟨gb121, 7, none⟩ = some (.int .u32 0) := (blk_cell BK121.out 7).trans rfl; have hfz15_0 := blk_frozen BK121.out 0; have hfz15_1 := blk_frozen BK121.out 1; have hfz15_2 := blk_frozen BK121.out 2; have hfz15_3 := blk_frozen BK121.out 3; have hfz15_4 := blk_frozen BK121.out 4; have hfz15_5 := blk_frozen BK121.out 5; have hfz15_6 := blk_frozen BK121.out 6; have hfz15_7 := blk_frozen BK121.out 7))
              repeat (go_quiet (first | ((with_reducible refine gate_dst (N := 2) rfl ?_); (try (refine gate_guard (by rfl) ?_; dsimp only)); refine zbox (N := 2) (cs := #[.int .u32 0, .int .u32 0, .int .u32 0, .int .u32 0, .int .u32 0, .int .u32 0, .int .u32 0, .int .u32 0]) (t := 66) ?_; intro gb121 hg w12 hbox hb; have BK121 := Aside0.mk hbox; have GW121 := zge hg HB; have GE121 := zge hg HB; replace HB := zbs HB hb; clear hb hbox hg; obtain ⟨i013, hi013, _, hsz13, _⟩ := info_parts info5; obtain ⟨hcut13, hA13, hC13⟩ := print_take_of (P := Try.prog) (Value.int .u8) 0 41 5 .i64 Try.underlying41 hi013 hsz13 A0 c0 l0 (ji5) (of_decide_eq_true (by first | (with_reducible assumption) | assumption)) (of_decide_eq_true (by first | (with_reducible assumption) | assumption)) HC0.out; have HR122 := Aside0.mk (Kd.C_of_reads (h1 := fun _ => rfl) (hA13 _ (Kd.reads_of_C HR0.out))); have HC122 := Aside0.mk hC13; clear hA13 hC13 hi013 hsz13; generalize (l0.take ((ji5) : Int).toNat) = sl_ at *; have hcv14 := Kd.C_string (P := Try.prog) (A := A0) (c := c0) Try.underlying41 Try.underlying5 Try.underlying9 (Kd.C_below HR122.out HB.out); have hcz15_0 : w12.cell? ⟨gb121, 0, none⟩ = some (.int .u32 0) := (blk_cell BK121.out 0).trans rfl; have hcz15_1 : w12.cell? ⟨gb121, 1, none⟩ = some (.int .u32 0) := (blk_cell BK121.out 1).trans rfl; have hcz15_2 : w12.cell? ⟨gb121, 2, none⟩ = some (.int .u32 0) := (blk_cell BK121.out 2).trans rfl; have hcz15_3 : w12.cell? ⟨gb121, 3, none⟩ = some (.int .u32 0) := (blk_cell BK121.out 3).trans rfl; have hcz15_4 : w12.cell? ⟨gb121, 4, none⟩ = some (.int .u32 0) := (blk_cell BK121.out 4).trans rfl; have hcz15_5 : w12.cell? ⟨gb121, 5, none⟩ = some (.int .u32 0) := (blk_cell BK121.out 5).trans rfl; have hcz15_6 : w12.cell? ⟨gb121, 6, none⟩ = some (.int .u32 0) := (blk_cell BK121.out 6).trans rfl; have hcz15_7 : w12.cell? ⟨gb121, 7, none⟩ = some (.int .u32 0) := (blk_cell BK121.out 7).trans rfl; have hfz15_0 := blk_frozen BK121.out 0; have hfz15_1 := blk_frozen BK121.out 1; have hfz15_2 := blk_frozen BK121.out 2; have hfz15_3 := blk_frozen BK121.out 3; have hfz15_4 := blk_frozen BK121.out 4; have hfz15_5 := blk_frozen BK121.out 5; have hfz15_6 := blk_frozen BK121.out 6; have hfz15_7 := blk_frozen BK121.out 7)); try go_wp2_with (first | ((with_reducible refine gate_dst (N := 2) rfl ?_); (try (refine gate_guard (by rfl) ?_; dsimp only)); refine zbox (N := 2) (cs := #[.int .u32 0, .int .u32 0, .int .u32 0, .int .u32 0, .int .u32 0, .int .u32 0, .int .u32 0, .int .u32 0]) (t := 66) ?_; intro gb121 hg w12 hbox hb; have BK121 := Aside0.mk hbox; have GW121 := zge hg HB; have GE121 := zge hg HB; replace HB := zbs HB hb; clear hb hbox hg; obtain ⟨i013, hi013, _, hsz13, _⟩ := info_parts info5; obtain ⟨hcut13, hA13, hC13⟩ := print_take_of (P := Try.prog) (Value.int .u8) 0 41 5 .i64 Try.underlying41 hi013 hsz13 A0 c0 l0 (ji5) (of_decide_eq_true (by first | (with_reducible assumption) | assumption)) (of_decide_eq_true (by first | (with_reducible assumption) | assumption)) HC0.out; have HR122 := Aside0.mk (Kd.C_of_reads (h1 := fun _ => rfl) (hA13 _ (Kd.reads_of_C HR0.out))); have HC122 := Aside0.mk hC13; clear hA13 hC13 hi013 hsz13; generalize (l0.take ((ji5) : Int).toNat) = sl_ at *; have hcv14 := Kd.C_string (P := Try.prog) (A := A0) (c := c0) Try.underlying41 Try.underlying5 Try.underlying9 (Kd.C_below HR122.out HB.out); have hcz15_0 : w12.cell? ⟨gb121, 0, none⟩ = some (.int .u32 0) := (blk_cell BK121.out 0).trans rfl; have hcz15_1 : w12.cell? ⟨gb121, 1, none⟩ = some (.int .u32 0) := (blk_cell BK121.out 1).trans rfl; have hcz15_2 : w12.cell? ⟨gb121, 2, none⟩ = some (.int .u32 0) := (blk_cell BK121.out 2).trans rfl; have hcz15_3 : w12.cell? ⟨gb121, 3, none⟩ = some (.int .u32 0) := (blk_cell BK121.out 3).trans rfl; have hcz15_4 : w12.cell? ⟨gb121, 4, none⟩ = some (.int .u32 0) := (blk_cell BK121.out 4).trans rfl; have hcz15_5 : w12.cell? ⟨gb121, 5, none⟩ = some (.int .u32 0) := (blk_cell BK121.out 5).trans rfl; have hcz15_6 : w12.cell? ⟨gb121, 6, none⟩ = some (.int .u32 0) := (blk_cell BK121.out 6).trans rfl; have hcz15_7 : w12.cell? ⟨gb121, 7, none⟩ = some (.int .u32 0) := (blk_cell BK121.out 7).trans rfl; have hfz15_0 := blk_frozen BK121.out 0; have hfz15_1 := blk_frozen BK121.out 1; have hfz15_2 := blk_frozen BK121.out 2; have hfz15_3 := blk_frozen BK121.out 3; have hfz15_4 := blk_frozen BK121.out 4; have hfz15_5 := blk_frozen BK121.out 5; have hfz15_6 := blk_frozen BK121.out 6; have hfz15_7 := blk_frozen BK121.out 7)))
              refine bodyPost_ret (results_ctt rfl _ _ gb121 66 #[.int .u32 0, .int .u32 0, .int .u32 0, .int .u32 0, .int .u32 0, .int .u32 0, .int .u32 0, .int .u32 0] (0, 0) _ rfl (zkp BK121) Try.underlying66 rfl (by kernel_rfl)) rfl ?_
              exact ⟨by first | rfl | (simp [errW_none, errW_some] <;> rfl) | (simp only [← hji5]; first | rfl | (simp [errW_none, errW_some] <;> rfl)) | (simp [*, errW_none, errW_some] <;> rfl), zb HB⟩
            · rw [if_neg c11] at H
              have c11b0 : decide ((l0.length : Int) < 36) = false := decide_eq_false c11
              have c11b1 : decide (l0.length < 36) = false := decide_eq_false (by omega)
              clear c11
              replace H := Option.bind_eq_some_iff.mp H
              obtain ⟨⟨t123, t124, t125, t126, t127, t128, t129, t130⟩, A160, H⟩ := H
              replace H : (header_Parse.tail k l0 t123 t124 t125 t126 t127 t128 t129 t130) = some (r1, r2, r3, r4, r5, r6, r7, r8, r9, r10) := H
              have A16 := Aside0.mk A160
              clear A160
              have HC17 := Aside0.mk H
              clear H
              go_enter Try.func45, Try.ntmps45
              go_upto_region 9 with (first | ((with_reducible refine gate_dst (N := 2) rfl ?_); (try (refine gate_guard (by rfl) ?_; dsimp only)); refine zbox (N := 2) (cs := #[.int .u32 0, .int .u32 0, .int .u32 0, .int .u32 0, .int .u32 0, .int .u32 0, .int .u32 0, .int .u32 0]) (t := 66) ?_; intro gb121 hg w18 hbox hb; have BK121 := Aside0.mk hbox; have GW121 := zge hg HB; have GE121 := zge hg HB; replace HB := zbs HB hb; clear hb hbox hg; obtain ⟨i019, hi019, _, hsz19, _⟩ := info_parts info5; obtain ⟨hcut19, hA19, hC19⟩ := print_take_of (P := Try.prog) (Value.int .u8) 0 41 5 .i64 Try.underlying41 hi019 hsz19 A0 c0 l0 (ji5) (of_decide_eq_true (by first | (with_reducible assumption) | assumption)) (of_decide_eq_true (by first | (with_reducible assumption) | assumption)) HC0.out; have HR122 := Aside0.mk (Kd.C_of_reads (h1 := fun _ => rfl) (hA19 _ (Kd.reads_of_C HR0.out))); have HC122 := Aside0.mk hC19; clear hA19 hC19 hi019 hsz19; generalize (l0.take ((ji5) : Int).toNat) = sl_ at *; have hcv20 := Kd.C_string (P := Try.prog) (A := A0) (c := c0) Try.underlying41 Try.underlying5 Try.underlying9 (Kd.C_below HR122.out HB.out)) | (go_at_call 64; (with_reducible refine (header_read.calls k _ _ l0 t123 t124 t125 t126 t127 t128 t129 t130 _ ?side1 ?side2 A16.out).mono ?_); (case side1 => repeat (first | exact (Kd.C_below HR0.out HB.out) | (with_reducible refine Kd.C_alloc ?_ _) | (with_reducible refine Kd.C_drewN ?_ _) | (with_reducible refine Kd.C_drew ?_))); (case side2 => exact HC0.out); rintro e w21 ⟨rfl, hb⟩; replace BK121 := zkb BK121 hb; replace HB := zbs HB hb; (try clear hb); (try clear hb2); (try clear hk); (try clear hi)) | ((with_reducible refine gate_dst (N := 6) rfl ?_); (try (refine gate_guard (by rfl) ?_; dsimp only)); refine zbox (N := 6) (cs := #[.int .u32 0, .int .u32 0, .int .u32 0, .int .u32 0, .int .u32 0, .int .u32 0, .int .u32 0, .int .u32 0]) (t := 66) ?_; intro gb131 hg w22 hbox hb; have BK131 := Aside0.mk hbox; have GW131 := zge hg HB; have GE131 := zge hg HB; have NB121_131 := znl hg BK121; have NB131_121 := zng hg BK121; replace BK121 := zkb BK121 hb; replace HB := zbs HB hb; clear hb hbox hg; have hnb23 := NB131_121.out; have hnc23 := NB121_131.out; have hcz24_0 : w22.cell? ⟨gb131, 0, none⟩ = some (.int .u32 0) := (blk_cell BK131.out 0).trans rfl; have hcz24_1 : w22.cell? ⟨gb131, 1, none⟩ = some (.int .u32 0) := (blk_cell BK131.out 1).trans rfl; have hcz24_2 : w22.cell? ⟨gb131, 2, none⟩ = some (.int .u32 0) := (blk_cell BK131.out 2).trans rfl; have hcz24_3 : w22.cell? ⟨gb131, 3, none⟩ = some (.int .u32 0) := (blk_cell BK131.out 3).trans rfl; have hcz24_4 : w22.cell? ⟨gb131, 4, none⟩ = some (.int .u32 0) := (blk_cell BK131.out 4).trans rfl; have hcz24_5 : w22.cell? ⟨gb131, 5, none⟩ = some (.int .u32 0) := (blk_cell BK131.out 5).trans rfl; have hcz24_6 : w22.cell? ⟨gb131, 6, none⟩ = some (.int .u32 0) := (blk_cell BK131.out 6).trans rfl; have hcz24_7 : w22.cell? ⟨gb131, 7, none⟩ = some (.int .u32 0) := (blk_cell BK131.out 7).trans rfl; have hfz24_0 := blk_frozen BK131.out 0; have hfz24_1 := blk_frozen BK131.out 1; have hfz24_2 := blk_frozen BK131.out 2; have hfz24_3 := blk_frozen BK131.out 3; have hfz24_4 := blk_frozen BK131.out 4; have hfz24_5 := blk_frozen BK131.out 5; have hfz24_6 := blk_frozen BK131.out 6; have hfz24_7 := blk_frozen BK131.out 7))
              repeat (go_quiet (first | ((with_reducible refine gate_dst (N := 2) rfl ?_); (try (refine gate_guard (by rfl) ?_; dsimp only)); refine zbox (N := 2) (cs := #[.int .u32 0, .int .u32 0, .int .u32 0, .int .u32 0, .int .u32 0, .int .u32 0, .int .u32 0, .int .u32 0]) (t := 66) ?_; intro gb121 hg w18 hbox hb; have BK121 := Aside0.mk hbox; have GW121 := zge hg HB; have GE121 := zge hg HB; replace HB := zbs HB hb; clear hb hbox hg; obtain ⟨i019, hi019, _, hsz19, _⟩ := info_parts info5; obtain ⟨hcut19, hA19, hC19⟩ := print_take_of (P := Try.prog) (Value.int .u8) 0 41 5 .i64 Try.underlying41 hi019 hsz19 A0 c0 l0 (ji5) (of_decide_eq_true (by first | (with_reducible assumption) | assumption)) (of_decide_eq_true (by first | (with_reducible assumption) | assumption)) HC0.out; have HR122 := Aside0.mk (Kd.C_of_reads (h1 := fun _ => rfl) (hA19 _ (Kd.reads_of_C HR0.out))); have HC122 := Aside0.mk hC19; clear hA19 hC19 hi019 hsz19; generalize (l0.take ((ji5) : Int).toNat) = sl_ at *; have hcv20 := Kd.C_string (P := Try.prog) (A := A0) (c := c0) Try.underlying41 Try.underlying5 Try.underlying9 (Kd.C_below HR122.out HB.out)) | (go_at_call 64; (with_reducible refine (header_read.calls k _ _ l0 t123 t124 t125 t126 t127 t128 t129 t130 _ ?side1 ?side2 A16.out).mono ?_); (case side1 => repeat (first | exact (Kd.C_below HR0.out HB.out) | (with_reducible refine Kd.C_alloc ?_ _) | (with_reducible refine Kd.C_drewN ?_ _) | (with_reducible refine Kd.C_drew ?_))); (case side2 => exact HC0.out); rintro e w21 ⟨rfl, hb⟩; replace BK121 := zkb BK121 hb; replace HB := zbs HB hb; (try clear hb); (try clear hb2); (try clear hk); (try clear hi)) | ((with_reducible refine gate_dst (N := 6) rfl ?_); (try (refine gate_guard (by rfl) ?_; dsimp only)); refine zbox (N := 6) (cs := #[.int .u32 0, .int .u32 0, .int .u32 0, .int .u32 0, .int .u32 0, .int .u32 0, .int .u32 0, .int .u32 0]) (t := 66) ?_; intro gb131 hg w22 hbox hb; have BK131 := Aside0.mk hbox; have GW131 := zge hg HB; have GE131 := zge hg HB; have NB121_131 := znl hg BK121; have NB131_121 := zng hg BK121; replace BK121 := zkb BK121 hb; replace HB := zbs HB hb; clear hb hbox hg; have hnb23 := NB131_121.out; have hnc23 := NB121_131.out; have hcz24_0 : w22.cell? ⟨gb131, 0, none⟩ = some (.int .u32 0) := (blk_cell BK131.out 0).trans rfl; have hcz24_1 : w22.cell? ⟨gb131, 1, none⟩ = some (.int .u32 0) := (blk_cell BK131.out 1).trans rfl; have hcz24_2 : w22.cell? ⟨gb131, 2, none⟩ = some (.int .u32 0) := (blk_cell BK131.out 2).trans rfl; have hcz24_3 : w22.cell? ⟨gb131, 3, none⟩ = some (.int .u32 0) := (blk_cell BK131.out 3).trans rfl; have hcz24_4 : w22.cell? ⟨gb131, 4, none⟩ = some (.int .u32 0) := (blk_cell BK131.out 4).trans rfl; have hcz24_5 : w22.cell? ⟨gb131, 5, none⟩ = some (.int .u32 0) := (blk_cell BK131.out 5).trans rfl; have hcz24_6 : w22.cell? ⟨gb131, 6, none⟩ = some (.int .u32 0) := (blk_cell BK131.out 6).trans rfl; have hcz24_7 : w22.cell? ⟨gb131, 7, none⟩ = some (.int .u32 0) := (blk_cell BK131.out 7).trans rfl; have hfz24_0 := blk_frozen BK131.out 0; have hfz24_1 := blk_frozen BK131.out 1; have hfz24_2 := blk_frozen BK131.out 2; have hfz24_3 := blk_frozen BK131.out 3; have hfz24_4 := blk_frozen BK131.out 4; have hfz24_5 := blk_frozen BK131.out 5; have hfz24_6 := blk_frozen BK131.out 6; have hfz24_7 := blk_frozen BK131.out 7)); go_upto_region 9 with (first | ((with_reducible refine gate_dst (N := 2) rfl ?_); (try (refine gate_guard (by rfl) ?_; dsimp only)); refine zbox (N := 2) (cs := #[.int .u32 0, .int .u32 0, .int .u32 0, .int .u32 0, .int .u32 0, .int .u32 0, .int .u32 0, .int .u32 0]) (t := 66) ?_; intro gb121 hg w18 hbox hb; have BK121 := Aside0.mk hbox; have GW121 := zge hg HB; have GE121 := zge hg HB; replace HB := zbs HB hb; clear hb hbox hg; obtain ⟨i019, hi019, _, hsz19, _⟩ := info_parts info5; obtain ⟨hcut19, hA19, hC19⟩ := print_take_of (P := Try.prog) (Value.int .u8) 0 41 5 .i64 Try.underlying41 hi019 hsz19 A0 c0 l0 (ji5) (of_decide_eq_true (by first | (with_reducible assumption) | assumption)) (of_decide_eq_true (by first | (with_reducible assumption) | assumption)) HC0.out; have HR122 := Aside0.mk (Kd.C_of_reads (h1 := fun _ => rfl) (hA19 _ (Kd.reads_of_C HR0.out))); have HC122 := Aside0.mk hC19; clear hA19 hC19 hi019 hsz19; generalize (l0.take ((ji5) : Int).toNat) = sl_ at *; have hcv20 := Kd.C_string (P := Try.prog) (A := A0) (c := c0) Try.underlying41 Try.underlying5 Try.underlying9 (Kd.C_below HR122.out HB.out)) | (go_at_call 64; (with_reducible refine (header_read.calls k _ _ l0 t123 t124 t125 t126 t127 t128 t129 t130 _ ?side1 ?side2 A16.out).mono ?_); (case side1 => repeat (first | exact (Kd.C_below HR0.out HB.out) | (with_reducible refine Kd.C_alloc ?_ _) | (with_reducible refine Kd.C_drewN ?_ _) | (with_reducible refine Kd.C_drew ?_))); (case side2 => exact HC0.out); rintro e w21 ⟨rfl, hb⟩; replace BK121 := zkb BK121 hb; replace HB := zbs HB hb; (try clear hb); (try clear hb2); (try clear hk); (try clear hi)) | ((with_reducible refine gate_dst (N := 6) rfl ?_); (try (refine gate_guard (by rfl) ?_; dsimp only)); refine zbox (N := 6) (cs := #[.int .u32 0, .int .u32 0, .int .u32 0, .int .u32 0, .int .u32 0, .int .u32 0, .int .u32 0, .int .u32 0]) (t := 66) ?_; intro gb131 hg w22 hbox hb; have BK131 := Aside0.mk hbox; have GW131 := zge hg HB; have GE131 := zge hg HB; have NB121_131 := znl hg BK121; have NB131_121 := zng hg BK121; replace BK121 := zkb BK121 hb; replace HB := zbs HB hb; clear hb hbox hg; have hnb23 := NB131_121.out; have hnc23 := NB121_131.out; have hcz24_0 : w22.cell? ⟨gb131, 0, none⟩ = some (.int .u32 0) := (blk_cell BK131.out 0).trans rfl; have hcz24_1 : w22.cell? ⟨gb131, 1, none⟩ = some (.int .u32 0) := (blk_cell BK131.out 1).trans rfl; have hcz24_2 : w22.cell? ⟨gb131, 2, none⟩ = some (.int .u32 0) := (blk_cell BK131.out 2).trans rfl; have hcz24_3 : w22.cell? ⟨gb131, 3, none⟩ = some (.int .u32 0) := (blk_cell BK131.out 3).trans rfl; have hcz24_4 : w22.cell? ⟨gb131, 4, none⟩ = some (.int .u32 0) := (blk_cell BK131.out 4).trans rfl; have hcz24_5 : w22.cell? ⟨gb131, 5, none⟩ = some (.int .u32 0) := (blk_cell BK131.out 5).trans rfl; have hcz24_6 : w22.cell? ⟨gb131, 6, none⟩ = some (.int .u32 0) := (blk_cell BK131.out 6).trans rfl; have hcz24_7 : w22.cell? ⟨gb131, 7, none⟩ = some (.int .u32 0) := (blk_cell BK131.out 7).trans rfl; have hfz24_0 := blk_frozen BK131.out 0; have hfz24_1 := blk_frozen BK131.out 1; have hfz24_2 := blk_frozen BK131.out 2; have hfz24_3 := blk_frozen BK131.out 3; have hfz24_4 := blk_frozen BK131.out 4; have hfz24_5 := blk_frozen BK131.out 5; have hfz24_6 := blk_frozen BK131.out 6; have hfz24_7 := blk_frozen BK131.out 7)))
              refine start_ (n := 7) (S := fun _ => True) (ds := []) #[false, false, false, false, false, false, false] (by kernel_rfl) rfl rfl trivial (fun _ => ?_)
              refine zpure_ (i := 0) (N := some 14) #[true, false, false, false, false, false, false] (by kernel_rfl) ?_
              refine zpure_ (i := 1) (N := some 15) #[true, true, false, false, false, false, false] (by kernel_rfl) ?_
              refine zpure_ (i := 2) (N := some 16) #[true, true, true, false, false, false, false] (by kernel_rfl) ?_
              refine zpure_ (i := 4) (N := some 18) #[true, true, true, false, true, false, false] (by kernel_rfl) ?_
              refine zpure_ (i := 5) (N := some 19) #[true, true, true, false, true, true, false] (by kernel_rfl) ?_
              refine one_ (i := 3) (N := some 17) #[true, true, true, true, true, true, false] rfl rfl (by kernel_rfl) (by decide) (fun K hK => ?_)
              refine conv_ (by rfl) rfl rfl (by rfl) (Kd.C_string (P := Try.prog) (A := A0) (c := c0) Try.underlying41 Try.underlying5 Try.underlying9 (Kd.C_drew (Kd.C_below HR122.out HB.out))) ?_
              refine hK.out _ _ trivial (fun _ => ?_)
              clear hK K
              refine norm_ (a' := ?_) ?_ ?_
              rotate_left
              · show Act.put _ (some 17) _ = _
                simp only [Act.put, List.setIfInBounds_toArray, List.set_cons_zero, List.set_cons_succ, i64_w, i32_w]
                rfl
              refine zpure_ (i := 6) (N := some 20) #[true, true, true, true, true, true, true] (by kernel_rfl) ?_
              refine done_ (by kernel_rfl) ?_
              go_upto_region 9 with (first | ((with_reducible refine gate_dst (N := 2) rfl ?_); (try (refine gate_guard (by rfl) ?_; dsimp only)); refine zbox (N := 2) (cs := #[.int .u32 0, .int .u32 0, .int .u32 0, .int .u32 0, .int .u32 0, .int .u32 0, .int .u32 0, .int .u32 0]) (t := 66) ?_; intro gb121 hg w18 hbox hb; have BK121 := Aside0.mk hbox; have GW121 := zge hg HB; have GE121 := zge hg HB; replace HB := zbs HB hb; clear hb hbox hg; obtain ⟨i019, hi019, _, hsz19, _⟩ := info_parts info5; obtain ⟨hcut19, hA19, hC19⟩ := print_take_of (P := Try.prog) (Value.int .u8) 0 41 5 .i64 Try.underlying41 hi019 hsz19 A0 c0 l0 (ji5) (of_decide_eq_true (by first | (with_reducible assumption) | assumption)) (of_decide_eq_true (by first | (with_reducible assumption) | assumption)) HC0.out; have HR122 := Aside0.mk (Kd.C_of_reads (h1 := fun _ => rfl) (hA19 _ (Kd.reads_of_C HR0.out))); have HC122 := Aside0.mk hC19; clear hA19 hC19 hi019 hsz19; generalize (l0.take ((ji5) : Int).toNat) = sl_ at *; have hcv20 := Kd.C_string (P := Try.prog) (A := A0) (c := c0) Try.underlying41 Try.underlying5 Try.underlying9 (Kd.C_below HR122.out HB.out)) | (go_at_call 64; (with_reducible refine (header_read.calls k _ _ l0 t123 t124 t125 t126 t127 t128 t129 t130 _ ?side1 ?side2 A16.out).mono ?_); (case side1 => repeat (first | exact (Kd.C_below HR0.out HB.out) | (with_reducible refine Kd.C_alloc ?_ _) | (with_reducible refine Kd.C_drewN ?_ _) | (with_reducible refine Kd.C_drew ?_))); (case side2 => exact HC0.out); rintro e w21 ⟨rfl, hb⟩; replace BK121 := zkb BK121 hb; replace HB := zbs HB hb; (try clear hb); (try clear hb2); (try clear hk); (try clear hi)) | ((with_reducible refine gate_dst (N := 6) rfl ?_); (try (refine gate_guard (by rfl) ?_; dsimp only)); refine zbox (N := 6) (cs := #[.int .u32 0, .int .u32 0, .int .u32 0, .int .u32 0, .int .u32 0, .int .u32 0, .int .u32 0, .int .u32 0]) (t := 66) ?_; intro gb131 hg w22 hbox hb; have BK131 := Aside0.mk hbox; have GW131 := zge hg HB; have GE131 := zge hg HB; have NB121_131 := znl hg BK121; have NB131_121 := zng hg BK121; replace BK121 := zkb BK121 hb; replace HB := zbs HB hb; clear hb hbox hg; have hnb23 := NB131_121.out; have hnc23 := NB121_131.out; have hcz24_0 : w22.cell? ⟨gb131, 0, none⟩ = some (.int .u32 0) := (blk_cell BK131.out 0).trans rfl; have hcz24_1 : w22.cell? ⟨gb131, 1, none⟩ = some (.int .u32 0) := (blk_cell BK131.out 1).trans rfl; have hcz24_2 : w22.cell? ⟨gb131, 2, none⟩ = some (.int .u32 0) := (blk_cell BK131.out 2).trans rfl; have hcz24_3 : w22.cell? ⟨gb131, 3, none⟩ = some (.int .u32 0) := (blk_cell BK131.out 3).trans rfl; have hcz24_4 : w22.cell? ⟨gb131, 4, none⟩ = some (.int .u32 0) := (blk_cell BK131.out 4).trans rfl; have hcz24_5 : w22.cell? ⟨gb131, 5, none⟩ = some (.int .u32 0) := (blk_cell BK131.out 5).trans rfl; have hcz24_6 : w22.cell? ⟨gb131, 6, none⟩ = some (.int .u32 0) := (blk_cell BK131.out 6).trans rfl; have hcz24_7 : w22.cell? ⟨gb131, 7, none⟩ = some (.int .u32 0) := (blk_cell BK131.out 7).trans rfl; have hfz24_0 := blk_frozen BK131.out 0; have hfz24_1 := blk_frozen BK131.out 1; have hfz24_2 := blk_frozen BK131.out 2; have hfz24_3 := blk_frozen BK131.out 3; have hfz24_4 := blk_frozen BK131.out 4; have hfz24_5 := blk_frozen BK131.out 5; have hfz24_6 := blk_frozen BK131.out 6; have hfz24_7 := blk_frozen BK131.out 7))
              repeat (go_quiet (first | ((with_reducible refine gate_dst (N := 2) rfl ?_); (try (refine gate_guard (by rfl) ?_; dsimp only)); refine zbox (N := 2) (cs := #[.int .u32 0, .int .u32 0, .int .u32 0, .int .u32 0, .int .u32 0, .int .u32 0, .int .u32 0, .int .u32 0]) (t := 66) ?_; intro gb121 hg w18 hbox hb; have BK121 := Aside0.mk hbox; have GW121 := zge hg HB; have GE121 := zge hg HB; replace HB := zbs HB hb; clear hb hbox hg; obtain ⟨i019, hi019, _, hsz19, _⟩ := info_parts info5; obtain ⟨hcut19, hA19, hC19⟩ := print_take_of (P := Try.prog) (Value.int .u8) 0 41 5 .i64 Try.underlying41 hi019 hsz19 A0 c0 l0 (ji5) (of_decide_eq_true (by first | (with_reducible assumption) | assumption)) (of_decide_eq_true (by first | (with_reducible assumption) | assumption)) HC0.out; have HR122 := Aside0.mk (Kd.C_of_reads (h1 := fun _ => rfl) (hA19 _ (Kd.reads_of_C HR0.out))); have HC122 := Aside0.mk hC19; clear hA19 hC19 hi019 hsz19; generalize (l0.take ((ji5) : Int).toNat) = sl_ at *; have hcv20 := Kd.C_string (P := Try.prog) (A := A0) (c := c0) Try.underlying41 Try.underlying5 Try.underlying9 (Kd.C_below HR122.out HB.out)) | (go_at_call 64; (with_reducible refine (header_read.calls k _ _ l0 t123 t124 t125 t126 t127 t128 t129 t130 _ ?side1 ?side2 A16.out).mono ?_); (case side1 => repeat (first | exact (Kd.C_below HR0.out HB.out) | (with_reducible refine Kd.C_alloc ?_ _) | (with_reducible refine Kd.C_drewN ?_ _) | (with_reducible refine Kd.C_drew ?_))); (case side2 => exact HC0.out); rintro e w21 ⟨rfl, hb⟩; replace BK121 := zkb BK121 hb; replace HB := zbs HB hb; (try clear hb); (try clear hb2); (try clear hk); (try clear hi)) | ((with_reducible refine gate_dst (N := 6) rfl ?_); (try (refine gate_guard (by rfl) ?_; dsimp only)); refine zbox (N := 6) (cs := #[.int .u32 0, .int .u32 0, .int .u32 0, .int .u32 0, .int .u32 0, .int .u32 0, .int .u32 0, .int .u32 0]) (t := 66) ?_; intro gb131 hg w22 hbox hb; have BK131 := Aside0.mk hbox; have GW131 := zge hg HB; have GE131 := zge hg HB; have NB121_131 := znl hg BK121; have NB131_121 := zng hg BK121; replace BK121 := zkb BK121 hb; replace HB := zbs HB hb; clear hb hbox hg; have hnb23 := NB131_121.out; have hnc23 := NB121_131.out; have hcz24_0 : w22.cell? ⟨gb131, 0, none⟩ = some (.int .u32 0) := (blk_cell BK131.out 0).trans rfl; have hcz24_1 : w22.cell? ⟨gb131, 1, none⟩ = some (.int .u32 0) := (blk_cell BK131.out 1).trans rfl; have hcz24_2 : w22.cell? ⟨gb131, 2, none⟩ = some (.int .u32 0) := (blk_cell BK131.out 2).trans rfl; have hcz24_3 : w22.cell? ⟨gb131, 3, none⟩ = some (.int .u32 0) := (blk_cell BK131.out 3).trans rfl; have hcz24_4 : w22.cell? ⟨gb131, 4, none⟩ = some (.int .u32 0) := (blk_cell BK131.out 4).trans rfl; have hcz24_5 : w22.cell? ⟨gb131, 5, none⟩ = some (.int .u32 0) := (blk_cell BK131.out 5).trans rfl; have hcz24_6 : w22.cell? ⟨gb131, 6, none⟩ = some (.int .u32 0) := (blk_cell BK131.out 6).trans rfl; have hcz24_7 : w22.cell? ⟨gb131, 7, none⟩ = some (.int .u32 0) := (blk_cell BK131.out 7).trans rfl; have hfz24_0 := blk_frozen BK131.out 0; have hfz24_1 := blk_frozen BK131.out 1; have hfz24_2 := blk_frozen BK131.out 2; have hfz24_3 := blk_frozen BK131.out 3; have hfz24_4 := blk_frozen BK131.out 4; have hfz24_5 := blk_frozen BK131.out 5; have hfz24_6 := blk_frozen BK131.out 6; have hfz24_7 := blk_frozen BK131.out 7)); go_upto_region 9 with (first | ((with_reducible refine gate_dst (N := 2) rfl ?_); (try (refine gate_guard (by rfl) ?_; dsimp only)); refine zbox (N := 2) (cs := #[.int .u32 0, .int .u32 0, .int .u32 0, .int .u32 0, .int .u32 0, .int .u32 0, .int .u32 0, .int .u32 0]) (t := 66) ?_; intro gb121 hg w18 hbox hb; have BK121 := Aside0.mk hbox; have GW121 := zge hg HB; have GE121 := zge hg HB; replace HB := zbs HB hb; clear hb hbox hg; obtain ⟨i019, hi019, _, hsz19, _⟩ := info_parts info5; obtain ⟨hcut19, hA19, hC19⟩ := print_take_of (P := Try.prog) (Value.int .u8) 0 41 5 .i64 Try.underlying41 hi019 hsz19 A0 c0 l0 (ji5) (of_decide_eq_true (by first | (with_reducible assumption) | assumption)) (of_decide_eq_true (by first | (with_reducible assumption) | assumption)) HC0.out; have HR122 := Aside0.mk (Kd.C_of_reads (h1 := fun _ => rfl) (hA19 _ (Kd.reads_of_C HR0.out))); have HC122 := Aside0.mk hC19; clear hA19 hC19 hi019 hsz19; generalize (l0.take ((ji5) : Int).toNat) = sl_ at *; have hcv20 := Kd.C_string (P := Try.prog) (A := A0) (c := c0) Try.underlying41 Try.underlying5 Try.underlying9 (Kd.C_below HR122.out HB.out)) | (go_at_call 64; (with_reducible refine (header_read.calls k _ _ l0 t123 t124 t125 t126 t127 t128 t129 t130 _ ?side1 ?side2 A16.out).mono ?_); (case side1 => repeat (first | exact (Kd.C_below HR0.out HB.out) | (with_reducible refine Kd.C_alloc ?_ _) | (with_reducible refine Kd.C_drewN ?_ _) | (with_reducible refine Kd.C_drew ?_))); (case side2 => exact HC0.out); rintro e w21 ⟨rfl, hb⟩; replace BK121 := zkb BK121 hb; replace HB := zbs HB hb; (try clear hb); (try clear hb2); (try clear hk); (try clear hi)) | ((with_reducible refine gate_dst (N := 6) rfl ?_); (try (refine gate_guard (by rfl) ?_; dsimp only)); refine zbox (N := 6) (cs := #[.int .u32 0, .int .u32 0, .int .u32 0, .int .u32 0, .int .u32 0, .int .u32 0, .int .u32 0, .int .u32 0]) (t := 66) ?_; intro gb131 hg w22 hbox hb; have BK131 := Aside0.mk hbox; have GW131 := zge hg HB; have GE131 := zge hg HB; have NB121_131 := znl hg BK121; have NB131_121 := zng hg BK121; replace BK121 := zkb BK121 hb; replace HB := zbs HB hb; clear hb hbox hg; have hnb23 := NB131_121.out; have hnc23 := NB121_131.out; have hcz24_0 : w22.cell? ⟨gb131, 0, none⟩ = some (.int .u32 0) := (blk_cell BK131.out 0).trans rfl; have hcz24_1 : w22.cell? ⟨gb131, 1, none⟩ = some (.int .u32 0) := (blk_cell BK131.out 1).trans rfl; have hcz24_2 : w22.cell? ⟨gb131, 2, none⟩ = some (.int .u32 0) := (blk_cell BK131.out 2).trans rfl; have hcz24_3 : w22.cell? ⟨gb131, 3, none⟩ = some (.int .u32 0) := (blk_cell BK131.out 3).trans rfl; have hcz24_4 : w22.cell? ⟨gb131, 4, none⟩ = some (.int .u32 0) := (blk_cell BK131.out 4).trans rfl; have hcz24_5 : w22.cell? ⟨gb131, 5, none⟩ = some (.int .u32 0) := (blk_cell BK131.out 5).trans rfl; have hcz24_6 : w22.cell? ⟨gb131, 6, none⟩ = some (.int .u32 0) := (blk_cell BK131.out 6).trans rfl; have hcz24_7 : w22.cell? ⟨gb131, 7, none⟩ = some (.int .u32 0) := (blk_cell BK131.out 7).trans rfl; have hfz24_0 := blk_frozen BK131.out 0; have hfz24_1 := blk_frozen BK131.out 1; have hfz24_2 := blk_frozen BK131.out 2; have hfz24_3 := blk_frozen BK131.out 3; have hfz24_4 := blk_frozen BK131.out 4; have hfz24_5 := blk_frozen BK131.out 5; have hfz24_6 := blk_frozen BK131.out 6; have hfz24_7 := blk_frozen BK131.out 7)))
              (try simp only [Act.put, List.setIfInBounds_toArray, List.set_cons_zero, List.set_cons_succ])
              refine wp_gen (g := gb121) (g' := gb131) (o := .cells #[.int .u32 0, .int .u32 0, .int .u32 0, .int .u32 0, .int .u32 0, .int .u32 0, .int .u32 0, .int .u32 0] 66 (0, 0)) (o' := .cells #[.int .u32 t123, .int .u32 t124, .int .u32 t125, .int .u32 t126, .int .u32 t127, .int .u32 t128, .int .u32 t129, .int .u32 t130] 66 (0, 0)) (zkp BK121) (zkp BK131) (zb HB) ?_
              clear BK121 BK131 HB
              intro wc b1_ b2_ b3_
              have BK121 := Aside0.mk b1_
              have BK131 := Aside0.mk b2_
              have HB := Aside0.mk b3_
              clear b1_ b2_ b3_
              have hnb_ := NB131_121.out
              have hnc_ := NB121_131.out
              obtain ⟨hcz7_0, hcz7_1, hcz7_2, hcz7_3, hcz7_4, hcz7_5, hcz7_6, hcz7_7, hfz7_0, hfz7_1, hfz7_2, hfz7_3, hfz7_4, hfz7_5, hfz7_6, hfz7_7⟩ := cells8 BK131.out
              have H := HC17.out
              clear HC17
              unfold header_Parse.tail at H
              by_cases c200 : t123 < 131072
              · rw [if_pos c200] at H
                have c200b0 : decide (t123 < 131072) = true := decide_eq_true c200
                clear c200
                simp only [Option.some.injEq, Prod.mk.injEq] at H
                obtain ⟨rfl, rfl, rfl, rfl, rfl, rfl, rfl, rfl, rfl, rfl⟩ := H
                obtain ⟨hcz5_0, hcz5_1, hcz5_2, hcz5_3, hcz5_4, hcz5_5, hcz5_6, hcz5_7, hfz5_0, hfz5_1, hfz5_2, hfz5_3, hfz5_4, hfz5_5, hfz5_6, hfz5_7⟩ := cells8 BK121.out
                go_wp2
                repeat (go_quiet (fail); try go_wp2)
                refine bodyPost_ret (results_ctt rfl _ _ gb121 66 #[.int .u32 (0), .int .u32 (0), .int .u32 (0), .int .u32 (0), .int .u32 (0), .int .u32 (0), .int .u32 (0), .int .u32 (0)] (0, 0) _ rfl (zkp BK121) Try.underlying66 rfl (by kernel_rfl)) rfl ?_
                exact ⟨by first | rfl | (simp [errW_none, errW_some] <;> rfl) | (simp only [← hji5]; first | rfl | (simp [errW_none, errW_some] <;> rfl)) | (simp [*, errW_none, errW_some] <;> rfl), zb HB⟩
              · rw [if_neg c200] at H
                have c200b0 : decide (t123 < 131072) = false := decide_eq_false c200
                clear c200
                by_cases c201 : t123 > 197119
                · rw [if_pos c201] at H
                  have c201b0 : decide (197119 < t123) = true := decide_eq_true c201
                  clear c201
                  simp only [Option.some.injEq, Prod.mk.injEq] at H
                  obtain ⟨rfl, rfl, rfl, rfl, rfl, rfl, rfl, rfl, rfl, rfl⟩ := H
                  obtain ⟨hcz5_0, hcz5_1, hcz5_2, hcz5_3, hcz5_4, hcz5_5, hcz5_6, hcz5_7, hfz5_0, hfz5_1, hfz5_2, hfz5_3, hfz5_4, hfz5_5, hfz5_6, hfz5_7⟩ := cells8 BK121.out
                  go_wp2
                  repeat (go_quiet (fail); try go_wp2)
                  refine bodyPost_ret (results_ctt rfl _ _ gb121 66 #[.int .u32 (0), .int .u32 (0), .int .u32 (0), .int .u32 (0), .int .u32 (0), .int .u32 (0), .int .u32 (0), .int .u32 (0)] (0, 0) _ rfl (zkp BK121) Try.underlying66 rfl (by kernel_rfl)) rfl ?_
                  exact ⟨by first | rfl | (simp [errW_none, errW_some] <;> rfl) | (simp only [← hji5]; first | rfl | (simp [errW_none, errW_some] <;> rfl)) | (simp [*, errW_none, errW_some] <;> rfl), zb HB⟩
                · rw [if_neg c201] at H
                  have c201b0 : decide (197119 < t123) = false := decide_eq_false c201
                  clear c201
                  have HT := Aside0.mk H
                  clear H
                  go_upto_region 11 with (fail)
                  repeat (go_quiet (fail); go_upto_region 11 with (fail))
                  have H := HT.out
                  clear HT
                  by_cases c202 : t124 < 256
                  · rw [if_pos c202] at H
                    have c202b0 : decide (t124 < 256) = true := decide_eq_true c202
                    clear c202
                    simp only [Option.some.injEq, Prod.mk.injEq] at H
                    obtain ⟨rfl, rfl, rfl, rfl, rfl, rfl, rfl, rfl, rfl, rfl⟩ := H
                    obtain ⟨hcz5_0, hcz5_1, hcz5_2, hcz5_3, hcz5_4, hcz5_5, hcz5_6, hcz5_7, hfz5_0, hfz5_1, hfz5_2, hfz5_3, hfz5_4, hfz5_5, hfz5_6, hfz5_7⟩ := cells8 BK121.out
                    go_wp2
                    repeat (go_quiet (fail); try go_wp2)
                    refine bodyPost_ret (results_ctt rfl _ _ gb121 66 #[.int .u32 (0), .int .u32 (0), .int .u32 (0), .int .u32 (0), .int .u32 (0), .int .u32 (0), .int .u32 (0), .int .u32 (0)] (0, 0) _ rfl (zkp BK121) Try.underlying66 rfl (by kernel_rfl)) rfl ?_
                    exact ⟨by first | rfl | (simp [errW_none, errW_some] <;> rfl) | (simp only [← hji5]; first | rfl | (simp [errW_none, errW_some] <;> rfl)) | (simp [*, errW_none, errW_some] <;> rfl), zb HB⟩
                  · rw [if_neg c202] at H
                    have c202b0 : decide (t124 < 256) = false := decide_eq_false c202
                    clear c202
                    by_cases c203 : ¬ (Int.tmod t124 256 = 0)
                    · rw [if_pos c203] at H
                      have c203A : Aside0 (header_paged.f t124 = some false) := ⟨by unfold header_paged.f; rw [beq_eq_false_iff_ne.mpr c203]⟩
                      clear c203
                      simp only [Option.some.injEq, Prod.mk.injEq] at H
                      obtain ⟨rfl, rfl, rfl, rfl, rfl, rfl, rfl, rfl, rfl, rfl⟩ := H
                      obtain ⟨hcz5_0, hcz5_1, hcz5_2, hcz5_3, hcz5_4, hcz5_5, hcz5_6, hcz5_7, hfz5_0, hfz5_1, hfz5_2, hfz5_3, hfz5_4, hfz5_5, hfz5_6, hfz5_7⟩ := cells8 BK121.out
                      go_wp2_with (first | (go_at_call 65; (with_reducible refine (header_paged.calls t124 false _ c203A.out).mono ?_); rintro e w' ⟨rfl, ⟨nd, rfl⟩⟩; (try first | exact ⟨rfl, _, World.drewN_drewN _ _ _⟩ | exact ⟨rfl, _, Eq.trans (World.drewN_drewN _ _ _) (congrArg (World.drewN _) (Nat.add_assoc _ _ _))⟩)))
                      repeat (go_quiet (first | (go_at_call 65; (with_reducible refine (header_paged.calls t124 false _ c203A.out).mono ?_); rintro e w' ⟨rfl, ⟨nd, rfl⟩⟩; (try first | exact ⟨rfl, _, World.drewN_drewN _ _ _⟩ | exact ⟨rfl, _, Eq.trans (World.drewN_drewN _ _ _) (congrArg (World.drewN _) (Nat.add_assoc _ _ _))⟩))); try go_wp2_with (first | (go_at_call 65; (with_reducible refine (header_paged.calls t124 false _ c203A.out).mono ?_); rintro e w' ⟨rfl, ⟨nd, rfl⟩⟩; (try first | exact ⟨rfl, _, World.drewN_drewN _ _ _⟩ | exact ⟨rfl, _, Eq.trans (World.drewN_drewN _ _ _) (congrArg (World.drewN _) (Nat.add_assoc _ _ _))⟩))))
                      refine bodyPost_ret (results_ctt rfl _ _ gb121 66 #[.int .u32 (0), .int .u32 (0), .int .u32 (0), .int .u32 (0), .int .u32 (0), .int .u32 (0), .int .u32 (0), .int .u32 (0)] (0, 0) _ rfl (zkp BK121) Try.underlying66 rfl (by kernel_rfl)) rfl ?_
                      exact ⟨by first | rfl | (simp [errW_none, errW_some] <;> rfl) | (simp only [← hji5]; first | rfl | (simp [errW_none, errW_some] <;> rfl)) | (simp [*, errW_none, errW_some] <;> rfl), zb HB⟩
                    · rw [if_neg c203] at H
                      have c203A : Aside0 (header_paged.f t124 = some true) := ⟨by unfold header_paged.f; rw [beq_iff_eq.mpr (Decidable.not_not.mp c203)]⟩
                      clear c203
                      have HT := Aside0.mk H
                      clear H
                      go_upto_region 13 with (first | (go_at_call 65; (with_reducible refine (header_paged.calls t124 true _ c203A.out).mono ?_); rintro e w' ⟨rfl, ⟨nd, rfl⟩⟩; (try first | exact ⟨rfl, _, World.drewN_drewN _ _ _⟩ | exact ⟨rfl, _, Eq.trans (World.drewN_drewN _ _ _) (congrArg (World.drewN _) (Nat.add_assoc _ _ _))⟩)))
                      repeat (go_quiet (first | (go_at_call 65; (with_reducible refine (header_paged.calls t124 true _ c203A.out).mono ?_); rintro e w' ⟨rfl, ⟨nd, rfl⟩⟩; (try first | exact ⟨rfl, _, World.drewN_drewN _ _ _⟩ | exact ⟨rfl, _, Eq.trans (World.drewN_drewN _ _ _) (congrArg (World.drewN _) (Nat.add_assoc _ _ _))⟩))); go_upto_region 13 with (first | (go_at_call 65; (with_reducible refine (header_paged.calls t124 true _ c203A.out).mono ?_); rintro e w' ⟨rfl, ⟨nd, rfl⟩⟩; (try first | exact ⟨rfl, _, World.drewN_drewN _ _ _⟩ | exact ⟨rfl, _, Eq.trans (World.drewN_drewN _ _ _) (congrArg (World.drewN _) (Nat.add_assoc _ _ _))⟩))))
                      have H := HT.out
                      clear HT
                      by_cases c204 : t125 < t124
                      · rw [if_pos c204] at H
                        have c204b0 : decide (t125 < t124) = true := decide_eq_true c204
                        clear c204
                        simp only [Option.some.injEq, Prod.mk.injEq] at H
                        obtain ⟨rfl, rfl, rfl, rfl, rfl, rfl, rfl, rfl, rfl, rfl⟩ := H
                        obtain ⟨hcz5_0, hcz5_1, hcz5_2, hcz5_3, hcz5_4, hcz5_5, hcz5_6, hcz5_7, hfz5_0, hfz5_1, hfz5_2, hfz5_3, hfz5_4, hfz5_5, hfz5_6, hfz5_7⟩ := cells8 BK121.out
                        go_wp2
                        repeat (go_quiet (fail); try go_wp2)
                        refine bodyPost_ret (results_ctt rfl _ _ gb121 66 #[.int .u32 (0), .int .u32 (0), .int .u32 (0), .int .u32 (0), .int .u32 (0), .int .u32 (0), .int .u32 (0), .int .u32 (0)] (0, 0) _ rfl (zkp BK121) Try.underlying66 rfl (by kernel_rfl)) rfl ?_
                        exact ⟨by first | rfl | (simp [errW_none, errW_some] <;> rfl) | (simp only [← hji5]; first | rfl | (simp [errW_none, errW_some] <;> rfl)) | (simp [*, errW_none, errW_some] <;> rfl), zb HB⟩
                      · rw [if_neg c204] at H
                        have c204b0 : decide (t125 < t124) = false := decide_eq_false c204
                        clear c204
                        by_cases c205 : ¬ (t125 = ((l0.length : Int) % 4294967296))
                        · rw [if_pos c205] at H
                          have c205b0 : (t125 == ((l0.length : Int) % 4294967296)) = false := beq_eq_false_iff_ne.mpr c205
                          have c205b1 : (t125 != ((l0.length : Int) % 4294967296)) = true := bne_iff_ne.mpr c205
                          clear c205
                          simp only [Option.some.injEq, Prod.mk.injEq] at H
                          obtain ⟨rfl, rfl, rfl, rfl, rfl, rfl, rfl, rfl, rfl, rfl⟩ := H
                          obtain ⟨hcz5_0, hcz5_1, hcz5_2, hcz5_3, hcz5_4, hcz5_5, hcz5_6, hcz5_7, hfz5_0, hfz5_1, hfz5_2, hfz5_3, hfz5_4, hfz5_5, hfz5_6, hfz5_7⟩ := cells8 BK121.out
                          go_wp2
                          repeat (go_quiet (fail); try go_wp2)
                          refine bodyPost_ret (results_ctt rfl _ _ gb121 66 #[.int .u32 (0), .int .u32 (0), .int .u32 (0), .int .u32 (0), .int .u32 (0), .int .u32 (0), .int .u32 (0), .int .u32 (0)] (0, 0) _ rfl (zkp BK121) Try.underlying66 rfl (by kernel_rfl)) rfl ?_
                          exact ⟨by first | rfl | (simp [errW_none, errW_some] <;> rfl) | (simp only [← hji5]; first | rfl | (simp [errW_none, errW_some] <;> rfl)) | (simp [*, errW_none, errW_some] <;> rfl), zb HB⟩
                        · rw [if_neg c205] at H
                          have c205b0 : (t125 == ((l0.length : Int) % 4294967296)) = true := beq_iff_eq.mpr (Decidable.not_not.mp c205)
                          have c205b1 : (t125 != ((l0.length : Int) % 4294967296)) = false := bne_eq_false_iff_eq.mpr (Decidable.not_not.mp c205)
                          clear c205
                          by_cases c206 : ¬ (Int.tmod t125 256 = 0)
                          · rw [if_pos c206] at H
                            have c206A : Aside0 (header_paged.f t125 = some false) := ⟨by unfold header_paged.f; rw [beq_eq_false_iff_ne.mpr c206]⟩
                            clear c206
                            simp only [Option.some.injEq, Prod.mk.injEq] at H
                            obtain ⟨rfl, rfl, rfl, rfl, rfl, rfl, rfl, rfl, rfl, rfl⟩ := H
                            obtain ⟨hcz5_0, hcz5_1, hcz5_2, hcz5_3, hcz5_4, hcz5_5, hcz5_6, hcz5_7, hfz5_0, hfz5_1, hfz5_2, hfz5_3, hfz5_4, hfz5_5, hfz5_6, hfz5_7⟩ := cells8 BK121.out
                            go_wp2_with (first | (go_at_call 65; (with_reducible refine (header_paged.calls t125 false _ c206A.out).mono ?_); rintro e w' ⟨rfl, ⟨nd, rfl⟩⟩; (try first | exact ⟨rfl, _, World.drewN_drewN _ _ _⟩ | exact ⟨rfl, _, Eq.trans (World.drewN_drewN _ _ _) (congrArg (World.drewN _) (Nat.add_assoc _ _ _))⟩)))
                            repeat (go_quiet (first | (go_at_call 65; (with_reducible refine (header_paged.calls t125 false _ c206A.out).mono ?_); rintro e w' ⟨rfl, ⟨nd, rfl⟩⟩; (try first | exact ⟨rfl, _, World.drewN_drewN _ _ _⟩ | exact ⟨rfl, _, Eq.trans (World.drewN_drewN _ _ _) (congrArg (World.drewN _) (Nat.add_assoc _ _ _))⟩))); try go_wp2_with (first | (go_at_call 65; (with_reducible refine (header_paged.calls t125 false _ c206A.out).mono ?_); rintro e w' ⟨rfl, ⟨nd, rfl⟩⟩; (try first | exact ⟨rfl, _, World.drewN_drewN _ _ _⟩ | exact ⟨rfl, _, Eq.trans (World.drewN_drewN _ _ _) (congrArg (World.drewN _) (Nat.add_assoc _ _ _))⟩))))
                            refine bodyPost_ret (results_ctt rfl _ _ gb121 66 #[.int .u32 (0), .int .u32 (0), .int .u32 (0), .int .u32 (0), .int .u32 (0), .int .u32 (0), .int .u32 (0), .int .u32 (0)] (0, 0) _ rfl (zkp BK121) Try.underlying66 rfl (by kernel_rfl)) rfl ?_
                            exact ⟨by first | rfl | (simp [errW_none, errW_some] <;> rfl) | (simp only [← hji5]; first | rfl | (simp [errW_none, errW_some] <;> rfl)) | (simp [*, errW_none, errW_some] <;> rfl), zb HB⟩
                          · rw [if_neg c206] at H
                            have c206A : Aside0 (header_paged.f t125 = some true) := ⟨by unfold header_paged.f; rw [beq_iff_eq.mpr (Decidable.not_not.mp c206)]⟩
                            clear c206
                            have HT := Aside0.mk H
                            clear H
                            go_upto_region 15 with (first | (go_at_call 65; (with_reducible refine (header_paged.calls t125 true _ c206A.out).mono ?_); rintro e w' ⟨rfl, ⟨nd, rfl⟩⟩; (try first | exact ⟨rfl, _, World.drewN_drewN _ _ _⟩ | exact ⟨rfl, _, Eq.trans (World.drewN_drewN _ _ _) (congrArg (World.drewN _) (Nat.add_assoc _ _ _))⟩)))
                            repeat (go_quiet (first | (go_at_call 65; (with_reducible refine (header_paged.calls t125 true _ c206A.out).mono ?_); rintro e w' ⟨rfl, ⟨nd, rfl⟩⟩; (try first | exact ⟨rfl, _, World.drewN_drewN _ _ _⟩ | exact ⟨rfl, _, Eq.trans (World.drewN_drewN _ _ _) (congrArg (World.drewN _) (Nat.add_assoc _ _ _))⟩))); go_upto_region 15 with (first | (go_at_call 65; (with_reducible refine (header_paged.calls t125 true _ c206A.out).mono ?_); rintro e w' ⟨rfl, ⟨nd, rfl⟩⟩; (try first | exact ⟨rfl, _, World.drewN_drewN _ _ _⟩ | exact ⟨rfl, _, Eq.trans (World.drewN_drewN _ _ _) (congrArg (World.drewN _) (Nat.add_assoc _ _ _))⟩))))
                            have H := HT.out
                            clear HT
                            by_cases c207 : t126 < t125
                            · rw [if_pos c207] at H
                              have c207b0 : decide (t126 < t125) = true := decide_eq_true c207
                              clear c207
                              simp only [Option.some.injEq, Prod.mk.injEq] at H
                              obtain ⟨rfl, rfl, rfl, rfl, rfl, rfl, rfl, rfl, rfl, rfl⟩ := H
                              obtain ⟨hcz5_0, hcz5_1, hcz5_2, hcz5_3, hcz5_4, hcz5_5, hcz5_6, hcz5_7, hfz5_0, hfz5_1, hfz5_2, hfz5_3, hfz5_4, hfz5_5, hfz5_6, hfz5_7⟩ := cells8 BK121.out
                              go_wp2
                              repeat (go_quiet (fail); try go_wp2)
                              refine bodyPost_ret (results_ctt rfl _ _ gb121 66 #[.int .u32 (0), .int .u32 (0), .int .u32 (0), .int .u32 (0), .int .u32 (0), .int .u32 (0), .int .u32 (0), .int .u32 (0)] (0, 0) _ rfl (zkp BK121) Try.underlying66 rfl (by kernel_rfl)) rfl ?_
                              exact ⟨by first | rfl | (simp [errW_none, errW_some] <;> rfl) | (simp only [← hji5]; first | rfl | (simp [errW_none, errW_some] <;> rfl)) | (simp [*, errW_none, errW_some] <;> rfl), zb HB⟩
                            · rw [if_neg c207] at H
                              have c207b0 : decide (t126 < t125) = false := decide_eq_false c207
                              clear c207
                              by_cases c208 : t126 > 1048576
                              · rw [if_pos c208] at H
                                have c208b0 : decide (1048576 < t126) = true := decide_eq_true c208
                                clear c208
                                simp only [Option.some.injEq, Prod.mk.injEq] at H
                                obtain ⟨rfl, rfl, rfl, rfl, rfl, rfl, rfl, rfl, rfl, rfl⟩ := H
                                obtain ⟨hcz5_0, hcz5_1, hcz5_2, hcz5_3, hcz5_4, hcz5_5, hcz5_6, hcz5_7, hfz5_0, hfz5_1, hfz5_2, hfz5_3, hfz5_4, hfz5_5, hfz5_6, hfz5_7⟩ := cells8 BK121.out
                                go_wp2
                                repeat (go_quiet (fail); try go_wp2)
                                refine bodyPost_ret (results_ctt rfl _ _ gb121 66 #[.int .u32 (0), .int .u32 (0), .int .u32 (0), .int .u32 (0), .int .u32 (0), .int .u32 (0), .int .u32 (0), .int .u32 (0)] (0, 0) _ rfl (zkp BK121) Try.underlying66 rfl (by kernel_rfl)) rfl ?_
                                exact ⟨by first | rfl | (simp [errW_none, errW_some] <;> rfl) | (simp only [← hji5]; first | rfl | (simp [errW_none, errW_some] <;> rfl)) | (simp [*, errW_none, errW_some] <;> rfl), zb HB⟩
                              · rw [if_neg c208] at H
                                have c208b0 : decide (1048576 < t126) = false := decide_eq_false c208
                                clear c208
                                by_cases c209 : ¬ (Int.tmod t126 256 = 0)
                                · rw [if_pos c209] at H
                                  have c209A : Aside0 (header_paged.f t126 = some false) := ⟨by unfold header_paged.f; rw [beq_eq_false_iff_ne.mpr c209]⟩
                                  clear c209
                                  simp only [Option.some.injEq, Prod.mk.injEq] at H
                                  obtain ⟨rfl, rfl, rfl, rfl, rfl, rfl, rfl, rfl, rfl, rfl⟩ := H
                                  obtain ⟨hcz5_0, hcz5_1, hcz5_2, hcz5_3, hcz5_4, hcz5_5, hcz5_6, hcz5_7, hfz5_0, hfz5_1, hfz5_2, hfz5_3, hfz5_4, hfz5_5, hfz5_6, hfz5_7⟩ := cells8 BK121.out
                                  go_wp2_with (first | (go_at_call 65; (with_reducible refine (header_paged.calls t126 false _ c209A.out).mono ?_); rintro e w' ⟨rfl, ⟨nd, rfl⟩⟩; (try first | exact ⟨rfl, _, World.drewN_drewN _ _ _⟩ | exact ⟨rfl, _, Eq.trans (World.drewN_drewN _ _ _) (congrArg (World.drewN _) (Nat.add_assoc _ _ _))⟩)))
                                  repeat (go_quiet (first | (go_at_call 65; (with_reducible refine (header_paged.calls t126 false _ c209A.out).mono ?_); rintro e w' ⟨rfl, ⟨nd, rfl⟩⟩; (try first | exact ⟨rfl, _, World.drewN_drewN _ _ _⟩ | exact ⟨rfl, _, Eq.trans (World.drewN_drewN _ _ _) (congrArg (World.drewN _) (Nat.add_assoc _ _ _))⟩))); try go_wp2_with (first | (go_at_call 65; (with_reducible refine (header_paged.calls t126 false _ c209A.out).mono ?_); rintro e w' ⟨rfl, ⟨nd, rfl⟩⟩; (try first | exact ⟨rfl, _, World.drewN_drewN _ _ _⟩ | exact ⟨rfl, _, Eq.trans (World.drewN_drewN _ _ _) (congrArg (World.drewN _) (Nat.add_assoc _ _ _))⟩))))
                                  refine bodyPost_ret (results_ctt rfl _ _ gb121 66 #[.int .u32 (0), .int .u32 (0), .int .u32 (0), .int .u32 (0), .int .u32 (0), .int .u32 (0), .int .u32 (0), .int .u32 (0)] (0, 0) _ rfl (zkp BK121) Try.underlying66 rfl (by kernel_rfl)) rfl ?_
                                  exact ⟨by first | rfl | (simp [errW_none, errW_some] <;> rfl) | (simp only [← hji5]; first | rfl | (simp [errW_none, errW_some] <;> rfl)) | (simp [*, errW_none, errW_some] <;> rfl), zb HB⟩
                                · rw [if_neg c209] at H
                                  have c209A : Aside0 (header_paged.f t126 = some true) := ⟨by unfold header_paged.f; rw [beq_iff_eq.mpr (Decidable.not_not.mp c209)]⟩
                                  clear c209
                                  have HT := Aside0.mk H
                                  clear H
                                  go_upto_region 17 with (first | (go_at_call 65; (with_reducible refine (header_paged.calls t126 true _ c209A.out).mono ?_); rintro e w' ⟨rfl, ⟨nd, rfl⟩⟩; (try first | exact ⟨rfl, _, World.drewN_drewN _ _ _⟩ | exact ⟨rfl, _, Eq.trans (World.drewN_drewN _ _ _) (congrArg (World.drewN _) (Nat.add_assoc _ _ _))⟩)))
                                  repeat (go_quiet (first | (go_at_call 65; (with_reducible refine (header_paged.calls t126 true _ c209A.out).mono ?_); rintro e w' ⟨rfl, ⟨nd, rfl⟩⟩; (try first | exact ⟨rfl, _, World.drewN_drewN _ _ _⟩ | exact ⟨rfl, _, Eq.trans (World.drewN_drewN _ _ _) (congrArg (World.drewN _) (Nat.add_assoc _ _ _))⟩))); go_upto_region 17 with (first | (go_at_call 65; (with_reducible refine (header_paged.calls t126 true _ c209A.out).mono ?_); rintro e w' ⟨rfl, ⟨nd, rfl⟩⟩; (try first | exact ⟨rfl, _, World.drewN_drewN _ _ _⟩ | exact ⟨rfl, _, Eq.trans (World.drewN_drewN _ _ _) (congrArg (World.drewN _) (Nat.add_assoc _ _ _))⟩))))
                                  have H := HT.out
                                  clear HT
                                  by_cases c210 : t127 = 0
                                  · rw [if_pos c210] at H
                                    have c210b0 : (t127 == 0) = true := beq_iff_eq.mpr c210
                                    have c210b1 : (t127 != 0) = false := bne_eq_false_iff_eq.mpr c210
                                    clear c210
                                    simp only [Option.some.injEq, Prod.mk.injEq] at H
                                    obtain ⟨rfl, rfl, rfl, rfl, rfl, rfl, rfl, rfl, rfl, rfl⟩ := H
                                    obtain ⟨hcz5_0, hcz5_1, hcz5_2, hcz5_3, hcz5_4, hcz5_5, hcz5_6, hcz5_7, hfz5_0, hfz5_1, hfz5_2, hfz5_3, hfz5_4, hfz5_5, hfz5_6, hfz5_7⟩ := cells8 BK121.out
                                    go_wp2
                                    repeat (go_quiet (fail); try go_wp2)
                                    refine bodyPost_ret (results_ctt rfl _ _ gb121 66 #[.int .u32 (0), .int .u32 (0), .int .u32 (0), .int .u32 (0), .int .u32 (0), .int .u32 (0), .int .u32 (0), .int .u32 (0)] (0, 0) _ rfl (zkp BK121) Try.underlying66 rfl (by kernel_rfl)) rfl ?_
                                    exact ⟨by first | rfl | (simp [errW_none, errW_some] <;> rfl) | (simp only [← hji5]; first | rfl | (simp [errW_none, errW_some] <;> rfl)) | (simp [*, errW_none, errW_some] <;> rfl), zb HB⟩
                                  · rw [if_neg c210] at H
                                    have c210b0 : (t127 == 0) = false := beq_eq_false_iff_ne.mpr c210
                                    have c210b1 : (t127 != 0) = true := bne_iff_ne.mpr c210
                                    clear c210
                                    by_cases c211 : t127 > 65536
                                    · rw [if_pos c211] at H
                                      have c211b0 : decide (65536 < t127) = true := decide_eq_true c211
                                      clear c211
                                      simp only [Option.some.injEq, Prod.mk.injEq] at H
                                      obtain ⟨rfl, rfl, rfl, rfl, rfl, rfl, rfl, rfl, rfl, rfl⟩ := H
                                      obtain ⟨hcz5_0, hcz5_1, hcz5_2, hcz5_3, hcz5_4, hcz5_5, hcz5_6, hcz5_7, hfz5_0, hfz5_1, hfz5_2, hfz5_3, hfz5_4, hfz5_5, hfz5_6, hfz5_7⟩ := cells8 BK121.out
                                      go_wp2
                                      repeat (go_quiet (fail); try go_wp2)
                                      refine bodyPost_ret (results_ctt rfl _ _ gb121 66 #[.int .u32 (0), .int .u32 (0), .int .u32 (0), .int .u32 (0), .int .u32 (0), .int .u32 (0), .int .u32 (0), .int .u32 (0)] (0, 0) _ rfl (zkp BK121) Try.underlying66 rfl (by kernel_rfl)) rfl ?_
                                      exact ⟨by first | rfl | (simp [errW_none, errW_some] <;> rfl) | (simp only [← hji5]; first | rfl | (simp [errW_none, errW_some] <;> rfl)) | (simp [*, errW_none, errW_some] <;> rfl), zb HB⟩
                                    · rw [if_neg c211] at H
                                      have c211b0 : decide (65536 < t127) = false := decide_eq_false c211
                                      clear c211
                                      by_cases c212 : ¬ (Int.tmod t127 256 = 0)
                                      · rw [if_pos c212] at H
                                        have c212A : Aside0 (header_paged.f t127 = some false) := ⟨by unfold header_paged.f; rw [beq_eq_false_iff_ne.mpr c212]⟩
                                        clear c212
                                        simp only [Option.some.injEq, Prod.mk.injEq] at H
                                        obtain ⟨rfl, rfl, rfl, rfl, rfl, rfl, rfl, rfl, rfl, rfl⟩ := H
                                        obtain ⟨hcz5_0, hcz5_1, hcz5_2, hcz5_3, hcz5_4, hcz5_5, hcz5_6, hcz5_7, hfz5_0, hfz5_1, hfz5_2, hfz5_3, hfz5_4, hfz5_5, hfz5_6, hfz5_7⟩ := cells8 BK121.out
                                        go_wp2_with (first | (go_at_call 65; (with_reducible refine (header_paged.calls t127 false _ c212A.out).mono ?_); rintro e w' ⟨rfl, ⟨nd, rfl⟩⟩; (try first | exact ⟨rfl, _, World.drewN_drewN _ _ _⟩ | exact ⟨rfl, _, Eq.trans (World.drewN_drewN _ _ _) (congrArg (World.drewN _) (Nat.add_assoc _ _ _))⟩)))
                                        repeat (go_quiet (first | (go_at_call 65; (with_reducible refine (header_paged.calls t127 false _ c212A.out).mono ?_); rintro e w' ⟨rfl, ⟨nd, rfl⟩⟩; (try first | exact ⟨rfl, _, World.drewN_drewN _ _ _⟩ | exact ⟨rfl, _, Eq.trans (World.drewN_drewN _ _ _) (congrArg (World.drewN _) (Nat.add_assoc _ _ _))⟩))); try go_wp2_with (first | (go_at_call 65; (with_reducible refine (header_paged.calls t127 false _ c212A.out).mono ?_); rintro e w' ⟨rfl, ⟨nd, rfl⟩⟩; (try first | exact ⟨rfl, _, World.drewN_drewN _ _ _⟩ | exact ⟨rfl, _, Eq.trans (World.drewN_drewN _ _ _) (congrArg (World.drewN _) (Nat.add_assoc _ _ _))⟩))))
                                        refine bodyPost_ret (results_ctt rfl _ _ gb121 66 #[.int .u32 (0), .int .u32 (0), .int .u32 (0), .int .u32 (0), .int .u32 (0), .int .u32 (0), .int .u32 (0), .int .u32 (0)] (0, 0) _ rfl (zkp BK121) Try.underlying66 rfl (by kernel_rfl)) rfl ?_
                                        exact ⟨by first | rfl | (simp [errW_none, errW_some] <;> rfl) | (simp only [← hji5]; first | rfl | (simp [errW_none, errW_some] <;> rfl)) | (simp [*, errW_none, errW_some] <;> rfl), zb HB⟩
                                      · rw [if_neg c212] at H
                                        have c212A : Aside0 (header_paged.f t127 = some true) := ⟨by unfold header_paged.f; rw [beq_iff_eq.mpr (Decidable.not_not.mp c212)]⟩
                                        clear c212
                                        have HT := Aside0.mk H
                                        clear H
                                        go_upto_region 19 with (first | (go_at_call 65; (with_reducible refine (header_paged.calls t127 true _ c212A.out).mono ?_); rintro e w' ⟨rfl, ⟨nd, rfl⟩⟩; (try first | exact ⟨rfl, _, World.drewN_drewN _ _ _⟩ | exact ⟨rfl, _, Eq.trans (World.drewN_drewN _ _ _) (congrArg (World.drewN _) (Nat.add_assoc _ _ _))⟩)))
                                        repeat (go_quiet (first | (go_at_call 65; (with_reducible refine (header_paged.calls t127 true _ c212A.out).mono ?_); rintro e w' ⟨rfl, ⟨nd, rfl⟩⟩; (try first | exact ⟨rfl, _, World.drewN_drewN _ _ _⟩ | exact ⟨rfl, _, Eq.trans (World.drewN_drewN _ _ _) (congrArg (World.drewN _) (Nat.add_assoc _ _ _))⟩))); go_upto_region 19 with (first | (go_at_call 65; (with_reducible refine (header_paged.calls t127 true _ c212A.out).mono ?_); rintro e w' ⟨rfl, ⟨nd, rfl⟩⟩; (try first | exact ⟨rfl, _, World.drewN_drewN _ _ _⟩ | exact ⟨rfl, _, Eq.trans (World.drewN_drewN _ _ _) (congrArg (World.drewN _) (Nat.add_assoc _ _ _))⟩))))
                                        have H := HT.out
                                        clear HT
                                        by_cases c213 : t128 < 36
                                        · rw [if_pos c213] at H
                                          have c213b0 : decide (t128 < 36) = true := decide_eq_true c213
                                          clear c213
                                          simp only [Option.some.injEq, Prod.mk.injEq] at H
                                          obtain ⟨rfl, rfl, rfl, rfl, rfl, rfl, rfl, rfl, rfl, rfl⟩ := H
                                          obtain ⟨hcz5_0, hcz5_1, hcz5_2, hcz5_3, hcz5_4, hcz5_5, hcz5_6, hcz5_7, hfz5_0, hfz5_1, hfz5_2, hfz5_3, hfz5_4, hfz5_5, hfz5_6, hfz5_7⟩ := cells8 BK121.out
                                          go_wp2
                                          repeat (go_quiet (fail); try go_wp2)
                                          refine bodyPost_ret (results_ctt rfl _ _ gb121 66 #[.int .u32 (0), .int .u32 (0), .int .u32 (0), .int .u32 (0), .int .u32 (0), .int .u32 (0), .int .u32 (0), .int .u32 (0)] (0, 0) _ rfl (zkp BK121) Try.underlying66 rfl (by kernel_rfl)) rfl ?_
                                          exact ⟨by first | rfl | (simp [errW_none, errW_some] <;> rfl) | (simp only [← hji5]; first | rfl | (simp [errW_none, errW_some] <;> rfl)) | (simp [*, errW_none, errW_some] <;> rfl), zb HB⟩
                                        · rw [if_neg c213] at H
                                          have c213b0 : decide (t128 < 36) = false := decide_eq_false c213
                                          clear c213
                                          by_cases c214 : t128 ≥ t126
                                          · rw [if_pos c214] at H
                                            have c214b0 : decide (t126 ≤ t128) = true := decide_eq_true c214
                                            clear c214
                                            simp only [Option.some.injEq, Prod.mk.injEq] at H
                                            obtain ⟨rfl, rfl, rfl, rfl, rfl, rfl, rfl, rfl, rfl, rfl⟩ := H
                                            obtain ⟨hcz5_0, hcz5_1, hcz5_2, hcz5_3, hcz5_4, hcz5_5, hcz5_6, hcz5_7, hfz5_0, hfz5_1, hfz5_2, hfz5_3, hfz5_4, hfz5_5, hfz5_6, hfz5_7⟩ := cells8 BK121.out
                                            go_wp2
                                            repeat (go_quiet (fail); try go_wp2)
                                            refine bodyPost_ret (results_ctt rfl _ _ gb121 66 #[.int .u32 (0), .int .u32 (0), .int .u32 (0), .int .u32 (0), .int .u32 (0), .int .u32 (0), .int .u32 (0), .int .u32 (0)] (0, 0) _ rfl (zkp BK121) Try.underlying66 rfl (by kernel_rfl)) rfl ?_
                                            exact ⟨by first | rfl | (simp [errW_none, errW_some] <;> rfl) | (simp only [← hji5]; first | rfl | (simp [errW_none, errW_some] <;> rfl)) | (simp [*, errW_none, errW_some] <;> rfl), zb HB⟩
                                          · rw [if_neg c214] at H
                                            have c214b0 : decide (t126 ≤ t128) = false := decide_eq_false c214
                                            clear c214
                                            by_cases c215 : t129 ≥ t126
                                            · rw [if_pos c215] at H
                                              have c215b0 : decide (t126 ≤ t129) = true := decide_eq_true c215
                                              clear c215
                                              simp only [Option.some.injEq, Prod.mk.injEq] at H
                                              obtain ⟨rfl, rfl, rfl, rfl, rfl, rfl, rfl, rfl, rfl, rfl⟩ := H
                                              obtain ⟨hcz5_0, hcz5_1, hcz5_2, hcz5_3, hcz5_4, hcz5_5, hcz5_6, hcz5_7, hfz5_0, hfz5_1, hfz5_2, hfz5_3, hfz5_4, hfz5_5, hfz5_6, hfz5_7⟩ := cells8 BK121.out
                                              go_wp2
                                              repeat (go_quiet (fail); try go_wp2)
                                              refine bodyPost_ret (results_ctt rfl _ _ gb121 66 #[.int .u32 (0), .int .u32 (0), .int .u32 (0), .int .u32 (0), .int .u32 (0), .int .u32 (0), .int .u32 (0), .int .u32 (0)] (0, 0) _ rfl (zkp BK121) Try.underlying66 rfl (by kernel_rfl)) rfl ?_
                                              exact ⟨by first | rfl | (simp [errW_none, errW_some] <;> rfl) | (simp only [← hji5]; first | rfl | (simp [errW_none, errW_some] <;> rfl)) | (simp [*, errW_none, errW_some] <;> rfl), zb HB⟩
                                            · rw [if_neg c215] at H
                                              have c215b0 : decide (t126 ≤ t129) = false := decide_eq_false c215
                                              clear c215
                                              replace H := Option.bind_eq_some_iff.mp H
                                              obtain ⟨t136, A780, H⟩ := H
                                              have A78 := Aside0.mk A780
                                              clear A780
                                              by_cases c299 : t130 = t136
                                              · rw [if_pos c299] at H
                                                have c299b0 : (t130 == t136) = true := beq_iff_eq.mpr c299
                                                have c299b1 : (t130 != t136) = false := bne_eq_false_iff_eq.mpr c299
                                                clear c299
                                                simp only [Option.some.injEq, Prod.mk.injEq] at H
                                                obtain ⟨rfl, rfl, rfl, rfl, rfl, rfl, rfl, rfl, rfl, rfl⟩ := H
                                                obtain ⟨hcz5_0, hcz5_1, hcz5_2, hcz5_3, hcz5_4, hcz5_5, hcz5_6, hcz5_7, hfz5_0, hfz5_1, hfz5_2, hfz5_3, hfz5_4, hfz5_5, hfz5_6, hfz5_7⟩ := cells8 BK121.out
                                                go_wp2_with (first | (go_at_call 66; (with_reducible refine (header_Sum.calls k _ _ l0 t136 _ ?side1 ?side2 A78.out).mono ?_); (case side1 => repeat (first | exact (Kd.C_below HR0.out HB.out) | (with_reducible refine Kd.C_alloc ?_ _) | (with_reducible refine Kd.C_drewN ?_ _) | (with_reducible refine Kd.C_drew ?_))); (case side2 => exact HC0.out); rintro e w' ⟨rfl, ⟨nd, rfl⟩⟩; (try first | exact ⟨rfl, _, World.drewN_drewN _ _ _⟩ | exact ⟨rfl, _, Eq.trans (World.drewN_drewN _ _ _) (congrArg (World.drewN _) (Nat.add_assoc _ _ _))⟩)))
                                                repeat (go_quiet (first | (go_at_call 66; (with_reducible refine (header_Sum.calls k _ _ l0 t136 _ ?side1 ?side2 A78.out).mono ?_); (case side1 => repeat (first | exact (Kd.C_below HR0.out HB.out) | (with_reducible refine Kd.C_alloc ?_ _) | (with_reducible refine Kd.C_drewN ?_ _) | (with_reducible refine Kd.C_drew ?_))); (case side2 => exact HC0.out); rintro e w' ⟨rfl, ⟨nd, rfl⟩⟩; (try first | exact ⟨rfl, _, World.drewN_drewN _ _ _⟩ | exact ⟨rfl, _, Eq.trans (World.drewN_drewN _ _ _) (congrArg (World.drewN _) (Nat.add_assoc _ _ _))⟩))); try go_wp2_with (first | (go_at_call 66; (with_reducible refine (header_Sum.calls k _ _ l0 t136 _ ?side1 ?side2 A78.out).mono ?_); (case side1 => repeat (first | exact (Kd.C_below HR0.out HB.out) | (with_reducible refine Kd.C_alloc ?_ _) | (with_reducible refine Kd.C_drewN ?_ _) | (with_reducible refine Kd.C_drew ?_))); (case side2 => exact HC0.out); rintro e w' ⟨rfl, ⟨nd, rfl⟩⟩; (try first | exact ⟨rfl, _, World.drewN_drewN _ _ _⟩ | exact ⟨rfl, _, Eq.trans (World.drewN_drewN _ _ _) (congrArg (World.drewN _) (Nat.add_assoc _ _ _))⟩))))
                                                refine bodyPost_ret (results_ctt rfl _ _ gb121 66 #[.int .u32 (t123), .int .u32 (t124), .int .u32 (t125), .int .u32 (t126), .int .u32 (t127), .int .u32 (t128), .int .u32 (t129), .int .u32 (t130)] (0, 0) _ rfl (zkp BK121) Try.underlying66 rfl (by kernel_rfl)) rfl ?_
                                                exact ⟨by first | rfl | (simp [errW_none, errW_some] <;> rfl) | (simp only [← hji5]; first | rfl | (simp [errW_none, errW_some] <;> rfl)) | (simp [*, errW_none, errW_some] <;> rfl), zb HB⟩
                                              · rw [if_neg c299] at H
                                                have c299b0 : (t130 == t136) = false := beq_eq_false_iff_ne.mpr c299
                                                have c299b1 : (t130 != t136) = true := bne_iff_ne.mpr c299
                                                clear c299
                                                simp only [Option.some.injEq, Prod.mk.injEq] at H
                                                obtain ⟨rfl, rfl, rfl, rfl, rfl, rfl, rfl, rfl, rfl, rfl⟩ := H
                                                obtain ⟨hcz5_0, hcz5_1, hcz5_2, hcz5_3, hcz5_4, hcz5_5, hcz5_6, hcz5_7, hfz5_0, hfz5_1, hfz5_2, hfz5_3, hfz5_4, hfz5_5, hfz5_6, hfz5_7⟩ := cells8 BK121.out
                                                go_wp2_with (first | (go_at_call 66; (with_reducible refine (header_Sum.calls k _ _ l0 t136 _ ?side1 ?side2 A78.out).mono ?_); (case side1 => repeat (first | exact (Kd.C_below HR0.out HB.out) | (with_reducible refine Kd.C_alloc ?_ _) | (with_reducible refine Kd.C_drewN ?_ _) | (with_reducible refine Kd.C_drew ?_))); (case side2 => exact HC0.out); rintro e w' ⟨rfl, ⟨nd, rfl⟩⟩; (try first | exact ⟨rfl, _, World.drewN_drewN _ _ _⟩ | exact ⟨rfl, _, Eq.trans (World.drewN_drewN _ _ _) (congrArg (World.drewN _) (Nat.add_assoc _ _ _))⟩)))
                                                repeat (go_quiet (first | (go_at_call 66; (with_reducible refine (header_Sum.calls k _ _ l0 t136 _ ?side1 ?side2 A78.out).mono ?_); (case side1 => repeat (first | exact (Kd.C_below HR0.out HB.out) | (with_reducible refine Kd.C_alloc ?_ _) | (with_reducible refine Kd.C_drewN ?_ _) | (with_reducible refine Kd.C_drew ?_))); (case side2 => exact HC0.out); rintro e w' ⟨rfl, ⟨nd, rfl⟩⟩; (try first | exact ⟨rfl, _, World.drewN_drewN _ _ _⟩ | exact ⟨rfl, _, Eq.trans (World.drewN_drewN _ _ _) (congrArg (World.drewN _) (Nat.add_assoc _ _ _))⟩))); try go_wp2_with (first | (go_at_call 66; (with_reducible refine (header_Sum.calls k _ _ l0 t136 _ ?side1 ?side2 A78.out).mono ?_); (case side1 => repeat (first | exact (Kd.C_below HR0.out HB.out) | (with_reducible refine Kd.C_alloc ?_ _) | (with_reducible refine Kd.C_drewN ?_ _) | (with_reducible refine Kd.C_drew ?_))); (case side2 => exact HC0.out); rintro e w' ⟨rfl, ⟨nd, rfl⟩⟩; (try first | exact ⟨rfl, _, World.drewN_drewN _ _ _⟩ | exact ⟨rfl, _, Eq.trans (World.drewN_drewN _ _ _) (congrArg (World.drewN _) (Nat.add_assoc _ _ _))⟩))))
                                                refine bodyPost_ret (results_ctt rfl _ _ gb121 66 #[.int .u32 (0), .int .u32 (0), .int .u32 (0), .int .u32 (0), .int .u32 (0), .int .u32 (0), .int .u32 (0), .int .u32 (0)] (0, 0) _ rfl (zkp BK121) Try.underlying66 rfl (by kernel_rfl)) rfl ?_
                                                exact ⟨by first | rfl | (simp [errW_none, errW_some] <;> rfl) | (simp only [← hji5]; first | rfl | (simp [errW_none, errW_some] <;> rfl)) | (simp [*, errW_none, errW_some] <;> rfl), zb HB⟩
          · rw [if_neg c10] at H
            have c10b0 : ((strOfNums (l0.take ((ji5) : Int).toNat)).toList == ((⟨#[71, 108, 117, 108]⟩ : ByteArray).extract 0 ((ji5) : Int).toNat).toList) = false := beq_eq_false_iff_ne.mpr c10
            have c10b1 : ((strOfNums (l0.take ((ji5) : Int).toNat)).toList != ((⟨#[71, 108, 117, 108]⟩ : ByteArray).extract 0 ((ji5) : Int).toNat).toList) = true := bne_iff_ne.mpr c10
            simp only [Option.some.injEq, Prod.mk.injEq] at H
            obtain ⟨rfl, rfl, rfl, rfl, rfl, rfl, rfl, rfl, rfl, rfl⟩ := H
            go_enter Try.func45, Try.ntmps45
            go_wp2_with (first | ((with_reducible refine gate_dst (N := 2) rfl ?_); (try (refine gate_guard (by rfl) ?_; dsimp only)); refine zbox (N := 2) (cs := #[.int .u32 0, .int .u32 0, .int .u32 0, .int .u32 0, .int .u32 0, .int .u32 0, .int .u32 0, .int .u32 0]) (t := 66) ?_; intro gb121 hg w103 hbox hb; have BK121 := Aside0.mk hbox; have GW121 := zge hg HB; have GE121 := zge hg HB; replace HB := zbs HB hb; clear hb hbox hg; obtain ⟨i0104, hi0104, _, hsz104, _⟩ := info_parts info5; obtain ⟨hcut104, hA104, hC104⟩ := print_take_of (P := Try.prog) (Value.int .u8) 0 41 5 .i64 Try.underlying41 hi0104 hsz104 A0 c0 l0 (ji5) (of_decide_eq_true (by first | (with_reducible assumption) | assumption)) (of_decide_eq_true (by first | (with_reducible assumption) | assumption)) HC0.out; have HR122 := Aside0.mk (Kd.C_of_reads (h1 := fun _ => rfl) (hA104 _ (Kd.reads_of_C HR0.out))); have HC122 := Aside0.mk hC104; clear hA104 hC104 hi0104 hsz104; generalize (l0.take ((ji5) : Int).toNat) = sl_ at *; have hcv105 := Kd.C_string (P := Try.prog) (A := A0) (c := c0) Try.underlying41 Try.underlying5 Try.underlying9 (Kd.C_below HR122.out HB.out); have hcz106_0 : w103.cell? ⟨gb121, 0, none⟩ = some (.int .u32 0) := (blk_cell BK121.out 0).trans rfl; have hcz106_1 : w103.cell? ⟨gb121, 1, none⟩ = some (.int .u32 0) := (blk_cell BK121.out 1).trans rfl; have hcz106_2 : w103.cell? ⟨gb121, 2, none⟩ = some (.int .u32 0) := (blk_cell BK121.out 2).trans rfl; have hcz106_3 : w103.cell? ⟨gb121, 3, none⟩ = some (.int .u32 0) := (blk_cell BK121.out 3).trans rfl; have hcz106_4 : w103.cell? ⟨gb121, 4, none⟩ = some (.int .u32 0) := (blk_cell BK121.out 4).trans rfl; have hcz106_5 : w103.cell? ⟨gb121, 5, none⟩ = some (.int .u32 0) := (blk_cell BK121.out 5).trans rfl; have hcz106_6 : w103.cell? ⟨gb121, 6, none⟩ = some (.int .u32 0) := (blk_cell BK121.out 6).trans rfl; have hcz106_7 : w103.cell? ⟨gb121, 7, none⟩ = some (.int .u32 0) := (blk_cell BK121.out 7).trans rfl; have hfz106_0 := blk_frozen BK121.out 0; have hfz106_1 := blk_frozen BK121.out 1; have hfz106_2 := blk_frozen BK121.out 2; have hfz106_3 := blk_frozen BK121.out 3; have hfz106_4 := blk_frozen BK121.out 4; have hfz106_5 := blk_frozen BK121.out 5; have hfz106_6 := blk_frozen BK121.out 6; have hfz106_7 := blk_frozen BK121.out 7))
            repeat (go_quiet (first | ((with_reducible refine gate_dst (N := 2) rfl ?_); (try (refine gate_guard (by rfl) ?_; dsimp only)); refine zbox (N := 2) (cs := #[.int .u32 0, .int .u32 0, .int .u32 0, .int .u32 0, .int .u32 0, .int .u32 0, .int .u32 0, .int .u32 0]) (t := 66) ?_; intro gb121 hg w103 hbox hb; have BK121 := Aside0.mk hbox; have GW121 := zge hg HB; have GE121 := zge hg HB; replace HB := zbs HB hb; clear hb hbox hg; obtain ⟨i0104, hi0104, _, hsz104, _⟩ := info_parts info5; obtain ⟨hcut104, hA104, hC104⟩ := print_take_of (P := Try.prog) (Value.int .u8) 0 41 5 .i64 Try.underlying41 hi0104 hsz104 A0 c0 l0 (ji5) (of_decide_eq_true (by first | (with_reducible assumption) | assumption)) (of_decide_eq_true (by first | (with_reducible assumption) | assumption)) HC0.out; have HR122 := Aside0.mk (Kd.C_of_reads (h1 := fun _ => rfl) (hA104 _ (Kd.reads_of_C HR0.out))); have HC122 := Aside0.mk hC104; clear hA104 hC104 hi0104 hsz104; generalize (l0.take ((ji5) : Int).toNat) = sl_ at *; have hcv105 := Kd.C_string (P := Try.prog) (A := A0) (c := c0) Try.underlying41 Try.underlying5 Try.underlying9 (Kd.C_below HR122.out HB.out); have hcz106_0 : w103.cell? ⟨gb121, 0, none⟩ = some (.int .u32 0) := (blk_cell BK121.out 0).trans rfl; have hcz106_1 : w103.cell? ⟨gb121, 1, none⟩ = some (.int .u32 0) := (blk_cell BK121.out 1).trans rfl; have hcz106_2 : w103.cell? ⟨gb121, 2, none⟩ = some (.int .u32 0) := (blk_cell BK121.out 2).trans rfl; have hcz106_3 : w103.cell? ⟨gb121, 3, none⟩ = some (.int .u32 0) := (blk_cell BK121.out 3).trans rfl; have hcz106_4 : w103.cell? ⟨gb121, 4, none⟩ = some (.int .u32 0) := (blk_cell BK121.out 4).trans rfl; have hcz106_5 : w103.cell? ⟨gb121, 5, none⟩ = some (.int .u32 0) := (blk_cell BK121.out 5).trans rfl; have hcz106_6 : w103.cell? ⟨gb121, 6, none⟩ = some (.int .u32 0) := (blk_cell BK121.out 6).trans rfl; have hcz106_7 : w103.cell? ⟨gb121, 7, none⟩ = some (.int .u32 0) := (blk_cell BK121.out 7).trans rfl; have hfz106_0 := blk_frozen BK121.out 0; have hfz106_1 := blk_frozen BK121.out 1; have hfz106_2 := blk_frozen BK121.out 2; have hfz106_3 := blk_frozen BK121.out 3; have hfz106_4 := blk_frozen BK121.out 4; have hfz106_5 := blk_frozen BK121.out 5; have hfz106_6 := blk_frozen BK121.out 6; have hfz106_7 := blk_frozen BK121.out 7)); try go_wp2_with (first | ((with_reducible refine gate_dst (N := 2) rfl ?_); (try (refine gate_guard (by rfl) ?_; dsimp only)); refine zbox (N := 2) (cs := #[.int .u32 0, .int .u32 0, .int .u32 0, .int .u32 0, .int .u32 0, .int .u32 0, .int .u32 0, .int .u32 0]) (t := 66) ?_; intro gb121 hg w103 hbox hb; have BK121 := Aside0.mk hbox; have GW121 := zge hg HB; have GE121 := zge hg HB; replace HB := zbs HB hb; clear hb hbox hg; obtain ⟨i0104, hi0104, _, hsz104, _⟩ := info_parts info5; obtain ⟨hcut104, hA104, hC104⟩ := print_take_of (P := Try.prog) (Value.int .u8) 0 41 5 .i64 Try.underlying41 hi0104 hsz104 A0 c0 l0 (ji5) (of_decide_eq_true (by first | (with_reducible assumption) | assumption)) (of_decide_eq_true (by first | (with_reducible assumption) | assumption)) HC0.out; have HR122 := Aside0.mk (Kd.C_of_reads (h1 := fun _ => rfl) (hA104 _ (Kd.reads_of_C HR0.out))); have HC122 := Aside0.mk hC104; clear hA104 hC104 hi0104 hsz104; generalize (l0.take ((ji5) : Int).toNat) = sl_ at *; have hcv105 := Kd.C_string (P := Try.prog) (A := A0) (c := c0) Try.underlying41 Try.underlying5 Try.underlying9 (Kd.C_below HR122.out HB.out); have hcz106_0 : w103.cell? ⟨gb121, 0, none⟩ = some (.int .u32 0) := (blk_cell BK121.out 0).trans rfl; have hcz106_1 : w103.cell? ⟨gb121, 1, none⟩ = some (.int .u32 0) := (blk_cell BK121.out 1).trans rfl; have hcz106_2 : w103.cell? ⟨gb121, 2, none⟩ = some (.int .u32 0) := (blk_cell BK121.out 2).trans rfl; have hcz106_3 : w103.cell? ⟨gb121, 3, none⟩ = some (.int .u32 0) := (blk_cell BK121.out 3).trans rfl; have hcz106_4 : w103.cell? ⟨gb121, 4, none⟩ = some (.int .u32 0) := (blk_cell BK121.out 4).trans rfl; have hcz106_5 : w103.cell? ⟨gb121, 5, none⟩ = some (.int .u32 0) := (blk_cell BK121.out 5).trans rfl; have hcz106_6 : w103.cell? ⟨gb121, 6, none⟩ = some (.int .u32 0) := (blk_cell BK121.out 6).trans rfl; have hcz106_7 : w103.cell? ⟨gb121, 7, none⟩ = some (.int .u32 0) := (blk_cell BK121.out 7).trans rfl; have hfz106_0 := blk_frozen BK121.out 0; have hfz106_1 := blk_frozen BK121.out 1; have hfz106_2 := blk_frozen BK121.out 2; have hfz106_3 := blk_frozen BK121.out 3; have hfz106_4 := blk_frozen BK121.out 4; have hfz106_5 := blk_frozen BK121.out 5; have hfz106_6 := blk_frozen BK121.out 6; have hfz106_7 := blk_frozen BK121.out 7)))
            refine start_ (n := 7) (S := fun _ => True) (ds := []) #[false, false, false, false, false, false, false] (by kernel_rfl) rfl rfl trivial (fun _ => ?_)
            refine zpure_ (i := 0) (N := some 14) #[true, false, false, false, false, false, false] (by kernel_rfl) ?_
            refine zpure_ (i := 1) (N := some 15) #[true, true, false, false, false, false, false] (by kernel_rfl) ?_
            refine zpure_ (i := 2) (N := some 16) #[true, true, true, false, false, false, false] (by kernel_rfl) ?_
            refine zpure_ (i := 4) (N := some 18) #[true, true, true, false, true, false, false] (by kernel_rfl) ?_
            refine zpure_ (i := 5) (N := some 19) #[true, true, true, false, true, true, false] (by kernel_rfl) ?_
            refine one_ (i := 3) (N := some 17) #[true, true, true, true, true, true, false] rfl rfl (by kernel_rfl) (by decide) (fun K hK => ?_)
            refine conv_ (by rfl) rfl rfl (by rfl) (Kd.C_string (P := Try.prog) (A := A0) (c := c0) Try.underlying41 Try.underlying5 Try.underlying9 (Kd.C_drew (Kd.C_below HR122.out HB.out))) ?_
            refine hK.out _ _ trivial (fun _ => ?_)
            clear hK K
            refine norm_ (a' := ?_) ?_ ?_
            rotate_left
            · show Act.put _ (some 17) _ = _
              simp only [Act.put, List.setIfInBounds_toArray, List.set_cons_zero, List.set_cons_succ, i64_w, i32_w]
              rfl
            refine zpure_ (i := 6) (N := some 20) #[true, true, true, true, true, true, true] (by kernel_rfl) ?_
            refine done_ (by kernel_rfl) ?_
            go_wp2_with (first | ((with_reducible refine gate_dst (N := 2) rfl ?_); (try (refine gate_guard (by rfl) ?_; dsimp only)); refine zbox (N := 2) (cs := #[.int .u32 0, .int .u32 0, .int .u32 0, .int .u32 0, .int .u32 0, .int .u32 0, .int .u32 0, .int .u32 0]) (t := 66) ?_; intro gb121 hg w103 hbox hb; have BK121 := Aside0.mk hbox; have GW121 := zge hg HB; have GE121 := zge hg HB; replace HB := zbs HB hb; clear hb hbox hg; obtain ⟨i0104, hi0104, _, hsz104, _⟩ := info_parts info5; obtain ⟨hcut104, hA104, hC104⟩ := print_take_of (P := Try.prog) (Value.int .u8) 0 41 5 .i64 Try.underlying41 hi0104 hsz104 A0 c0 l0 (ji5) (of_decide_eq_true (by first | (with_reducible assumption) | assumption)) (of_decide_eq_true (by first | (with_reducible assumption) | assumption)) HC0.out; have HR122 := Aside0.mk (Kd.C_of_reads (h1 := fun _ => rfl) (hA104 _ (Kd.reads_of_C HR0.out))); have HC122 := Aside0.mk hC104; clear hA104 hC104 hi0104 hsz104; generalize (l0.take ((ji5) : Int).toNat) = sl_ at *; have hcv105 := Kd.C_string (P := Try.prog) (A := A0) (c := c0) Try.underlying41 Try.underlying5 Try.underlying9 (Kd.C_below HR122.out HB.out); have hcz106_0 : w103.cell? ⟨gb121, 0, none⟩ = some (.int .u32 0) := (blk_cell BK121.out 0).trans rfl; have hcz106_1 : w103.cell? ⟨gb121, 1, none⟩ = some (.int .u32 0) := (blk_cell BK121.out 1).trans rfl; have hcz106_2 : w103.cell? ⟨gb121, 2, none⟩ = some (.int .u32 0) := (blk_cell BK121.out 2).trans rfl; have hcz106_3 : w103.cell? ⟨gb121, 3, none⟩ = some (.int .u32 0) := (blk_cell BK121.out 3).trans rfl; have hcz106_4 : w103.cell? ⟨gb121, 4, none⟩ = some (.int .u32 0) := (blk_cell BK121.out 4).trans rfl; have hcz106_5 : w103.cell? ⟨gb121, 5, none⟩ = some (.int .u32 0) := (blk_cell BK121.out 5).trans rfl; have hcz106_6 : w103.cell? ⟨gb121, 6, none⟩ = some (.int .u32 0) := (blk_cell BK121.out 6).trans rfl; have hcz106_7 : w103.cell? ⟨gb121, 7, none⟩ = some (.int .u32 0) := (blk_cell BK121.out 7).trans rfl; have hfz106_0 := blk_frozen BK121.out 0; have hfz106_1 := blk_frozen BK121.out 1; have hfz106_2 := blk_frozen BK121.out 2; have hfz106_3 := blk_frozen BK121.out 3; have hfz106_4 := blk_frozen BK121.out 4; have hfz106_5 := blk_frozen BK121.out 5; have hfz106_6 := blk_frozen BK121.out 6; have hfz106_7 := blk_frozen BK121.out 7))
            repeat (go_quiet (first | ((with_reducible refine gate_dst (N := 2) rfl ?_); (try (refine gate_guard (by rfl) ?_; dsimp only)); refine zbox (N := 2) (cs := #[.int .u32 0, .int .u32 0, .int .u32 0, .int .u32 0, .int .u32 0, .int .u32 0, .int .u32 0, .int .u32 0]) (t := 66) ?_; intro gb121 hg w103 hbox hb; have BK121 := Aside0.mk hbox; have GW121 := zge hg HB; have GE121 := zge hg HB; replace HB := zbs HB hb; clear hb hbox hg; obtain ⟨i0104, hi0104, _, hsz104, _⟩ := info_parts info5; obtain ⟨hcut104, hA104, hC104⟩ := print_take_of (P := Try.prog) (Value.int .u8) 0 41 5 .i64 Try.underlying41 hi0104 hsz104 A0 c0 l0 (ji5) (of_decide_eq_true (by first | (with_reducible assumption) | assumption)) (of_decide_eq_true (by first | (with_reducible assumption) | assumption)) HC0.out; have HR122 := Aside0.mk (Kd.C_of_reads (h1 := fun _ => rfl) (hA104 _ (Kd.reads_of_C HR0.out))); have HC122 := Aside0.mk hC104; clear hA104 hC104 hi0104 hsz104; generalize (l0.take ((ji5) : Int).toNat) = sl_ at *; have hcv105 := Kd.C_string (P := Try.prog) (A := A0) (c := c0) Try.underlying41 Try.underlying5 Try.underlying9 (Kd.C_below HR122.out HB.out); have hcz106_0 : w103.cell? ⟨gb121, 0, none⟩ = some (.int .u32 0) := (blk_cell BK121.out 0).trans rfl; have hcz106_1 : w103.cell? ⟨gb121, 1, none⟩ = some (.int .u32 0) := (blk_cell BK121.out 1).trans rfl; have hcz106_2 : w103.cell? ⟨gb121, 2, none⟩ = some (.int .u32 0) := (blk_cell BK121.out 2).trans rfl; have hcz106_3 : w103.cell? ⟨gb121, 3, none⟩ = some (.int .u32 0) := (blk_cell BK121.out 3).trans rfl; have hcz106_4 : w103.cell? ⟨gb121, 4, none⟩ = some (.int .u32 0) := (blk_cell BK121.out 4).trans rfl; have hcz106_5 : w103.cell? ⟨gb121, 5, none⟩ = some (.int .u32 0) := (blk_cell BK121.out 5).trans rfl; have hcz106_6 : w103.cell? ⟨gb121, 6, none⟩ = some (.int .u32 0) := (blk_cell BK121.out 6).trans rfl; have hcz106_7 : w103.cell? ⟨gb121, 7, none⟩ = some (.int .u32 0) := (blk_cell BK121.out 7).trans rfl; have hfz106_0 := blk_frozen BK121.out 0; have hfz106_1 := blk_frozen BK121.out 1; have hfz106_2 := blk_frozen BK121.out 2; have hfz106_3 := blk_frozen BK121.out 3; have hfz106_4 := blk_frozen BK121.out 4; have hfz106_5 := blk_frozen BK121.out 5; have hfz106_6 := blk_frozen BK121.out 6; have hfz106_7 := blk_frozen BK121.out 7)); try go_wp2_with (first | ((with_reducible refine gate_dst (N := 2) rfl ?_); (try (refine gate_guard (by rfl) ?_; dsimp only)); refine zbox (N := 2) (cs := #[.int .u32 0, .int .u32 0, .int .u32 0, .int .u32 0, .int .u32 0, .int .u32 0, .int .u32 0, .int .u32 0]) (t := 66) ?_; intro gb121 hg w103 hbox hb; have BK121 := Aside0.mk hbox; have GW121 := zge hg HB; have GE121 := zge hg HB; replace HB := zbs HB hb; clear hb hbox hg; obtain ⟨i0104, hi0104, _, hsz104, _⟩ := info_parts info5; obtain ⟨hcut104, hA104, hC104⟩ := print_take_of (P := Try.prog) (Value.int .u8) 0 41 5 .i64 Try.underlying41 hi0104 hsz104 A0 c0 l0 (ji5) (of_decide_eq_true (by first | (with_reducible assumption) | assumption)) (of_decide_eq_true (by first | (with_reducible assumption) | assumption)) HC0.out; have HR122 := Aside0.mk (Kd.C_of_reads (h1 := fun _ => rfl) (hA104 _ (Kd.reads_of_C HR0.out))); have HC122 := Aside0.mk hC104; clear hA104 hC104 hi0104 hsz104; generalize (l0.take ((ji5) : Int).toNat) = sl_ at *; have hcv105 := Kd.C_string (P := Try.prog) (A := A0) (c := c0) Try.underlying41 Try.underlying5 Try.underlying9 (Kd.C_below HR122.out HB.out); have hcz106_0 : w103.cell? ⟨gb121, 0, none⟩ = some (.int .u32 0) := (blk_cell BK121.out 0).trans rfl; have hcz106_1 : w103.cell? ⟨gb121, 1, none⟩ = some (.int .u32 0) := (blk_cell BK121.out 1).trans rfl; have hcz106_2 : w103.cell? ⟨gb121, 2, none⟩ = some (.int .u32 0) := (blk_cell BK121.out 2).trans rfl; have hcz106_3 : w103.cell? ⟨gb121, 3, none⟩ = some (.int .u32 0) := (blk_cell BK121.out 3).trans rfl; have hcz106_4 : w103.cell? ⟨gb121, 4, none⟩ = some (.int .u32 0) := (blk_cell BK121.out 4).trans rfl; have hcz106_5 : w103.cell? ⟨gb121, 5, none⟩ = some (.int .u32 0) := (blk_cell BK121.out 5).trans rfl; have hcz106_6 : w103.cell? ⟨gb121, 6, none⟩ = some (.int .u32 0) := (blk_cell BK121.out 6).trans rfl; have hcz106_7 : w103.cell? ⟨gb121, 7, none⟩ = some (.int .u32 0) := (blk_cell BK121.out 7).trans rfl; have hfz106_0 := blk_frozen BK121.out 0; have hfz106_1 := blk_frozen BK121.out 1; have hfz106_2 := blk_frozen BK121.out 2; have hfz106_3 := blk_frozen BK121.out 3; have hfz106_4 := blk_frozen BK121.out 4; have hfz106_5 := blk_frozen BK121.out 5; have hfz106_6 := blk_frozen BK121.out 6; have hfz106_7 := blk_frozen BK121.out 7)))
            refine bodyPost_ret (results_ctt rfl _ _ gb121 66 #[.int .u32 0, .int .u32 0, .int .u32 0, .int .u32 0, .int .u32 0, .int .u32 0, .int .u32 0, .int .u32 0] (0, 0) _ rfl (zkp BK121) Try.underlying66 rfl (by kernel_rfl)) rfl ?_
            exact ⟨by first | rfl | (simp [errW_none, errW_some] <;> rfl) | (simp only [← hji5]; first | rfl | (simp [errW_none, errW_some] <;> rfl)) | (simp [*, errW_none, errW_some] <;> rfl), zb HB⟩
        · rw [if_neg c9] at H
          exact absurd H (by simp)
      · rw [if_neg c7] at H
        exact absurd H (by simp)
    · rw [if_neg c6] at H
      exact absurd H (by simp)
end Go.Proofs.Ytmpiifjckhcbmaa.PQ
