-- by a program of this claim
import Derived.Lib.Bytes
import Derived.Lib.SlBytesConst
import Derived.ArgAppend
import Derived.Test.YtmpiifjckhcbmaaPQx0
import Derived.Test.YtmpiifjckhcbmaaPQx4
import Derived.Test.YtmpiifjckhcbmaaPQx5
namespace Go.Proofs.Ytmpiifjckhcbmaa.PQ
open Go.RowKit Go.Proofs.YtmpiifjckhcbmaaW.PrintWords Go.Proofs.YtmpiifjckhcbmaaW.PrintLast Go.Proofs.YtmpiifjckhcbmaaW.PrintMore Go.Proofs.Ytmpiifjckhcbmaa.Z
attribute [local go_sem] max2_int min2_int max_two min_two max_three min_three max_four min_four   -- for this text's walks alone
set_option linter.unusedVariables false
set_option linter.unusedSimpArgs false

/-! ### MkRow -/
def MkRow (W : World) (base g : Nat) (v : Value) (xs : List Int) (i : Int) : Prop :=
  Kd.R (Kd.int .u8) 5 W base (fun _ => True) v xs ∨ (i = 0 ∧ xs = [71, 108, 117, 108] ∧ v = .slice (some ⟨g, 0, none⟩) 4 4 ∧ W.heap[g]? = some (.cells #[.int .u8 71, .int .u8 108, .int .u8 117, .int .u8 108] 5 (4, 5)))
theorem MkRow.below {W W1 : World} {base g : Nat} {v : Value} {xs : List Int} {i : Int} (h : MkRow W base g v xs i) (hb : Below W.heap.size W W1) : MkRow W1 base g v xs i :=
  h.imp (fun h => Kd.R_below h hb) (fun h => ⟨h.1, h.2.1, h.2.2.1, blk_below h.2.2.2 hb⟩)
theorem MkRow.drew {W : World} {base g : Nat} {v : Value} {xs : List Int} {i : Int} (h : MkRow W base g v xs i) : MkRow W.drew base g v xs i := h.below (below_drew (Below.refl _ _))
theorem MkRow.drewN {W : World} {base g : Nat} {v : Value} {xs : List Int} {i : Int} (h : MkRow W base g v xs i) (n : Nat) : MkRow (W.drewN n) base g v xs i := h.below (pw_below_drewN (Below.refl _ _) n)
theorem MkRow.append {P : Program} {ops : Array Oper} {rest : List Oper} {o : Oper} {a : Act} {Q : Exit → Act → World → Prop} {w0 W : World} (base : Nat) (hgd : o.guard = none) (s x : Operand)
    (ho : o.op = .call { callee := .builtin .append, args := #[s, x], argTypes := #[41, 41] }) (ht : P.underlying 41 = some (.slice 5)) (hinfo : (P.info? 5).map (fun i => (i.zero, i.size, i.bytes)) = some (some (.int .u8 0), 1, 1))
    (v : Value) (xs ys : List Int) (A : Option Addr) (m c g : Nat) (i : Int) (hs : a.eval s = v) (hx : a.eval x = .slice A m c) (HO : MkRow W base g v xs i) (HR : Kd.C (Kd.int .u8) W A m ys) (hm : 0 < m)
    (HB : Below base w0 W) (hbase : base ≤ W.heap.size) (hl : xs.length + m ≤ 140737488355328)
    (h : ∀ v1 w1, Kd.R (Kd.int .u8) 5 w1 base (fun _ => True) v1 (xs ++ ys) → Below base w0 w1 → wpList P ops Q rest (a.put o.dst v1) w1) : wpList P ops Q (o :: rest) a W := by
  rcases HO with HO | ⟨rfl, rfl, rfl, hh⟩
  · exact Kd.R_append_rows (Kd.int .u8) (w0 := w0) base hgd s x 41 5 (.int .u8 0) 1 ho ht hinfo rfl (by decide) (by omega) v xs ys A m c (fun _ => True) (fun _ => False) hs hx HO HR (fun _ _ h => h) (fun _ h => h.elim) (fun _ _ => trivial) HB hbase (by omega) (fun v1 w1 h1 h2 _ _ => h v1 w1 h1 h2)
  · have hR := Kd.reads_of_C (enc := Value.int .u8) (d := (0 : Int)) (h1 := fun _ => rfl) HR
    obtain ⟨ad, rfl, hc⟩ := hR.2.2 hm
    have hml : ys.length = m := hR.1
    obtain ⟨i0, hi, hzz⟩ := Option.map_eq_some_iff.1 hinfo
    simp only [Prod.mk.injEq] at hzz
    obtain ⟨hz0, hz1, hz2⟩ := hzz
    have hlen : 4 + m ≤ 140737488355328 := by simpa using hl
    refine wpList_append_grows W hgd s x 41 ho 5 i0 (.int .u8 0) 1 1 ht hi hz0 hz1 hz2 rfl (by omega) (some ⟨g, 0, none⟩) 4 4 (encs (Value.int .u8) [71, 108, 117, 108]) hs (fun h => by cases h) rfl ?_ ad m c (encs (Value.int .u8) ys) hx (by rw [encs_length, hml]; omega) ?_ ?_ (by omega) (by simp only [maxLen]; omega) (by omega) ?_
    · intro b hb j u hu
      injection hb with hb
      subst hb
      rw [Addr.add_lit, Nat.zero_add, cell_of_row W g j _ 5 (4, 5) hh, ← hu, List.getElem?_toArray]
      rfl
    · intro j u hu
      have hj : j < ys.length := by
        rcases Nat.lt_or_ge j ys.length with h | h
        · exact h
        · rw [List.getElem?_eq_none (by rw [encs_length]; exact h)] at hu
          cases hu
      rw [encs_get (d := (0 : Int)) _ j hj] at hu
      rw [hc j (by omega), ← hu]
    · intro u hu
      simp only [encs, List.mem_map] at hu
      obtain ⟨q, _, rfl⟩ := hu
      rfl
    · intro v' w' hown hg
      refine h v' w' (Kd.R_of_own (enc := Value.int .u8) (h1 := fun _ => rfl) ?_ (fun _ _ => trivial)) (HB.grown hg hbase (by intro k hk; cases hk))
      have := own_weaken hown hbase
      rw [← encs_append] at this
      have hl2 : ([71, 108, 117, 108] ++ ys : List Int).length = 4 + m := by rw [List.length_append, hml]; rfl
      rw [hl2]
      exact this
/-! ### grottoref07_Make: function 24 -/
theorem MkRow.append2 {P : Program} {ops : Array Oper} {rest : List Oper} {o : Oper} {a : Act} {Q : Exit → Act → World → Prop} {w0 W : World} (base : Nat) (hgd : o.guard = none) (s x : Operand)
    (ho : o.op = .call { callee := .builtin .append, args := #[s, x], argTypes := #[41, 41] }) (ht : P.underlying 41 = some (.slice 5)) (hinfo : (P.info? 5).map (fun i => (i.zero, i.size, i.bytes)) = some (some (.int .u8 0), 1, 1))
    (v : Value) (xs ys : List Int) (A : Option Addr) (m c g : Nat) (i : Int) (hs : a.eval s = v) (hx : a.eval x = .slice A m c) (HO : MkRow W base g v xs i) (HR : Kd.C (Kd.int .u8) W A m ys) (hm : 0 < m)
    (HB : Below base w0 W) (hbase : base ≤ W.heap.size) (hl : xs.length + m ≤ 140737488355328) {v2 : Value} {zs : List Int} (H2 : Kd.R (Kd.int .u32) 29 W base (fun _ => True) v2 zs)
    (h : ∀ v1 w1, Kd.R (Kd.int .u8) 5 w1 base (fun _ => True) v1 (xs ++ ys) → Below base w0 w1 → Kd.R (Kd.int .u32) 29 w1 base (fun _ => True) v2 zs → wpList P ops Q rest (a.put o.dst v1) w1) : wpList P ops Q (o :: rest) a W := by
  rcases HO with HO | ⟨rfl, rfl, rfl, hh⟩
  · exact Kd.R_append_rows (Kd.int .u8) (w0 := w0) base hgd s x 41 5 (.int .u8 0) 1 ho ht hinfo rfl (by decide) (by omega) v xs ys A m c (fun _ => True) (fun _ => False) hs hx HO HR (fun _ _ h => h) (fun _ h => h.elim) (fun _ _ => trivial) HB hbase (by omega) (fun v1 w1 h1 h2 h3 _ => h v1 w1 h1 h2 (Kd.R_over' H2 (Kd.R_typed HO) (by decide) h3))
  · have hR := Kd.reads_of_C (enc := Value.int .u8) (d := (0 : Int)) (h1 := fun _ => rfl) HR
    obtain ⟨ad, rfl, hc⟩ := hR.2.2 hm
    have hml : ys.length = m := hR.1
    obtain ⟨i0, hi, hzz⟩ := Option.map_eq_some_iff.1 hinfo
    simp only [Prod.mk.injEq] at hzz
    obtain ⟨hz0, hz1, hz2⟩ := hzz
    have hlen : 4 + m ≤ 140737488355328 := by simpa using hl
    refine wpList_append_grows W hgd s x 41 ho 5 i0 (.int .u8 0) 1 1 ht hi hz0 hz1 hz2 rfl (by omega) (some ⟨g, 0, none⟩) 4 4 (encs (Value.int .u8) [71, 108, 117, 108]) hs (fun h => by cases h) rfl ?_ ad m c (encs (Value.int .u8) ys) hx (by rw [encs_length, hml]; omega) ?_ ?_ (by omega) (by simp only [maxLen]; omega) (by omega) ?_
    · intro b hb j u hu
      injection hb with hb
      subst hb
      rw [Addr.add_lit, Nat.zero_add, cell_of_row W g j _ 5 (4, 5) hh, ← hu, List.getElem?_toArray]
      rfl
    · intro j u hu
      have hj : j < ys.length := by
        rcases Nat.lt_or_ge j ys.length with h | h
        · exact h
        · rw [List.getElem?_eq_none (by rw [encs_length]; exact h)] at hu
          cases hu
      rw [encs_get (d := (0 : Int)) _ j hj] at hu
      rw [hc j (by omega), ← hu]
    · intro u hu
      simp only [encs, List.mem_map] at hu
      obtain ⟨q, _, rfl⟩ := hu
      rfl
    · intro v' w' hown hg
      refine h v' w' (Kd.R_of_own (enc := Value.int .u8) (h1 := fun _ => rfl) ?_ (fun _ _ => trivial)) (HB.grown hg hbase (by intro k hk; cases hk)) (Kd.R_grown2 H2 rfl hg (fun k hk => by cases hk))
      have := own_weaken hown hbase
      rw [← encs_append] at this
      have hl2 : ([71, 108, 117, 108] ++ ys : List Int).length = 4 + m := by rw [List.length_append, hml]; rfl
      rw [hl2]
      exact this
mutual
def grottoref07_Make.l0 : Nat → List Int → List Int → List Int → Int → Option (List Int × Int)
  | 0, _, _, _, _ => none
  | k + 1, x1, x6, x7, x8 => if x8 < (x7.length : Int) then (if 0 ≤ x8 then ((grottoref01_Put.f k (rd x7 x8) 4).bind fun t303 => (if 0 < t303.length ∧ x6.length + t303.length < 140737488355328 then (grottoref07_Make.l0 k x1 (x6 ++ t303) x7 (wrap64 (x8 + 1))) else (none))) else (none)) else (if x6.length + x1.length < 140737488355328 then ((some (x6 ++ x1 : List Int)).bind fun y309 => ((grottoref07_Sum.f k y309).bind fun t312 => ((grottoref01_Put.f k t312 4).bind fun t313 => (grottoref07_Make.l1 k y309 t313 0)))) else (none))
def grottoref07_Make.l1 : Nat → List Int → List Int → Int → Option (List Int × Int)
  | 0, _, _, _ => none
  | k + 1, x6, x9, x10 => if x10 < 4 then (if 0 ≤ x10 then (if x10 < (x9.length : Int) then (if 0 ≤ (wrap64 (32 + x10)) then (if (wrap64 (32 + x10)) < (x6.length : Int) then (grottoref07_Make.l1 k (x6.set ((wrap64 (32 + x10)) : Int).toNat (rd x9 x10)) x9 (wrap64 (x10 + 1))) else (none)) else (none)) else (none)) else (none)) else ((grottoref07_Parse.f k x6).bind fun bt318 => (if bt318.2.2.2.2.2.2.2.2.1 = 0 then (some (x6, 0)) else (some (([] : List Int), bt318.2.2.2.2.2.2.2.2.1))))
end
def grottoref07_Make.f (k : Nat) (a0_0 : Int) (a0_1 : Int) (a0_2 : Int) (a0_3 : Int) (a0_4 : Int) (a0_5 : Int) (a0_6 : Int) (a0_7 : Int) (l1 : List Int) : Option (List Int × Int) := grottoref07_Make.l0 k l1 (([71, 108, 117, 108] : List Int)) (([a0_0, a0_1, a0_2, a0_3, a0_4, a0_5, a0_6, 0] : List Int)) 0
theorem grottoref07_Make.mono_l : ∀ k, (∀ y0 y1 y2 y3, LeO (grottoref07_Make.l0 k y0 y1 y2 y3) (grottoref07_Make.l0 (k + 1) y0 y1 y2 y3)) ∧ (∀ y0 y1 y2, LeO (grottoref07_Make.l1 k y0 y1 y2) (grottoref07_Make.l1 (k + 1) y0 y1 y2))
  | 0 => ⟨fun _ _ _ _ r h => by simp [grottoref07_Make.l0] at h, fun _ _ _ r h => by simp [grottoref07_Make.l1] at h⟩
  | k + 1 => by
    obtain ⟨ih0, ih1⟩ := grottoref07_Make.mono_l k
    refine ⟨?_, ?_⟩
    · intro y0 y1 y2 y3
      unfold grottoref07_Make.l0
      repeat' first
      | (with_reducible exact ih0 _ _ _ _)
      | (with_reducible exact ih1 _ _ _)
      | (with_reducible exact grottoref01_Put.mono _ _ _)
      | (with_reducible exact grottoref07_Parse.mono _ _)
      | (with_reducible exact grottoref07_Sum.mono _ _)
      | (with_reducible exact LeO.refl _)
      | (with_reducible exact LeO.none _)
      | (with_reducible refine LeO.ite ?_ ?_)
      | (with_reducible refine LeO.bind ?_ (fun _ => ?_))
      | exact ih0 _ _ _ _
      | exact ih1 _ _ _
      | exact grottoref01_Put.mono _ _ _
      | exact grottoref07_Parse.mono _ _
      | exact grottoref07_Sum.mono _ _
      | exact LeO.none _
      | refine LeO.ite ?_ ?_
      | refine LeO.bind ?_ (fun _ => ?_)
    · intro y0 y1 y2
      unfold grottoref07_Make.l1
      repeat' first
      | (with_reducible exact ih0 _ _ _ _)
      | (with_reducible exact ih1 _ _ _)
      | (with_reducible exact grottoref01_Put.mono _ _ _)
      | (with_reducible exact grottoref07_Parse.mono _ _)
      | (with_reducible exact grottoref07_Sum.mono _ _)
      | (with_reducible exact LeO.refl _)
      | (with_reducible exact LeO.none _)
      | (with_reducible refine LeO.ite ?_ ?_)
      | (with_reducible refine LeO.bind ?_ (fun _ => ?_))
      | exact ih0 _ _ _ _
      | exact ih1 _ _ _
      | exact grottoref01_Put.mono _ _ _
      | exact grottoref07_Parse.mono _ _
      | exact grottoref07_Sum.mono _ _
      | exact LeO.none _
      | refine LeO.ite ?_ ?_
      | refine LeO.bind ?_ (fun _ => ?_)
theorem grottoref07_Make.mono : ∀ a0 a1 a2 a3 a4 a5 a6 a7 a8 k, LeO (grottoref07_Make.f k a0 a1 a2 a3 a4 a5 a6 a7 a8) (grottoref07_Make.f (k + 1) a0 a1 a2 a3 a4 a5 a6 a7 a8) := by
  intro a0 a1 a2 a3 a4 a5 a6 a7 a8 k
  obtain ⟨ih0, ih1⟩ := grottoref07_Make.mono_l k
  unfold grottoref07_Make.f
  repeat' first
      | (with_reducible exact ih0 _ _ _ _)
      | (with_reducible exact ih1 _ _ _)
      | (with_reducible exact grottoref01_Put.mono _ _ _)
      | (with_reducible exact grottoref07_Parse.mono _ _)
      | (with_reducible exact grottoref07_Sum.mono _ _)
      | (with_reducible exact LeO.refl _)
      | (with_reducible exact LeO.none _)
      | (with_reducible refine LeO.ite ?_ ?_)
      | (with_reducible refine LeO.bind ?_ (fun _ => ?_))
      | exact ih0 _ _ _ _
      | exact ih1 _ _ _
      | exact grottoref01_Put.mono _ _ _
      | exact grottoref07_Parse.mono _ _
      | exact grottoref07_Sum.mono _ _
      | exact LeO.none _
      | refine LeO.ite ?_ ?_
      | refine LeO.bind ?_ (fun _ => ?_)
set_option maxHeartbeats 8000000 in
set_option maxRecDepth 100000 in
theorem grottoref07_Make.calls (k : Nat) (a0_0 : Int) (a0_1 : Int) (a0_2 : Int) (a0_3 : Int) (a0_4 : Int) (a0_5 : Int) (a0_6 : Int) (a0_7 : Int) (A1 : Option Addr) (c1 : Nat) (l1 : List Int) (r1 : List Int) (r2 : Int) (w : World) (hr1 : Kd.C (Kd.int .u8) w A1 l1.length l1) (hc1 : l1.length ≤ c1) (h : grottoref07_Make.f k a0_0 a0_1 a0_2 a0_3 a0_4 a0_5 a0_6 a0_7 l1 = some (r1, r2)) :
    Calls Try.prog 24 #[.agg #[.int .u32 a0_0, .int .u32 a0_1, .int .u32 a0_2, .int .u32 a0_3, .int .u32 a0_4, .int .u32 a0_5, .int .u32 a0_6, .int .u32 a0_7], .slice A1 l1.length c1] w fun e w' => ∃ v0_ : Value, e = .returned (.tuple #[v0_, .int .i64 r2]) ∧ Kd.R (Kd.int .u8) 5 w' w.heap.size (fun _ => True) v0_ r1 ∧ Below w.heap.size w w' := by
  have hu27 := Try.underlying66
  have HR1 := Aside0.mk hr1
  have HC1 := Aside0.mk hc1
  clear hr1 hc1
  have HB := Aside0.mk (Below.refl w.heap.size w)
  have H : (grottoref07_Make.l0 k l1 (([71, 108, 117, 108] : List Int)) (([a0_0, a0_1, a0_2, a0_3, a0_4, a0_5, a0_6, 0] : List Int)) 0) = some (r1, r2) := h
  clear h
  obtain ⟨y296, hy296⟩ : ∃ y_ : List Int, y_ = (([71, 108, 117, 108] : List Int)) := ⟨_, rfl⟩
  replace H : (grottoref07_Make.l0 k l1 y296 (([a0_0, a0_1, a0_2, a0_3, a0_4, a0_5, a0_6, 0] : List Int)) 0) = some (r1, r2) := by first | (rw [hy296]; with_reducible exact H) | (have H2_ := (Option.bind_some _ _).symm.trans H; rw [hy296]; with_reducible exact H2_) | (have H2_ := (Option.bind_some _ _).symm.trans H; with_reducible exact H2_) | with_reducible exact H | (rw [hy296]; exact H) | exact H
  have Ny296 := Aside0.mk hy296
  clear hy296
  obtain ⟨y299, hy299⟩ : ∃ y_ : List Int, y_ = (([a0_0, a0_1, a0_2, a0_3, a0_4, a0_5, a0_6, 0] : List Int)) := ⟨_, rfl⟩
  replace H : (grottoref07_Make.l0 k l1 y296 y299 0) = some (r1, r2) := by first | (rw [hy299]; with_reducible exact H) | (have H2_ := (Option.bind_some _ _).symm.trans H; rw [hy299]; with_reducible exact H2_) | (have H2_ := (Option.bind_some _ _).symm.trans H; with_reducible exact H2_) | with_reducible exact H | (rw [hy299]; exact H) | exact H
  have Ny299 := Aside0.mk hy299
  clear hy299
  have H' := Aside0.mk H
  clear H
  go_enter Try.func24, Try.ntmps24
  go_wp2_with (first | ((with_reducible refine gate_dst (N := 2) rfl ?_); refine zbox (N := 2) (cs := #[.int .u32 a0_0, .int .u32 a0_1, .int .u32 a0_2, .int .u32 a0_3, .int .u32 a0_4, .int .u32 a0_5, .int .u32 a0_6, .int .u32 a0_7]) (t := 66) ?_; intro gb295 hg w3 hbox hb; have BK295 := Aside0.mk hbox; have GW295 := zge hg HB; have GE295 := zge hg HB; replace HB := zbs HB hb; clear hb hbox hg; obtain ⟨w4, hcv, hb4, hm4⟩ : ∃ w4, (convert 41 41 (.slice (some ⟨w3.heap.size, 0, none⟩) 4 4)).run Try.prog (w3.alloc (.cells #[.int .u8 71, .int .u8 108, .int .u8 117, .int .u8 108] 5)) = .ok (.slice (some ⟨w3.heap.size, 0, none⟩) 4 4) w4 ∧ Below w3.heap.size w3 w4 ∧ w4.heap[w3.heap.size]? = some (.cells #[.int .u8 71, .int .u8 108, .int .u8 117, .int .u8 108] 5 (4, 5)) := ⟨_, Lib.run_convert_bytes_const w3 41 5 _ 4 4 Try.underlying41 Try.underlying5, below_alloc (Below.refl _ _) _, blk_new _ _⟩; replace BK295 : Aside0 (w4.heap[gb295]? = some _) := ⟨blk_below BK295.out hb4⟩; replace HB := zbs HB hb4; have HM := Aside0.mk (show MkRow w4 w.heap.size w3.heap.size (.slice (some ⟨w3.heap.size, 0, none⟩) 4 4) [71, 108, 117, 108] 0 from Or.inr ⟨rfl, rfl, rfl, hm4⟩); clear hb4 hm4; have hcz6_0 : w4.cell? ⟨gb295, 0, none⟩ = some (.int .u32 a0_0) := (blk_cell BK295.out 0).trans rfl; have hcz6_1 : w4.cell? ⟨gb295, 1, none⟩ = some (.int .u32 a0_1) := (blk_cell BK295.out 1).trans rfl; have hcz6_2 : w4.cell? ⟨gb295, 2, none⟩ = some (.int .u32 a0_2) := (blk_cell BK295.out 2).trans rfl; have hcz6_3 : w4.cell? ⟨gb295, 3, none⟩ = some (.int .u32 a0_3) := (blk_cell BK295.out 3).trans rfl; have hcz6_4 : w4.cell? ⟨gb295, 4, none⟩ = some (.int .u32 a0_4) := (blk_cell BK295.out 4).trans rfl; have hcz6_5 : w4.cell? ⟨gb295, 5, none⟩ = some (.int .u32 a0_5) := (blk_cell BK295.out 5).trans rfl; have hcz6_6 : w4.cell? ⟨gb295, 6, none⟩ = some (.int .u32 a0_6) := (blk_cell BK295.out 6).trans rfl; have hcz6_7 : w4.cell? ⟨gb295, 7, none⟩ = some (.int .u32 a0_7) := (blk_cell BK295.out 7).trans rfl; have hfz6_0 := blk_frozen BK295.out 0; have hfz6_1 := blk_frozen BK295.out 1; have hfz6_2 := blk_frozen BK295.out 2; have hfz6_3 := blk_frozen BK295.out 3; have hfz6_4 := blk_frozen BK295.out 4; have hfz6_5 := blk_frozen BK295.out 5; have hfz6_6 := blk_frozen BK295.out 6; have hfz6_7 := blk_frozen BK295.out 7) | ((with_reducible refine gate_dst (N := 30) rfl ?_); refine Kd.R_lit (Kd.int .u32) _ 29 ?hg (N := 30) ?hd (xs := ([a0_0, a0_1, a0_2, a0_3, a0_4, a0_5, a0_6, 0] : List Int)) (inner := [.int .u32 a0_0, .int .u32 a0_1, .int .u32 a0_2, .int .u32 a0_3, .int .u32 a0_4, .int .u32 a0_5, .int .u32 a0_6, .int .u32 0]) (ok := fun _ => True) (okp := fun _ => True) ?hr ?hp (fun _ hk => hk) trivial (Below.refl _ _) (Nat.le_refl _) (by simp) ?_; (case hd => rfl); (case hg => rfl); (case hr => first | (go_simp; done) | (go_simp; rfl)); (case hp => exact (Reps.one (show Kd.M (Kd.int .u32) _ _ _ a0_0 [.int .u32 a0_0] from rfl) (Reps.one (show Kd.M (Kd.int .u32) _ _ _ a0_1 [.int .u32 a0_1] from rfl) (Reps.one (show Kd.M (Kd.int .u32) _ _ _ a0_2 [.int .u32 a0_2] from rfl) (Reps.one (show Kd.M (Kd.int .u32) _ _ _ a0_3 [.int .u32 a0_3] from rfl) (Reps.one (show Kd.M (Kd.int .u32) _ _ _ a0_4 [.int .u32 a0_4] from rfl) (Reps.one (show Kd.M (Kd.int .u32) _ _ _ a0_5 [.int .u32 a0_5] from rfl) (Reps.one (show Kd.M (Kd.int .u32) _ _ _ a0_6 [.int .u32 a0_6] from rfl) (Reps.one (show Kd.M (Kd.int .u32) _ _ _ 0 [.int .u32 0] from rfl) (Reps.none _ _)))))))))); intro v300 w7 ho8 hb hg_ hnew_; clear hg_ hnew_; (first | rw [← Ny299.out] at ho8 | (simp only [Int.reduceToNat] at ho8; rw [← Ny299.out] at ho8)); have HO301 := Aside0.mk (Kd.R_lower ho8 (below_size (zb HB))); replace HM := Aside0.mk (MkRow.below (by repeat (first | exact HM.out | apply MkRow.drewN | apply MkRow.drew)) hb); replace BK295 := zkb BK295 hb; replace HB := zbs HB hb; clear hb ho8))
  clear hcv
  go_loopg [6, 8] k (fun kq v6 v8 w' => ∃ (x6_1 : List Int) (x8_1 : Int), v8 = .int .i64 x8_1 ∧ Aside0 (grottoref07_Make.l0 kq l1 x6_1 y299 x8_1 = some (r1, r2)) ∧ Aside0 (kq ≤ k) ∧ Aside0 (MkRow w' w.heap.size w3.heap.size v6 x6_1 x8_1) ∧ Aside0 (Kd.R (Kd.int .u32) 29 w' w.heap.size (fun _ => True) v300 y299) ∧ Aside0 (Below w.heap.size w w'))
  case atStart => exact ⟨(y296), (0), (by first | rfl | (simp; done) | (simp [*]; done)), H', ⟨Nat.le_refl _⟩, ⟨by rw [Ny296.out]; repeat (first | exact HM.out | apply MkRow.drewN | apply MkRow.drew)⟩, ⟨by (with_reducible repeat (first | apply Kd.R_alloc | apply Kd.R_drewN | apply Kd.R_drew)); exact HO301.out⟩, ⟨zb HB⟩⟩
  case round =>
    clear H'
    try clear c1
    try clear p2
    try clear hcz6_0
    try clear hcz6_1
    try clear hcz6_2
    try clear hcz6_3
    try clear hcz6_4
    try clear hcz6_5
    try clear hcz6_6
    try clear hcz6_7
    try clear hfz6_0
    try clear hfz6_1
    try clear hfz6_2
    try clear hfz6_3
    try clear hfz6_4
    try clear hfz6_5
    try clear hfz6_6
    try clear hfz6_7
    obtain ⟨x6_1, x8_1, rfl, HA, HK1, HO_6, HO_7, HB⟩ := hrel
    cases gk with
    | zero => exact absurd HA.out (by simp [grottoref07_Make.l0])
    | succ k1 =>
      have H := HA.out
      clear HA
      simp only [grottoref07_Make.l0] at H
      by_cases c9 : x8_1 < (y299.length : Int)
      · rw [if_pos c9] at H
        have c9b0 : decide (x8_1 < (y299.length : Int)) = true := decide_eq_true c9
        clear c9
        by_cases c10 : 0 ≤ x8_1
        · rw [if_pos c10] at H
          have c10b0 : decide (0 ≤ x8_1) = true := decide_eq_true c10
          clear c10
          replace H := Option.bind_eq_some_iff.mp H
          obtain ⟨t303, A110, H⟩ := H
          replace H : (if 0 < t303.length ∧ x6_1.length + t303.length < 140737488355328 then (grottoref07_Make.l0 k1 l1 (x6_1 ++ t303) y299 (wrap64 (x8_1 + 1))) else (none)) = some (r1, r2) := H
          have A11 := Aside0.mk A110
          clear A110
          by_cases c12 : 0 < t303.length ∧ x6_1.length + t303.length < 140737488355328
          · rw [if_pos c12] at H
            have LMc12 := Aside0.mk c12
            clear c12
            obtain ⟨y306, hy306⟩ : ∃ y_ : List Int, y_ = (x6_1 ++ t303) := ⟨_, rfl⟩
            replace H : (grottoref07_Make.l0 k1 l1 y306 y299 (wrap64 (x8_1 + 1))) = some (r1, r2) := by first | (rw [hy306]; with_reducible exact H) | (have H2_ := (Option.bind_some _ _).symm.trans H; rw [hy306]; with_reducible exact H2_) | (have H2_ := (Option.bind_some _ _).symm.trans H; with_reducible exact H2_) | with_reducible exact H | (rw [hy306]; exact H) | exact H
            have Ny306 := Aside0.mk hy306
            clear hy306
            have H' := Aside0.mk H
            clear H
            obtain ⟨Ao13, co13, eo13⟩ := Kd.R_slice HO_7.out
            subst eo13
            have p302 : 0 ≤ (x8_1 : Int) := of_decide_eq_true (by first | (with_reducible assumption) | assumption)
            have q302 : x8_1 < (y299.length : Int) := of_decide_eq_true (by first | (with_reducible assumption) | assumption)
            obtain ⟨ad302, e302, hx302_0⟩ := Kd.at_int (Kd.R_reads' HO_7.out).2.2 x8_1 p302 q302
            cases e302
            replace p302 := eq_true p302
            replace q302 := eq_true q302
            go_wp2_with (first | ((with_reducible refine gate_callee (f := 41) rfl ?_); refine zgo (some 42) Try.func41 #[.int .u32 (rd y299 x8_1), .int .i64 4] ?_; (with_reducible refine (grottoref01_Put.calls k1 (rd y299 x8_1) 4 t303 _ A11.out).mono ?_); rintro e w14 ⟨v304, rfl, ho0, hb⟩; refine ⟨_, rfl, ?_⟩; have HO305 := Aside0.mk ho0; replace HO_6 := Aside0.mk (MkRow.below (by repeat (first | exact HO_6.out | apply MkRow.drewN | apply MkRow.drew)) hb); replace HO_7 := Aside0.mk (Kd.R_below (by (with_reducible repeat (first | apply Kd.R_alloc | apply Kd.R_drewN | apply Kd.R_drew)); exact HO_7.out) hb); replace HB := zbs HB hb; (try clear hb); (try clear hb2); (try clear hk); (try clear hi); (try clear ho0); obtain ⟨Ao16, co16, eo16⟩ := Kd.R_slice HO305.out; subst eo16) | ((with_reducible refine gate_builtin (b := .append) (xs := #[.tmp 37, .tmp 42]) rfl ?_); at_builtin; refine MkRow.append2 (w0 := w) w.heap.size rfl (.tmp 37) (.tmp 42) rfl Try.underlying41 info5 u6 x6_1 t303 _ _ _ w3.heap.size x8_1 rfl rfl (by repeat (first | exact HO_6.out | apply MkRow.drewN | apply MkRow.drew)) ?aR LMc12.out.1 (zb HB) (below_size (zb HB)) (by have := LMc12.out; omega) (by (with_reducible repeat (first | apply Kd.R_alloc | apply Kd.R_drewN | apply Kd.R_drew)); exact HO_7.out) ?_; (case aR => repeat (first | exact (Kd.R_reads' HO305.out).2.2 | (with_reducible refine Kd.C_alloc ?_ _) | (with_reducible refine Kd.C_drewN ?_ _) | (with_reducible refine Kd.C_drew ?_))); intro v307 w15 ho hb h7; rw [← Ny306.out] at ho; have HO308 := Aside0.mk ho; replace HO_7 := Aside0.mk h7; replace HB := Aside0.mk hb; clear HO_6 HO305; clear ho hb h7))
            go_roundg k1
            case measure => have := HK1.out; omega
            case rel => exact ⟨(y306), (wrap64 (x8_1 + 1)), (by first | rfl | (simp; done) | (simp [*]; done)), H', ⟨by have := HK1.out; omega⟩, ⟨Or.inl (by (with_reducible repeat (first | apply Kd.R_alloc | apply Kd.R_drewN | apply Kd.R_drew)); exact HO308.out)⟩, ⟨by (with_reducible repeat (first | apply Kd.R_alloc | apply Kd.R_drewN | apply Kd.R_drew)); exact HO_7.out⟩, ⟨zb HB⟩⟩
          · rw [if_neg c12] at H
            exact absurd H (by simp)
        · rw [if_neg c10] at H
          exact absurd H (by simp)
      · rw [if_neg c9] at H
        have HO6b := Aside0.mk (HO_6.out.resolve_right (fun h => c9 (by rw [h.1, Ny299.out]; simp)))
        clear HO_6
        have HO_6 := HO6b
        clear HO6b
        have c9b0 : decide (x8_1 < (y299.length : Int)) = false := decide_eq_false c9
        clear c9
        by_cases c17 : x6_1.length + l1.length < 140737488355328
        · rw [if_pos c17] at H
          have LMc17 := Aside0.mk c17
          clear c17
          obtain ⟨y309, hy309⟩ : ∃ y_ : List Int, y_ = (x6_1 ++ l1) := ⟨_, rfl⟩
          replace H : ((grottoref07_Sum.f k1 y309).bind fun t312 => ((grottoref01_Put.f k1 t312 4).bind fun t313 => (grottoref07_Make.l1 k1 y309 t313 0))) = some (r1, r2) := by first | (rw [hy309]; with_reducible exact H) | (have H2_ := (Option.bind_some _ _).symm.trans H; rw [hy309]; with_reducible exact H2_) | (have H2_ := (Option.bind_some _ _).symm.trans H; with_reducible exact H2_) | with_reducible exact H | (rw [hy309]; exact H) | exact H
          have Ny309 := Aside0.mk hy309
          clear hy309
          replace H := Option.bind_eq_some_iff.mp H
          obtain ⟨t312, A180, H⟩ := H
          replace H : ((grottoref01_Put.f k1 t312 4).bind fun t313 => (grottoref07_Make.l1 k1 y309 t313 0)) = some (r1, r2) := H
          have A18 := Aside0.mk A180
          clear A180
          replace H := Option.bind_eq_some_iff.mp H
          obtain ⟨t313, A190, H⟩ := H
          replace H : (grottoref07_Make.l1 k1 y309 t313 0) = some (r1, r2) := H
          have A19 := Aside0.mk A190
          clear A190
          have H' := Aside0.mk H
          clear H
          obtain ⟨Ao20, co20, eo20⟩ := Kd.R_slice HO_7.out
          subst eo20
          go_wp2_with (first | ((with_reducible refine gate_builtin (b := .append) (xs := #[.tmp 44, .tmp 45]) rfl ?_); at_builtin; refine Kd.R_append_rows (Kd.int .u8) (w0 := w) w.heap.size rfl (.tmp 44) (.tmp 45) 41 5 (.int .u8 0) 1 rfl Try.underlying41 info5 rfl (by decide) (by omega) u6 x6_1 l1 _ _ _ (fun _ => True) (fun _ => False) rfl rfl ?aO ?aR (fun _ _ h => h) (fun _ h => h.elim) ?aF ?aB ?aS ?aL ?_; (case aR => repeat (first | exact (Kd.C_below HR1.out HB.out) | (with_reducible refine Kd.C_alloc ?_ _) | (with_reducible refine Kd.C_drewN ?_ _) | (with_reducible refine Kd.C_drew ?_))); (case aB => exact (zb HB)); (case aF => exact (fun _ _ => trivial)); (case aO => exact (by (with_reducible repeat (first | apply Kd.R_alloc | apply Kd.R_drewN | apply Kd.R_drew)); exact HO_6.out)); (case aS => exact (below_size (zb HB))); (case aL => have := LMc17.out; omega); intro v310 w21 ho hb hg hat; rw [← Ny309.out] at ho; have HO311 := Aside0.mk (ho); replace HO_7 := Aside0.mk (Kd.R_over' (by (with_reducible repeat (first | apply Kd.R_alloc | apply Kd.R_drewN | apply Kd.R_drew)); exact HO_7.out) (Kd.R_typed (by (with_reducible repeat (first | apply Kd.R_alloc | apply Kd.R_drewN | apply Kd.R_drew)); exact HO_6.out)) (by decide) hg); replace HB := Aside0.mk (hb); clear HO_6; clear ho hb hg hat; obtain ⟨Ao22, co22, eo22⟩ := Kd.R_slice HO311.out; subst eo22) | ((with_reducible refine gate_callee (f := 43) rfl ?_); refine zgo (some 48) Try.func43 #[.slice Ao22 y309.length co22] ?_; (with_reducible refine (grottoref07_Sum.calls k1 _ _ y309 t312 _ ?side1 ?side2 A18.out).mono ?_); (case side1 => repeat (first | exact (Kd.R_reads' HO311.out).2.2 | (with_reducible refine Kd.C_alloc ?_ _) | (with_reducible refine Kd.C_drewN ?_ _) | (with_reducible refine Kd.C_drew ?_))); (case side2 => exact (Kd.R_reads' HO311.out).2.1); rintro e w' ⟨rfl, ⟨nd, rfl⟩⟩; refine ⟨_, rfl, ?_⟩) | ((with_reducible refine gate_callee (f := 41) rfl ?_); refine zgo (some 49) Try.func41 #[.int .u32 t312, .int .i64 4] ?_; (with_reducible refine (grottoref01_Put.calls k1 t312 4 t313 _ A19.out).mono ?_); rintro e w23 ⟨v314, rfl, ho0, hb⟩; refine ⟨_, rfl, ?_⟩; have HO315 := Aside0.mk (Kd.R_lower (Kd.R_new' ho0 (Kd.R_lt (by (with_reducible repeat (first | apply Kd.R_alloc | apply Kd.R_drewN | apply Kd.R_drew)); exact HO311.out))) (below_size (zb HB))); replace HO_7 := Aside0.mk (Kd.R_below (by (with_reducible repeat (first | apply Kd.R_alloc | apply Kd.R_drewN | apply Kd.R_drew)); exact HO_7.out) hb); replace HO311 := Aside0.mk (Kd.R_elder' (by (with_reducible repeat (first | apply Kd.R_alloc | apply Kd.R_drewN | apply Kd.R_drew)); exact HO311.out) (Kd.R_base ho0) hb); replace HB := zbs HB hb; (try clear hb); (try clear hb2); (try clear hk); (try clear hi); (try clear ho0)))
          go_loopg [10] k1 (fun kq v10 w' => ∃ (x6_2 : List Int) (x10_2 : Int), v10 = .int .i64 x10_2 ∧ Aside0 (grottoref07_Make.l1 kq x6_2 t313 x10_2 = some (r1, r2)) ∧ Aside0 (kq ≤ k1) ∧ Aside0 (Kd.R (Kd.int .u8) 5 w' w.heap.size (fun k_ => some k_ ≠ (v314 : Value).ownBlock) (.slice Ao22 y309.length co22) x6_2) ∧ Aside0 (Kd.R (Kd.int .u8) 5 w' w.heap.size (fun k_ => some k_ ≠ ((.slice Ao22 y309.length co22) : Value).ownBlock) v314 t313) ∧ Aside0 (Below w.heap.size w w'))
          case atStart => exact ⟨(y309), (0), (by first | rfl | (simp; done) | (simp [*]; done)), H', ⟨Nat.le_refl _⟩, ⟨by (with_reducible repeat (first | apply Kd.R_alloc | apply Kd.R_drewN | apply Kd.R_drew)); exact Kd.R_mono HO311.out (fun _ hk => hk.2)⟩, ⟨by (with_reducible repeat (first | apply Kd.R_alloc | apply Kd.R_drewN | apply Kd.R_drew)); exact Kd.R_mono HO315.out (fun _ hk => hk.2)⟩, ⟨zb HB⟩⟩
          case round =>
            clear H'
            try clear c1
            try clear c2
            try clear p2
            try clear p3
            try clear q3
            try clear hx3
            try clear p6
            try clear c9
            try clear c9b0
            try clear c10
            try clear c10b0
            try clear c12
            try clear c17
            try clear c19
            try clear hcz6_0
            try clear hcz6_1
            try clear hcz6_2
            try clear hcz6_3
            try clear hcz6_4
            try clear hcz6_5
            try clear hcz6_6
            try clear hcz6_7
            try clear hfz6_0
            try clear hfz6_1
            try clear hfz6_2
            try clear hfz6_3
            try clear hfz6_4
            try clear hfz6_5
            try clear hfz6_6
            try clear hfz6_7
            try clear hx302_0
            try clear p2
            try clear p302
            try clear q302
            obtain ⟨x6_2, x10_2, rfl, HA, HK2, HO_6, HO_9, HB⟩ := hrel
            have hl6_2 := (Kd.R_reads' HO_6.out).1
            rw [hl6_2] at HO_6
            (try simp only [hl6_2])
            (try simp only [hl6_2] at HO_9)
            cases gk with
            | zero => exact absurd HA.out (by simp [grottoref07_Make.l1])
            | succ k2 =>
              have H := HA.out
              clear HA
              simp only [grottoref07_Make.l1] at H
              by_cases c24 : x10_2 < 4
              · rw [if_pos c24] at H
                have c24b0 : decide (x10_2 < 4) = true := decide_eq_true c24
                clear c24
                by_cases c25 : 0 ≤ x10_2
                · rw [if_pos c25] at H
                  have c25b0 : decide (0 ≤ x10_2) = true := decide_eq_true c25
                  clear c25
                  by_cases c26 : x10_2 < (t313.length : Int)
                  · rw [if_pos c26] at H
                    have c26b0 : decide (x10_2 < (t313.length : Int)) = true := decide_eq_true c26
                    clear c26
                    obtain ⟨ji27, hji27⟩ : ∃ j_ : Int, (wrap64 (32 + x10_2)) = j_ := ⟨_, rfl⟩
                    replace H : (if 0 ≤ (ji27) then (if (ji27) < (x6_2.length : Int) then (grottoref07_Make.l1 k2 (x6_2.set ((ji27) : Int).toNat (rd t313 x10_2)) t313 (wrap64 (x10_2 + 1))) else (none)) else (none)) = some (r1, r2) := by first | (rw [hji27] at H; exact H) | (simp only [hji27] at H ⊢; exact H)
                    have hji27w : (IntKind.i64.wrap (32 + x10_2)) = ji27 := (i64_w _).trans hji27
                    by_cases c28 : 0 ≤ (ji27)
                    · rw [if_pos c28] at H
                      have c28b0 : decide (0 ≤ (ji27)) = true := decide_eq_true c28
                      clear c28
                      by_cases c29 : (ji27) < (x6_2.length : Int)
                      · rw [if_pos c29] at H
                        have c29b0 : decide ((ji27) < (x6_2.length : Int)) = true := decide_eq_true c29
                        clear c29
                        obtain ⟨y317, hy317⟩ : ∃ y_ : List Int, y_ = (x6_2.set ((ji27) : Int).toNat (rd t313 x10_2)) := ⟨_, rfl⟩
                        replace H : (grottoref07_Make.l1 k2 y317 t313 (wrap64 (x10_2 + 1))) = some (r1, r2) := by first | (rw [hy317]; with_reducible exact H) | (have H2_ := (Option.bind_some _ _).symm.trans H; rw [hy317]; with_reducible exact H2_) | (have H2_ := (Option.bind_some _ _).symm.trans H; with_reducible exact H2_) | with_reducible exact H | (rw [hy317]; exact H) | exact H
                        have Ny317 := Aside0.mk hy317
                        clear hy317
                        have H' := Aside0.mk H
                        clear H
                        obtain ⟨Ao31, co31, eo31⟩ := Kd.R_slice HO_9.out
                        subst eo31
                        have p316 : 0 ≤ (x10_2 : Int) := of_decide_eq_true (by first | (with_reducible assumption) | assumption)
                        have q316 : x10_2 < (t313.length : Int) := of_decide_eq_true (by first | (with_reducible assumption) | assumption)
                        obtain ⟨ad316, e316, hx316_0⟩ := Kd.at_int (Kd.R_reads' HO_9.out).2.2 x10_2 p316 q316
                        cases e316
                        replace p316 := eq_true p316
                        replace q316 := eq_true q316
                        have p30 : 0 ≤ ((ji27) : Int) := of_decide_eq_true (by first | (with_reducible assumption) | assumption)
                        have q30 : ((ji27) : Int) < ((x6_2.length : Int) : Int) := of_decide_eq_true (by first | (with_reducible assumption) | assumption)
                        obtain ⟨go30, co30, eo30, gb30, gl30, cl30, HG30⟩ := Kd.R_form HO_6.out (by omega)
                        (first | cases eo30 | (injection eo30 with ea_ en_ ec_; (first | subst ea_ | (injection ea_ with ea_; subst ea_)); subst ec_; clear en_))
                        have GB30 := Aside0.mk gb30
                        have GG30 := Aside0.mk HG30
                        clear gb30 gl30 HG30
                        obtain ⟨hx30_0, hf30_0⟩ := Kd.R_celln 0 HO_6.out ((ji27) : Int) p30 q30
                        replace p30 := eq_true p30
                        replace q30 := eq_true q30
                        have HP32 := Kd.R_putg HO_6.out ((ji27) : Int) (rd t313 x10_2)
                        go_wp2_with (first | ((with_reducible refine gate_store (t := 5) (p := 61) rfl ?_); refine store_event (t := 5) (p := 61) (v := ?vo_w33) (w1 := (wr.setCell ⟨go30, ((ji27) : Int).toNat, none⟩ (.int .u8 (rd t313 x10_2)))) ?hg ?ho ?hn ?hr ?_; (case ho => rfl); (case hg => rfl); (case hn => rfl); (case hr => first | (go_simp; done) | (go_simp; rfl)); intro w33 hw; have hg : wr.grownBy w33 (some go30) := (by rw [hw]; exact HP32.2); have hp_ : Kd.R (Kd.int .u8) 5 w33 w.heap.size (fun k_ => some k_ ≠ (.slice (some ad316) t313.length co31 : Value).ownBlock) (.slice (some ⟨go30, 0, none⟩) x6_2.length co22) y317 := (by rw [hw, Ny317.out]; exact HP32.1); clear HP32; replace HO_9 := Aside0.mk (Kd.R_after (v := (.slice (some ⟨go30, 0, none⟩) x6_2.length co22)) (v1 := (.slice (some ⟨go30, 0, none⟩) x6_2.length co22)) (ok := (fun _ => True)) (by (with_reducible repeat (first | apply Kd.R_alloc | apply Kd.R_drewN | apply Kd.R_drew)); exact Kd.R_mono HO_9.out (fun _ hk => ⟨trivial, hk⟩)) hg (.inl rfl)); replace HB := Aside0.mk ((by rw [hw]; exact below_set (HB.out) GB30.out : Below w.heap.size w w33)); replace HO_6 := Aside0.mk (hp_); clear hg hw hp_))
                        (try simp only [← hl6_2])
                        go_roundg k2
                        case measure => have := HK1.out; have := HK2.out; omega
                        case rel => exact ⟨(y317), (wrap64 (x10_2 + 1)), (by first | rfl | (simp; done) | (simp [*]; done)), H', ⟨by have := HK1.out; have := HK2.out; omega⟩, ⟨by (try simp only [hl6_2]); (with_reducible repeat (first | apply Kd.R_alloc | apply Kd.R_drewN | apply Kd.R_drew)); exact HO_6.out⟩, ⟨by (try simp only [hl6_2]); (with_reducible repeat (first | apply Kd.R_alloc | apply Kd.R_drewN | apply Kd.R_drew)); exact Kd.R_mono HO_9.out (fun _ hk => hk.2)⟩, ⟨zb HB⟩⟩
                      · rw [if_neg c29] at H
                        exact absurd H (by simp)
                    · rw [if_neg c28] at H
                      exact absurd H (by simp)
                  · rw [if_neg c26] at H
                    exact absurd H (by simp)
                · rw [if_neg c25] at H
                  exact absurd H (by simp)
              · rw [if_neg c24] at H
                have c24b0 : decide (x10_2 < 4) = false := decide_eq_false c24
                clear c24
                replace H := Option.bind_eq_some_iff.mp H
                obtain ⟨⟨t318, t319, t320, t321, t322, t323, t324, t325, t326, t327⟩, A340, H⟩ := H
                replace H : (if t326 = 0 then (some (x6_2, 0)) else (some (([] : List Int), t326))) = some (r1, r2) := H
                have A34 := Aside0.mk A340
                clear A340
                by_cases c35 : t326 = 0
                · rw [if_pos c35] at H
                  have c35b0 : (t326 == 0) = true := beq_iff_eq.mpr c35
                  have c35b1 : (t326 != 0) = false := bne_eq_false_iff_eq.mpr c35
                  clear c35
                  simp only [Option.some.injEq, Prod.mk.injEq] at H
                  obtain ⟨rfl, rfl⟩ := H
                  go_wp2_with (first | ((with_reducible refine gate_callee (f := 44) rfl ?_); refine zgo (some 64) Try.func44 #[.slice Ao22 x6_2.length co22] ?_; (with_reducible refine (grottoref07_Parse.calls k2 _ _ x6_2 t318 t319 t320 t321 t322 t323 t324 t325 t326 t327 _ ?side1 ?side2 A34.out).mono ?_); (case side1 => repeat (first | exact (Kd.R_reads' HO_6.out).2.2 | (with_reducible refine Kd.C_alloc ?_ _) | (with_reducible refine Kd.C_drewN ?_ _) | (with_reducible refine Kd.C_drew ?_))); (case side2 => exact (Kd.R_reads' HO_6.out).2.1); rintro e w36 ⟨rfl, hb⟩; refine ⟨_, rfl, ?_⟩; replace HO_6 := Aside0.mk (Kd.R_below (by (with_reducible repeat (first | apply Kd.R_alloc | apply Kd.R_drewN | apply Kd.R_drew)); exact HO_6.out) hb); replace HO_9 := Aside0.mk (Kd.R_below (by (with_reducible repeat (first | apply Kd.R_alloc | apply Kd.R_drewN | apply Kd.R_drew)); exact HO_9.out) hb); replace HB := zbs HB hb; (try clear hb); (try clear hb2); (try clear hk); (try clear hi)) | ((with_reducible refine gate_dst (N := 11) rfl ?_); refine zbox (N := 11) (cs := #[.int .u32 0, .int .u32 0, .int .u32 0, .int .u32 0, .int .u32 0, .int .u32 0, .int .u32 0, .int .u32 0]) (t := 66) ?_; intro gb328 hg w37 hbox hb; have BK328 := Aside0.mk hbox; have GW328 := zge hg HB; have GE328 := zge hg HB; replace HO_6 := Aside0.mk (Kd.R_below (by (with_reducible repeat (first | apply Kd.R_alloc | apply Kd.R_drewN | apply Kd.R_drew)); exact HO_6.out) hb); replace HO_9 := Aside0.mk (Kd.R_below (by (with_reducible repeat (first | apply Kd.R_alloc | apply Kd.R_drewN | apply Kd.R_drew)); exact HO_9.out) hb); replace HB := zbs HB hb; clear hb hbox hg; have hcz39_0 : w37.cell? ⟨gb328, 0, none⟩ = some (.int .u32 0) := (blk_cell BK328.out 0).trans rfl; have hcz39_1 : w37.cell? ⟨gb328, 1, none⟩ = some (.int .u32 0) := (blk_cell BK328.out 1).trans rfl; have hcz39_2 : w37.cell? ⟨gb328, 2, none⟩ = some (.int .u32 0) := (blk_cell BK328.out 2).trans rfl; have hcz39_3 : w37.cell? ⟨gb328, 3, none⟩ = some (.int .u32 0) := (blk_cell BK328.out 3).trans rfl; have hcz39_4 : w37.cell? ⟨gb328, 4, none⟩ = some (.int .u32 0) := (blk_cell BK328.out 4).trans rfl; have hcz39_5 : w37.cell? ⟨gb328, 5, none⟩ = some (.int .u32 0) := (blk_cell BK328.out 5).trans rfl; have hcz39_6 : w37.cell? ⟨gb328, 6, none⟩ = some (.int .u32 0) := (blk_cell BK328.out 6).trans rfl; have hcz39_7 : w37.cell? ⟨gb328, 7, none⟩ = some (.int .u32 0) := (blk_cell BK328.out 7).trans rfl; have hfz39_0 := blk_frozen BK328.out 0; have hfz39_1 := blk_frozen BK328.out 1; have hfz39_2 := blk_frozen BK328.out 2; have hfz39_3 := blk_frozen BK328.out 3; have hfz39_4 := blk_frozen BK328.out 4; have hfz39_5 := blk_frozen BK328.out 5; have hfz39_6 := blk_frozen BK328.out 6; have hfz39_7 := blk_frozen BK328.out 7))
                  go_ret2
                  exact ⟨_, by first | rfl | (simp [errW_none, errW_some] <;> rfl) | (simp [*, errW_none, errW_some] <;> rfl), by (with_reducible repeat (first | apply Kd.R_alloc | apply Kd.R_drewN | apply Kd.R_drew)); exact Kd.R_mono (Kd.R_far (p := ⟨gb328, 7, none⟩) (Kd.R_far (p := ⟨gb328, 6, none⟩) (Kd.R_far (p := ⟨gb328, 5, none⟩) (Kd.R_far (p := ⟨gb328, 4, none⟩) (Kd.R_far (p := ⟨gb328, 3, none⟩) (Kd.R_far (p := ⟨gb328, 2, none⟩) (Kd.R_far (p := ⟨gb328, 1, none⟩) (Kd.R_far (p := ⟨gb328, 0, none⟩) (Kd.R_types HO_6.out BK328.out (by decide)) (fun _ hk => hk.2) (.int .u32 t318)) (fun _ hk => hk.2) (.int .u32 t319)) (fun _ hk => hk.2) (.int .u32 t320)) (fun _ hk => hk.2) (.int .u32 t321)) (fun _ hk => hk.2) (.int .u32 t322)) (fun _ hk => hk.2) (.int .u32 t323)) (fun _ hk => hk.2) (.int .u32 t324)) (fun _ hk => hk.2) (.int .u32 t325)) (fun _ hk => trivial), zb HB⟩
                · rw [if_neg c35] at H
                  have c35b0 : (t326 == 0) = false := beq_eq_false_iff_ne.mpr c35
                  have c35b1 : (t326 != 0) = true := bne_iff_ne.mpr c35
                  simp only [Option.some.injEq, Prod.mk.injEq] at H
                  obtain ⟨rfl, rfl⟩ := H
                  go_wp2_with (first | ((with_reducible refine gate_callee (f := 44) rfl ?_); refine zgo (some 64) Try.func44 #[.slice Ao22 x6_2.length co22] ?_; (with_reducible refine (grottoref07_Parse.calls k2 _ _ x6_2 t318 t319 t320 t321 t322 t323 t324 t325 t326 t327 _ ?side1 ?side2 A34.out).mono ?_); (case side1 => repeat (first | exact (Kd.R_reads' HO_6.out).2.2 | (with_reducible refine Kd.C_alloc ?_ _) | (with_reducible refine Kd.C_drewN ?_ _) | (with_reducible refine Kd.C_drew ?_))); (case side2 => exact (Kd.R_reads' HO_6.out).2.1); rintro e w40 ⟨rfl, hb⟩; refine ⟨_, rfl, ?_⟩; replace HO_6 := Aside0.mk (Kd.R_below (by (with_reducible repeat (first | apply Kd.R_alloc | apply Kd.R_drewN | apply Kd.R_drew)); exact HO_6.out) hb); replace HO_9 := Aside0.mk (Kd.R_below (by (with_reducible repeat (first | apply Kd.R_alloc | apply Kd.R_drewN | apply Kd.R_drew)); exact HO_9.out) hb); replace HB := zbs HB hb; (try clear hb); (try clear hb2); (try clear hk); (try clear hi)) | ((with_reducible refine gate_dst (N := 11) rfl ?_); refine zbox (N := 11) (cs := #[.int .u32 0, .int .u32 0, .int .u32 0, .int .u32 0, .int .u32 0, .int .u32 0, .int .u32 0, .int .u32 0]) (t := 66) ?_; intro gb328 hg w41 hbox hb; have BK328 := Aside0.mk hbox; have GW328 := zge hg HB; have GE328 := zge hg HB; replace HO_6 := Aside0.mk (Kd.R_below (by (with_reducible repeat (first | apply Kd.R_alloc | apply Kd.R_drewN | apply Kd.R_drew)); exact HO_6.out) hb); replace HO_9 := Aside0.mk (Kd.R_below (by (with_reducible repeat (first | apply Kd.R_alloc | apply Kd.R_drewN | apply Kd.R_drew)); exact HO_9.out) hb); replace HB := zbs HB hb; clear hb hbox hg; have hcz43_0 : w41.cell? ⟨gb328, 0, none⟩ = some (.int .u32 0) := (blk_cell BK328.out 0).trans rfl; have hcz43_1 : w41.cell? ⟨gb328, 1, none⟩ = some (.int .u32 0) := (blk_cell BK328.out 1).trans rfl; have hcz43_2 : w41.cell? ⟨gb328, 2, none⟩ = some (.int .u32 0) := (blk_cell BK328.out 2).trans rfl; have hcz43_3 : w41.cell? ⟨gb328, 3, none⟩ = some (.int .u32 0) := (blk_cell BK328.out 3).trans rfl; have hcz43_4 : w41.cell? ⟨gb328, 4, none⟩ = some (.int .u32 0) := (blk_cell BK328.out 4).trans rfl; have hcz43_5 : w41.cell? ⟨gb328, 5, none⟩ = some (.int .u32 0) := (blk_cell BK328.out 5).trans rfl; have hcz43_6 : w41.cell? ⟨gb328, 6, none⟩ = some (.int .u32 0) := (blk_cell BK328.out 6).trans rfl; have hcz43_7 : w41.cell? ⟨gb328, 7, none⟩ = some (.int .u32 0) := (blk_cell BK328.out 7).trans rfl; have hfz43_0 := blk_frozen BK328.out 0; have hfz43_1 := blk_frozen BK328.out 1; have hfz43_2 := blk_frozen BK328.out 2; have hfz43_3 := blk_frozen BK328.out 3; have hfz43_4 := blk_frozen BK328.out 4; have hfz43_5 := blk_frozen BK328.out 5; have hfz43_6 := blk_frozen BK328.out 6; have hfz43_7 := blk_frozen BK328.out 7))
                  go_ret2
                  exact ⟨_, by first | rfl | (simp [errW_none, errW_some] <;> rfl) | (simp [*, errW_none, errW_some] <;> rfl), by first | exact Kd.R_nil _ _ _ _ _ | exact Kd.N_nil _ _ _ _ _ | exact Kd.V_nil _ _ _ _ _ | exact Kd.Q_nil _ _ _ _ _ | exact Kd.S_nil _ _ _ _ _, zb HB⟩
        · rw [if_neg c17] at H
          exact absurd H (by simp)

/-! ### grottoref09_fresh: function 49 -/
def grottoref09_fresh.f (l0 : List Int) (a1 : Int) : Option (List Int) := (some (([] : List Int) : List Int)).bind fun y169 => (if y169.length + l0.length < 140737488355328 then ((some (y169 ++ l0 : List Int)).bind fun y172 => (if 0 ≤ (wrap64 (a1 - (l0.length : Int))) then (if y172.length + (wrap64 (a1 - (l0.length : Int)) : Int).toNat < 140737488355328 then (some (y172 ++ List.replicate (wrap64 (a1 - (l0.length : Int)) : Int).toNat 0)) else (none)) else (none))) else (none))
set_option maxHeartbeats 8000000 in
set_option maxRecDepth 100000 in
theorem grottoref09_fresh.calls (A0 : Option Addr) (c0 : Nat) (l0 : List Int) (a1 : Int) (r : List Int) (w : World) (hr0 : Kd.C (Kd.int .u8) w A0 l0.length l0) (hc0 : l0.length ≤ c0) (h : grottoref09_fresh.f l0 a1 = some r) :
    Calls Try.prog 49 #[.slice A0 l0.length c0, .int .i64 a1] w fun e w' => ∃ v0_ : Value, e = .returned (v0_) ∧ Kd.R (Kd.int .u8) 5 w' w.heap.size (fun _ => True) v0_ r ∧ Below w.heap.size w w' := by
  have HR0 := Aside0.mk hr0
  have HC0 := Aside0.mk hc0
  clear hr0 hc0
  have HB := Aside0.mk (Below.refl w.heap.size w)
  have H : ((some (([] : List Int) : List Int)).bind fun y169 => (if y169.length + l0.length < 140737488355328 then ((some (y169 ++ l0 : List Int)).bind fun y172 => (if 0 ≤ (wrap64 (a1 - (l0.length : Int))) then (if y172.length + (wrap64 (a1 - (l0.length : Int)) : Int).toNat < 140737488355328 then (some (y172 ++ List.replicate (wrap64 (a1 - (l0.length : Int)) : Int).toNat 0)) else (none)) else (none))) else (none))) = some r := h
  clear h
  obtain ⟨y169, hy169⟩ : ∃ y_ : List Int, y_ = (([] : List Int)) := ⟨_, rfl⟩
  replace H : (if y169.length + l0.length < 140737488355328 then ((some (y169 ++ l0 : List Int)).bind fun y172 => (if 0 ≤ (wrap64 (a1 - (l0.length : Int))) then (if y172.length + (wrap64 (a1 - (l0.length : Int)) : Int).toNat < 140737488355328 then (some (y172 ++ List.replicate (wrap64 (a1 - (l0.length : Int)) : Int).toNat 0)) else (none)) else (none))) else (none)) = some r := by first | (rw [hy169]; with_reducible exact H) | (have H2_ := (Option.bind_some _ _).symm.trans H; rw [hy169]; with_reducible exact H2_) | (have H2_ := (Option.bind_some _ _).symm.trans H; with_reducible exact H2_) | with_reducible exact H | (rw [hy169]; exact H) | exact H
  have Ny169 := Aside0.mk hy169
  clear hy169
  by_cases c3 : y169.length + l0.length < 140737488355328
  · rw [if_pos c3] at H
    have LMc3 := Aside0.mk c3
    clear c3
    obtain ⟨y172, hy172⟩ : ∃ y_ : List Int, y_ = (y169 ++ l0) := ⟨_, rfl⟩
    replace H : (if 0 ≤ (wrap64 (a1 - (l0.length : Int))) then (if y172.length + (wrap64 (a1 - (l0.length : Int)) : Int).toNat < 140737488355328 then (some (y172 ++ List.replicate (wrap64 (a1 - (l0.length : Int)) : Int).toNat 0)) else (none)) else (none)) = some r := by first | (rw [hy172]; with_reducible exact H) | (have H2_ := (Option.bind_some _ _).symm.trans H; rw [hy172]; with_reducible exact H2_) | (have H2_ := (Option.bind_some _ _).symm.trans H; with_reducible exact H2_) | with_reducible exact H | (rw [hy172]; exact H) | exact H
    have Ny172 := Aside0.mk hy172
    clear hy172
    obtain ⟨ji4, hji4⟩ : ∃ j_ : Int, (wrap64 (a1 - (l0.length : Int))) = j_ := ⟨_, rfl⟩
    replace H : (if 0 ≤ (ji4) then (if y172.length + (ji4 : Int).toNat < 140737488355328 then (some (y172 ++ List.replicate (ji4 : Int).toNat 0)) else (none)) else (none)) = some r := by first | (rw [hji4] at H; exact H) | (simp only [hji4] at H ⊢; exact H)
    have hji4w : (IntKind.i64.wrap (a1 - (l0.length : Int))) = ji4 := (i64_w _).trans hji4
    by_cases c5 : 0 ≤ (ji4)
    · rw [if_pos c5] at H
      have c5b0 := eq_true c5
      have c5b1 : decide (0 ≤ (ji4)) = true := decide_eq_true c5
      clear c5
      by_cases c6 : y172.length + (ji4 : Int).toNat < 140737488355328
      · rw [if_pos c6] at H
        have LMc6 := Aside0.mk c6
        clear c6
        obtain ⟨y175, hy175⟩ : ∃ y_ : List Int, y_ = (y172 ++ List.replicate (ji4 : Int).toNat 0) := ⟨_, rfl⟩
        replace H : (some y175) = some r := by first | (rw [hy175]; with_reducible exact H) | (have H2_ := (Option.bind_some _ _).symm.trans H; rw [hy175]; with_reducible exact H2_) | (have H2_ := (Option.bind_some _ _).symm.trans H; with_reducible exact H2_) | with_reducible exact H | (rw [hy175]; exact H) | exact H
        have Ny175 := Aside0.mk hy175
        clear hy175
        obtain rfl := Option.some.inj H
        go_enter Try.func49, Try.ntmps49
        go_wp2_with (first | ((with_reducible refine gate_dst (N := 6) rfl ?_); refine Kd.R_lit (Kd.int .u8) _ 5 ?hg (N := 6) ?hd (xs := ([] : List Int)) (inner := []) (ok := fun _ => True) (okp := fun _ => True) ?hr ?hp (fun _ hk => hk) trivial (Below.refl _ _) (Nat.le_refl _) (by simp) ?_; (case hd => rfl); (case hg => rfl); (case hr => first | (go_simp; done) | (go_simp; rfl)); (case hp => exact (Reps.none _ _)); intro v170 w7 ho8 hb hg_ hnew_; clear hg_ hnew_; (first | rw [← Ny169.out] at ho8 | (simp only [Int.reduceToNat] at ho8; rw [← Ny169.out] at ho8)); have HO171 := Aside0.mk (Kd.R_lower ho8 (below_size (zb HB))); replace HB := zbs HB hb; clear hb ho8) | ((with_reducible refine gate_builtin (b := .append) (xs := #[.tmp 6, .tmp 7]) rfl ?_); at_builtin; refine Kd.R_append_rows (Kd.int .u8) (w0 := w) w.heap.size rfl (.tmp 6) (.tmp 7) 41 5 (.int .u8 0) 1 rfl Try.underlying41 info5 rfl (by decide) (by omega) v170 y169 l0 _ _ _ (fun _ => True) (fun _ => False) rfl rfl ?aO ?aR (fun _ _ h => h) (fun _ h => h.elim) ?aF ?aB ?aS ?aL ?_; (case aR => repeat (first | exact (Kd.C_below HR0.out HB.out) | (with_reducible refine Kd.C_alloc ?_ _) | (with_reducible refine Kd.C_drewN ?_ _) | (with_reducible refine Kd.C_drew ?_))); (case aB => exact (zb HB)); (case aF => exact (fun _ _ => trivial)); (case aO => exact (by (with_reducible repeat (first | apply Kd.R_alloc | apply Kd.R_drewN | apply Kd.R_drew)); exact HO171.out)); (case aS => exact (below_size (zb HB))); (case aL => have := LMc3.out; omega); intro v173 w9 ho hb hg hat; rw [← Ny172.out] at ho; have HO174 := Aside0.mk (ho); replace HB := Aside0.mk (hb); clear HO171; clear ho hb hg hat) | (at_builtin; refine Kd.R_append_zeros (Kd.int .u8) (w0 := w) w.heap.size rfl (.tmp 9) (.tmp 13) 41 3 5 (.int .u8 0) 1 rfl Try.underlying41 Try.underlying3 info5 rfl (by decide) (by omega) v173 y172 0 (ji4 : Int) (fun _ => True) rfl rfl rfl ?aF ?aO (of_decide_eq_true (by first | (with_reducible assumption) | assumption)) ?aB ?aS ?aL ?_; (case aB => exact (zb HB)); (case aF => exact (fun _ _ => trivial)); (case aO => exact (by (with_reducible repeat (first | apply Kd.R_alloc | apply Kd.R_drewN | apply Kd.R_drew)); exact HO174.out)); (case aS => exact (below_size (zb HB))); (case aL => have := LMc6.out; omega); intro v176 w10 ho hb hg hat; rw [← Ny175.out] at ho; have HO177 := Aside0.mk (ho); replace HB := Aside0.mk (hb); clear HO174; clear ho hb hg hat))
        go_ret
        exact ⟨_, by first | rfl | (simp [errW_none, errW_some] <;> rfl) | (simp only [← hji4]; first | rfl | (simp [errW_none, errW_some] <;> rfl)) | (simp [*, errW_none, errW_some] <;> rfl), by (with_reducible repeat (first | apply Kd.R_alloc | apply Kd.R_drewN | apply Kd.R_drew)); exact HO177.out, zb HB⟩
      · rw [if_neg c6] at H
        exact absurd H (by simp)
    · rw [if_neg c5] at H
      exact absurd H (by simp)
  · rw [if_neg c3] at H
    exact absurd H (by simp)

/-! ### grottoref09_sized: function 50 -/
def grottoref09_sized.f (a0 : Int) : Option (Bool) := if a0 = 1 then (some true) else (if a0 = 2 then (some true) else (some (a0 == 4)))
set_option maxHeartbeats 8000000 in
set_option maxRecDepth 100000 in
theorem grottoref09_sized.calls (a0 : Int) (r : Bool) (w : World) (h : grottoref09_sized.f a0 = some r) :
    Calls Try.prog 50 #[.int .i64 a0] w fun e w' => e = .returned (.bool r) ∧ Drawn0 w w' := by
  have H : (if a0 = 1 then (some true) else (if a0 = 2 then (some true) else (some (a0 == 4)))) = some r := h
  clear h
  by_cases c2 : a0 = 1
  · rw [if_pos c2] at H
    have c2b0 : (a0 == 1) = true := beq_iff_eq.mpr c2
    have c2b1 : (a0 != 1) = false := bne_eq_false_iff_eq.mpr c2
    clear c2
    obtain rfl := Option.some.inj H
    go_enter Try.func50, Try.ntmps50
    go_wp2
    go_ret
    exact ⟨by first | rfl | (simp; done) | (simp [*]; done), by repeat (first | exact Drawn0.refl _ | apply Drawn0.step)⟩
  · rw [if_neg c2] at H
    have c2b0 : (a0 == 1) = false := beq_eq_false_iff_ne.mpr c2
    have c2b1 : (a0 != 1) = true := bne_iff_ne.mpr c2
    by_cases c3 : a0 = 2
    · rw [if_pos c3] at H
      have c3b0 : (a0 == 2) = true := beq_iff_eq.mpr c3
      have c3b1 : (a0 != 2) = false := bne_eq_false_iff_eq.mpr c3
      clear c3
      obtain rfl := Option.some.inj H
      go_enter Try.func50, Try.ntmps50
      go_wp2
      go_ret
      exact ⟨by first | rfl | (simp; done) | (simp [*]; done), by repeat (first | exact Drawn0.refl _ | apply Drawn0.step)⟩
    · rw [if_neg c3] at H
      have c3b0 : (a0 == 2) = false := beq_eq_false_iff_ne.mpr c3
      have c3b1 : (a0 != 2) = true := bne_iff_ne.mpr c3
      obtain rfl := Option.some.inj H
      go_enter Try.func50, Try.ntmps50
      go_wp2
      go_ret
      exact ⟨by first | rfl | (simp; done) | (simp [*]; done), by repeat (first | exact Drawn0.refl _ | apply Drawn0.step)⟩

end Go.Proofs.Ytmpiifjckhcbmaa.PQ
