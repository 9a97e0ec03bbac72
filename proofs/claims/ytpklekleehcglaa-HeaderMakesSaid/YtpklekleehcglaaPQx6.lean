-- by a program of this claim
import Derived.Lib.SlBytesConst
import Derived.ArgAppend
import Derived.Test.YtpklekleehcglaaPQx0
import Derived.Test.YtpklekleehcglaaPQx2
import Derived.Test.YtpklekleehcglaaPQx4
namespace Go.Proofs.Ytpklekleehcglaa.PQ
open Go.RowKit Go.Proofs.YtpklekleehcglaaW.PrintWords Go.Proofs.YtpklekleehcglaaW.PrintLast Go.Proofs.YtpklekleehcglaaW.PrintMore Go.Proofs.Ytpklekleehcglaa.Z
attribute [local go_sem] max2_int min2_int max_two min_two max_three min_three max_four min_four   -- for this text's walks alone
set_option linter.unusedVariables false
set_option linter.unusedSimpArgs false

/-! ### header_Make: function 18 -/
/-- copy into a cut of one's own row of bytes -/
theorem copy_in {P : Program} {W : World} {base : Nat} {ok : Nat → Prop} {g cap m c off n : Nat} {xs ys : List Int} {A : Option Addr} {t t' ty : TypeId}
    (HO : (Kd.int .u8).R 5 W base ok (.slice (some ⟨g, 0, none⟩) n cap) xs) (HR : (Kd.int .u8).C W A m ys) (hn : xs.length = n) (hm : 0 < m) (hoff : off + m ≤ n) (ht : P.underlying t = some (.slice 5)) (hinfo : (P.info? 5).map (·.size) = some 1) :
    ∃ w1, (Builtin.copy_ #[t, t'] ty #[.slice (some ⟨g, off, none⟩) (n - off) (cap - off), .slice A m c]).run P W = .ok (goInt m) w1 ∧ (Kd.int .u8).R 5 w1 base ok (.slice (some ⟨g, 0, none⟩) n cap) (xs.take off ++ ys ++ xs.drop (off + m)) ∧ W.grownBy w1 (some g) ∧ base ≤ g := by
  subst hn
  have hown := Kd.own_of_R (enc := Value.int .u8) (h1 := fun _ => rfl) HO
  have hR := Kd.reads_of_C (enc := Value.int .u8) (d := (0 : Int)) (h1 := fun _ => rfl) HR
  have hml : ys.length = m := hR.1
  obtain ⟨ad, hA, hc⟩ := hR.2.2 hm
  rcases hown.2 with ⟨_, hx0⟩ | ⟨g', cap', cur, hv, hb, hh, hnc, hcm, hcs, htake⟩
  · omega
  obtain ⟨rfl, rfl⟩ : g = g' ∧ cap = cap' := by injection hv with e1 e2 e3; injection e1 with e1; injection e1 with e1; exact ⟨e1, e3⟩
  have hsrc : ∀ j u, (encs (Value.int .u8) ys)[j]? = some u → W.cell? (ad.add j) = some u := by
    intro j u hu
    have hj : j < ys.length := by
      rcases Nat.lt_or_ge j ys.length with h | h
      · exact h
      · rw [List.getElem?_eq_none (by rw [encs_length]; exact h)] at hu
        cases hu
    rw [encs_get (d := (0 : Int)) _ j hj] at hu
    rw [hc j (by omega), ← hu]
  have hkl : (encs (Value.int .u8) ys).length = m := by rw [encs_length, hml]
  have hcs1 : cur.size = cap := by omega
  have hr := run_copy_cells (P := P) W t t' ty 5 g off (xs.length - off) (cap - off) ad m c (encs (Value.int .u8) ys) ht hinfo (by rw [hkl]; exact (Nat.min_eq_left (by omega)).symm) hsrc
    (fun j hj => by rw [cell_of_row W g _ cur 5 (0, 0) hh]; simp; omega) (fun j _ => blk_frozen hh _) (by intro u hu; simp only [encs, List.mem_map] at hu; obtain ⟨q, _, rfl⟩ := hu; rfl)
  obtain ⟨cur', h3, h4, h5⟩ := setCells_row (encs (Value.int .u8) ys) off W cur hh (by rw [hkl]; omega)
  obtain ⟨s1, s2, s3, s4⟩ := setCells_same g (encs (Value.int .u8) ys) off W
  rw [hkl] at hr
  refine ⟨_, by rw [hA]; exact hr, Kd.R_of_own (enc := Value.int .u8) (h1 := fun _ => rfl) ?_ HO.1, ⟨s1, s2, s3, by rw [s4]; exact Nat.le_refl _, fun k _ hk => setCells_far _ _ k (fun he => hk (by rw [he]))⟩, hb⟩
  have hln : (xs.take off ++ ys ++ xs.drop (off + m)).length = xs.length := by
    rw [List.length_append, List.length_append, List.length_take, List.length_drop]
    omega
  rw [hln]
  refine ⟨by rw [encs_length, hln, Nat.mul_one], .inr ⟨g, cap, cur', hv, hb, h3, hnc, hcm, by rw [h4, hcs], ?_⟩⟩
  have htk : cur.toList.take xs.length = encs (Value.int .u8) xs := by rw [← htake, Nat.mul_one]
  have hd : encs (Value.int .u8) (xs.drop (off + m)) = (encs (Value.int .u8) xs).drop (off + m) := by simp [encs, List.map_drop]
  have hd2 : encs (Value.int .u8) (xs.take off) = (encs (Value.int .u8) xs).take off := by simp [encs, List.map_take]
  have hcl : cur.toList.length = cap := by rw [Array.length_toList]; exact hcs1
  have hxc : xs.length ≤ cap := by omega
  rw [h5, hkl, encs_append, encs_append, hd, hd2, ← htk, Nat.mul_one, List.take_take, Nat.min_eq_left (by omega), List.drop_take]
  rw [List.take_append, List.length_append, List.length_take, hkl, hcl, Nat.min_eq_left (by omega : off ≤ cap), List.take_of_length_le (by rw [List.length_append, List.length_take, hkl]; omega)]
theorem own_at {W : World} {base : Nat} {ok : Nat → Prop} {v : Value} {xs : List Int} (HO : (Kd.int .u8).R 5 W base ok v xs) (h0 : 0 < xs.length) : ∃ g cap, v = .slice (some ⟨g, 0, none⟩) xs.length cap ∧ xs.length ≤ cap := by
  have hown := Kd.own_of_R (enc := Value.int .u8) (h1 := fun _ => rfl) HO
  rcases hown.2 with ⟨_, hx0⟩ | ⟨g', cap', cur, hv, hb, hh, hnc, hcm, hcs, htake⟩
  · omega
  · exact ⟨g', cap', hv, by omega⟩
theorem idx_agg {P : Program} {ops : Array Oper} {rest : List Oper} {o : Oper} {a : Act} {Q : Exit → Act → World → Prop} {W : World} (N : Tmp) (_hd : o.dst = some N) (hgd : o.guard = none) (t e : TypeId) (n : Nat) (x ix : Operand) (ho : o.op = .index t x ix) (cs : Array Value) (k : IntKind) (i z : Int)
    (ht : P.underlying t = some (.array n e)) (hinfo : (P.info? e).map (·.size) = some 1) (hx : a.eval x = .agg cs) (hi : a.eval ix = .int .i64 i) (hagg : ∀ W : World, (isAgg e).run P W = .ok false W) (h0 : 0 ≤ i) (h1 : i < n) (hc : cs[i.toNat]? = some (.int k z)) (h : wpList P ops Q rest (a.put o.dst (.int k z)) W) : wpList P ops Q (o :: rest) a W := by
  obtain ⟨i0, hi0, hsz⟩ := Option.map_eq_some_iff.1 hinfo
  have hp : i.toNat < cs.size := (Array.getElem?_eq_some_iff.1 hc).1
  have hr : (Instr.index t (.agg cs) (.int .i64 i)).run P W = .ok (.int k z) W := by
    have hh : 0 ≤ i ∧ i < (n : Int) := ⟨h0, h1⟩
    simp [Instr.index, run_underlying ht, asIntOf, part, hagg, sizeOf, typeInfo, hi0, hsz, hc, hh]
  refine wpList_plain hgd fun K hK => ?_
  unfold Oper.wp execOp
  simp only [ho, hx, hi, Sem.run_bind, Sem.run_pure, hr, Result.andThen_ok]
  exact hK _ _ h
theorem header_Sum.calls_n (k : Nat) (A0 : Option Addr) (c0 n : Nat) (l0 : List Int) (r : Int) (w : World) (hn : l0.length = n) (hr0 : Kd.C (Kd.int .u8) w A0 n l0) (hc0 : n ≤ c0) (h : header_Sum.f k l0 = some r) :
    Calls Try.prog 16 #[.slice A0 n c0] w fun e w' => e = .returned (.int .u32 r) ∧ Drawn0 w w' := by
  subst hn; exact header_Sum.calls k A0 c0 l0 r w hr0 hc0 h
theorem header_Parse.calls_n (k : Nat) (A0 : Option Addr) (c0 n : Nat) (l0 : List Int) (r1 r2 r3 r4 r5 r6 r7 r8 r9 r10 : Int) (w : World) (hn : l0.length = n) (hr0 : Kd.C (Kd.int .u8) w A0 n l0) (hc0 : n ≤ c0) (h : header_Parse.f k l0 = some (r1, r2, r3, r4, r5, r6, r7, r8, r9, r10)) :
    Calls Try.prog 12 #[.slice A0 n c0] w fun e w' => e = .returned (.tuple #[.agg #[.int .u32 r1, .int .u32 r2, .int .u32 r3, .int .u32 r4, .int .u32 r5, .int .u32 r6, .int .u32 r7, .int .u32 r8], .int .i64 r9, .int .i64 r10]) ∧ Below w.heap.size w w' := by
  subst hn; exact header_Parse.calls k A0 c0 l0 r1 r2 r3 r4 r5 r6 r7 r8 r9 r10 w hr0 hc0 h
def MkRow (W : World) (base g : Nat) (v : Value) (xs : List Int) (i : Int) : Prop :=
  Kd.R (Kd.int .u8) 5 W base (fun _ => True) v xs ∨ (i = 0 ∧ xs = [71, 108, 117, 108] ∧ v = .slice (some ⟨g, 0, none⟩) 4 4 ∧ W.heap[g]? = some (.cells #[.int .u8 71, .int .u8 108, .int .u8 117, .int .u8 108] 5 (4, 5)))
theorem MkRow.below {W W1 : World} {base g : Nat} {v : Value} {xs : List Int} {i : Int} (h : MkRow W base g v xs i) (hb : Below W.heap.size W W1) : MkRow W1 base g v xs i :=
  h.imp (fun h => Kd.R_below h hb) (fun h => ⟨h.1, h.2.1, h.2.2.1, blk_below h.2.2.2 hb⟩)
theorem MkRow.drew {W : World} {base g : Nat} {v : Value} {xs : List Int} {i : Int} (h : MkRow W base g v xs i) : MkRow W.drew base g v xs i := h.below (below_drew (Below.refl _ _))
theorem MkRow.drewN {W : World} {base g : Nat} {v : Value} {xs : List Int} {i : Int} (h : MkRow W base g v xs i) (n : Nat) : MkRow (W.drewN n) base g v xs i := h.below (pw_below_drewN (Below.refl _ _) n)
theorem MkRow.append {P : Program} {ops : Array Oper} {rest : List Oper} {o : Oper} {a : Act} {Q : Exit → Act → World → Prop} {w0 W : World} (base : Nat) (hgd : o.guard = none) (s x : Operand)
    (ho : o.op = .call { callee := .builtin .append, args := #[s, x], argTypes := #[22, 22] }) (ht : P.underlying 22 = some (.slice 5)) (hinfo : (P.info? 5).map (fun i => (i.zero, i.size, i.bytes)) = some (some (.int .u8 0), 1, 1))
    (v : Value) (xs ys : List Int) (A : Option Addr) (m c g : Nat) (i : Int) (hs : a.eval s = v) (hx : a.eval x = .slice A m c) (HO : MkRow W base g v xs i) (HR : Kd.C (Kd.int .u8) W A m ys) (hm : 0 < m)
    (HB : Below base w0 W) (hbase : base ≤ W.heap.size) (hl : xs.length + m ≤ 140737488355328)
    (h : ∀ v1 w1, Kd.R (Kd.int .u8) 5 w1 base (fun _ => True) v1 (xs ++ ys) → Below base w0 w1 → wpList P ops Q rest (a.put o.dst v1) w1) : wpList P ops Q (o :: rest) a W := by
  rcases HO with HO | ⟨rfl, rfl, rfl, hh⟩
  · exact Kd.R_append_rows (Kd.int .u8) (w0 := w0) base hgd s x 22 5 (.int .u8 0) 1 ho ht hinfo rfl (by decide) (by omega) v xs ys A m c (fun _ => True) (fun _ => False) hs hx HO HR (fun _ _ h => h) (fun _ h => h.elim) (fun _ _ => trivial) HB hbase (by omega) (fun v1 w1 h1 h2 _ _ => h v1 w1 h1 h2)
  · have hR := Kd.reads_of_C (enc := Value.int .u8) (d := (0 : Int)) (h1 := fun _ => rfl) HR
    obtain ⟨ad, rfl, hc⟩ := hR.2.2 hm
    have hml : ys.length = m := hR.1
    obtain ⟨i0, hi, hzz⟩ := Option.map_eq_some_iff.1 hinfo
    simp only [Prod.mk.injEq] at hzz
    obtain ⟨hz0, hz1, hz2⟩ := hzz
    have hlen : 4 + m ≤ 140737488355328 := by simpa using hl
    refine wpList_append_grows W hgd s x 22 ho 5 i0 (.int .u8 0) 1 1 ht hi hz0 hz1 hz2 rfl (by omega) (some ⟨g, 0, none⟩) 4 4 (encs (Value.int .u8) [71, 108, 117, 108]) hs (fun h => by cases h) rfl ?_ ad m c (encs (Value.int .u8) ys) hx (by rw [encs_length, hml]; omega) ?_ ?_ (by omega) (by simp only [maxLen]; omega) (by omega) ?_
    · intro b hb j u hu
      injection hb with hb
      subst hb
      rw [Addr.add_lit, Nat.zero_add, cell_of_row W g j _ 5 (4, 5) hh, ← hu, List.getElem?_toArray]
      rfl
    · intro j u hu
      have hj : j < ys.length := by
        rcases Nat.lt_or_ge j ys.length with h | h
        · exact h
        · rw [List.getElem?_eq_none (by rw [encs_length]; exact h)] at hu
          cases hu
      rw [encs_get (d := (0 : Int)) _ j hj] at hu
      rw [hc j (by omega), ← hu]
    · intro u hu
      simp only [encs, List.mem_map] at hu
      obtain ⟨q, _, rfl⟩ := hu
      rfl
    · intro v' w' hown hg
      refine h v' w' (Kd.R_of_own (enc := Value.int .u8) (h1 := fun _ => rfl) ?_ (fun _ _ => trivial)) (HB.grown hg hbase (by intro k hk; cases hk))
      have := own_weaken hown hbase
      rw [← encs_append] at this
      have hl2 : ([71, 108, 117, 108] ++ ys : List Int).length = 4 + m := by rw [List.length_append, hml]; rfl
      rw [hl2]
      exact this
def header_Make.l0 : Nat → List Int → List Int → List Int → Int → Option (List Int × Int)
  | 0, _, _, _, _ => none
  | k + 1, x1, x6, x28, x29 => if x29 < 8 then ((word_Put.f k (rd x28 x29) 4).bind fun t150 => (if t150.length = 4 ∧ x6.length < 140737488000000 then (header_Make.l0 k x1 (x6 ++ t150) x28 (wrap64 (x29 + 1))) else (none))) else (if 36 ≤ x6.length ∧ x6.length + x1.length < 140737488355328 then ((some (x6 ++ x1 : List Int)).bind fun y156 => ((header_Sum.f k y156).bind fun t159 => ((word_Put.f k t159 4).bind fun t160 => (if t160.length = 4 then ((some (y156.take 32 ++ t160 ++ y156.drop 36)).bind fun y161 => ((header_Parse.f k y161).bind fun bt163 => (if bt163.2.2.2.2.2.2.2.2.1 = 0 then (some (y161, 0)) else (some (([] : List Int), bt163.2.2.2.2.2.2.2.2.1))))) else (none))))) else (none))
def header_Make.f (k : Nat) (a0_0 : Int) (a0_1 : Int) (a0_2 : Int) (a0_3 : Int) (a0_4 : Int) (a0_5 : Int) (a0_6 : Int) (a0_7 : Int) (l1 : List Int) : Option (List Int × Int) := header_Make.l0 k l1 (([71, 108, 117, 108] : List Int)) (([a0_0, a0_1, a0_2, a0_3, a0_4, a0_5, a0_6, 0] : List Int)) 0
theorem header_Make.mono_l : ∀ k, (∀ y0 y1 y2 y3, LeO (header_Make.l0 k y0 y1 y2 y3) (header_Make.l0 (k + 1) y0 y1 y2 y3))
  | 0 => fun _ _ _ _ r h => by simp [header_Make.l0] at h
  | k + 1 => by
    have ih0 := header_Make.mono_l k
    · intro y0 y1 y2 y3
      unfold header_Make.l0
      repeat' first
      | (with_reducible exact ih0 _ _ _ _)
      | (with_reducible exact header_Parse.mono _ _)
      | (with_reducible exact header_Sum.mono _ _)
      | (with_reducible exact word_Put.mono _ _ _)
      | (with_reducible exact LeO.refl _)
      | (with_reducible refine LeO.ite ?_ ?_)
      | (with_reducible refine LeO.bind ?_ (fun _ => ?_))
theorem header_Make.mono : ∀ a0 a1 a2 a3 a4 a5 a6 a7 a8 k, LeO (header_Make.f k a0 a1 a2 a3 a4 a5 a6 a7 a8) (header_Make.f (k + 1) a0 a1 a2 a3 a4 a5 a6 a7 a8) := fun a0 a1 a2 a3 a4 a5 a6 a7 a8 k => header_Make.mono_l k _ _ _ _
theorem under51 : Try.prog.underlying 51 = some (.array 8 25) := by kernel_rfl
theorem agg25 (W : World) : (isAgg 25).run Try.prog W = .ok false W := by
  have : Try.prog.underlying 25 = some (.int .u32) := by kernel_rfl
  simp [isAgg, run_underlying this]
theorem infoS {P : Program} {e : TypeId} {z : Option Value} {s b : Nat} (h : (P.info? e).map (fun i => (i.zero, i.size, i.bytes)) = some (z, s, b)) : (P.info? e).map (·.size) = some s := by
  obtain ⟨i, hi, hz⟩ := Option.map_eq_some_iff.1 h
  rw [hi]; simp only [Prod.mk.injEq] at hz; simp [hz.2.1]
/-- the copy, as an operation of a region without an order -/
theorem copy_op {P : Program} {ops : Array Oper} {Q : Exit → Act → World → Prop} {oi : Oper} {N : Option Tmp} {a : Act} {w w1 : World} {K : Act → World → Prop} {s x : Operand} {u u' v : Value} {t t' ty : TypeId} (hw : Region.wanted oi (yielded ops a.tmps) = true) (hN : oi.dst = N) (hop : oi.op = .call { callee := .builtin .copy, args := #[s, x], argTypes := #[t, t'] }) (hty : oi.type = ty) (hs : a.eval s = u) (hx : a.eval x = u') (hr : (Builtin.copy_ #[t, t'] ty #[u, u']).run P w = .ok v w1) (h : K (a.put N v) w1) : if Region.wanted oi (yielded ops a.tmps) = true then Oper.wp P oi a w K Q else K (a.put N undef) w := by
  rw [if_pos hw]
  subst hN hty
  unfold Oper.wp execOp
  simp only [hop, resolve, invoke, builtin, Sem.run_bind, Sem.run_pure, Result.andThen_ok, List.map_toArray, List.map_cons, List.map_nil, hs, hx, hr]
  exact h
theorem cut32 {n cap g : Nat} (h1 : 36 ≤ n) (h2 : n ≤ cap) (W : World) : (Instr.slice 22 (.slice (some ⟨g, 0, none⟩) n cap) (some (.int .i64 32)) none none).run Try.prog W = .ok (.slice (some ⟨g, 32, none⟩) (n - 32) (cap - 32)) W := by
  have hel : Try.prog.elem 22 = 5 := by simp [Program.elem, Try.underlying22]
  have hu : Try.prog.underlying 22 = some (.slice (Try.prog.elem 22)) := by rw [hel]; exact Try.underlying22
  obtain ⟨i0, hi, hzz⟩ := Option.map_eq_some_iff.1 info5
  simp only [Prod.mk.injEq] at hzz
  rw [run_slice_l W 22 (some ⟨g, 0, none⟩) n cap hu .i64 32 (by omega) (by omega), hel]
  simp [sizeOf, typeInfo, hi, hzz.2.1, sliced, Result.andThen, Addr.add_lit, show ¬ cap = 32 by omega]
set_option maxHeartbeats 8000000 in
set_option maxRecDepth 100000 in
theorem header_Make.calls (k : Nat) (a0_0 : Int) (a0_1 : Int) (a0_2 : Int) (a0_3 : Int) (a0_4 : Int) (a0_5 : Int) (a0_6 : Int) (a0_7 : Int) (A1 : Option Addr) (c1 : Nat) (l1 : List Int) (r1 : List Int) (r2 : Int) (w : World) (hr1 : Kd.C (Kd.int .u8) w A1 l1.length l1) (hc1 : l1.length ≤ c1) (h : header_Make.f k a0_0 a0_1 a0_2 a0_3 a0_4 a0_5 a0_6 a0_7 l1 = some (r1, r2)) :
    Calls Try.prog 18 #[.agg #[.int .u32 a0_0, .int .u32 a0_1, .int .u32 a0_2, .int .u32 a0_3, .int .u32 a0_4, .int .u32 a0_5, .int .u32 a0_6, .int .u32 a0_7], .slice A1 l1.length c1] w fun e w' => ∃ v0_ : Value, e = .returned (.tuple #[v0_, .int .i64 r2]) ∧ Kd.R (Kd.int .u8) 5 w' w.heap.size (fun _ => True) v0_ r1 ∧ Below w.heap.size w w' := by
  have hu27 := Try.underlying27
  have HR1 := Aside0.mk hr1
  have HC1 := Aside0.mk hc1
  have HB := Aside0.mk (Below.refl w.heap.size w)
  obtain ⟨LS, hLS⟩ : ∃ y : List Int, y = [a0_0, a0_1, a0_2, a0_3, a0_4, a0_5, a0_6, 0] := ⟨_, rfl⟩
  have H' : Aside0 (header_Make.l0 k l1 [71, 108, 117, 108] LS 0 = some (r1, r2)) := ⟨by rw [hLS]; exact h⟩
  have NLS := Aside0.mk hLS
  clear h hr1 hc1 hLS
  go_enter Try.func18, Try.ntmps18
  go_wp2_with (first | ((with_reducible refine gate_dst (N := 2) rfl ?_); refine zbox (N := 2) (cs := #[.int .u32 a0_0, .int .u32 a0_1, .int .u32 a0_2, .int .u32 a0_3, .int .u32 a0_4, .int .u32 a0_5, .int .u32 a0_6, .int .u32 a0_7]) (t := 27) ?_; intro gb1 hg w3 hbox hb; have BK1 := Aside0.mk hbox; replace HB := zbs HB hb; clear hb hbox hg; obtain ⟨w4, hcv, hb4, hm4⟩ : ∃ w4, (convert 22 22 (.slice (some ⟨w3.heap.size, 0, none⟩) 4 4)).run Try.prog (w3.alloc (.cells #[.int .u8 71, .int .u8 108, .int .u8 117, .int .u8 108] 5)) = .ok (.slice (some ⟨w3.heap.size, 0, none⟩) 4 4) w4 ∧ Below w3.heap.size w3 w4 ∧ w4.heap[w3.heap.size]? = some (.cells #[.int .u8 71, .int .u8 108, .int .u8 117, .int .u8 108] 5 (4, 5)) := ⟨_, Lib.run_convert_bytes_const w3 22 5 _ 4 4 Try.underlying22 Try.underlying5, below_alloc (Below.refl _ _) _, blk_new _ _⟩; replace BK1 : Aside0 (w4.heap[gb1]? = some _) := ⟨blk_below BK1.out hb4⟩; replace HB := zbs HB hb4; have HM := Aside0.mk (show MkRow w4 w.heap.size w3.heap.size (.slice (some ⟨w3.heap.size, 0, none⟩) 4 4) [71, 108, 117, 108] 0 from Or.inr ⟨rfl, rfl, rfl, hm4⟩); clear hb4 hm4; have pc0 : w4.cell? ⟨gb1, 0, none⟩ = some (.int .u32 a0_0) := (blk_cell BK1.out 0).trans rfl; have pf0 := blk_frozen BK1.out 0; have pc1 : w4.cell? ⟨gb1, 1, none⟩ = some (.int .u32 a0_1) := (blk_cell BK1.out 1).trans rfl; have pf1 := blk_frozen BK1.out 1; have pc2 : w4.cell? ⟨gb1, 2, none⟩ = some (.int .u32 a0_2) := (blk_cell BK1.out 2).trans rfl; have pf2 := blk_frozen BK1.out 2; have pc3 : w4.cell? ⟨gb1, 3, none⟩ = some (.int .u32 a0_3) := (blk_cell BK1.out 3).trans rfl; have pf3 := blk_frozen BK1.out 3; have pc4 : w4.cell? ⟨gb1, 4, none⟩ = some (.int .u32 a0_4) := (blk_cell BK1.out 4).trans rfl; have pf4 := blk_frozen BK1.out 4; have pc5 : w4.cell? ⟨gb1, 5, none⟩ = some (.int .u32 a0_5) := (blk_cell BK1.out 5).trans rfl; have pf5 := blk_frozen BK1.out 5; have pc6 : w4.cell? ⟨gb1, 6, none⟩ = some (.int .u32 a0_6) := (blk_cell BK1.out 6).trans rfl; have pf6 := blk_frozen BK1.out 6; have pc7 : w4.cell? ⟨gb1, 7, none⟩ = some (.int .u32 a0_7) := (blk_cell BK1.out 7).trans rfl; have pf7 := blk_frozen BK1.out 7))
  clear hcv
  go_loopg [6, 29] k (fun kq v6 v29 w' => ∃ (x6_1 : List Int) (x29_1 : Int), v29 = .int .i64 x29_1 ∧ Aside0 (header_Make.l0 kq l1 x6_1 LS x29_1 = some (r1, r2)) ∧ Aside0 (kq ≤ k) ∧ Aside0 (0 ≤ x29_1) ∧ Aside0 (MkRow w' w.heap.size w3.heap.size v6 x6_1 x29_1) ∧ Aside0 (Below w.heap.size w w'))
  case atStart => exact ⟨[71, 108, 117, 108], 0, rfl, H', ⟨Nat.le_refl _⟩, ⟨by decide⟩, ⟨by repeat (first | exact HM.out | apply MkRow.drewN | apply MkRow.drew)⟩, ⟨zb HB⟩⟩
  case round =>
    clear H' pc0 pf0 pc1 pf1 pc2 pf2 pc3 pf3 pc4 pf4 pc5 pf5 pc6 pf6 pc7 pf7
    obtain ⟨x6_1, x29_1, rfl, HA, HK1, HX, HO_6, HB⟩ := hrel
    cases gk with
    | zero => exact absurd HA.out (by simp [header_Make.l0])
    | succ k1 =>
      have H := HA.out
      clear HA
      simp only [header_Make.l0] at H
      by_cases c9 : x29_1 < 8
      · rw [if_pos c9] at H
        have c9b0 : decide (x29_1 < 8) = true := decide_eq_true c9
        have HX8 := Aside0.mk c9
        clear c9
        replace H := Option.bind_eq_some_iff.mp H
        obtain ⟨t150, A120, H⟩ := H
        have A12 := Aside0.mk A120
        clear A120
        by_cases c13 : t150.length = 4 ∧ x6_1.length < 140737488000000
        · rw [if_pos c13] at H
          have LMc13 := Aside0.mk c13
          clear c13
          have H' := Aside0.mk H
          clear H
          have hL8 : LS.length = 8 := by rw [NLS.out]; rfl
          have hcI : (#[.int .u32 a0_0, .int .u32 a0_1, .int .u32 a0_2, .int .u32 a0_3, .int .u32 a0_4, .int .u32 a0_5, .int .u32 a0_6, .int .u32 0] : Array Value)[x29_1.toNat]? = some (.int .u32 (rd LS x29_1)) := by
            have h0 := rd_at LS x29_1 HX.out (by have := HX8.out; omega)
            rw [NLS.out] at h0 ⊢
            exact h0
          have HcI := Aside0.mk hcI
          have hnext : wrap64 (x29_1 + 1) = x29_1 + 1 := by have := HX.out; have := HX8.out; unfold wrap64; omega
          have Hn := Aside0.mk hnext
          clear hL8 hcI hnext
          go_wp2_with (first | ((with_reducible refine gate_dst (N := 31) rfl ?_); refine idx_agg 31 rfl rfl 51 25 8 (.tmp 28) (.tmp 29) rfl _ .u32 x29_1 (rd LS x29_1) under51 (infoS info25) rfl rfl agg25 HX.out HX8.out HcI.out ?_) | ((with_reducible refine gate_callee (f := 27) rfl ?_); refine zgo (some 34) Try.func27 #[.int .u32 (rd LS x29_1), .int .i64 4] ?_; (with_reducible refine (word_Put.calls k1 (rd LS x29_1) 4 t150 _ A12.out).mono ?_); rintro e w15 ⟨v151, rfl, ho0, hb⟩; refine ⟨_, rfl, ?_⟩; have HO152 := Aside0.mk ho0; replace HO_6 := Aside0.mk (MkRow.below (by repeat (first | exact HO_6.out | apply MkRow.drewN | apply MkRow.drew)) hb); replace HB := zbs HB hb; clear hb ho0; obtain ⟨Ao17, co17, eo17⟩ := Kd.R_slice HO152.out; subst eo17) | ((with_reducible refine gate_builtin (b := .append) (xs := #[.tmp 32, .tmp 34]) rfl ?_); at_builtin; refine MkRow.append (w0 := w) w.heap.size rfl (.tmp 32) (.tmp 34) rfl Try.underlying22 info5 u6 x6_1 t150 _ _ _ w3.heap.size x29_1 rfl rfl (by repeat (first | exact HO_6.out | apply MkRow.drewN | apply MkRow.drew)) ?aR ?aM (zb HB) (below_size (zb HB)) ?aL ?_; (case aR => repeat (first | exact (Kd.R_reads' HO152.out).2.2 | (with_reducible refine Kd.C_alloc ?_ _) | (with_reducible refine Kd.C_drewN ?_ _) | (with_reducible refine Kd.C_drew ?_))); (case aM => have := LMc13.out.1; omega); (case aL => have := LMc13.out; omega); intro v154 w16 ho hb; clear HO_6 HO152; have HO_6 := Aside0.mk ho; replace HB := Aside0.mk hb; clear ho hb))
          go_roundg k1
          case measure => have := HK1.out; omega
          case rel => exact ⟨x6_1 ++ t150, wrap64 (x29_1 + 1), rfl, H', ⟨by have := HK1.out; omega⟩, ⟨by rw [Hn.out]; have := HX.out; omega⟩, ⟨Or.inl (by (with_reducible repeat (first | apply Kd.R_alloc | apply Kd.R_drewN | apply Kd.R_drew)); exact HO_6.out)⟩, ⟨zb HB⟩⟩
        · rw [if_neg c13] at H
          exact absurd H (by simp)
      · rw [if_neg c9] at H
        have c9b0 : decide (x29_1 < 8) = false := decide_eq_false c9
        have HX8 := Aside0.mk c9
        clear c9
        by_cases c18 : 36 ≤ x6_1.length ∧ x6_1.length + l1.length < 140737488355328
        · rw [if_pos c18, Option.bind_some] at H
          have LMc18 := Aside0.mk c18
          obtain ⟨y156, hy156⟩ : ∃ y_ : List Int, y_ = (x6_1 ++ l1) := ⟨_, rfl⟩
          rw [← hy156] at H
          have hlen : 36 ≤ y156.length := by rw [hy156, List.length_append]; omega
          have HL36 := Aside0.mk hlen
          have Ny156 := Aside0.mk hy156
          clear c18 hy156 hlen
          replace H := Option.bind_eq_some_iff.mp H
          obtain ⟨t159, A190, H⟩ := H
          have A19 := Aside0.mk A190
          replace H := Option.bind_eq_some_iff.mp H
          obtain ⟨t160, A200, H⟩ := H
          have A20 := Aside0.mk A200
          clear A190 A200
          by_cases c4 : t160.length = 4
          · rw [if_pos c4, Option.bind_some] at H
            have H4 := Aside0.mk c4
            obtain ⟨y161, hy161⟩ : ∃ y_ : List Int, y_ = y156.take 32 ++ t160 ++ y156.drop 36 := ⟨_, rfl⟩
            rw [← hy161] at H
            have hl161 : y161.length = y156.length := by rw [hy161, List.length_append, List.length_append, List.length_take, List.length_drop, c4]; have := HL36.out; omega
            have HL161 := Aside0.mk hl161
            have Ny161 := Aside0.mk hy161
            clear hy161 hl161 c4
            replace H := Option.bind_eq_some_iff.mp H
            obtain ⟨⟨t163, t164, t165, t166, t167, t168, t169, t170, t171, t172⟩, A210, H⟩ := H
            replace H : (if t171 = 0 then (some (y161, 0)) else (some (([] : List Int), t171))) = some (r1, r2) := H
            have A21 := Aside0.mk A210
            have HH := Aside0.mk H
            clear A210 H
            have HR6 := Aside0.mk (HO_6.out.resolve_right (fun h => by have := HX8.out; omega))
            clear HO_6
            obtain ⟨n, hn⟩ : ∃ n, y156.length = n := ⟨_, rfl⟩
            have Hn := Aside0.mk hn
            clear hn
            go_wp2_with (first | ((with_reducible refine gate_builtin (b := .append) (xs := #[.tmp 37, .tmp 38]) rfl ?_); at_builtin; refine Kd.R_append_rows (Kd.int .u8) (w0 := w) w.heap.size rfl (.tmp 37) (.tmp 38) 22 5 (.int .u8 0) 1 rfl Try.underlying22 info5 rfl (by decide) (by omega) u6 x6_1 l1 _ _ _ (fun _ => True) (fun _ => False) rfl rfl ?aO ?aR (fun _ _ h => h) (fun _ h => h.elim) ?aF ?aB ?aS ?aL ?_; (case aR => repeat (first | exact (Kd.C_below HR1.out HB.out) | (with_reducible refine Kd.C_alloc ?_ _) | (with_reducible refine Kd.C_drewN ?_ _) | (with_reducible refine Kd.C_drew ?_))); (case aB => exact (zb HB)); (case aF => exact (fun _ _ => trivial)); (case aO => exact (by (with_reducible repeat (first | apply Kd.R_alloc | apply Kd.R_drewN | apply Kd.R_drew)); exact HR6.out)); (case aS => exact (below_size (zb HB))); (case aL => have := LMc18.out; omega); intro v157 w23 ho hb hg hat; rw [← Ny156.out] at ho; clear HR6; have HO158 := Aside0.mk ho; replace HB := Aside0.mk hb; clear ho hb hg hat))
            replace HO158 := Aside0.mk (Kd.R_drew HO158.out)
            replace HB := Aside0.mk (below_drew1 HB.out)
            obtain ⟨g, cap, hv, hcap⟩ := own_at HO158.out (by have := HL36.out; omega)
            rw [Hn.out] at hv hcap
            subst hv
            have hcut := cut32 (n := n) (cap := cap) (g := g) (by have := HL36.out; rw [Hn.out] at this; exact this) hcap
            have Hcap := Aside0.mk hcap
            clear hcap
            refine start_ (n := 6) (S := fun w' => True) (ds := []) #[false, false, false, false, false, false] (by kernel_rfl) rfl rfl trivial (fun _ => ?_)
            generalize w23.drew = w24 at HO158 HB ⊢
            refine zpure_ (i := 0) (N := some 40) #[true, false, false, false, false, false] (by kernel_rfl) ?_
            refine zpure_ (i := 1) (N := some 41) #[true, true, false, false, false, false] (by kernel_rfl) ?_
            refine zpure_ (i := 2) (N := some 42) #[true, true, true, false, false, false] (by kernel_rfl) ?_
            clear hcut
            refine one_ (i := 3) (N := some 43) #[true, true, true, true, false, false] rfl rfl (by kernel_rfl) (by decide) (fun K hK => ?_)
            refine goes_ Try.func16 (by kernel_rfl) rfl #[.slice (some ⟨g, 0, none⟩) n cap] (by rfl) rfl rfl (by (try simp only [List.map_toArray, List.map_cons, List.map_nil]); first | done | rfl) ?_
            have hrd := Kd.R_reads' HO158.out
            rw [Hn.out] at hrd
            with_reducible refine (header_Sum.calls_n k1 _ _ n y156 t159 _ Hn.out hrd.2.2 hrd.2.1 A19.out).mono ?_
            rintro e w' ⟨rfl, ⟨nd, rfl⟩⟩
            clear hrd
            refine ⟨_, rfl, ?_⟩
            refine hK.out _ _ trivial (fun _ => ?_)
            clear hK K
            refine norm_ (a' := ?_) ?_ ?_
            rotate_left
            · show Act.put _ (some 43) _ = _
              simp only [Act.put, List.setIfInBounds_toArray, List.set_cons_zero, List.set_cons_succ, i64_w, i32_w]
              rfl
            refine one_ (i := 4) (N := some 44) #[true, true, true, true, true, false] rfl rfl (by kernel_rfl) (by decide) (fun K hK => ?_)
            refine goes_ Try.func27 (by kernel_rfl) rfl #[.int .u32 t159, .int .i64 4] (by rfl) rfl rfl (by (try simp only [List.map_toArray, List.map_cons, List.map_nil]); first | done | rfl) ?_
            with_reducible refine (word_Put.calls k1 t159 4 t160 _ A20.out).mono ?_
            rintro e w26 ⟨v161, rfl, ho0, hb⟩
            refine ⟨_, rfl, ?_⟩
            have HO162 := Aside0.mk ho0
            replace HO158 := Aside0.mk (Kd.R_below (by (with_reducible repeat (first | apply Kd.R_alloc | apply Kd.R_drewN | apply Kd.R_drew)); exact HO158.out) hb)
            replace HB := zbs HB hb
            clear hb ho0
            obtain ⟨Ao17, co17, eo17⟩ := Kd.R_slice HO162.out
            subst eo17
            refine hK.out _ _ trivial (fun _ => ?_)
            clear hK K
            refine norm_ (a' := ?_) ?_ ?_
            rotate_left
            · show Act.put _ (some 44) _ = _
              simp only [Act.put, List.setIfInBounds_toArray, List.set_cons_zero, List.set_cons_succ, i64_w, i32_w]
              rfl
            obtain ⟨w27, hcp, hO2, hg27, hbg⟩ := copy_in (P := Try.prog) (W := w26) (ty := 3) (t := 22) (t' := 22) (off := 32) (m := t160.length) (c := co17) HO158.out (Kd.R_reads' HO162.out).2.2 Hn.out (by have := H4.out; omega) (by have := HL36.out; rw [Hn.out] at this; have := H4.out; omega) Try.underlying22 (infoS info5)
            have hO3 : (Kd.int .u8).R 5 w27 w.heap.size (fun _ => True) (.slice (some ⟨g, 0, none⟩) n cap) y161 := by
              rw [Ny161.out]
              have h4 := H4.out
              rw [show 32 + t160.length = 36 by omega] at hO2
              exact hO2
            replace HB := Aside0.mk (HB.out.grown hg27 (below_size HB.out) (by intro k hk; injection hk with hk; omega))
            refine one_ (i := 5) (N := some 45) #[true, true, true, true, true, true] rfl rfl (by kernel_rfl) (by decide) (fun K hK => ?_)
            refine copy_op (s := .tmp 41) (x := .tmp 44) (by rfl) rfl rfl rfl (by rfl) (by rfl) hcp ?_
            refine hK.out _ _ trivial (fun _ => ?_)
            clear hK K
            refine norm_ (a' := ?_) ?_ ?_
            rotate_left
            · show Act.put _ (some 45) _ = _
              simp only [Act.put, List.setIfInBounds_toArray, List.set_cons_zero, List.set_cons_succ, i64_w, i32_w]
              rfl
            replace HO158 := Aside0.mk hO3
            clear hcp hO2 hO3 hg27 hbg HO162
            refine done_ (by kernel_rfl) ?_
            have hrd := Kd.R_reads' HO158.out
            rw [HL161.out.trans Hn.out] at hrd
            by_cases c22 : t171 = 0
            · have HH2 := HH.out
              rw [if_pos c22] at HH2
              have c22b0 : (t171 == 0) = true := beq_iff_eq.mpr c22
              have c22b1 : (t171 != 0) = false := bne_eq_false_iff_eq.mpr c22
              simp only [Option.some.injEq, Prod.mk.injEq] at HH2
              obtain ⟨rfl, rfl⟩ := HH2
              clear c22 HH
              go_wp2_with (first | ((with_reducible refine gate_callee (f := 12) rfl ?_); refine zgo (some 48) Try.func12 #[.slice (some ⟨g, 0, none⟩) n cap] ?_; (with_reducible refine (header_Parse.calls_n k1 _ _ n y161 t163 t164 t165 t166 t167 t168 t169 t170 t171 t172 _ (HL161.out.trans Hn.out) hrd.2.2 hrd.2.1 A21.out).mono ?_); rintro e w28 ⟨rfl, hb⟩; refine ⟨_, rfl, ?_⟩; replace HO158 := Aside0.mk (Kd.R_below HO158.out hb); replace HB := zbs HB hb; clear hb) | ((with_reducible refine gate_dst (N := 9) rfl ?_); refine zbox (N := 9) (cs := #[.int .u32 0, .int .u32 0, .int .u32 0, .int .u32 0, .int .u32 0, .int .u32 0, .int .u32 0, .int .u32 0]) (t := 27) ?_; intro gb2 hg w29 hbox hb; have BK2 := Aside0.mk hbox; have GE2 := zge hg HB; replace HO158 := Aside0.mk (Kd.R_below (by (with_reducible repeat (first | apply Kd.R_alloc | apply Kd.R_drewN | apply Kd.R_drew)); exact HO158.out) hb); replace HB := zbs HB hb; clear hb hbox hg; have zc0 : w29.cell? ⟨gb2, 0, none⟩ = some (.int .u32 0) := (blk_cell BK2.out 0).trans rfl; have zf0 := blk_frozen BK2.out 0; have zc1 : w29.cell? ⟨gb2, 1, none⟩ = some (.int .u32 0) := (blk_cell BK2.out 1).trans rfl; have zf1 := blk_frozen BK2.out 1; have zc2 : w29.cell? ⟨gb2, 2, none⟩ = some (.int .u32 0) := (blk_cell BK2.out 2).trans rfl; have zf2 := blk_frozen BK2.out 2; have zc3 : w29.cell? ⟨gb2, 3, none⟩ = some (.int .u32 0) := (blk_cell BK2.out 3).trans rfl; have zf3 := blk_frozen BK2.out 3; have zc4 : w29.cell? ⟨gb2, 4, none⟩ = some (.int .u32 0) := (blk_cell BK2.out 4).trans rfl; have zf4 := blk_frozen BK2.out 4; have zc5 : w29.cell? ⟨gb2, 5, none⟩ = some (.int .u32 0) := (blk_cell BK2.out 5).trans rfl; have zf5 := blk_frozen BK2.out 5; have zc6 : w29.cell? ⟨gb2, 6, none⟩ = some (.int .u32 0) := (blk_cell BK2.out 6).trans rfl; have zf6 := blk_frozen BK2.out 6; have zc7 : w29.cell? ⟨gb2, 7, none⟩ = some (.int .u32 0) := (blk_cell BK2.out 7).trans rfl; have zf7 := blk_frozen BK2.out 7))
              go_ret2
              exact ⟨_, rfl, by (with_reducible repeat (first | apply Kd.R_alloc | apply Kd.R_drewN | apply Kd.R_drew)); exact Kd.R_mono (Kd.R_far (p := ⟨gb2, 7, none⟩) (Kd.R_far (p := ⟨gb2, 6, none⟩) (Kd.R_far (p := ⟨gb2, 5, none⟩) (Kd.R_far (p := ⟨gb2, 4, none⟩) (Kd.R_far (p := ⟨gb2, 3, none⟩) (Kd.R_far (p := ⟨gb2, 2, none⟩) (Kd.R_far (p := ⟨gb2, 1, none⟩) (Kd.R_far (p := ⟨gb2, 0, none⟩) (Kd.R_types HO158.out BK2.out (by decide)) (fun _ hk => hk.2) (.int .u32 t163)) (fun _ hk => hk.2) (.int .u32 t164)) (fun _ hk => hk.2) (.int .u32 t165)) (fun _ hk => hk.2) (.int .u32 t166)) (fun _ hk => hk.2) (.int .u32 t167)) (fun _ hk => hk.2) (.int .u32 t168)) (fun _ hk => hk.2) (.int .u32 t169)) (fun _ hk => hk.2) (.int .u32 t170)) (fun _ hk => trivial), zb HB⟩
            · have HH2 := HH.out
              rw [if_neg c22] at HH2
              have c22b0 : (t171 == 0) = false := beq_eq_false_iff_ne.mpr c22
              have c22b1 : (t171 != 0) = true := bne_iff_ne.mpr c22
              simp only [Option.some.injEq, Prod.mk.injEq] at HH2
              obtain ⟨rfl, rfl⟩ := HH2
              clear c22 HH
              go_wp2_with (first | ((with_reducible refine gate_callee (f := 12) rfl ?_); refine zgo (some 48) Try.func12 #[.slice (some ⟨g, 0, none⟩) n cap] ?_; (with_reducible refine (header_Parse.calls_n k1 _ _ n y161 t163 t164 t165 t166 t167 t168 t169 t170 t171 t172 _ (HL161.out.trans Hn.out) hrd.2.2 hrd.2.1 A21.out).mono ?_); rintro e w28 ⟨rfl, hb⟩; refine ⟨_, rfl, ?_⟩; replace HO158 := Aside0.mk (Kd.R_below HO158.out hb); replace HB := zbs HB hb; clear hb) | ((with_reducible refine gate_dst (N := 9) rfl ?_); refine zbox (N := 9) (cs := #[.int .u32 0, .int .u32 0, .int .u32 0, .int .u32 0, .int .u32 0, .int .u32 0, .int .u32 0, .int .u32 0]) (t := 27) ?_; intro gb2 hg w29 hbox hb; have BK2 := Aside0.mk hbox; have GE2 := zge hg HB; replace HO158 := Aside0.mk (Kd.R_below (by (with_reducible repeat (first | apply Kd.R_alloc | apply Kd.R_drewN | apply Kd.R_drew)); exact HO158.out) hb); replace HB := zbs HB hb; clear hb hbox hg; have zc0 : w29.cell? ⟨gb2, 0, none⟩ = some (.int .u32 0) := (blk_cell BK2.out 0).trans rfl; have zf0 := blk_frozen BK2.out 0; have zc1 : w29.cell? ⟨gb2, 1, none⟩ = some (.int .u32 0) := (blk_cell BK2.out 1).trans rfl; have zf1 := blk_frozen BK2.out 1; have zc2 : w29.cell? ⟨gb2, 2, none⟩ = some (.int .u32 0) := (blk_cell BK2.out 2).trans rfl; have zf2 := blk_frozen BK2.out 2; have zc3 : w29.cell? ⟨gb2, 3, none⟩ = some (.int .u32 0) := (blk_cell BK2.out 3).trans rfl; have zf3 := blk_frozen BK2.out 3; have zc4 : w29.cell? ⟨gb2, 4, none⟩ = some (.int .u32 0) := (blk_cell BK2.out 4).trans rfl; have zf4 := blk_frozen BK2.out 4; have zc5 : w29.cell? ⟨gb2, 5, none⟩ = some (.int .u32 0) := (blk_cell BK2.out 5).trans rfl; have zf5 := blk_frozen BK2.out 5; have zc6 : w29.cell? ⟨gb2, 6, none⟩ = some (.int .u32 0) := (blk_cell BK2.out 6).trans rfl; have zf6 := blk_frozen BK2.out 6; have zc7 : w29.cell? ⟨gb2, 7, none⟩ = some (.int .u32 0) := (blk_cell BK2.out 7).trans rfl; have zf7 := blk_frozen BK2.out 7))
              go_ret2
              exact ⟨_, rfl, Kd.R_nil _ _ _ _ _, zb HB⟩
          · rw [if_neg c4] at H
            exact absurd H (by simp)
        · rw [if_neg c18] at H
          exact absurd H (by simp)

end Go.Proofs.Ytpklekleehcglaa.PQ
