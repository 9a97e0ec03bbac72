/- Texts M9 MA MB R1 RB RC GM in one. -/
import Derived.Test.YtmpiifjckhcbmaaGA
import Derived.Test.YtmpiifjckhcbmaaHR
import Derived.Laws.CopyOwn
import Derived.Test.YtmpiifjckhcbmaaPQx1
import Derived.WalkSpells
import Derived.Laws.Tables
import Derived.Test.YtmpiifjckhcbmaaPQx6
import Derived.Test.YtmpiifjckhcbmaaPQx5
import Derived.Deep.RegionLawGrows
/- The program's memory, made and written. -/
namespace Go.Proofs.Ytmpiifjckhcbmaa.PQ
set_option linter.all false
open Go.RowKit Go.Proofs.YtmpiifjckhcbmaaW.PrintWords Go.Proofs.YtmpiifjckhcbmaaW.PrintLast Go.Proofs.YtmpiifjckhcbmaaW.PrintMore Go.Proofs.Ytmpiifjckhcbmaa.Z Go.Proofs.Ytmpiifjckhcbmaa.Pure
set_option linter.unusedVariables false
set_option linter.unusedSimpArgs false
/-- copy into a cut of one's own row of bytes -/
theorem copy_in {P : Program} {W : World} {base : Nat} {ok : Nat → Prop} {g cap m c off n : Nat} {xs ys : List Int} {A : Option Addr} {t t' ty : TypeId}
    (HO : (Kd.int .u8).R 5 W base ok (.slice (some ⟨g, 0, none⟩) n cap) xs) (HR : (Kd.int .u8).C W A m ys) (hn : xs.length = n) (hm : 0 < m) (hoff : off + m ≤ n) (ht : P.underlying t = some (.slice 5)) (hinfo : (P.info? 5).map (·.size) = some 1) :
    ∃ w1, (Builtin.copy_ #[t, t'] ty #[.slice (some ⟨g, off, none⟩) (n - off) (cap - off), .slice A m c]).run P W = .ok (goInt m) w1 ∧ (Kd.int .u8).R 5 w1 base ok (.slice (some ⟨g, 0, none⟩) n cap) (xs.take off ++ ys ++ xs.drop (off + m)) ∧ W.grownBy w1 (some g) ∧ base ≤ g := by
  subst hn
  have hown := Kd.own_of_R (enc := Value.int .u8) (h1 := fun _ => rfl) HO
  have hR := Kd.reads_of_C (enc := Value.int .u8) (d := (0 : Int)) (h1 := fun _ => rfl) HR
  have hml : ys.length = m := hR.1
  obtain ⟨ad, hA, hc⟩ := hR.2.2 hm
  rcases hown.2 with ⟨_, hx0⟩ | ⟨g', cap', cur, hv, hb, hh, hnc, hcm, hcs, htake⟩
  · omega
  obtain ⟨rfl, rfl⟩ : g = g' ∧ cap = cap' := by injection hv with e1 e2 e3; injection e1 with e1; injection e1 with e1; exact ⟨e1, e3⟩
  have hsrc : ∀ j u, (encs (Value.int .u8) ys)[j]? = some u → W.cell? (ad.add j) = some u := by
    intro j u hu
    have hj : j < ys.length := by
      rcases Nat.lt_or_ge j ys.length with h | h
      · exact h
      · rw [List.getElem?_eq_none (by rw [encs_length]; exact h)] at hu
        cases hu
    rw [encs_get (d := (0 : Int)) _ j hj] at hu
    rw [hc j (by omega), ← hu]
  have hkl : (encs (Value.int .u8) ys).length = m := by rw [encs_length, hml]
  have hcs1 : cur.size = cap := by omega
  have hr := run_copy_cells (P := P) W t t' ty 5 g off (xs.length - off) (cap - off) ad m c (encs (Value.int .u8) ys) ht hinfo (by rw [hkl]; exact (Nat.min_eq_left (by omega)).symm) hsrc
    (fun j hj => by rw [cell_of_row W g _ cur 5 (0, 0) hh]; simp; omega) (fun j _ => blk_frozen hh _) (by intro u hu; simp only [encs, List.mem_map] at hu; obtain ⟨q, _, rfl⟩ := hu; rfl)
  obtain ⟨cur', h3, h4, h5⟩ := setCells_row (encs (Value.int .u8) ys) off W cur hh (by rw [hkl]; omega)
  obtain ⟨s1, s2, s3, s4⟩ := setCells_same g (encs (Value.int .u8) ys) off W
  rw [hkl] at hr
  refine ⟨_, by rw [hA]; exact hr, Kd.R_of_own (enc := Value.int .u8) (h1 := fun _ => rfl) ?_ HO.1, ⟨s1, s2, s3, by rw [s4]; exact Nat.le_refl _, fun k _ hk => setCells_far _ _ k (fun he => hk (by rw [he]))⟩, hb⟩
  have hln : (xs.take off ++ ys ++ xs.drop (off + m)).length = xs.length := by
    rw [List.length_append, List.length_append, List.length_take, List.length_drop]
    omega
  rw [hln]
  refine ⟨by rw [encs_length, hln, Nat.mul_one], .inr ⟨g, cap, cur', hv, hb, h3, hnc, hcm, by rw [h4, hcs], ?_⟩⟩
  have htk : cur.toList.take xs.length = encs (Value.int .u8) xs := by rw [← htake, Nat.mul_one]
  have hd : encs (Value.int .u8) (xs.drop (off + m)) = (encs (Value.int .u8) xs).drop (off + m) := by simp [encs, List.map_drop]
  have hd2 : encs (Value.int .u8) (xs.take off) = (encs (Value.int .u8) xs).take off := by simp [encs, List.map_take]
  have hcl : cur.toList.length = cap := by rw [Array.length_toList]; exact hcs1
  have hxc : xs.length ≤ cap := by omega
  rw [h5, hkl, encs_append, encs_append, hd, hd2, ← htk, Nat.mul_one, List.take_take, Nat.min_eq_left (by omega), List.drop_take]
  rw [List.take_append, List.length_append, List.length_take, hkl, hcl, Nat.min_eq_left (by omega : off ≤ cap), List.take_of_length_le (by rw [List.length_append, List.length_take, hkl]; omega)]
theorem infoS {P : Program} {e : TypeId} {z : Option Value} {s b : Nat} (h : (P.info? e).map (fun i => (i.zero, i.size, i.bytes)) = some (z, s, b)) : (P.info? e).map (·.size) = some s := by
  obtain ⟨i, hi, hz⟩ := Option.map_eq_some_iff.1 h
  rw [hi]; simp only [Prod.mk.injEq] at hz; simp [hz.2.1]
/-- the same as one step of a region that draws its order -/
theorem step_copy_in {P : Program} {ops : Array Oper} {o : Oper} {a : Act} {W : World} {K : Act → World → Prop} {Q : Exit → Act → World → Prop} {E : Prop} (hgd : o.guard = none) (d s : Operand) (dT sT : TypeId)
    (ho : o.op = .call { callee := .builtin .copy, args := #[d, s], argTypes := #[dT, sT] }) {base : Nat} {ok : Nat → Prop} {g cap m c off n : Nat} {xs ys : List Int} {A : Option Addr}
    (hd : a.eval d = .slice (some ⟨g, off, none⟩) (n - off) (cap - off)) (hs : a.eval s = .slice A m c)
    (HO : (Kd.int .u8).R 5 W base ok (.slice (some ⟨g, 0, none⟩) n cap) xs) (HR : (Kd.int .u8).C W A m ys) (hn : xs.length = n) (hm : 0 < m) (hoff : off + m ≤ n) (ht : P.underlying dT = some (.slice 5)) (hinfo : (P.info? 5).map (·.size) = some 1)
    (h : ∀ w1, (Kd.int .u8).R 5 w1 base ok (.slice (some ⟨g, 0, none⟩) n cap) (xs.take off ++ ys ++ xs.drop (off + m)) → W.grownBy w1 (some g) → K (a.put o.dst (goInt m)) w1) :
    if Region.wanted o (yielded ops a.tmps) = true then Oper.wp P o a W K Q else E := by
  have hw : Region.wanted o (yielded ops a.tmps) = true := by simp [Region.wanted, hgd]
  rw [if_pos hw]
  obtain ⟨w1, hrun, h1, h2, _⟩ := copy_in (t' := sT) (ty := o.type) HO HR hn hm hoff ht hinfo
  unfold Oper.wp
  simp only [execOp, ho, resolve, invoke, builtin, hd, hs, Sem.run_bind, Sem.run_pure, Result.andThen, List.map_toArray, List.map_cons, List.map_nil]
  rw [hrun]
  exact h w1 h1 h2
/-- the same in a plain region -/
theorem at_copy_in {P : Program} {ops : Array Oper} {rest : List Oper} {o : Oper} {a : Act} {W : World} {Q : Exit → Act → World → Prop} (hgd : o.guard = none) (d s : Operand) (dT sT : TypeId)
    (ho : o.op = .call { callee := .builtin .copy, args := #[d, s], argTypes := #[dT, sT] }) {base : Nat} {ok : Nat → Prop} {g cap m c off n : Nat} {xs ys : List Int} {A : Option Addr}
    (hd : a.eval d = .slice (some ⟨g, off, none⟩) (n - off) (cap - off)) (hs : a.eval s = .slice A m c)
    (HO : (Kd.int .u8).R 5 W base ok (.slice (some ⟨g, 0, none⟩) n cap) xs) (HR : (Kd.int .u8).C W A m ys) (hn : xs.length = n) (hm : 0 < m) (hoff : off + m ≤ n) (ht : P.underlying dT = some (.slice 5)) (hinfo : (P.info? 5).map (·.size) = some 1)
    (h : ∀ w1, (Kd.int .u8).R 5 w1 base ok (.slice (some ⟨g, 0, none⟩) n cap) (xs.take off ++ ys ++ xs.drop (off + m)) → W.grownBy w1 (some g) → wpList P ops Q rest (a.put o.dst (goInt m)) w1) : wpList P ops Q (o :: rest) a W := by
  obtain ⟨w1, hrun, h1, h2, _⟩ := copy_in (t' := sT) (ty := o.type) HO HR hn hm hoff ht hinfo
  refine wpList_plain hgd fun K hK => ?_
  unfold Oper.wp
  simp only [execOp, ho, resolve, invoke, builtin, hd, hs, Sem.run_bind, Sem.run_pure, Result.andThen, List.map_toArray, List.map_cons, List.map_nil]
  rw [hrun]
  exact hK _ _ (h w1 h1 h2)
theorem grown_trans {w w1 w2 : World} {row : Option Nat} (h : w.grownBy w1 none) (k : w1.grownBy w2 row) : w.grownBy w2 row :=
  ⟨k.os.trans h.os, k.tape.trans h.tape, k.output.trans h.output, Nat.le_trans h.size k.size, fun i hi hr => (k.block i (Nat.lt_of_lt_of_le hi h.size) hr).trans (h.block i hi (by simp))⟩
theorem grown_then {w w1 w2 : World} {row : Option Nat} (h : w.grownBy w1 row) (k : w1.grownBy w2 row) : w.grownBy w2 row :=
  ⟨k.os.trans h.os, k.tape.trans h.tape, k.output.trans h.output, Nat.le_trans h.size k.size, fun i hi hr => (k.block i (Nat.lt_of_lt_of_le hi h.size) hr).trans (h.block i hi hr)⟩
/-- another row has been written -/
theorem row_grown {w w1 : World} {base gb n c : Nat} {k : IntKind} {e : Nat} {row : Option Nat} {xs : List Int} (h : Kd.R (Kd.int k) e w base (fun _ => True) (.slice (some ⟨gb, 0, none⟩) n c) xs) (hg : w.grownBy w1 row) (hne : some gb ≠ row) : Kd.R (Kd.int k) e w1 base (fun _ => True) (.slice (some ⟨gb, 0, none⟩) n c) xs :=
  Kd.R_of_own (enc := Value.int k) (h1 := fun _ => rfl) (own_other (Kd.own_of_R (enc := Value.int k) (h1 := fun _ => rfl) h) hg (.inr hne)) (fun _ _ => trivial)
/-- the program's memory, as it is written -/
structure PW (w : World) (base g gb c : Nat) (bs : List Int) : Prop where
  row : Kd.R (Kd.int .u8) 5 w base (fun _ => True) (.slice (some ⟨gb, 0, none⟩) bs.length c) bs
  blk : ∃ cs : Array Value, w.heap[g]? = some (.cells cs 81 (0, 0)) ∧ cs[11]? = some (.slice (some ⟨gb, 0, none⟩) bs.length c) ∧ cs[3]? = some (.int .u32 256)
  len : bs.length ≤ 1048576
  byt : Byt bs
theorem PW.pm {w : World} {base g gb c : Nat} {bs : List Int} (h : PW w base g gb c bs) : PM w g bs := by
  obtain ⟨cs, h1, h2, h3⟩ := h.blk
  have hr := Kd.R_reads' h.row
  exact ⟨⟨gb, c, (blk_cell h1 11).trans h2, hr.2.1, hr.2.2⟩, h.len, h.byt⟩
theorem PW.below {w w1 : World} {base g gb c : Nat} {bs : List Int} (h : PW w base g gb c bs) (hb : Below w.heap.size w w1) : PW w1 base g gb c bs := by
  obtain ⟨cs, h1, h2, h3⟩ := h.blk
  exact ⟨Kd.R_below h.row hb, ⟨cs, blk_below h1 hb, h2, h3⟩, h.len, h.byt⟩
theorem PW.grown {w w1 : World} {base g gb c : Nat} {row : Option Nat} {bs : List Int} (h : PW w base g gb c bs) (hg : w.grownBy w1 row) (h1 : some g ≠ row) (h2 : some gb ≠ row) : PW w1 base g gb c bs := by
  obtain ⟨cs, k1, k2, k3⟩ := h.blk
  exact ⟨row_grown h.row hg h2, ⟨cs, blk_grown k1 hg h1, k2, k3⟩, h.len, h.byt⟩
theorem PW.ne {w : World} {base g gb c : Nat} {bs : List Int} (h : PW w base g gb c bs) : g ≠ gb := by
  obtain ⟨cs, k1, _⟩ := h.blk
  exact ne_of_R h.row k1 (by decide)
theorem PW.cell11 {w w1 : World} {base g gb c : Nat} {bs : List Int} (h : PW w base g gb c bs) (hg : w.grownBy w1 (some gb)) : w1.cell? ⟨g, 11, none⟩ = some (.slice (some ⟨gb, 0, none⟩) bs.length c) := by
  obtain ⟨cs, k1, k2, k3⟩ := h.blk
  exact (blk_cell (blk_grown k1 hg (by simp; exact h.ne)) 11).trans k2
theorem PW.base_le {w : World} {base g gb c : Nat} {bs : List Int} (h : PW w base g gb c bs) : base ≤ gb :=
  own_base (Kd.own_of_R (enc := Value.int .u8) (h1 := fun _ => rfl) h.row) gb rfl
set_option maxHeartbeats 1000000 in
theorem memory_open.is (g : Nat) (bs : List Int) (a m : Int) (w : World) (hm : PM w g bs) (h3 : w.cell? ⟨g, 3, none⟩ = some (.int .u32 256)) (h0 : 0 ≤ a ∧ a < 4294967296) (h1 : 0 ≤ m ∧ m ≤ 4294967296) :
    Calls Try.prog 29 #[.pointer (some ⟨g, 0, none⟩), .int .u32 a, .int .u64 m] w fun e w' => e = .returned (.bool (decide (256 ≤ a ∧ a + m ≤ (bs.length : Int)))) ∧ w = w' := by
  obtain ⟨⟨gb, c, z0, hcb, hrb⟩, hl, hby⟩ := hm
  have HZ := Aside0.mk z0
  have H0 := Aside0.mk h0
  have H1 := Aside0.mk h1
  have HL := Aside0.mk hl
  by_cases c1 : 256 ≤ a
  · have c2 : decide (a ≥ 256) = true := decide_eq_true c1
    have c3 : decide (256 ≤ a) = true := decide_eq_true c1
    have hd : decide (256 ≤ a ∧ a + m ≤ (bs.length : Int)) = decide (a + m ≤ (bs.length : Int)) := by
      by_cases c4 : a + m ≤ (bs.length : Int)
      · rw [decide_eq_true c4, decide_eq_true ⟨c1, c4⟩]
      · rw [decide_eq_false c4, decide_eq_false (fun h => c4 h.2)]
    have Hd := Aside0.mk hd
    clear c1 hd h0 h1 hl hcb hrb hby z0
    go_enter Try.func29, Try.ntmps29
    go_wp2_with (first | (go_at_call 31; (with_reducible refine (there.calls g gb bs.length c a m _ HZ.out H0.out H1.out HL.out).mono ?_); rintro e w' ⟨rfl, rfl⟩))
    go_ret
    rw [Hd.out]
    exact ⟨rfl, rfl⟩
  · have c3 : decide (256 ≤ a) = false := decide_eq_false c1
    have hd : decide (256 ≤ a ∧ a + m ≤ (bs.length : Int)) = false := decide_eq_false (fun h => c1 h.1)
    have Hd := Aside0.mk hd
    clear c1 hd h0 h1 hl hcb hrb hby z0
    go_enter Try.func29, Try.ntmps29
    go_wp2
    go_ret
    rw [Hd.out]
    exact ⟨rfl, rfl⟩
theorem take_set_drop (bs : List Int) (i : Nat) (x : Int) (h : i < bs.length) : bs.take i ++ [x] ++ bs.drop (i + 1) = bs.set i x := by
  rw [List.set_eq_take_append_cons_drop, if_pos h, List.append_assoc]
  rfl
set_option maxHeartbeats 4000000 in
set_option maxRecDepth 100000 in
theorem memory_Write.ok (base g gb c : Nat) (bs : List Int) (a : Int) (x : Nat) (w : World) (hm : PW w base g gb c bs) (ha : 256 ≤ a ∧ a < (bs.length : Int)) (hx : x < 4294967296) :
    Calls Try.prog 11 #[.pointer (some ⟨g, 0, none⟩), .int .u32 a, .int .i64 1, .int .u32 x] w fun e w' => e = .returned (.int .i64 0) ∧ PW w' base g gb c (bs.set a.toNat (((x % 256 : Nat) : Int))) ∧ w.grownBy w' (some gb) := by
  have HM := Aside0.mk hm
  have HA := Aside0.mk ha
  have hs : memory_sized.f 1 = some true := rfl
  have HS := Aside0.mk hs
  obtain ⟨cs, k1, k2, k3⟩ := hm.blk
  have h3 : w.cell? ⟨g, 3, none⟩ = some (.int .u32 256) := (blk_cell k1 3).trans k3
  have z11 : w.cell? ⟨g, 11, none⟩ = some (.slice (some ⟨gb, 0, none⟩) bs.length c) := (blk_cell k1 11).trans k2
  have H3 := Aside0.mk h3
  have Z11 := Aside0.mk z11
  have hc := (Kd.R_reads' hm.row).2.1
  have Hc := Aside0.mk hc
  have ho : decide (256 ≤ a ∧ a + 1 ≤ (bs.length : Int)) = true := decide_eq_true (by omega)
  have Ho := Aside0.mk ho
  have HX := Aside0.mk hx
  have p1 := eq_true (show 0 ≤ a by omega)
  have p2 := eq_true (show a ≤ (bs.length : Int) by omega)
  have HL := Aside0.mk hm.len
  clear hm hs k1 k2 k3 h3 ho ha hx hc
  go_enter Try.func11, Try.ntmps11
  go_wp2_with (first | ((with_reducible refine gate_callee (f := 28) rfl ?_); refine zgo (some 14) Try.func28 #[.int .i64 1] ?_; (with_reducible refine (memory_sized.calls 1 true _ HS.out).mono ?_); rintro e w' ⟨rfl, ⟨nd, rfl⟩⟩; refine ⟨_, rfl, ?_⟩) | (go_at_call 29; (with_reducible refine (memory_open.is g bs a 1 _ (HM.out.pm.below (pw_below_drewN (Below.refl _ _) _)) (pw_cell_below (pw_below_drewN (Below.refl _ _) _) H3.out) (by have := HA.out; have := HL.out; omega) (by omega)).mono ?_); rintro e w' ⟨rfl, rfl⟩; rw [Ho.out]))
  have hca : ¬ (c = a.toNat) := by have := HA.out; have := Hc.out; omega
  have HP : Aside0 (word_Put.f 11 (x : Int) 1 = some (byts x 1)) := ⟨put_eqn (k := 11) (x := x) (n := 1) (by omega) (Or.inl rfl)⟩
  go_region_held3 (fun w' => w'.cell? ⟨g, 11, none⟩ = some (.slice (some ⟨gb, 0, none⟩) bs.length c)) (first | exact Z4.out | exact Z3.out | exact Z11.out | exact pw_cell_below (below_drew1 (pw_below_drewN (Below.refl _ _) _)) Z11.out | go_keep) (first | (go_at_call 30; (with_reducible refine (word_Put.calls 11 x 1 _ _ HP.out).mono ?_); rintro e w3 ⟨v3, rfl, hv, hb⟩; obtain ⟨A3, c3, rfl⟩ := Kd.R_slice hv; have HV := Aside0.mk (Kd.R_reads' hv).2.2; have HB3 := Aside0.mk (below_step (below_drew1 (pw_below_drewN (Below.refl w.heap.size w) nd)) hb); have HM3 := Aside0.mk (HM.out.below HB3.out); have Z3 := Aside0.mk (pw_cell_below HB3.out Z11.out); clear hv hb) | (refine step_copy_in (by rfl) (.tmp 31) (.tmp 34) 41 41 (by rfl) (off := a.toNat) (m := (byts x 1).length) (by rfl) (by rfl) HM3.out.row HV.out rfl (by rw [byts_len]; omega) (by rw [byts_len]; have := HA.out; omega) Try.underlying41 (infoS info5) ?_; intro w4 ho hg4; have HR4 := Aside0.mk ho; have HG4 := Aside0.mk hg4; have Z4 := Aside0.mk (HM3.out.cell11 hg4); clear ho hg4))
  go_wp2
  go_ret
  refine ⟨rfl, ?_, grown_trans (grown_of_below HB3.out none) HG4.out⟩
  have h4 := HR4.out
  rw [byts_len, show byts x 1 = [((x % 256 : Nat) : Int)] from rfl, take_set_drop bs a.toNat _ (by have := HA.out; omega)] at h4
  obtain ⟨cs, k1, k2, k3⟩ := HM3.out.blk
  refine ⟨by rw [List.length_set]; exact h4, ⟨cs, blk_grown k1 HG4.out (by simp; exact HM3.out.ne), by rw [List.length_set]; exact k2, k3⟩, by rw [List.length_set]; exact HL.out, ?_⟩
  intro y hy
  rcases List.mem_or_eq_of_mem_set hy with h | h
  · exact HM.out.byt y h
  · subst h; omega
end Go.Proofs.Ytmpiifjckhcbmaa.PQ

/- The program's memory made: slices.Clone, first, New, Bytes. -/
namespace Go.Proofs.Ytmpiifjckhcbmaa.PQ
open Go.RowKit Go.Proofs.YtmpiifjckhcbmaaW.PrintWords Go.Proofs.YtmpiifjckhcbmaaW.PrintLast Go.Proofs.YtmpiifjckhcbmaaW.PrintMore Go.Proofs.Ytmpiifjckhcbmaa.Z Go.Proofs.Ytmpiifjckhcbmaa.Pure
set_option linter.unusedVariables false
set_option linter.unusedSimpArgs false
set_option maxHeartbeats 4000000 in
set_option maxRecDepth 100000 in
theorem memory_Write.no (g : Nat) (bs : List Int) (a x : Int) (w : World) (hm : PM w g bs) (h3 : w.cell? ⟨g, 3, none⟩ = some (.int .u32 256)) (h0 : 0 ≤ a ∧ a < 4294967296) (ha : ¬ (256 ≤ a ∧ a < (bs.length : Int))) :
    Calls Try.prog 11 #[.pointer (some ⟨g, 0, none⟩), .int .u32 a, .int .i64 1, .int .u32 x] w fun e w' => e = .returned (.int .i64 91) ∧ Drawn0 w w' := by
  have HM := Aside0.mk hm
  have H0 := Aside0.mk h0
  have HS : Aside0 (memory_sized.f 1 = some true) := ⟨rfl⟩
  have H3 := Aside0.mk h3
  have Ho := Aside0.mk (show decide (256 ≤ a ∧ a + 1 ≤ (bs.length : Int)) = false from decide_eq_false (by omega))
  clear hm h3 ha h0
  go_enter Try.func11, Try.ntmps11
  go_wp2_with (first | ((with_reducible refine gate_callee (f := 28) rfl ?_); refine zgo (some 14) Try.func28 #[.int .i64 1] ?_; (with_reducible refine (memory_sized.calls 1 true _ HS.out).mono ?_); rintro e w' ⟨rfl, ⟨nd, rfl⟩⟩; refine ⟨_, rfl, ?_⟩) | (go_at_call 29; (with_reducible refine (memory_open.is g bs a 1 _ (HM.out.below (pw_below_drewN (Below.refl _ _) _)) (pw_cell_below (pw_below_drewN (Below.refl _ _) _) H3.out) H0.out (by omega)).mono ?_); rintro e w' ⟨rfl, rfl⟩; rw [Ho.out]))
  go_ret
  exact ⟨rfl, by repeat (first | exact Drawn0.refl _ | exact ⟨_, rfl⟩ | apply Drawn0.step)⟩
set_option maxHeartbeats 4000000 in
set_option maxRecDepth 100000 in
theorem clone.is (ad : Addr) (n c : Nat) (xs : List Int) (w : World) (hr : Kd.C (Kd.int .u8) w (some ad) n xs) (hn : n ≤ 1048576) :
    Calls Try.prog 46 #[.slice (some ad) n c] w fun e w' => ∃ v : Value, e = .returned v ∧ Kd.R (Kd.int .u8) 5 w' w.heap.size (fun _ => True) v xs ∧ Below w.heap.size w w' := by
  have HR := Aside0.mk hr
  have HB := Aside0.mk (Below.refl w.heap.size w)
  have HN := Aside0.mk hn
  have hln : xs.length = n := hr.1
  have Hln := Aside0.mk hln
  have q : ∀ (w : World) (a : Option Addr) (n c n' c' : Nat), (binOp .eql 41 (.slice a n c) (.slice none n' c')).run Try.prog w = .ok (.bool a.isNone) w := fun w a n c n' c' => Lib.run_eql_slice_nil w _ _ a n c n' c' Try.underlying41
  clear hr hn hln
  go_enter Try.func46, Try.ntmps46
  go_wp2_with (first | ((with_reducible refine gate_dst (N := 5) rfl ?_); refine Kd.R_lit (Kd.int .u8) _ 5 ?hg (N := 5) ?hd (xs := ([] : List Int)) (inner := []) (ok := fun _ => True) (okp := fun _ => True) ?hr ?hp (fun _ hk => hk) trivial (Below.refl _ _) (Nat.le_refl _) (by simp) ?_; (case hd => rfl); (case hg => rfl); (case hr => first | (go_simp; done) | (go_simp; rfl)); (case hp => exact (Reps.none _ _)); intro v177 w7 ho8 hb hg_ hnew_; clear hg_ hnew_; have HO178 := Aside0.mk (Kd.R_lower ho8 (below_size (zb HB))); replace HB := zbs HB hb; clear hb ho8) | ((with_reducible refine gate_builtin (b := .append) (xs := #[.tmp 5, .tmp 6]) rfl ?_); at_builtin; refine Kd.R_append_rows (Kd.int .u8) (w0 := w) w.heap.size rfl (.tmp 5) (.tmp 6) 41 5 (.int .u8 0) 1 rfl Try.underlying41 info5 rfl (by decide) (by omega) v177 [] xs _ _ _ (fun _ => True) (fun _ => False) rfl rfl ?aO ?aR (fun _ _ h => h) (fun _ h => h.elim) ?aF ?aB ?aS ?aL ?_; (case aR => exact (Kd.C_below HR.out HB.out)); (case aB => exact (zb HB)); (case aF => exact (fun _ _ => trivial)); (case aO => exact (by (with_reducible repeat (first | apply Kd.R_alloc | apply Kd.R_drewN | apply Kd.R_drew)); exact HO178.out)); (case aS => exact (below_size (zb HB))); (case aL => have := HN.out; have := Hln.out; simp; omega); intro v180 w9 ho hb hg hat; rw [List.nil_append] at ho; have HO181 := Aside0.mk (ho); replace HB := Aside0.mk (hb); clear HO178; clear ho hb hg hat))
  go_ret
  exact ⟨_, rfl, HO181.out, zb HB⟩
/-- the store's struct inside the memory: thirteen cells -/
abbrev mcells (h0 h1 h2 h3 h4 h5 h6 h7 : Int) (gm bm hp : Value) : Array Value := #[.int .u64 0, .int .u64 0, .int .u32 h0, .int .u32 h1, .int .u32 h2, .int .u32 h3, .int .u32 h4, .int .u32 h5, .int .u32 h6, .int .u32 h7, gm, bm, hp]
set_option maxHeartbeats 4000000 in
set_option maxRecDepth 100000 in
theorem memory_first.is (g gg cg : Nat) (l0 : List Int) (E : Nat) (w : World) (h5 : w.cell? ⟨g, 5, none⟩ = some (.int .u32 E)) (h10 : w.cell? ⟨g, 10, none⟩ = some (.slice (some ⟨gg, 0, none⟩) l0.length cg)) (hr : Kd.C (Kd.int .u8) w (some ⟨gg, 0, none⟩) l0.length l0) (hl : 0 < l0.length ∧ l0.length ≤ E) (hE : E ≤ 1048576) :
    Calls Try.prog 48 #[.pointer (some ⟨g, 0, none⟩)] w fun e w' => ∃ gb c : Nat, e = .returned (.slice (some ⟨gb, 0, none⟩) E c) ∧ Kd.R (Kd.int .u8) 5 w' w.heap.size (fun _ => True) (.slice (some ⟨gb, 0, none⟩) E c) (l0 ++ List.replicate (E - l0.length) 0) ∧ Below w.heap.size w w' := by
  have HR := Aside0.mk hr
  have HL := Aside0.mk hl
  have H10 := Aside0.mk h10
  have HE := Aside0.mk hE
  have HB := Aside0.mk (Below.refl w.heap.size w)
  clear hr hl hE
  go_enter Try.func48, Try.ntmps48
  go_wp2_with (first | ((with_reducible refine gate_dst (N := 9) rfl ?_); refine mk_cap (w0 := w) 41 5 .u8 1 rfl (N := 9) rfl _ _ rfl .u32 .u32 E E rfl rfl (by omega) (by omega) Try.underlying41 info5 (by have := HE.out; omega) (by have := HE.out; omega) HB.out ?_; intro v1 w1 ho hb hq; replace HB := Aside0.mk hb; rw [Int.toNat_natCast] at ho; obtain ⟨gv, c1, he, hge, hlt, _⟩ := Kd.R_form ho (by rw [List.length_replicate]; have := HL.out; omega); rw [List.length_replicate] at he; subst he; have HV := Aside0.mk ho; have GV := Aside0.mk hge; have h10' := pw_cell_below hq h10; clear hb ho hge hlt hq) | ((with_reducible refine gate_builtin (b := .copy) (xs := #[.tmp 10, .tmp 14]) rfl ?_); refine at_copy_in (by rfl) (.tmp 10) (.tmp 14) 41 41 (by rfl) (off := 0) (m := l0.length) (by rfl) (by rfl) HV.out (Kd.C_below HR.out HB.out) (List.length_replicate ..) (by have := HL.out; omega) (by have := HL.out; omega) Try.underlying41 (infoS info5) ?_; intro w4 ho hg4; have HV4 := Aside0.mk ho; replace HB := Aside0.mk (HB.out.grown hg4 (below_size HB.out) (fun k_ hk_ => by injection hk_ with hk_; subst hk_; exact GV.out)); clear ho hg4))
  go_ret
  refine ⟨gv, c1, rfl, ?_, zb HB⟩
  have h4 := HV4.out
  rw [List.take_zero, List.nil_append, List.drop_replicate, Nat.zero_add] at h4
  exact h4
end Go.Proofs.Ytmpiifjckhcbmaa.PQ

/- memory.New. -/
namespace Go.Proofs.Ytmpiifjckhcbmaa.PQ
open Go.RowKit Go.Proofs.YtmpiifjckhcbmaaW.PrintWords Go.Proofs.YtmpiifjckhcbmaaW.PrintLast Go.Proofs.YtmpiifjckhcbmaaW.PrintMore Go.Proofs.Ytmpiifjckhcbmaa.Z Go.Proofs.Ytmpiifjckhcbmaa.Pure
set_option linter.unusedVariables false
set_option linter.unusedSimpArgs false
theorem size61 : (Try.prog.info? 66).map (·.size) = some 8 := by kernel_rfl
abbrev hcells (h0 h1 h2 h3 h4 h5 h6 h7 : Int) : Array Value := #[.int .u32 h0, .int .u32 h1, .int .u32 h2, .int .u32 h3, .int .u32 h4, .int .u32 h5, .int .u32 h6, .int .u32 h7]
theorem hc8 {w : World} {g t : Nat} {h0 h1 h2 h3 h4 h5 h6 h7 : Int} (h : w.heap[g]? = some (.cells (hcells h0 h1 h2 h3 h4 h5 h6 h7) t (0, 0))) : w.cell? ⟨g, 0, none⟩ = some (.int .u32 h0) ∧ w.cell? ⟨g, 1, none⟩ = some (.int .u32 h1) ∧ w.cell? ⟨g, 2, none⟩ = some (.int .u32 h2) ∧ w.cell? ⟨g, 3, none⟩ = some (.int .u32 h3) ∧ w.cell? ⟨g, 4, none⟩ = some (.int .u32 h4) ∧ w.cell? ⟨g, 5, none⟩ = some (.int .u32 h5) ∧ w.cell? ⟨g, 6, none⟩ = some (.int .u32 h6) ∧ w.cell? ⟨g, 7, none⟩ = some (.int .u32 h7) :=
  ⟨(blk_cell h 0).trans rfl, (blk_cell h 1).trans rfl, (blk_cell h 2).trans rfl, (blk_cell h 3).trans rfl, (blk_cell h 4).trans rfl, (blk_cell h 5).trans rfl, (blk_cell h 6).trans rfl, (blk_cell h 7).trans rfl⟩
theorem build84 (a0 a1 a2 a3 a4 a5 a6 a7 : Int) (A : Option Addr) (n c : Nat) (w : World) : (Instr.build 78 #[(1, .agg #[.int .u32 a0, .int .u32 a1, .int .u32 a2, .int .u32 a3, .int .u32 a4, .int .u32 a5, .int .u32 a6, .int .u32 a7]), (2, .slice A n c)]).run Try.prog w = .ok (.agg #[.int .u64 0, .int .u64 0, .int .u32 a0, .int .u32 a1, .int .u32 a2, .int .u32 a3, .int .u32 a4, .int .u32 a5, .int .u32 a6, .int .u32 a7, .slice A n c, .slice none 0 0]) w := run_build w 78 _ _ (by kernel_rfl)
theorem build87 (a0 a1 a2 a3 a4 a5 a6 a7 : Int) (A : Option Addr) (n c g : Nat) (w : World) : (Instr.build 81 #[(0, .agg #[.int .u64 0, .int .u64 0, .int .u32 a0, .int .u32 a1, .int .u32 a2, .int .u32 a3, .int .u32 a4, .int .u32 a5, .int .u32 a6, .int .u32 a7, .slice A n c, .slice none 0 0]), (1, .pointer (some ⟨g, 0, none⟩))]).run Try.prog w = .ok (.agg #[.int .u64 0, .int .u64 0, .int .u32 a0, .int .u32 a1, .int .u32 a2, .int .u32 a3, .int .u32 a4, .int .u32 a5, .int .u32 a6, .int .u32 a7, .slice A n c, .slice none 0 0, .pointer (some ⟨g, 0, none⟩)]) w := run_build w 81 _ _ (by kernel_rfl)
set_option maxHeartbeats 8000000 in
set_option maxRecDepth 100000 in
theorem memory_New.is (k : Nat) (ad : Addr) (c0 : Nat) (l0 : List Int) (h0 h2 h4 h5 h6 h7 : Int) (E : Nat) (w : World) (hr : Kd.C (Kd.int .u8) w (some ad) l0.length l0) (hc : l0.length ≤ c0) (hp : header_Parse.f k l0 = some (h0, (256 : Int), h2, (E : Int), h4, h5, h6, h7, (0 : Int), (36 : Int))) (hl : 0 < l0.length ∧ l0.length ≤ E) (hE : E ≤ 1048576) (hby : Byt l0) :
    Calls Try.prog 25 #[.slice (some ad) l0.length c0] w fun e w' => ∃ g gb c : Nat, e = .returned (.tuple #[.pointer (some ⟨g, 0, none⟩), .int .i64 0, .int .i64 36]) ∧ PW w' w.heap.size g gb c (l0 ++ List.replicate (E - l0.length) 0) ∧ w.heap.size ≤ g ∧ (∃ x y z : Value, w'.heap[g]? = some (.cells (mcells h0 256 h2 E h4 h5 h6 h7 x y z) 81 (0, 0))) ∧ Below w.heap.size w w' := by
  have HR := Aside0.mk hr
  have HC := Aside0.mk hc
  have HP := Aside0.mk hp
  have HL := Aside0.mk hl
  have HL2 := Aside0.mk (show l0.length ≤ 1048576 by omega)
  have HE := Aside0.mk hE
  have HY := Aside0.mk hby
  have HB := Aside0.mk (Below.refl w.heap.size w)
  clear hr hc hp hl hE hby
  go_enter Try.func25, Try.ntmps25
  go_wp2_with (first | (go_at_call 45; (with_reducible refine (header_Parse.calls k _ _ l0 h0 256 h2 E h4 h5 h6 h7 0 36 _ HR.out HC.out HP.out).mono ?_); rintro e w1 ⟨rfl, hb⟩; replace HB := zbs HB hb; clear hb) | ((with_reducible refine gate_dst (N := 5) rfl ?_); refine zbox (N := 5) (cs := hcells 0 0 0 0 0 0 0 0) (t := 66) ?_; intro gh hg w2 hbox hb; have BK := Aside0.mk hbox; have GE := zge hg HB; replace HB := zbs HB hb; clear hb hbox hg) | ((with_reducible refine gate_ (.store 66 (.tmp 5) (.tmp 9)) rfl ?_); refine store_blk (cs := hcells 0 0 0 0 0 0 0 0) (cs' := hcells h0 256 h2 E h4 h5 h6 h7) rfl rfl 66 (.tmp 5) (.tmp 9) rfl rfl rfl ?hh ?hsz size61 ?h1 ?_; (case hh => exact BK.out); (case hsz => rfl); (case h1 => intro q_ hq_; simp only [List.mem_cons, List.not_mem_nil, or_false] at hq_; rcases hq_ with rfl | rfl | rfl | rfl | rfl | rfl | rfl | rfl <;> rfl); intro w3 hh hgr; replace HB := Aside0.mk (HB.out.grown hgr (below_size HB.out) (fun k_ hk_ => by injection hk_ with hk_; subst hk_; exact GE.out)); clear BK; have BK := Aside0.mk hh; clear hh hgr))
  have hb84 := fun (A : Option Addr) (n c : Nat) (w : World) => build84 h0 256 h2 E h4 h5 h6 h7 A n c w
  have hb87 := fun (A : Option Addr) (n c g : Nat) (w : World) => build87 h0 256 h2 E h4 h5 h6 h7 A n c g w
  have HH : Aside0 (heap_New.f 1048576 = some (1048576, 0, 0, [])) := ⟨rfl⟩
  go_region_held3 (fun w' => w'.cell? ⟨gh, 0, none⟩ = some (.int .u32 h0) ∧ w'.cell? ⟨gh, 1, none⟩ = some (.int .u32 256) ∧ w'.cell? ⟨gh, 2, none⟩ = some (.int .u32 h2) ∧ w'.cell? ⟨gh, 3, none⟩ = some (.int .u32 E) ∧ w'.cell? ⟨gh, 4, none⟩ = some (.int .u32 h4) ∧ w'.cell? ⟨gh, 5, none⟩ = some (.int .u32 h5) ∧ w'.cell? ⟨gh, 6, none⟩ = some (.int .u32 h6) ∧ w'.cell? ⟨gh, 7, none⟩ = some (.int .u32 h7)) (first | exact hc8 BK.out | exact hc8 (blk_drew BK.out) | exact hc8 (blk_alloc BK.out _) | go_keep) (first | (go_at_call 46; (with_reducible refine (clone.is ad _ c0 l0 _ ?side1 HL2.out).mono ?_); (case side1 => repeat (first | exact (Kd.C_below HR.out HB.out) | (with_reducible refine Kd.C_drewN ?_ _) | (with_reducible refine Kd.C_drew ?_))); rintro e w5 ⟨v5, rfl, hv, hb⟩; obtain ⟨A5, c5, rfl⟩ := Kd.R_slice hv; have HV := Aside0.mk (Kd.R_lower hv (below_size (zb HB))); replace BK := zkb BK hb; replace HB := zbs HB hb; clear hv hb) | (go_at_call 47; (with_reducible refine (heap_New.calls 1048576 1048576 0 0 [] w _ (zb HB) HH.out).mono ?_); rintro e w6 ⟨gp, rfl, _, _, hb⟩; (try replace HV := Aside0.mk (Kd.R_below HV.out hb)); replace BK := zkb BK hb; replace HB := zbs HB hb; clear hb))
  generalize hw7 : w6.alloc _ = w7
  have BM : w7.heap[w6.heap.size]? = some (.cells (mcells h0 256 h2 E h4 h5 h6 h7 (.slice A5 l0.length c5) (.slice none 0 0) (.pointer (some ⟨gp, 0, none⟩))) 81 (0, 0)) := by rw [← hw7]; exact blk_new w6 _
  have hb7 : Below w6.heap.size w6 w7 := by rw [← hw7]; exact below_alloc (Below.refl _ _) _
  have hge : w.heap.size ≤ w6.heap.size := below_size HB.out
  replace HV := Aside0.mk (Kd.R_below HV.out hb7)
  replace HB := Aside0.mk (below_step HB.out hb7)
  generalize w6.heap.size = g7 at BM hge hb7 ⊢
  clear hb7 hw7 BK
  have GE7 := Aside0.mk hge
  have hrd := Kd.R_reads' HV.out
  obtain ⟨gg, cg, hgg, _⟩ := Kd.R_form HV.out HL.out.1
  injection hgg with e1 e2 e3
  subst e1
  subst e3
  have HRD := Aside0.mk hrd
  have BM7 := Aside0.mk BM
  have z5 : w7.cell? ⟨g7, 5, none⟩ = some (.int .u32 E) := (blk_cell BM 5).trans rfl
  have z10 : w7.cell? ⟨g7, 10, none⟩ = some (.slice (some ⟨gg, 0, none⟩) l0.length c5) := (blk_cell BM 10).trans rfl
  have Z5 := Aside0.mk z5
  have Z10 := Aside0.mk z10
  clear hrd BM hge z5 z10 hb84 hb87 HV
  go_wp2_with (first | (go_at_call 48; (with_reducible refine (memory_first.is g7 gg c5 l0 E _ Z5.out Z10.out HRD.out.2.2 HL.out HE.out).mono ?_); rintro e w8 ⟨gb, cb, rfl, hv, hb⟩; have HV := Aside0.mk (Kd.R_lower hv (below_size HB.out)); replace BM7 := Aside0.mk (blk_below BM7.out hb); replace HB := Aside0.mk (below_step HB.out hb); have hq11 : w8.cell? ⟨g7, 11, none⟩ = some (.slice none 0 0) := (blk_cell BM7.out 11).trans rfl; have hf11 := blk_frozen BM7.out 11; clear hv hb))
  go_ret3
  have hbs := blk_set BM7.out 11 (.slice (some ⟨gb, 0, none⟩) E cb)
  have hne : g7 ≠ gb := ne_of_R HV.out BM7.out (by decide)
  have hll : (l0 ++ List.replicate (E - l0.length) 0).length = E := by rw [List.length_append, List.length_replicate]; have := HL.out; omega
  refine ⟨g7, gb, cb, rfl, ⟨?_, ⟨_, hbs, ?_, ?_⟩, by rw [hll]; exact HE.out, ?_⟩, GE7.out, ⟨_, _, _, hbs⟩, below_set HB.out GE7.out⟩
  · rw [hll]
    exact Kd.R_of_own (enc := Value.int .u8) (h1 := fun _ => rfl) (by rw [hll]; exact own_setCell (by have := Kd.own_of_R (enc := Value.int .u8) (h1 := fun _ => rfl) HV.out; rw [hll] at this; exact this) (by show some g7 ≠ some gb; simpa using hne) _) (fun _ _ => trivial)
  · rw [hll]; rfl
  · rfl
  · exact HY.out.app (by intro x hx; rw [List.mem_replicate] at hx; omega)
end Go.Proofs.Ytmpiifjckhcbmaa.PQ

/- The document's memory, as it is read; Span. -/
namespace Go.Proofs.Ytmpiifjckhcbmaa.PQ
open Go.RowKit Go.Proofs.YtmpiifjckhcbmaaW.PrintWords Go.Proofs.YtmpiifjckhcbmaaW.PrintLast Go.Proofs.YtmpiifjckhcbmaaW.PrintMore Go.Proofs.Ytmpiifjckhcbmaa.Z Go.Proofs.Ytmpiifjckhcbmaa.Pure
set_option linter.unusedVariables false
set_option linter.unusedSimpArgs false
/-- the document's memory, as it is read: its bytes -/
structure RM (w : World) (g : Nat) (bs : List Int) : Prop where
  ex : ∃ gb c, w.cell? ⟨g, 0, none⟩ = some (.slice (some ⟨gb, 0, none⟩) bs.length c) ∧ bs.length ≤ c ∧ Kd.C (Kd.int .u8) w (some ⟨gb, 0, none⟩) bs.length bs
  len : bs.length ≤ 1048576
  byt : Byt bs
theorem RM.below {w w1 : World} {g : Nat} {bs : List Int} (h : RM w g bs) (hb : Below w.heap.size w w1) : RM w1 g bs := by
  obtain ⟨⟨gb, c, h1, h2, h3⟩, h4, h5⟩ := h
  exact ⟨⟨gb, c, pw_cell_below hb h1, h2, Kd.C_below h3 hb⟩, h4, h5⟩
end Go.Proofs.Ytmpiifjckhcbmaa.PQ

/- The document's memory, made and written. -/
namespace Go.Proofs.Ytmpiifjckhcbmaa.PQ
open Go.RowKit Go.Proofs.YtmpiifjckhcbmaaW.PrintWords Go.Proofs.YtmpiifjckhcbmaaW.PrintLast Go.Proofs.YtmpiifjckhcbmaaW.PrintMore Go.Proofs.Ytmpiifjckhcbmaa.Z Go.Proofs.Ytmpiifjckhcbmaa.Pure
set_option linter.unusedVariables false
set_option linter.unusedSimpArgs false
/-- the document's memory, as it is written -/
structure RW (w : World) (base g gb c : Nat) (bs : List Int) : Prop where
  row : Kd.R (Kd.int .u8) 5 w base (fun _ => True) (.slice (some ⟨gb, 0, none⟩) bs.length c) bs
  blk : ∃ cs : Array Value, w.heap[g]? = some (.cells cs 106 (0, 0)) ∧ cs[0]? = some (.slice (some ⟨gb, 0, none⟩) bs.length c) ∧ cs[3]? = some (.int .u32 256)
  len : bs.length ≤ 1048576
  byt : Byt bs
theorem RW.rm {w : World} {base g gb c : Nat} {bs : List Int} (h : RW w base g gb c bs) : RM w g bs := by
  obtain ⟨cs, h1, h2, h3⟩ := h.blk
  have hr := Kd.R_reads' h.row
  exact ⟨⟨gb, c, (blk_cell h1 0).trans h2, hr.2.1, hr.2.2⟩, h.len, h.byt⟩
theorem RW.below {w w1 : World} {base g gb c : Nat} {bs : List Int} (h : RW w base g gb c bs) (hb : Below w.heap.size w w1) : RW w1 base g gb c bs := by
  obtain ⟨cs, h1, h2, h3⟩ := h.blk
  exact ⟨Kd.R_below h.row hb, ⟨cs, blk_below h1 hb, h2, h3⟩, h.len, h.byt⟩
theorem RW.grown {w w1 : World} {base g gb c : Nat} {row : Option Nat} {bs : List Int} (h : RW w base g gb c bs) (hg : w.grownBy w1 row) (h1 : some g ≠ row) (h2 : some gb ≠ row) : RW w1 base g gb c bs := by
  obtain ⟨cs, k1, k2, k3⟩ := h.blk
  exact ⟨row_grown h.row hg h2, ⟨cs, blk_grown k1 hg h1, k2, k3⟩, h.len, h.byt⟩
theorem RW.ne {w : World} {base g gb c : Nat} {bs : List Int} (h : RW w base g gb c bs) : g ≠ gb := by
  obtain ⟨cs, k1, _⟩ := h.blk
  exact ne_of_R h.row k1 (by decide)
theorem RW.base_le {w : World} {base g gb c : Nat} {bs : List Int} (h : RW w base g gb c bs) : base ≤ gb :=
  own_base (Kd.own_of_R (enc := Value.int .u8) (h1 := fun _ => rfl) h.row) gb rfl
set_option maxHeartbeats 1000000 in
theorem ref_may.is (g : Nat) (bs : List Int) (a : Int) (w : World) (hm : RM w g bs) (h3 : w.cell? ⟨g, 3, none⟩ = some (.int .u32 256)) (h0 : 0 ≤ a ∧ a < 4294967296) :
    Calls Try.prog 51 #[.pointer (some ⟨g, 0, none⟩), .int .u32 a, .int .i64 1] w fun e w' => e = .returned (.bool (decide (256 ≤ a ∧ a < (bs.length : Int)))) ∧ w = w' := by
  obtain ⟨⟨gb, c, z0, hcb, hrb⟩, hl, hby⟩ := hm
  have e1 : wrap64 a = a := w64 (by omega) (by omega)
  have e2 : wrap64 (a + 1) = a + 1 := w64 (by omega) (by omega)
  have E1 := Aside0.mk e1
  have E2 := Aside0.mk (show wrap64 (wrap64 a + 1) = a + 1 by rw [e1, e2])
  have h256 : wrap64 256 = 256 := w64 (by omega) (by omega)
  clear hcb hrb hl hby e1 e2
  by_cases c1 : 256 ≤ a
  · have c2 : decide (256 ≤ wrap64 a) = true := by rw [E1.out]; exact decide_eq_true c1
    have hd : decide (256 ≤ a ∧ a < (bs.length : Int)) = decide (wrap64 (wrap64 a + 1) ≤ (bs.length : Int)) := by
      rw [E2.out]
      by_cases c4 : a < (bs.length : Int)
      · rw [decide_eq_true (show a + 1 ≤ (bs.length : Int) by omega), decide_eq_true ⟨c1, c4⟩]
      · rw [decide_eq_false (show ¬ a + 1 ≤ (bs.length : Int) by omega), decide_eq_false (fun h => c4 h.2)]
    have Hd := Aside0.mk hd
    clear c1 hd h0
    go_enter Try.func51, Try.ntmps51
    go_wp2
    go_ret
    rw [Hd.out]
    exact ⟨rfl, rfl⟩
  · have c2 : decide (256 ≤ wrap64 a) = false := by rw [E1.out]; exact decide_eq_false c1
    have hd : decide (256 ≤ a ∧ a < (bs.length : Int)) = false := decide_eq_false (fun h => c1 h.1)
    have Hd := Aside0.mk hd
    clear c1 hd h0
    go_enter Try.func51, Try.ntmps51
    go_wp2
    go_ret
    rw [Hd.out]
    exact ⟨rfl, rfl⟩
set_option maxHeartbeats 4000000 in
set_option maxRecDepth 100000 in
theorem ref_Write.ok (base g gb c : Nat) (bs : List Int) (a : Int) (x : Nat) (w : World) (hm : RW w base g gb c bs) (ha : 256 ≤ a ∧ a < (bs.length : Int)) (hx : x < 4294967296) :
    Calls Try.prog 27 #[.pointer (some ⟨g, 0, none⟩), .int .u32 a, .int .i64 1, .int .u32 x] w fun e w' => e = .returned (.int .i64 0) ∧ RW w' base g gb c (bs.set a.toNat (((x % 256 : Nat) : Int))) ∧ w.grownBy w' (some gb) := by
  have HM := Aside0.mk hm
  have HA := Aside0.mk ha
  have HS : Aside0 (grottoref09_sized.f 1 = some true) := ⟨rfl⟩
  obtain ⟨cs, k1, k2, k3⟩ := hm.blk
  have H3 := Aside0.mk (show w.cell? ⟨g, 3, none⟩ = some (.int .u32 256) from (blk_cell k1 3).trans k3)
  have Z0 := Aside0.mk (show w.cell? ⟨g, 0, none⟩ = some (.slice (some ⟨gb, 0, none⟩) bs.length c) from (blk_cell k1 0).trans k2)
  have HL := Aside0.mk hm.len
  have Ho := Aside0.mk (show decide (256 ≤ a ∧ a < (bs.length : Int)) = true from decide_eq_true ha)
  have HX := Aside0.mk hx
  clear hm k1 k2 k3 ha hx
  go_enter Try.func27, Try.ntmps27
  go_wp2_with (first | ((with_reducible refine gate_callee (f := 50) rfl ?_); refine zgo (some 11) Try.func50 #[.int .i64 1] ?_; (with_reducible refine (grottoref09_sized.calls 1 true _ HS.out).mono ?_); rintro e w' ⟨rfl, ⟨nd, rfl⟩⟩; refine ⟨_, rfl, ?_⟩) | (go_at_call 51; (with_reducible refine (ref_may.is g bs a _ (HM.out.rm.below (pw_below_drewN (Below.refl _ _) _)) (pw_cell_below (pw_below_drewN (Below.refl _ _) _) H3.out) (by have := HA.out; have := HL.out; omega)).mono ?_); rintro e w' ⟨rfl, rfl⟩; rw [Ho.out]))
  go_loopg [3, 9] 2 (fun kq v3 v9 w' => (v3 = .int .u32 x ∧ v9 = .int .i64 0 ∧ kq = 2 ∧ Aside0 (Drawn0 w w')) ∨ (v9 = .int .i64 (-1) ∧ kq = 1 ∧ Aside0 (RW w' base g gb c (bs.set a.toNat (((x % 256 : Nat) : Int)))) ∧ Aside0 (w.grownBy w' (some gb))))
  case atStart => exact Or.inl ⟨rfl, rfl, rfl, ⟨by repeat (first | exact Drawn0.refl _ | exact ⟨_, rfl⟩ | apply Drawn0.step)⟩⟩
  case round =>
    rcases hrel with ⟨rfl, rfl, rfl, ⟨⟨nd, rfl⟩⟩⟩ | ⟨rfl, rfl, HM2, HG2⟩
    · have HB := Aside0.mk (pw_below_drewN (Below.refl w.heap.size w) nd)
      have z0 : (w.drewN nd).cell? ⟨g, 0, none⟩ = some (.slice (some ⟨gb, 0, none⟩) bs.length c) := Z0.out
      have HM3 := Aside0.mk (HM.out.below HB.out)
      have hx := Kd.R_celln 0 HM3.out.row a (by have := HA.out; omega) HA.out.2
      have HP := Kd.R_putg HM3.out.row a (((x % 256 : Nat) : Int))
      have HPP := Aside0.mk HP
      obtain ⟨hx0, hx1⟩ := hx
      have e1 : wrap64 (wrap64 a + 0) = a := by have := HA.out; have := HL.out; rw [w64 (n := a) (by omega) (by omega), w64 (by omega) (by omega)]; omega
      have e2 : wrap64 (wrap64 a) = a := by have := HA.out; have := HL.out; rw [w64 (n := a) (by omega) (by omega), w64 (n := a) (by omega) (by omega)]
      have e3 : wrap64 a = a := by have := HA.out; have := HL.out; exact w64 (by omega) (by omega)
      have p1 := eq_true (show 0 ≤ a by have := HA.out; omega)
      have p2 := eq_true HA.out.2
      have e4 : (x : Int) % 256 % 4294967296 % 256 = ((x % 256 : Nat) : Int) := by omega
      have e5 : (x : Int) % 256 = ((x % 256 : Nat) : Int) := by omega
      have E5 := Aside0.mk e5
      clear HP e4 e5 e1 e2
      go_wp2
      go_roundg 1
      case measure => omega
      case rel =>
        refine Or.inr ⟨rfl, rfl, ⟨?_⟩, ⟨?_⟩⟩
        · rw [E5.out]
          obtain ⟨cs, k1, k2, k3⟩ := HM3.out.blk
          refine ⟨by rw [List.length_set]; exact HPP.out.1, ⟨cs, blk_far k1 HM3.out.ne _, by rw [List.length_set]; exact k2, k3⟩, by rw [List.length_set]; exact HL.out, ?_⟩
          intro y hy
          rcases List.mem_or_eq_of_mem_set hy with h | h
          · exact HM.out.byt y h
          · subst h; omega
        · rw [E5.out]
          exact grown_trans (grown_of_below HB.out none) HPP.out.2
    · have HB := Aside0.mk (Below.refl w.heap.size w)
      go_wp2
      go_ret
      exact ⟨rfl, HM2.out, HG2.out⟩
end Go.Proofs.Ytmpiifjckhcbmaa.PQ

/- grottoref09.New. -/
namespace Go.Proofs.Ytmpiifjckhcbmaa.PQ
open Go.RowKit Go.Proofs.YtmpiifjckhcbmaaW.PrintWords Go.Proofs.YtmpiifjckhcbmaaW.PrintLast Go.Proofs.YtmpiifjckhcbmaaW.PrintMore Go.Proofs.Ytmpiifjckhcbmaa.Z Go.Proofs.Ytmpiifjckhcbmaa.Pure
set_option linter.unusedVariables false
set_option linter.unusedSimpArgs false
theorem build64 (a0 a1 a2 a3 a4 a5 a6 a7 : Int) (A B : Option Addr) (n c m d g : Nat) (w : World) : (Instr.build 106 #[(0, .slice A n c), (1, .slice B m d), (2, .agg #[.int .u32 a0, .int .u32 a1, .int .u32 a2, .int .u32 a3, .int .u32 a4, .int .u32 a5, .int .u32 a6, .int .u32 a7]), (3, .pointer (some ⟨g, 0, none⟩))]).run Try.prog w = .ok (.agg #[.slice A n c, .slice B m d, .int .u32 a0, .int .u32 a1, .int .u32 a2, .int .u32 a3, .int .u32 a4, .int .u32 a5, .int .u32 a6, .int .u32 a7, .pointer (some ⟨g, 0, none⟩), .int .i64 0, .int .i64 0]) w := run_build w 106 _ _ (by kernel_rfl)
theorem fresh_f (l0 : List Int) (E : Nat) (h : l0.length ≤ E ∧ E ≤ 1048576) : grottoref09_fresh.f l0 (E : Int) = some (l0 ++ List.replicate (E - l0.length) 0) := by
  have e1 : wrap64 ((E : Int) - (l0.length : Int)) = ((E - l0.length : Nat) : Int) := by rw [w64 (by omega) (by omega)]; omega
  unfold grottoref09_fresh.f
  rw [Option.bind_some, if_pos (show ([] : List Int).length + l0.length < 140737488355328 by rw [List.length_nil]; omega), Option.bind_some, e1, if_pos (by omega), Int.toNat_natCast, List.nil_append, if_pos (by omega)]
theorem blk_new2 (w : World) (o1 o2 : Obj) : ((w.alloc o1).alloc o2).heap[w.heap.size + 1]? = some o2 := by
  have h := blk_new (w.alloc o1) o2
  have e : (w.alloc o1).heap.size = w.heap.size + 1 := World.size_alloc _ _
  rwa [e] at h
theorem app_lit {P : Program} {ops : Array Oper} {o : Oper} {a : Act} {W : World} {K : Act → World → Prop} {Q : Exit → Act → World → Prop} {E : Prop} (hg : o.guard = none) (s x : Operand) (t : TypeId) (hop : o.op = Op.call { callee := Callee.builtin Builtin.append, args := #[s, x], argTypes := #[t, t] })
    (ht : P.underlying t = some (.slice 5)) (hinfo : (P.info? 5).map (fun i => (i.zero, i.size, i.bytes)) = some (some (.int .u8 0), 1, 1)) (hs : ∃ b : Addr, a.eval s = .slice (some b) 0 0) (ad : Addr) (m c : Nat) (ys : List Int) (hx : a.eval x = .slice (some ad) m c) (HR : Kd.C (Kd.int .u8) W (some ad) m ys) (hm : 0 < m ∧ m ≤ 1048576)
    (hK : ∀ v1 w1, Kd.R (Kd.int .u8) 5 w1 W.heap.size (fun _ => True) v1 ys → Below W.heap.size W w1 → K (a.put o.dst v1) w1) : if Region.wanted o (yielded ops a.tmps) = true then Oper.wp P o a W K Q else E := by
  obtain ⟨b, hs⟩ := hs
  have hR := Kd.reads_of_C (enc := Value.int .u8) (d := (0 : Int)) (h1 := fun _ => rfl) HR
  have hml : ys.length = m := hR.1
  obtain ⟨ad', hA, hc⟩ := hR.2.2 hm.1
  injection hA with hA
  subst hA
  obtain ⟨i0, hi, hzz⟩ := Option.map_eq_some_iff.1 hinfo
  simp only [Prod.mk.injEq] at hzz
  obtain ⟨hz0, hz1, hz2⟩ := hzz
  refine step_append_grows hg s x t hop 5 i0 (.int .u8 0) 1 1 ht hi hz0 hz1 hz2 rfl (by omega) (some b) 0 0 [] hs (fun h => by cases h) rfl (fun b _ j u hu => by simp at hu) ad m c (encs (Value.int .u8) ys) hx (by rw [encs_length, hml]; omega) ?_ ?_ (by omega) (by simp only [maxLen]; omega) (by omega) ?_
  · intro j u hu
    have hj : j < ys.length := by
      rcases Nat.lt_or_ge j ys.length with h | h
      · exact h
      · rw [List.getElem?_eq_none (by rw [encs_length]; exact h)] at hu
        cases hu
    rw [encs_get (d := (0 : Int)) _ j hj] at hu
    rw [hc j (by omega), ← hu]
  · intro u hu
    simp only [encs, List.mem_map] at hu
    obtain ⟨q, _, rfl⟩ := hu
    rfl
  · intro v' w' hown hgr
    rw [List.nil_append, Nat.zero_add, ← hml] at hown
    exact hK v' w' (Kd.R_of_own (enc := Value.int .u8) (h1 := fun _ => rfl) hown (fun _ _ => trivial)) ((Below.refl W.heap.size W).grown hgr (Nat.le_refl _) (by intro k hk; cases hk))
set_option maxHeartbeats 8000000 in
set_option maxRecDepth 100000 in
theorem ref_New.is (k : Nat) (ad : Addr) (c0 : Nat) (l0 : List Int) (h0 h2 h4 h5 h6 h7 : Int) (E : Nat) (w : World) (hr : Kd.C (Kd.int .u8) w (some ad) l0.length l0) (hc : l0.length ≤ c0) (hp : grottoref07_Parse.f k l0 = some (h0, (256 : Int), h2, (E : Int), h4, h5, h6, h7, (0 : Int), (36 : Int))) (hl : 0 < l0.length ∧ l0.length ≤ E) (hE : E ≤ 1048576) (hby : Byt l0) :
    Calls Try.prog 26 #[.slice (some ad) l0.length c0] w fun e w' => ∃ g gb c : Nat, e = .returned (.tuple #[.pointer (some ⟨g, 0, none⟩), .int .i64 0, .int .i64 36]) ∧ RW w' w.heap.size g gb c (l0 ++ List.replicate (E - l0.length) 0) ∧ w.heap.size ≤ g ∧ Below w.heap.size w w' := by
  have HR := Aside0.mk hr
  have HC := Aside0.mk hc
  have HP := Aside0.mk hp
  have HL := Aside0.mk hl
  have HL2 := Aside0.mk (show l0.length ≤ 1048576 by omega)
  have HE := Aside0.mk hE
  have HY := Aside0.mk hby
  have HB := Aside0.mk (Below.refl w.heap.size w)
  have HF := Aside0.mk (fresh_f l0 E ⟨hl.2, hE⟩)
  have hb64 := fun (A B : Option Addr) (n c m d g : Nat) (w : World) => build64 h0 256 h2 E h4 h5 h6 h7 A B n c m d g w
  have HEW := Aside0.mk (show IntKind.i64.wrap (E : Int) = (E : Int) from (i64_w _).trans (w64 (by omega) (by omega)))
  have HLL := Aside0.mk (show 0 < (l0 ++ List.replicate (E - l0.length) 0).length by rw [List.length_append]; omega)
  have HLE := Aside0.mk (show (l0 ++ List.replicate (E - l0.length) 0).length = E by rw [List.length_append, List.length_replicate]; omega)
  have HYY := Aside0.mk (show Byt (l0 ++ List.replicate (E - l0.length) 0) from hby.app (by intro x hx; rw [List.mem_replicate] at hx; omega))
  clear hr hc hp hl hE hby
  go_enter Try.func26, Try.ntmps26
  go_wp2_with (first | (go_at_call 44; (with_reducible refine (grottoref07_Parse.calls k _ _ l0 h0 256 h2 E h4 h5 h6 h7 0 36 _ HR.out HC.out HP.out).mono ?_); rintro e w1 ⟨rfl, hb⟩; replace HB := zbs HB hb; clear hb) | ((with_reducible refine gate_dst (N := 5) rfl ?_); refine zbox (N := 5) (cs := hcells 0 0 0 0 0 0 0 0) (t := 66) ?_; intro gh hg w2 hbox hb; have BK := Aside0.mk hbox; have GE := zge hg HB; replace HB := zbs HB hb; clear hb hbox hg) | ((with_reducible refine gate_ (.store 66 (.tmp 5) (.tmp 11)) rfl ?_); refine store_blk (cs := hcells 0 0 0 0 0 0 0 0) (cs' := hcells h0 256 h2 E h4 h5 h6 h7) rfl rfl 66 (.tmp 5) (.tmp 11) rfl rfl rfl ?hh ?hsz size61 ?h1 ?_; (case hh => exact BK.out); (case hsz => rfl); (case h1 => intro q_ hq_; simp only [List.mem_cons, List.not_mem_nil, or_false] at hq_; rcases hq_ with rfl | rfl | rfl | rfl | rfl | rfl | rfl | rfl <;> rfl); intro w3 hh hgr; replace HB := Aside0.mk (HB.out.grown hgr (below_size HB.out) (fun k_ hk_ => by injection hk_ with hk_; subst hk_; exact GE.out)); clear BK; have BK := Aside0.mk hh; clear hh hgr))
  go_region_held3 (fun w' => w'.cell? ⟨gh, 0, none⟩ = some (.int .u32 h0) ∧ w'.cell? ⟨gh, 1, none⟩ = some (.int .u32 256) ∧ w'.cell? ⟨gh, 2, none⟩ = some (.int .u32 h2) ∧ w'.cell? ⟨gh, 3, none⟩ = some (.int .u32 E) ∧ w'.cell? ⟨gh, 4, none⟩ = some (.int .u32 h4) ∧ w'.cell? ⟨gh, 5, none⟩ = some (.int .u32 h5) ∧ w'.cell? ⟨gh, 6, none⟩ = some (.int .u32 h6) ∧ w'.cell? ⟨gh, 7, none⟩ = some (.int .u32 h7)) (first | exact hc8 BK.out | exact hc8 (by repeat (first | exact BK.out | refine blk_drew ?_ | refine blk_alloc ?_ _)) | go_keep) (first | (go_at_call 49; rw [HEW.out]; (with_reducible refine (grottoref09_fresh.calls (some ad) c0 l0 E _ _ ?side1 HC.out HF.out).mono ?_); (case side1 => repeat (first | exact (Kd.C_below HR.out HB.out) | (with_reducible refine Kd.C_alloc ?_ _) | (with_reducible refine Kd.C_drewN ?_ _) | (with_reducible refine Kd.C_drew ?_))); rintro e w5 ⟨v5, rfl, hv, hb⟩; obtain ⟨gb, c5, hv5, _⟩ := Kd.R_form hv HLL.out; subst hv5; have HV := Aside0.mk (Kd.R_lower hv (below_size (zb HB))); replace BK := zkb BK hb; replace HB := zbs HB hb; clear hv hb) | (refine app_lit (by rfl) (.tmp 23) (.tmp 24) 41 (by rfl) Try.underlying41 info5 ?hs ad l0.length c0 l0 ?hx ?hR ⟨HL.out.1, HL2.out⟩ ?_; (case hs => exact ⟨_, rfl⟩); (case hx => rfl); (case hR => repeat (first | exact (Kd.C_below HR.out HB.out) | (with_reducible refine Kd.C_alloc ?_ _) | (with_reducible refine Kd.C_drewN ?_ _) | (with_reducible refine Kd.C_drew ?_))); intro v7 w7 hv hb; obtain ⟨A7, c7, rfl⟩ := Kd.R_slice hv; have HV7 := Aside0.mk (Kd.R_lower hv (below_size (zb HB))); (try replace HV := Aside0.mk (Kd.R_below (by (with_reducible repeat (first | apply Kd.R_alloc | apply Kd.R_drewN | apply Kd.R_drew)); exact HV.out) hb)); replace BK := zkb BK hb; replace HB := zbs HB hb; clear hv hb) | fail)
  all_goals
    go_wp2
    go_ret3
    refine ⟨_, gb, c5, rfl, ⟨by (with_reducible repeat (first | apply Kd.R_alloc | apply Kd.R_drewN | apply Kd.R_drew)); exact HV.out, ⟨_, (by first | exact blk_new _ _ | exact blk_new2 _ _ _), (by rw [List.length_append, List.length_replicate]; rfl), rfl⟩, by rw [HLE.out]; exact HE.out, HYY.out⟩, ?_, zb HB⟩
    first | exact below_size HB.out | exact Nat.le_succ_of_le (below_size HB.out)
end Go.Proofs.Ytmpiifjckhcbmaa.PQ

/- The game that the laws are laid over: what it is, what it says of itself. -/
namespace Go.Proofs.Ytmpiifjckhcbmaa.PQ
open Go.RowKit Go.Proofs.YtmpiifjckhcbmaaW.PrintWords Go.Proofs.YtmpiifjckhcbmaaW.PrintLast Go.Proofs.YtmpiifjckhcbmaaW.PrintMore Go.Proofs.Ytmpiifjckhcbmaa.Z Go.Proofs.Ytmpiifjckhcbmaa.Pure
set_option linter.unusedVariables false
def gm : List Int := [71, 108, 117, 108, 0, 3, 1, 3, 0, 0, 1, 0, 0, 0, 1, 0, 0, 0, 8, 0, 0, 0, 1, 0, 0, 0, 0, 36, 0, 0, 0, 0, 71, 111, 129, 147] ++ List.replicate 220 0
set_option maxRecDepth 100000 in
theorem gm_prog : header_Parse.f 300 gm = some (196867, 256, 256, 2048, 256, 36, 0, 1198490003, 0, 36) := by kernel_rfl
set_option maxRecDepth 100000 in
theorem gm_ref : grottoref07_Parse.f 300 gm = some (196867, 256, 256, 2048, 256, 36, 0, 1198490003, 0, 36) := by kernel_rfl
theorem gm_len : gm.length = 256 := by decide +kernel
theorem gm_byt : Byt gm := by
  intro x hx
  unfold gm at hx
  rcases List.mem_append.1 hx with h | h
  · simp only [List.mem_cons, List.not_mem_nil, or_false] at h
    omega
  · rw [List.mem_replicate] at h
    omega
end Go.Proofs.Ytmpiifjckhcbmaa.PQ
