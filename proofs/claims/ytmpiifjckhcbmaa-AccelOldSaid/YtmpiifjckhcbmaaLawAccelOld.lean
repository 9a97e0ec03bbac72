/- The row of the law AccelOld, out of its pure statement and the walk. -/
import Derived.Test.YtmpiifjckhcbmaaRows
import Derived.Test.YtmpiifjckhcbmaaLO
import Derived.Test.YtmpiifjckhcbmaaWSized
import Derived.WalkKit
import Derived.ProofKit
import Derived.OpenShut
import Derived.ShutString
import Derived.ChangeOld
import Derived.Below
import Derived.SizedLaws
import Derived.Lib.SmallJoins
namespace Go.Proofs.Ytmpiifjckhcbmaa.accelOld
open Go.ChangeShapes Go.WideShapes Go.ChangeAt Go.RowKit
open Go.ChangeMaps (open_string shut_string)
set_option linter.unusedVariables false
open Go.Proofs.YtmpiifjckhcbmaaW.PrintWords
theorem k2 : laidOutB Try.prog = true := by kernel_rfl
def IsRow (k : IntKind) (w : World) (a : Option Addr) (len cap : Nat) (zs : List Int) : Prop :=
  (a = none ∧ len = 0 ∧ cap = 0 ∧ zs = []) ∨
  ∃ x, a = some x ∧ len ≤ cap ∧ cap ≤ maxLen ∧ zs.length = cap ∧ (∀ i, i < zs.length → w.cell? (x.add i) = some (.int k (zs.getD i 0))) ∧ ∀ n ∈ zs, (Lit.int k n).wf = true
theorem and_true_of {a b : Bool} (h : a = true) (k : b = true) : (a && b) = true := by rw [h, k]; rfl
theorem own : ownKnob Try.prog.godebug = none := by kernel_rfl
theorem cells50 : Try.prog.cellsOf 50 = 3 := by kernel_rfl
theorem walk (A0 : Option Addr) (c0 : Nat) (l0 : List Int) (a1_0 : Int) (A1_1 : Option Addr) (cp1_1 : Nat) (l1_1 : List Int) (A1_2 : Option Addr) (cp1_2 : Nat) (l1_2 : List Int) (w : World) (hr0 : Kd.C (Kd.int .u8) w A0 l0.length l0) (hc0 : l0.length ≤ c0) (hm0 : l0.length ≤ maxLen) (y0 : l0.length * 1 ≤ 140737488351232) (w0 : ∀ x ∈ l0, (Lit.int .u8 x).wf = true) (w1_0 : (Lit.int .u32 a1_0).wf = true) (hr1_1 : Kd.C (Kd.int .u32) w A1_1 l1_1.length l1_1) (hc1_1 : l1_1.length ≤ cp1_1) (w1_1 : ∀ x ∈ l1_1, (Lit.int .u32 x).wf = true) (hr1_2 : Kd.C (Kd.int .u32) w A1_2 l1_2.length l1_2) (hc1_2 : l1_2.length ≤ cp1_2) (w1_2 : ∀ x ∈ l1_2, (Lit.int .u32 x).wf = true) :
    Calls Try.prog 6 #[.slice A0 l0.length c0, .agg #[.int .u32 a1_0, .slice A1_1 l1_1.length cp1_1, .slice A1_2 l1_2.length cp1_2]] w fun e w' => e = .returned (.bool true) ∧ Below w.heap.size w w' := by
  exact PQ.AccelOld.law _ _ l0 a1_0 _ _ l1_1 _ _ l1_2 w hr0 hc0 hm0 y0 w0 w1_0 hr1_1 hc1_1 w1_1 hr1_2 hc1_2 w1_2
set_option maxRecDepth 100000 in
theorem lifted (os : Os) (started : os.Started) (H : Type) (enc : TypeId × Value → H) :
    ReturnsInHanded {} Try.checked os 6 .any (Rows.accelOldSpec.pre6 enc Try.prog Try.f6 Rows.accelOldRow.domain false) (Rows.accelOldSpec.post enc Try.prog Try.f6 false true false false) := by
  refine returnsInHanded_of_change_sized (C := Try.checked) own started (by kernel_rfl) Try.func6
    (ChangeSpec.witness6 (enc := enc) (C := Try.checked) false ⟨#[], #[.slice none 0 0, .agg #[.int .u32 0, .slice none 0 0, .slice none 0 0]], []⟩ 8 (by kernel_rfl) (by kernel_rfl) (by kernel_rfl) (by kernel_rfl)) ?_
  intro W base args ds gs before hval0 hW hcnd hsz0 _
  have hsz : (DataW.weightsEach Try.prog (Try.f6.params.toList ++ Rows.accelOldSpec.plain.varTypes Try.prog) (ds ++ gs)).all (· ≤ reachBytes) = true := hsz0
  have hval : ∀ (j : Nat) t v, Try.f6.params[j]? = some t → args[j]? = some v → Value.okWide Try.prog W .any base t v := hval0
  have hW' := hW
  obtain ⟨p, q, hA0, hV, rfl, hfz, hnd⟩ := hW
  have hA : DataW.TrodAll enc Try.prog W 0 (fun _ => true) true Try.f6.params.toList args.toList ds p := hA0
  rw [Try.params6] at hA hval hsz
  obtain ⟨v0, vs0, d0, ds0, p0, q0, hargs, rfl, rfl, h0, r0⟩ := trodAll_cons hA
  obtain ⟨v1, vs1, d1, ds1, p1, q1, rfl, rfl, rfl, h1, r1⟩ := trodAll_cons r0
  obtain ⟨rfl, rfl, rfl⟩ := trodAll_nil r1
  obtain rfl : args = #[v0, v1] := by cases args; simp_all
  obtain ⟨rfl, rfl⟩ := trodVars_none hV
  obtain ⟨A0, len0, c0, rfl⟩ := okWide_slice Try.underlying41 (hval 0 41 v0 rfl rfl)
  have k0 := h0
  have lt0 : ∀ x ∈ p0, x.block < W.heap.size := by obtain ⟨m, hm⟩ := k0; exact DataW.trod_lt m _ _ _ hm
  obtain ⟨z0, wz0⟩ : ∃ zs, IsRow .u8 W A0 len0 c0 zs := by
    obtain ⟨fuel, hf⟩ := h0
    rcases open_ints Try.underlying41 Try.underlying5 (by kernel_rfl) hf with ⟨hcs, _⟩ | ⟨x, l, c, zs, hcs, _, hl, hm, hz, _, hcell, hwz⟩
    · simp [Value.cells] at hcs
      obtain ⟨rfl, rfl, rfl⟩ := hcs
      exact ⟨[], .inl ⟨rfl, rfl, rfl, rfl⟩⟩
    · simp [Value.cells] at hcs
      obtain ⟨rfl, rfl, rfl⟩ := hcs
      exact ⟨zs, .inr ⟨_, rfl, hl, hm, by simpa using hz, hcell, hwz⟩⟩
  have y0 : len0 * 1 ≤ 140737488351232 := sized_ints hsz (j := 0) (t := 41) rfl rfl Try.underlying41 Try.underlying5 (by kernel_rfl) (by kernel_rfl) h0
  obtain ⟨l0, rfl, hr0, hm0, w0, hc0⟩ := ReadsInt.ofRowC wz0
  replace hr0 : Kd.C (Kd.int .u8) W A0 l0.length l0 := Kd.C_of_reads (d := (0 : Int)) (h1 := fun _ => rfl) hr0
  have k1 := h1
  have lt1 : ∀ x ∈ p1, x.block < W.heap.size := by obtain ⟨m, hm⟩ := k1; exact DataW.trod_lt m _ _ _ hm
  obtain ⟨c1_0, c1_1, c1_2, y1_0, y1_1, y1_2, m1, rfl, rfl, rfl, hy1_0, hy1_1, hy1_2⟩ := Joins.open_agg3 Try.underlying50 (by kernel_rfl) cells50 (hval 1 50 v1 rfl rfl) h1
  obtain ⟨a1_0, e1_0, rfl, w1_0⟩ := DataW.trod_int Try.underlying29 hy1_0
  simp only [List.cons.injEq, and_true] at e1_0
  subst e1_0
  obtain ⟨A1_1, len1_1, cp1_1, z1_1, hz1_1, wz1_1⟩ : ∃ A n c zs, c1_1 = .slice A n c ∧ IsRow .u32 W A n c zs := by
    rcases open_ints Try.underlying27 Try.underlying29 (by kernel_rfl) hy1_1 with ⟨hcs, _⟩ | ⟨x, l, c, zs, hcs, _, hl, hm, hz, _, hcell, hwz⟩
    · simp only [List.cons.injEq, and_true] at hcs
      exact ⟨none, 0, 0, [], hcs, .inl ⟨rfl, rfl, rfl, rfl⟩⟩
    · simp only [List.cons.injEq, and_true] at hcs
      exact ⟨some x, l, c, zs, hcs, .inr ⟨_, rfl, hl, hm, by simpa using hz, hcell, hwz⟩⟩
  subst hz1_1
  obtain ⟨l1_1, rfl, hr1_1, hm1_1, w1_1, hc1_1⟩ := ReadsInt.ofRowC wz1_1
  replace hr1_1 : Kd.C (Kd.int .u32) W A1_1 l1_1.length l1_1 := Kd.C_of_reads (d := (0 : Int)) (h1 := fun _ => rfl) hr1_1
  obtain ⟨A1_2, len1_2, cp1_2, z1_2, hz1_2, wz1_2⟩ : ∃ A n c zs, c1_2 = .slice A n c ∧ IsRow .u32 W A n c zs := by
    rcases open_ints Try.underlying27 Try.underlying29 (by kernel_rfl) hy1_2 with ⟨hcs, _⟩ | ⟨x, l, c, zs, hcs, _, hl, hm, hz, _, hcell, hwz⟩
    · simp only [List.cons.injEq, and_true] at hcs
      exact ⟨none, 0, 0, [], hcs, .inl ⟨rfl, rfl, rfl, rfl⟩⟩
    · simp only [List.cons.injEq, and_true] at hcs
      exact ⟨some x, l, c, zs, hcs, .inr ⟨_, rfl, hl, hm, by simpa using hz, hcell, hwz⟩⟩
  subst hz1_2
  obtain ⟨l1_2, rfl, hr1_2, hm1_2, w1_2, hc1_2⟩ := ReadsInt.ofRowC wz1_2
  replace hr1_2 : Kd.C (Kd.int .u32) W A1_2 l1_2.length l1_2 := Kd.C_of_reads (d := (0 : Int)) (h1 := fun _ => rfl) hr1_2
  clear hA0 hval0 hsz0 hsz
  refine (walk _ _ l0 a1_0 _ _ l1_1 _ _ l1_2 W hr0 hc0 hm0 y0 w0 w1_0 hr1_1 hc1_1 w1_1 hr1_2 hc1_2 w1_2).mono fun e W' ⟨he, bel⟩ => ?_
  subst he
  exact ⟨_, rfl, _, _, _, [], _, [], hW', trodAll_mk1 (shut_bool Try.underlying4 _), (trodAll_cons_mk (Below.trod k2 (by kernel_rfl) (of_decide_eq_true (by kernel_rfl)) k0 bel lt0) (trodAll_cons_mk (Below.trod k2 (by kernel_rfl) (of_decide_eq_true (by kernel_rfl)) k1 bel lt1) trodAll_mk0)), rfl, bel.frame _, fun h => by cases h⟩
theorem named : Try.pinned.checked.prog.funcNamed Rows.accelOldRow.func = some 6 := by kernel_rfl

theorem k3 : mapsRowed Try.prog = true := by kernel_rfl
theorem k10 : (Rows.accelOldRow.inPlace == Try.prog.inPlace 6) = true := by kernel_rfl
theorem k11 : (Rows.accelOldRow.unfollowed == Try.prog.unfollowed 6) = true := by kernel_rfl
theorem k12 : (Rows.accelOldRow.recurses == Try.prog.recurses 6) = true := by kernel_rfl
theorem k13 : (Rows.accelOldRow.named == Try.prog.varsNamed 6) = true := by kernel_rfl
theorem k22 : (Rows.accelOldRow.plainKeys == Try.prog.plainKeys) = true := by kernel_rfl
set_option maxHeartbeats 8000000 in
theorem closed : joinedFacts Try.pinned.checked.prog 6 Try.f6 Rows.accelOldSpec Rows.accelOldRow = true := by
  unfold joinedFacts
  repeat' (with_reducible refine and_true_of ?_ ?_)
  all_goals first | with_reducible exact k2 | with_reducible exact k3 | with_reducible exact k10 | with_reducible exact k11 | with_reducible exact k12 | with_reducible exact k13 | with_reducible exact k22 | (as_aux_lemma => kernel_rfl)
theorem inst : Func.isInstance Try.pinned.checked.prog Try.f6 Rows.accelOldRow.origin Rows.accelOldRow.targs := of_decide_eq_true (by kernel_rfl)
theorem wrap : Func.isWrapper Try.pinned.checked.prog Try.f6 Rows.accelOldRow.wrapper Rows.accelOldRow.mainSum := by unfold Func.isWrapper; first | (rw [if_pos (by decide +kernel)]; kernel_rfl) | (rw [if_neg (by decide +kernel)]; exact ⟨rfl, rfl⟩)
theorem over : Rows.accelOldRow.holds Try.pinned (OpenSpec.ofChange Rows.accelOldSpec) :=
  OpenClaim.holds_of_wide 6 Try.f6 rfl rfl rfl rfl rfl rfl rfl ⟨rfl, rfl, rfl, rfl, rfl⟩ rfl rfl rfl rfl rfl named Try.func6 closed inst wrap
    (fun os started H enc _ => lifted os started H enc)
theorem proved : Rows.AccelOldSaid := over
end Go.Proofs.Ytmpiifjckhcbmaa.accelOld
namespace Go.Proofs.Ytmpiifjckhcbmaa
/-- The row, under a short name, for the claim. -/
theorem accelOld_holds : Rows.AccelOldSaid := accelOld.proved
#print axioms accelOld_holds
end Go.Proofs.Ytmpiifjckhcbmaa
