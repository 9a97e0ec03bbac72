/- A slice of any kind, opened out of the row's data; the kind of an Act (seat r18). -/
import Derived.Test.YtmpiifjckhcbmaaLC
import Derived.ProofKit
import Derived.OpenShut
import Derived.ChangeOld
import Derived.Lib.SmallJoins
import Derived.Deep.Strs
namespace Go.Proofs.Ytmpiifjckhcbmaa.PQ
set_option linter.all false
open Go.ChangeShapes Go.WideShapes Go.ChangeAt
open Go.RowKit Go.Proofs.YtmpiifjckhcbmaaW.PrintWords Go.Proofs.YtmpiifjckhcbmaaW.PrintLast Go.Proofs.YtmpiifjckhcbmaaW.PrintMore Go.Proofs.Ytmpiifjckhcbmaa.Z Go.Proofs.Ytmpiifjckhcbmaa.Pure
set_option linter.unusedVariables false
set_option linter.unusedSimpArgs false
theorem open_kd {α H : Type} {enc : TypeId × Value → H} (d : Kd α) {good : α → Prop} {P : Program} {w : World} {base fuel : Nat} {spare : Nat → Bool} {held : Bool} {t e : TypeId} {cs : List Value} {X : DataW H × List MemPlace} (ht : P.underlying t = some (.slice e)) (hc : P.cellsOf e = d.sz)
    (hel : ∀ (m : Nat) (cs : List Value) (y : DataW H × List MemPlace), DataW.trod enc P w base spare held m e cs = some y → ∃ x, d.K w x cs ∧ good x)
    (h : DataW.trod enc P w base spare held fuel t cs = some X) : ∃ (A : Option Addr) (c : Nat) (L : List α), cs = [.slice A L.length c] ∧ L.length ≤ c ∧ L.length ≤ maxLen ∧ d.C w A L.length L ∧ ∀ x ∈ L, good x := by
  rcases DataW.trod_slice ht h with ⟨h0, _⟩ | ⟨a, len, cap, elems, rest, n, _, rfl, rfl, hb, hl, hm, hlen, hee, hsp, hns⟩
  · exact ⟨none, 0, [], h0, Nat.le_refl _, by simp, Kd.C_nil d w, fun x hx => by cases hx⟩
  · have each : ∀ i : Fin len, ∃ x : α, ∃ cs' : List Value, cs'.length = d.sz ∧ d.K w x cs' ∧ good x ∧ ∀ j u, cs'[j]? = some u → w.cell? (a.add (i.1 * d.sz + j)) = some u := by
      intro ⟨i, hi⟩
      have h1 := hee i hi
      rw [List.getElem?_eq_getElem (by omega), Option.bind_eq_some_iff] at h1
      obtain ⟨cs', hcs, hy⟩ := h1
      obtain ⟨x, hx, hg⟩ := hel n cs' _ hy
      have hq := World.cells?_some hcs
      rw [hc] at hq
      exact ⟨x, cs', hq.2.1, hx, hg, fun j u hu => by
        have hj : j < d.sz := by
          rcases Nat.lt_or_ge j d.sz with h | h
          · exact h
          · rw [List.getElem?_eq_none (by rw [hq.2.1]; exact h)] at hu
            cases hu
        have := hq.2.2 j hj
        rw [add_add, hu] at this
        exact this⟩
    obtain ⟨f, hf⟩ := Classical.axiomOfChoice each
    have hL : (List.ofFn f).length = len := List.length_ofFn
    refine ⟨some a, cap, List.ofFn f, by rw [hL], by omega, by omega, ⟨rfl, by rw [hL]; unfold maxLen at hm; omega, fun _ => ⟨a, rfl, fun j p hj => ?_⟩⟩, fun x hx => ?_⟩
    · rw [List.getElem?_ofFn] at hj
      split at hj
      · rename_i hlt
        injection hj with hj
        subst hj
        obtain ⟨cs', h1, h2, h3, h4⟩ := hf ⟨j, hlt⟩
        exact ⟨cs', h1, h2, h4⟩
      · cases hj
    · obtain ⟨i, rfl⟩ := List.mem_ofFn.1 hx
      obtain ⟨cs', h1, h2, h3, h4⟩ := hf i
      exact h3
/-- an Act -/
abbrev Act3 := Int × Int × Int
def kAct : Kd Act3 := Kd.pair (Kd.int .i64) (Kd.pair (Kd.int .u32) (Kd.int .u32))
def okAct (x : Act3) : Prop := (Lit.int .i64 x.1).wf = true ∧ (Lit.int .u32 x.2.1).wf = true ∧ (Lit.int .u32 x.2.2).wf = true
theorem kAct_open {w : World} {x : Act3} {cs : List Value} (h : kAct.K w x cs) : cs = [.int .i64 x.1, .int .u32 x.2.1, .int .u32 x.2.2] := by
  obtain ⟨_, _, rfl, rfl, ⟨_, _, rfl, rfl, rfl⟩⟩ := h
  rfl
theorem kAct_mk (w : World) (a b c : Int) : kAct.K w (a, b, c) [.int .i64 a, .int .u32 b, .int .u32 c] := ⟨[.int .i64 a], [.int .u32 b, .int .u32 c], rfl, rfl, ⟨[.int .u32 b], [.int .u32 c], rfl, rfl, rfl⟩⟩
def rdA (L : List Act3) (i : Nat) : Act3 := L.getD i (0, 0, 0)
theorem at_act {w : World} {A : Option Addr} {n : Nat} {L : List Act3} (h : Kd.C kAct w A n L) (i : Nat) (h1 : i < n) : ∃ ad, A = some ad ∧ w.cell? (ad.add (i * 3)) = some (.int .i64 (rdA L i).1) ∧ w.cell? ⟨(ad.add (i * 3)).block, (ad.add (i * 3)).off + 1, none⟩ = some (.int .u32 (rdA L i).2.1) ∧ w.cell? ⟨(ad.add (i * 3)).block, (ad.add (i * 3)).off + 2, none⟩ = some (.int .u32 (rdA L i).2.2) := by
  obtain ⟨ad, c, e, _, hK, hc0⟩ := Kd.C_get h (0, 0, 0) (i : Int) (by omega) (by omega)
  rw [Int.toNat_natCast] at hK hc0
  have hc : ∀ j u, c[j]? = some u → w.cell? (ad.add (i * 3 + j)) = some u := hc0
  have hcs := kAct_open hK
  subst hcs
  exact ⟨ad, e, hc 0 _ rfl, by rw [← add_field _ _ 1 (by omega)]; exact hc 1 _ rfl, by rw [← add_field _ _ 2 (by omega)]; exact hc 2 _ rfl⟩
theorem cells3 : Try.prog.cellsOf 3 = 1 := by kernel_rfl
theorem cells29 : Try.prog.cellsOf 29 = 1 := by kernel_rfl
theorem cellsA : Try.prog.cellsOf 56 = 3 := by kernel_rfl
theorem open_acts {H : Type} {enc : TypeId × Value → H} {w : World} {base fuel : Nat} {spare : Nat → Bool} {held : Bool} {cs : List Value} {X : DataW H × List MemPlace} (h : DataW.trod enc Try.prog w base spare held fuel 52 cs = some X) :
    ∃ (A : Option Addr) (c : Nat) (L : List Act3), cs = [.slice A L.length c] ∧ L.length ≤ c ∧ L.length ≤ maxLen ∧ Kd.C kAct w A L.length L ∧ ∀ x ∈ L, okAct x := by
  refine open_kd kAct (good := okAct) Try.underlying52 cellsA (fun m cs y hy => ?_) h
  obtain ⟨y0, y1, y2, n, rfl, hl, h0, h1, h2⟩ := Go.Deep.trod_struct3 Try.underlying56 hy
  obtain ⟨a, e0, rfl, w0⟩ := DataW.trod_int Try.underlying3 h0
  obtain ⟨b, e1, rfl, w1⟩ := DataW.trod_int Try.underlying29 h1
  obtain ⟨c, e2, rfl, w2⟩ := DataW.trod_int Try.underlying29 h2
  have hl3 : cs.length = 3 := hl.trans cellsA
  obtain ⟨c0, c1, c2, rfl⟩ : ∃ c0 c1 c2, cs = [c0, c1, c2] := by
    rcases cs with _ | ⟨c0, cs⟩
    · cases hl3
    · rcases cs with _ | ⟨c1, cs⟩
      · cases hl3
      · rcases cs with _ | ⟨c2, cs⟩
        · cases hl3
        · rcases cs with _ | ⟨c3, cs⟩
          · exact ⟨c0, c1, c2, rfl⟩
          · simp only [List.length_cons] at hl3
            omega
  dsimp only at e0 e1 e2
  rw [cells3] at e0
  rw [cells29] at e1 e2
  have k0 : [c0] = [Value.int .i64 a] := e0
  have k1 : [c1] = [Value.int .u32 b] := e1
  have k2 : [c2] = [Value.int .u32 c] := e2
  simp only [List.cons.injEq, and_true] at k0 k1 k2
  subst k0 k1 k2
  exact ⟨(a, b, c), kAct_mk w a b c, w0, w1, w2⟩
end Go.Proofs.Ytmpiifjckhcbmaa.PQ
