-- by a program of this claim
import Derived.Test.YtefdfmnlcfopaaaDoorPQx0
import Derived.Test.YtefdfmnlcfopaaaDoorSi
import Derived.Lib.AtoiErrMem
import Derived.Lib.SmallJoins
import Derived.Test.YtefdfmnlcfopaaaDoorPQx1
namespace Go.Proofs.YtefdfmnlcfopaaaDoor.PQ
open Go.RowKit Go.Proofs.YtefdfmnlcfopaaaDoorW.PrintWords Go.Proofs.YtefdfmnlcfopaaaDoorW.PrintLast Go.Proofs.YtefdfmnlcfopaaaDoorW.PrintMore Go.Proofs.YtefdfmnlcfopaaaDoor.Z
attribute [local go_sem] max2_int min2_int max_two min_two max_three min_three max_four min_four   -- for this text's walks alone
set_option linter.unusedVariables false
set_option linter.unusedSimpArgs false

/-! ### word_Number: function 38 -/
/-- the table, and the library's two errors, as they are laid -/
structure TabN (w : World) : Prop where
  tab : Tab w
  syn : ∃ tp p, w.var? Tryd.prog "strconv.ErrSyntax" = some #[.iface tp p]
  rng : ∃ tp p, w.var? Tryd.prog "strconv.ErrRange" = some #[.iface tp p]
theorem gSyn : ∃ g, Tryd.prog.globalNamed "strconv.ErrSyntax" = some g := ⟨(Tryd.prog.globalNamed "strconv.ErrSyntax").getD 0, by kernel_rfl⟩
theorem gRng : ∃ g, Tryd.prog.globalNamed "strconv.ErrRange" = some g := ⟨(Tryd.prog.globalNamed "strconv.ErrRange").getD 0, by kernel_rfl⟩
theorem tbn {w W0 W : World} (h : TabN w) (hb : Aside0 (Below w.heap.size w W0)) (t : Aside0 (Below w.heap.size w W0) → Below w.heap.size w W := by intro h; exact zb h) : TabN W := by
  obtain ⟨g1, h1⟩ := gSyn
  obtain ⟨g2, h2⟩ := gRng
  obtain ⟨a, b, hs⟩ := h.syn
  obtain ⟨c, d, hr⟩ := h.rng
  exact ⟨Lib.tabBelow_of_tabIs h.tab W (t hb), ⟨a, b, Go.Joins.var_stays h1 hs (t hb) (Nat.le_refl _)⟩, ⟨c, d, Go.Joins.var_stays h2 hr (t hb) (Nat.le_refl _)⟩⟩
def word_Number.f (s : ByteArray) : Option (Int × Bool) :=
  if (11 : Int) < (s.size : Int) then some (0, false) else
  match Lib.parseIntB 32 s.data.toList with
  | .ok n => (word_Decimal.f (n % 4294967296)).bind fun d => if d.toList = s.toList then some (n % 4294967296, true) else some (0, false)
  | .syntax => some (0, false)
  | .range => some (0, false)
theorem ok_below {W W1 : World} (h : W1 = W ∨ ∃ t, W1 = Lib.bytesWorld W 5 t) : Below W.heap.size W W1 := by
  rcases h with rfl | ⟨t, rfl⟩
  · exact Below.refl _ _
  · exact Lib.bytesWorld_below _ _ _
theorem word_Number.calls (s : ByteArray) (r1 : Int) (r2 : Bool) (w : World) (HT : TabN w) (h : word_Number.f s = some (r1, r2)) : Calls Tryd.prog 38 #[.string s] w fun e w' => e = .returned (.tuple #[.int .u32 r1, .bool r2]) ∧ Below w.heap.size w w' := by
  have HB := Aside0.mk (Below.refl w.heap.size w)
  by_cases c : (11 : Int) < (s.size : Int)
  · have c0 : decide ((11 : Int) < (s.size : Int)) = true := decide_eq_true c
    rw [word_Number.f, if_pos c] at h
    simp only [Option.some.injEq, Prod.mk.injEq] at h
    obtain ⟨rfl, rfl⟩ := h
    go_enter Tryd.func38, Tryd.ntmps38
    go_wp2
    go_ret2
    exact ⟨by first | rfl | (simp; done) | (simp [*]; done), zb HB⟩
  · have c0 : decide ((11 : Int) < (s.size : Int)) = false := decide_eq_false c
    have hsz : s.size ≤ 11 := by omega
    rw [word_Number.f, if_neg c] at h
    cases hp : Lib.parseIntB 32 s.data.toList with
    | ok n =>
      rw [hp] at h
      dsimp only at h
      obtain ⟨d, hd, h⟩ := Option.bind_eq_some_iff.mp h
      by_cases e : d.toList = s.toList
      · rw [if_pos e] at h
        have e0 : (d.toList == s.toList) = true := beq_iff_eq.mpr e
        have e1 : (d.toList != s.toList) = false := bne_eq_false_iff_eq.mpr e
        simp only [Option.some.injEq, Prod.mk.injEq] at h
        obtain ⟨rfl, rfl⟩ := h
        go_enter Tryd.func38, Tryd.ntmps38
        go_wp2_with (first | (go_at_call 45; refine (Tryd.strconv_ParseInt_10_at32_ok s (by omega) n hp _).mono ?_; rintro e w7 ⟨rfl, hw⟩; replace HB := zbs HB (ok_below hw)) | (go_at_call 40; refine (word_Decimal.calls (n % 4294967296) d _ (tbl HT.tab HB) hd).mono ?_; rintro e w8 ⟨rfl, hb⟩; replace HB := zbs HB hb))
        go_ret2
        exact ⟨by first | rfl | (simp; done) | (simp [*]; done), zb HB⟩
      · rw [if_neg e] at h
        have e0 : (d.toList == s.toList) = false := beq_eq_false_iff_ne.mpr e
        have e1 : (d.toList != s.toList) = true := bne_iff_ne.mpr e
        simp only [Option.some.injEq, Prod.mk.injEq] at h
        obtain ⟨rfl, rfl⟩ := h
        go_enter Tryd.func38, Tryd.ntmps38
        go_wp2_with (first | (go_at_call 45; refine (Tryd.strconv_ParseInt_10_at32_ok s (by omega) n hp _).mono ?_; rintro e w7 ⟨rfl, hw⟩; replace HB := zbs HB (ok_below hw)) | (go_at_call 40; refine (word_Decimal.calls (n % 4294967296) d _ (tbl HT.tab HB) hd).mono ?_; rintro e w8 ⟨rfl, hb⟩; replace HB := zbs HB hb))
        go_ret2
        exact ⟨by first | rfl | (simp; done) | (simp [*]; done), zb HB⟩
    | «syntax» =>
      rw [hp] at h
      simp only [Option.some.injEq, Prod.mk.injEq] at h
      obtain ⟨rfl, rfl⟩ := h
      obtain ⟨tp, p, hv⟩ := HT.syn
      go_enter Tryd.func38, Tryd.ntmps38
      go_wp2_with (first | (go_at_call 45; refine (Tryd.strconv_ParseInt_10_at32_syntax_var s (by omega) hp tp p _ hv).mono ?_; rintro e w7 ⟨N, rfl, hN, hcell, hb⟩; replace HB := zbs HB hb))
      go_ret2
      exact ⟨by first | rfl | (simp; done) | (simp [*]; done), zb HB⟩
    | range =>
      rw [hp] at h
      simp only [Option.some.injEq, Prod.mk.injEq] at h
      obtain ⟨rfl, rfl⟩ := h
      obtain ⟨tp, p, hv⟩ := HT.rng
      go_enter Tryd.func38, Tryd.ntmps38
      go_wp2_with (first | (go_at_call 45; refine (Tryd.strconv_ParseInt_10_at32_range_var s (by omega) hp tp p _ hv).mono ?_; rintro e w7 ⟨N, rfl, hN, hcell, hb⟩; replace HB := zbs HB hb))
      go_ret2
      exact ⟨by first | rfl | (simp; done) | (simp [*]; done), zb HB⟩

end Go.Proofs.YtefdfmnlcfopaaaDoor.PQ
