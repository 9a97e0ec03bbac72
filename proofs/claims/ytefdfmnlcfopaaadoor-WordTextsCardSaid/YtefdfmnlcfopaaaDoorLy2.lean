/- The tables and the two errors that a row lists: met where the program's own text lays them; what they tell a walk. -/
import Derived.Test.YtefdfmnlcfopaaaDoorLy
import Derived.Test.YtefdfmnlcfopaaaDoorPQx18
namespace Go.Proofs.YtefdfmnlcfopaaaDoor.PQ
open Go.RowKit
set_option linter.all false
set_option maxRecDepth 100000
def laid5 : List (String × DataW Unit) := [("math/bits.deBruijn32tab", Rows.laid_math_bits_deBruijn32tab), ("math/bits.deBruijn64tab", Rows.laid_math_bits_deBruijn64tab), ("internal/strconv.uint64pow10", Rows.laid_internal_strconv_uint64pow10), ("strconv.ErrRange", Rows.laid_strconv_ErrRange), ("strconv.ErrSyntax", Rows.laid_strconv_ErrSyntax)]
theorem vRng : ∃ g, Tryd.prog.globalNamed "strconv.ErrRange" = some g ∧ (Tryd.prog.globals[g]?).map (·.type) = some 56 := ⟨(Tryd.prog.globalNamed "strconv.ErrRange").getD 0, by kernel_rfl, by kernel_rfl⟩
theorem vSyn : ∃ g, Tryd.prog.globalNamed "strconv.ErrSyntax" = some g ∧ (Tryd.prog.globals[g]?).map (·.type) = some 56 := ⟨(Tryd.prog.globalNamed "strconv.ErrSyntax").getD 0, by kernel_rfl, by kernel_rfl⟩
theorem cells82 : Tryd.prog.cellsOf 82 = 1 := by kernel_rfl
theorem cells9 : Tryd.prog.cellsOf 9 = 1 := by kernel_rfl
theorem star_ : "*" ++ "errors.errorString" = "*errors.errorString" := by decide
theorem row80 (u : TypeId) (h : Tryd.prog.typeName? 3 u = some "*errors.errorString") : u = 80 :=
  typeName_ptr_named (nm := "errors.errorString") (by rw [star_]; kernel_rfl) (by kernel_rfl) (by decide) u (by rw [star_]; exact h)
theorem tabN_of {W : World} (h : laidMetH Tryd.prog laid5 W) : TabN W := by
  rw [MakeChecks.laidMetH_plain _ _ _ (by kernel_rfl)] at h
  have h2 := h.tail.tail
  have h3 := h2.tail
  have h4 := h3.tail
  rw [powData] at h2
  obtain ⟨g, hg, t, ht, hu, hc⟩ := gPow
  obtain ⟨g1, r1, r2⟩ := vRng
  obtain ⟨g2, s1, s2⟩ := vSyn
  obtain ⟨a, s, hv, -⟩ := laid_sentinel h3 r1 r2 Tryd.underlying56 row80 Tryd.underlying80 Tryd.underlying82 rfl rfl Tryd.underlying9 cells82 cells9
  obtain ⟨b, s', hv', -⟩ := laid_sentinel h4 s1 s2 Tryd.underlying56 row80 Tryd.underlying80 Tryd.underlying82 rfl rfl Tryd.underlying9 cells82 cells9
  exact ⟨Lib.tabIs_of_head hg ht hu Tryd.underlying52 (by kernel_rfl) hc h2, ⟨_, _, hv'⟩, ⟨_, _, hv⟩⟩
theorem door_met5 (os : Os) (args : Array Value) : laidMetH Tryd.prog laid5 ((World.doorLaid Tryd.prog 4000 os).forCall (fun _ _ => 0) ⟨#[], args, []⟩).memory :=
  laidMetH_of_parts3 (fuel := 8) (laidMet_of_run' 8 (by kernel_rfl) (by kernel_rfl)) (by kernel_rfl) (by kernel_rfl)
end Go.Proofs.YtefdfmnlcfopaaaDoor.PQ
