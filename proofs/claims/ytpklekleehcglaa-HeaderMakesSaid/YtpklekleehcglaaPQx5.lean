-- by a program of this claim
import Derived.Test.YtpklekleehcglaaPQx0
namespace Go.Proofs.Ytpklekleehcglaa.PQ
open Go.RowKit Go.Proofs.YtpklekleehcglaaW.PrintWords Go.Proofs.YtpklekleehcglaaW.PrintLast Go.Proofs.YtpklekleehcglaaW.PrintMore Go.Proofs.Ytpklekleehcglaa.Z
attribute [local go_sem] max2_int min2_int max_two min_two max_three min_three max_four min_four   -- for this text's walks alone
set_option linter.unusedVariables false
set_option linter.unusedSimpArgs false

/-! ### grottolaw07_num: function 14 -/
def grottolaw07_num.f (a0 : Int) : Option (Int) := some a0
set_option maxHeartbeats 8000000 in
set_option maxRecDepth 100000 in
theorem grottolaw07_num.calls (a0 : Int) (r : Int) (w : World) (h : grottolaw07_num.f a0 = some r) :
    Calls Try.prog 14 #[.int .i64 a0] w fun e w' => e = .returned (.int .i64 r) ∧ Drawn0 w w' := by
  have H : (some a0) = some r := h
  clear h
  obtain rfl := Option.some.inj H
  go_enter Try.func14, Try.ntmps14
  go_wp2
  go_ret
  exact ⟨by first | rfl | (simp; done) | (simp [*]; done), by repeat (first | exact Drawn0.refl _ | apply Drawn0.step)⟩

/-! ### grottolaw07_small: function 22 -/
def grottolaw07_small.f  : Option (Int × Int × Int × Int × Int × Int × Int × Int) := some (196867, 256, 256, 512, 256, 36, 0, 0)
set_option maxHeartbeats 8000000 in
set_option maxRecDepth 100000 in
theorem grottolaw07_small.calls  (r1 : Int) (r2 : Int) (r3 : Int) (r4 : Int) (r5 : Int) (r6 : Int) (r7 : Int) (r8 : Int) (w : World) (h : grottolaw07_small.f  = some (r1, r2, r3, r4, r5, r6, r7, r8)) :
    Calls Try.prog 22 #[] w fun e w' => e = .returned (.agg #[.int .u32 r1, .int .u32 r2, .int .u32 r3, .int .u32 r4, .int .u32 r5, .int .u32 r6, .int .u32 r7, .int .u32 r8]) ∧ Below w.heap.size w w' := by
  have hu27 := Try.underlying27
  have HB := Aside0.mk (Below.refl w.heap.size w)
  have H : (some (196867, 256, 256, 512, 256, 36, 0, 0)) = some (r1, r2, r3, r4, r5, r6, r7, r8) := h
  clear h
  simp only [Option.some.injEq, Prod.mk.injEq] at H
  obtain ⟨rfl, rfl, rfl, rfl, rfl, rfl, rfl, rfl⟩ := H
  go_enter Try.func22, Try.ntmps22
  go_wp2_with (first | ((with_reducible refine gate_dst (N := 0) rfl ?_); refine zbox (N := 0) (cs := #[.int .u32 0, .int .u32 0, .int .u32 0, .int .u32 0, .int .u32 0, .int .u32 0, .int .u32 0, .int .u32 0]) (t := 27) ?_; intro gb174 hg w1 hbox hb; have BK174 := Aside0.mk hbox; have GW174 := zge hg HB; have GE174 := zge hg HB; replace HB := zbs HB hb; clear hb hbox hg; have hcz2_0 : w1.cell? ⟨gb174, 0, none⟩ = some (.int .u32 0) := (blk_cell BK174.out 0).trans rfl; have hcz2_1 : w1.cell? ⟨gb174, 1, none⟩ = some (.int .u32 0) := (blk_cell BK174.out 1).trans rfl; have hcz2_2 : w1.cell? ⟨gb174, 2, none⟩ = some (.int .u32 0) := (blk_cell BK174.out 2).trans rfl; have hcz2_3 : w1.cell? ⟨gb174, 3, none⟩ = some (.int .u32 0) := (blk_cell BK174.out 3).trans rfl; have hcz2_4 : w1.cell? ⟨gb174, 4, none⟩ = some (.int .u32 0) := (blk_cell BK174.out 4).trans rfl; have hcz2_5 : w1.cell? ⟨gb174, 5, none⟩ = some (.int .u32 0) := (blk_cell BK174.out 5).trans rfl; have hcz2_6 : w1.cell? ⟨gb174, 6, none⟩ = some (.int .u32 0) := (blk_cell BK174.out 6).trans rfl; have hcz2_7 : w1.cell? ⟨gb174, 7, none⟩ = some (.int .u32 0) := (blk_cell BK174.out 7).trans rfl; have hfz2_0 := blk_frozen BK174.out 0; have hfz2_1 := blk_frozen BK174.out 1; have hfz2_2 := blk_frozen BK174.out 2; have hfz2_3 := blk_frozen BK174.out 3; have hfz2_4 := blk_frozen BK174.out 4; have hfz2_5 := blk_frozen BK174.out 5; have hfz2_6 := blk_frozen BK174.out 6; have hfz2_7 := blk_frozen BK174.out 7))
  refine bodyPost_ret (results_cell_row rfl _ _ gb174 27 #[.int .u32 196867, .int .u32 256, .int .u32 256, .int .u32 512, .int .u32 256, .int .u32 36, .int .u32 0, .int .u32 0] (0, 0) _ rfl (zkp BK174) Try.underlying27 rfl (by kernel_rfl)) rfl ?_
  exact ⟨by first | rfl | (simp [errW_none, errW_some] <;> rfl) | (simp [*, errW_none, errW_some] <;> rfl), zb HB⟩

end Go.Proofs.Ytpklekleehcglaa.PQ
