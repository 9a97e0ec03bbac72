-- by a program of this claim
import Derived.Test.YtmpiifjckhcbmaaPQx0
import Derived.Test.YtmpiifjckhcbmaaPQx4
namespace Go.Proofs.Ytmpiifjckhcbmaa.PQ
open Go.RowKit Go.Proofs.YtmpiifjckhcbmaaW.PrintWords Go.Proofs.YtmpiifjckhcbmaaW.PrintLast Go.Proofs.YtmpiifjckhcbmaaW.PrintMore Go.Proofs.Ytmpiifjckhcbmaa.Z
attribute [local go_sem] max2_int min2_int max_two min_two max_three min_three max_four min_four   -- for this text's walks alone
set_option linter.unusedVariables false
set_option linter.unusedSimpArgs false

/-! ### grottoref07_Parse: function 44 -/
theorem cells8r {w : World} {g t : Nat} {a0 a1 a2 a3 a4 a5 a6 a7 : Value} (h : w.heap[g]? = some (.cells #[a0, a1, a2, a3, a4, a5, a6, a7] t (0, 0))) : w.cell? ⟨g, 0, none⟩ = some a0 ∧ w.cell? ⟨g, 1, none⟩ = some a1 ∧ w.cell? ⟨g, 2, none⟩ = some a2 ∧ w.cell? ⟨g, 3, none⟩ = some a3 ∧ w.cell? ⟨g, 4, none⟩ = some a4 ∧ w.cell? ⟨g, 5, none⟩ = some a5 ∧ w.cell? ⟨g, 6, none⟩ = some a6 ∧ w.cell? ⟨g, 7, none⟩ = some a7 ∧ w.frozen? ⟨g, 0, none⟩ = false ∧ w.frozen? ⟨g, 1, none⟩ = false ∧ w.frozen? ⟨g, 2, none⟩ = false ∧ w.frozen? ⟨g, 3, none⟩ = false ∧ w.frozen? ⟨g, 4, none⟩ = false ∧ w.frozen? ⟨g, 5, none⟩ = false ∧ w.frozen? ⟨g, 6, none⟩ = false ∧ w.frozen? ⟨g, 7, none⟩ = false :=
  ⟨(blk_cell h 0).trans rfl, (blk_cell h 1).trans rfl, (blk_cell h 2).trans rfl, (blk_cell h 3).trans rfl, (blk_cell h 4).trans rfl, (blk_cell h 5).trans rfl, (blk_cell h 6).trans rfl, (blk_cell h 7).trans rfl, blk_frozen h 0, blk_frozen h 1, blk_frozen h 2, blk_frozen h 3, blk_frozen h 4, blk_frozen h 5, blk_frozen h 6, blk_frozen h 7⟩
def grottoref07_Parse.tail (k : Nat) (x0 : List Int) (t248 t249 t250 t251 t252 t253 t254 t255 : Int) : Option (Int × Int × Int × Int × Int × Int × Int × Int × Int × Int) := (if t248 < 131072 then some (0, 0, 0, 0, 0, 0, 0, 0, 70, 4) else (if t248 > 197119 then some (0, 0, 0, 0, 0, 0, 0, 0, 70, 4) else (if t249 < 256 then some (0, 0, 0, 0, 0, 0, 0, 0, 71, 8) else (if ¬ (Int.tmod t249 256 = 0) then some (0, 0, 0, 0, 0, 0, 0, 0, 71, 8) else (if t250 < t249 then some (0, 0, 0, 0, 0, 0, 0, 0, 71, 12) else (if ¬ (t250 = (x0.length : Int)) then some (0, 0, 0, 0, 0, 0, 0, 0, 71, 12) else (if ¬ (Int.tmod t250 256 = 0) then some (0, 0, 0, 0, 0, 0, 0, 0, 71, 12) else (if t251 < t250 then some (0, 0, 0, 0, 0, 0, 0, 0, 71, 16) else (if t251 > 1048576 then some (0, 0, 0, 0, 0, 0, 0, 0, 71, 16) else (if ¬ (Int.tmod t251 256 = 0) then some (0, 0, 0, 0, 0, 0, 0, 0, 71, 16) else (if t252 = 0 then some (0, 0, 0, 0, 0, 0, 0, 0, 72, 20) else (if t252 > 65536 then some (0, 0, 0, 0, 0, 0, 0, 0, 72, 20) else (if ¬ (Int.tmod t252 256 = 0) then some (0, 0, 0, 0, 0, 0, 0, 0, 72, 20) else (if t253 < 36 then some (0, 0, 0, 0, 0, 0, 0, 0, 71, 24) else (if t253 ≥ t251 then some (0, 0, 0, 0, 0, 0, 0, 0, 71, 24) else (if t254 ≥ t251 then some (0, 0, 0, 0, 0, 0, 0, 0, 71, 28) else ((grottoref07_Sum.f k x0).bind fun t256 => (if t255 = wrap64 t256 then some (t248 % 4294967296, t249 % 4294967296, t250 % 4294967296, t251 % 4294967296, t252 % 4294967296, t253 % 4294967296, t254 % 4294967296, t255 % 4294967296, 0, 36) else some (0, 0, 0, 0, 0, 0, 0, 0, 73, 32)))))))))))))))))))
def grottoref07_Parse.rest (k : Nat) (x0 : List Int) : Option (Int × Int × Int × Int × Int × Int × Int × Int × Int × Int) := if (x0.length : Int) < 36 then some (0, 0, 0, 0, 0, 0, 0, 0, 2, (x0.length : Int)) else ((grottoref07_at.f k x0 4).bind fun t248 => ((grottoref07_at.f k x0 8).bind fun t249 => ((grottoref07_at.f k x0 12).bind fun t250 => ((grottoref07_at.f k x0 16).bind fun t251 => ((grottoref07_at.f k x0 20).bind fun t252 => ((grottoref07_at.f k x0 24).bind fun t253 => ((grottoref07_at.f k x0 28).bind fun t254 => ((grottoref07_at.f k x0 32).bind fun t255 => (grottoref07_Parse.tail k x0 t248 t249 t250 t251 t252 t253 t254 t255)))))))))
def grottoref07_Parse.l0 : Nat → List Int → Int → Option (Int × Int × Int × Int × Int × Int × Int × Int × Int × Int)
  | 0, _, _ => none
  | k + 1, x0, x6 => if x6 < 4 then (if x6 < (x0.length : Int) then (if 0 ≤ x6 then (if rd x0 x6 = bt (⟨#[71, 108, 117, 108]⟩ : ByteArray) x6 then grottoref07_Parse.l0 k x0 (wrap64 (x6 + 1)) else some (0, 0, 0, 0, 0, 0, 0, 0, 63, 0)) else none) else some (0, 0, 0, 0, 0, 0, 0, 0, 2, (x0.length : Int))) else grottoref07_Parse.rest k x0
def grottoref07_Parse.f (k : Nat) (l0 : List Int) : Option (Int × Int × Int × Int × Int × Int × Int × Int × Int × Int) := if (l0.length : Int) > 1048576 then some (0, 0, 0, 0, 0, 0, 0, 0, 3, 0) else (grottoref07_Parse.l0 k l0 0)
theorem grottoref07_Parse.mono_t (k : Nat) (x0 : List Int) (t248 t249 t250 t251 t252 t253 t254 t255 : Int) : LeO (grottoref07_Parse.tail k x0 t248 t249 t250 t251 t252 t253 t254 t255) (grottoref07_Parse.tail (k + 1) x0 t248 t249 t250 t251 t252 t253 t254 t255) := by
  unfold grottoref07_Parse.tail
  repeat' first
  | (with_reducible exact grottoref07_Sum.mono _ _)
  | (with_reducible exact LeO.refl _)
  | (with_reducible refine LeO.ite ?_ ?_)
  | (with_reducible refine LeO.bind ?_ (fun _ => ?_))
theorem grottoref07_Parse.mono_r (k : Nat) (x0 : List Int) : LeO (grottoref07_Parse.rest k x0) (grottoref07_Parse.rest (k + 1) x0) := by
  unfold grottoref07_Parse.rest
  repeat' first
  | (with_reducible exact grottoref07_Parse.mono_t _ _ _ _ _ _ _ _ _ _)
  | (with_reducible exact grottoref07_at.mono _ _ _)
  | (with_reducible exact LeO.refl _)
  | (with_reducible refine LeO.ite ?_ ?_)
  | (with_reducible refine LeO.bind ?_ (fun _ => ?_))
theorem grottoref07_Parse.mono_l : ∀ k, (∀ y0 y1, LeO (grottoref07_Parse.l0 k y0 y1) (grottoref07_Parse.l0 (k + 1) y0 y1))
  | 0 => fun _ _ r h => by simp [grottoref07_Parse.l0] at h
  | k + 1 => by
    have ih0 := grottoref07_Parse.mono_l k
    intro y0 y1
    unfold grottoref07_Parse.l0
    repeat' first
    | (with_reducible exact ih0 _ _)
    | (with_reducible exact grottoref07_Parse.mono_r _ _)
    | (with_reducible exact LeO.refl _)
    | (with_reducible refine LeO.ite ?_ ?_)
theorem grottoref07_Parse.mono : ∀ a0 k, LeO (grottoref07_Parse.f k a0) (grottoref07_Parse.f (k + 1) a0) := by
  intro a0 k
  unfold grottoref07_Parse.f
  repeat' first
  | (with_reducible exact grottoref07_Parse.mono_l _ _ _)
  | (with_reducible exact LeO.refl _)
  | (with_reducible refine LeO.ite ?_ ?_)
set_option maxHeartbeats 80000000 in
set_option maxRecDepth 100000 in
theorem grottoref07_Parse.calls (k : Nat) (A0 : Option Addr) (c0 : Nat) (l0 : List Int) (r1 : Int) (r2 : Int) (r3 : Int) (r4 : Int) (r5 : Int) (r6 : Int) (r7 : Int) (r8 : Int) (r9 : Int) (r10 : Int) (w : World) (hr0 : Kd.C (Kd.int .u8) w A0 l0.length l0) (hc0 : l0.length ≤ c0) (h : grottoref07_Parse.f k l0 = some (r1, r2, r3, r4, r5, r6, r7, r8, r9, r10)) :
    Calls Try.prog 44 #[.slice A0 l0.length c0] w fun e w' => e = .returned (.tuple #[.agg #[.int .u32 r1, .int .u32 r2, .int .u32 r3, .int .u32 r4, .int .u32 r5, .int .u32 r6, .int .u32 r7, .int .u32 r8], .int .i64 r9, .int .i64 r10]) ∧ Below w.heap.size w w' := by
  have hu27 := Try.underlying66
  have HR0 := Aside0.mk hr0
  have HC0 := Aside0.mk hc0
  clear hr0 hc0
  have HB := Aside0.mk (Below.refl w.heap.size w)
  have H : (if (l0.length : Int) > 1048576 then (some (0, 0, 0, 0, 0, 0, 0, 0, 3, 0)) else (grottoref07_Parse.l0 k l0 0)) = some (r1, r2, r3, r4, r5, r6, r7, r8, r9, r10) := h
  clear h
  by_cases c2 : (l0.length : Int) > 1048576
  · rw [if_pos c2] at H
    have c2b0 : decide (1048576 < (l0.length : Int)) = true := decide_eq_true c2
    have c2b1 : decide (1048576 < l0.length) = true := decide_eq_true (by omega)
    clear c2
    simp only [Option.some.injEq, Prod.mk.injEq] at H
    obtain ⟨rfl, rfl, rfl, rfl, rfl, rfl, rfl, rfl, rfl, rfl⟩ := H
    go_enter Try.func44, Try.ntmps44
    go_wp2_with (first | ((with_reducible refine gate_dst (N := 2) rfl ?_); (try (refine gate_guard (by rfl) ?_; dsimp only)); refine zbox (N := 2) (cs := #[.int .u32 0, .int .u32 0, .int .u32 0, .int .u32 0, .int .u32 0, .int .u32 0, .int .u32 0, .int .u32 0]) (t := 66) ?_; intro gb245 hg w3 hbox hb; have BK245 := Aside0.mk hbox; have GW245 := zge hg HB; have GE245 := zge hg HB; replace HB := zbs HB hb; clear hb hbox hg) | ((with_reducible refine gate_dst (N := 5) rfl ?_); (try (refine gate_guard (by rfl) ?_; dsimp only)); refine zbox (N := 5) (cs := #[.int .u32 0, .int .u32 0, .int .u32 0, .int .u32 0, .int .u32 0, .int .u32 0, .int .u32 0, .int .u32 0]) (t := 66) ?_; intro gb246 hg w4 hbox hb; have BK246 := Aside0.mk hbox; have GW246 := zge hg HB; have GE246 := zge hg HB; have NB245_246 := znl hg BK245; have NB246_245 := zng hg BK245; replace BK245 := zkb BK245 hb; replace HB := zbs HB hb; clear hb hbox hg; have hnb5 := NB246_245.out; have hnc5 := NB245_246.out; have hcz6_0 : w4.cell? ⟨gb246, 0, none⟩ = some (.int .u32 0) := (blk_cell BK246.out 0).trans rfl; have hcz6_1 : w4.cell? ⟨gb246, 1, none⟩ = some (.int .u32 0) := (blk_cell BK246.out 1).trans rfl; have hcz6_2 : w4.cell? ⟨gb246, 2, none⟩ = some (.int .u32 0) := (blk_cell BK246.out 2).trans rfl; have hcz6_3 : w4.cell? ⟨gb246, 3, none⟩ = some (.int .u32 0) := (blk_cell BK246.out 3).trans rfl; have hcz6_4 : w4.cell? ⟨gb246, 4, none⟩ = some (.int .u32 0) := (blk_cell BK246.out 4).trans rfl; have hcz6_5 : w4.cell? ⟨gb246, 5, none⟩ = some (.int .u32 0) := (blk_cell BK246.out 5).trans rfl; have hcz6_6 : w4.cell? ⟨gb246, 6, none⟩ = some (.int .u32 0) := (blk_cell BK246.out 6).trans rfl; have hcz6_7 : w4.cell? ⟨gb246, 7, none⟩ = some (.int .u32 0) := (blk_cell BK246.out 7).trans rfl; have hfz6_0 := blk_frozen BK246.out 0; have hfz6_1 := blk_frozen BK246.out 1; have hfz6_2 := blk_frozen BK246.out 2; have hfz6_3 := blk_frozen BK246.out 3; have hfz6_4 := blk_frozen BK246.out 4; have hfz6_5 := blk_frozen BK246.out 5; have hfz6_6 := blk_frozen BK246.out 6; have hfz6_7 := blk_frozen BK246.out 7; have hcz7_0 : w4.cell? ⟨gb245, 0, none⟩ = some (.int .u32 0) := (blk_cell BK245.out 0).trans rfl; have hcz7_1 : w4.cell? ⟨gb245, 1, none⟩ = some (.int .u32 0) := (blk_cell BK245.out 1).trans rfl; have hcz7_2 : w4.cell? ⟨gb245, 2, none⟩ = some (.int .u32 0) := (blk_cell BK245.out 2).trans rfl; have hcz7_3 : w4.cell? ⟨gb245, 3, none⟩ = some (.int .u32 0) := (blk_cell BK245.out 3).trans rfl; have hcz7_4 : w4.cell? ⟨gb245, 4, none⟩ = some (.int .u32 0) := (blk_cell BK245.out 4).trans rfl; have hcz7_5 : w4.cell? ⟨gb245, 5, none⟩ = some (.int .u32 0) := (blk_cell BK245.out 5).trans rfl; have hcz7_6 : w4.cell? ⟨gb245, 6, none⟩ = some (.int .u32 0) := (blk_cell BK245.out 6).trans rfl; have hcz7_7 : w4.cell? ⟨gb245, 7, none⟩ = some (.int .u32 0) := (blk_cell BK245.out 7).trans rfl; have hfz7_0 := blk_frozen BK245.out 0; have hfz7_1 := blk_frozen BK245.out 1; have hfz7_2 := blk_frozen BK245.out 2; have hfz7_3 := blk_frozen BK245.out 3; have hfz7_4 := blk_frozen BK245.out 4; have hfz7_5 := blk_frozen BK245.out 5; have hfz7_6 := blk_frozen BK245.out 6; have hfz7_7 := blk_frozen BK245.out 7))
    repeat (go_quiet (first | ((with_reducible refine gate_dst (N := 2) rfl ?_); (try (refine gate_guard (by rfl) ?_; dsimp only)); refine zbox (N := 2) (cs := #[.int .u32 0, .int .u32 0, .int .u32 0, .int .u32 0, .int .u32 0, .int .u32 0, .int .u32 0, .int .u32 0]) (t := 66) ?_; intro gb245 hg w3 hbox hb; have BK245 := Aside0.mk hbox; have GW245 := zge hg HB; have GE245 := zge hg HB; replace HB := zbs HB hb; clear hb hbox hg) | ((with_reducible refine gate_dst (N := 5) rfl ?_); (try (refine gate_guard (by rfl) ?_; dsimp only)); refine zbox (N := 5) (cs := #[.int .u32 0, .int .u32 0, .int .u32 0, .int .u32 0, .int .u32 0, .int .u32 0, .int .u32 0, .int .u32 0]) (t := 66) ?_; intro gb246 hg w4 hbox hb; have BK246 := Aside0.mk hbox; have GW246 := zge hg HB; have GE246 := zge hg HB; have NB245_246 := znl hg BK245; have NB246_245 := zng hg BK245; replace BK245 := zkb BK245 hb; replace HB := zbs HB hb; clear hb hbox hg; have hnb5 := NB246_245.out; have hnc5 := NB245_246.out; have hcz6_0 : w4.cell? ⟨gb246, 0, none⟩ = some (.int .u32 0) := (blk_cell BK246.out 0).trans rfl; have hcz6_1 : w4.cell? ⟨gb246, 1, none⟩ = some (.int .u32 0) := (blk_cell BK246.out 1).trans rfl; have hcz6_2 : w4.cell? ⟨gb246, 2, none⟩ = some (.int .u32 0) := (blk_cell BK246.out 2).trans rfl; have hcz6_3 : w4.cell? ⟨gb246, 3, none⟩ = some (.int .u32 0) := (blk_cell BK246.out 3).trans rfl; have hcz6_4 : w4.cell? ⟨gb246, 4, none⟩ = some (.int .u32 0) := (blk_cell BK246.out 4).trans rfl; have hcz6_5 : w4.cell? ⟨gb246, 5, none⟩ = some (.int .u32 0) := (blk_cell BK246.out 5).trans rfl; have hcz6_6 : w4.cell? ⟨gb246, 6, none⟩ = some (.int .u32 0) := (blk_cell BK246.out 6).trans rfl; have hcz6_7 : w4.cell? ⟨gb246, 7, none⟩ = some (.int .u32 0) := (blk_cell BK246.out 7).trans rfl; have hfz6_0 := blk_frozen BK246.out 0; have hfz6_1 := blk_frozen BK246.out 1; have hfz6_2 := blk_frozen BK246.out 2; have hfz6_3 := blk_frozen BK246.out 3; have hfz6_4 := blk_frozen BK246.out 4; have hfz6_5 := blk_frozen BK246.out 5; have hfz6_6 := blk_frozen BK246.out 6; have hfz6_7 := blk_frozen BK246.out 7; have hcz7_0 : w4.cell? ⟨gb245, 0, none⟩ = some (.int .u32 0) := (blk_cell BK245.out 0).trans rfl; have hcz7_1 : w4.cell? ⟨gb245, 1, none⟩ = some (.int .u32 0) := (blk_cell BK245.out 1).trans rfl; have hcz7_2 : w4.cell? ⟨gb245, 2, none⟩ = some (.int .u32 0) := (blk_cell BK245.out 2).trans rfl; have hcz7_3 : w4.cell? ⟨gb245, 3, none⟩ = some (.int .u32 0) := (blk_cell BK245.out 3).trans rfl; have hcz7_4 : w4.cell? ⟨gb245, 4, none⟩ = some (.int .u32 0) := (blk_cell BK245.out 4).trans rfl; have hcz7_5 : w4.cell? ⟨gb245, 5, none⟩ = some (.int .u32 0) := (blk_cell BK245.out 5).trans rfl; have hcz7_6 : w4.cell? ⟨gb245, 6, none⟩ = some (.int .u32 0) := (blk_cell BK245.out 6).trans rfl; have hcz7_7 : w4.cell? ⟨gb245, 7, none⟩ = some (.int .u32 0) := (blk_cell BK245.out 7).trans rfl; have hfz7_0 := blk_frozen BK245.out 0; have hfz7_1 := blk_frozen BK245.out 1; have hfz7_2 := blk_frozen BK245.out 2; have hfz7_3 := blk_frozen BK245.out 3; have hfz7_4 := blk_frozen BK245.out 4; have hfz7_5 := blk_frozen BK245.out 5; have hfz7_6 := blk_frozen BK245.out 6; have hfz7_7 := blk_frozen BK245.out 7)); try go_wp2_with (first | ((with_reducible refine gate_dst (N := 2) rfl ?_); (try (refine gate_guard (by rfl) ?_; dsimp only)); refine zbox (N := 2) (cs := #[.int .u32 0, .int .u32 0, .int .u32 0, .int .u32 0, .int .u32 0, .int .u32 0, .int .u32 0, .int .u32 0]) (t := 66) ?_; intro gb245 hg w3 hbox hb; have BK245 := Aside0.mk hbox; have GW245 := zge hg HB; have GE245 := zge hg HB; replace HB := zbs HB hb; clear hb hbox hg) | ((with_reducible refine gate_dst (N := 5) rfl ?_); (try (refine gate_guard (by rfl) ?_; dsimp only)); refine zbox (N := 5) (cs := #[.int .u32 0, .int .u32 0, .int .u32 0, .int .u32 0, .int .u32 0, .int .u32 0, .int .u32 0, .int .u32 0]) (t := 66) ?_; intro gb246 hg w4 hbox hb; have BK246 := Aside0.mk hbox; have GW246 := zge hg HB; have GE246 := zge hg HB; have NB245_246 := znl hg BK245; have NB246_245 := zng hg BK245; replace BK245 := zkb BK245 hb; replace HB := zbs HB hb; clear hb hbox hg; have hnb5 := NB246_245.out; have hnc5 := NB245_246.out; have hcz6_0 : w4.cell? ⟨gb246, 0, none⟩ = some (.int .u32 0) := (blk_cell BK246.out 0).trans rfl; have hcz6_1 : w4.cell? ⟨gb246, 1, none⟩ = some (.int .u32 0) := (blk_cell BK246.out 1).trans rfl; have hcz6_2 : w4.cell? ⟨gb246, 2, none⟩ = some (.int .u32 0) := (blk_cell BK246.out 2).trans rfl; have hcz6_3 : w4.cell? ⟨gb246, 3, none⟩ = some (.int .u32 0) := (blk_cell BK246.out 3).trans rfl; have hcz6_4 : w4.cell? ⟨gb246, 4, none⟩ = some (.int .u32 0) := (blk_cell BK246.out 4).trans rfl; have hcz6_5 : w4.cell? ⟨gb246, 5, none⟩ = some (.int .u32 0) := (blk_cell BK246.out 5).trans rfl; have hcz6_6 : w4.cell? ⟨gb246, 6, none⟩ = some (.int .u32 0) := (blk_cell BK246.out 6).trans rfl; have hcz6_7 : w4.cell? ⟨gb246, 7, none⟩ = some (.int .u32 0) := (blk_cell BK246.out 7).trans rfl; have hfz6_0 := blk_frozen BK246.out 0; have hfz6_1 := blk_frozen BK246.out 1; have hfz6_2 := blk_frozen BK246.out 2; have hfz6_3 := blk_frozen BK246.out 3; have hfz6_4 := blk_frozen BK246.out 4; have hfz6_5 := blk_frozen BK246.out 5; have hfz6_6 := blk_frozen BK246.out 6; have hfz6_7 := blk_frozen BK246.out 7; have hcz7_0 : w4.cell? ⟨gb245, 0, none⟩ = some (.int .u32 0) := (blk_cell BK245.out 0).trans rfl; have hcz7_1 : w4.cell? ⟨gb245, 1, none⟩ = some (.int .u32 0) := (blk_cell BK245.out 1).trans rfl; have hcz7_2 : w4.cell? ⟨gb245, 2, none⟩ = some (.int .u32 0) := (blk_cell BK245.out 2).trans rfl; have hcz7_3 : w4.cell? ⟨gb245, 3, none⟩ = some (.int .u32 0) := (blk_cell BK245.out 3).trans rfl; have hcz7_4 : w4.cell? ⟨gb245, 4, none⟩ = some (.int .u32 0) := (blk_cell BK245.out 4).trans rfl; have hcz7_5 : w4.cell? ⟨gb245, 5, none⟩ = some (.int .u32 0) := (blk_cell BK245.out 5).trans rfl; have hcz7_6 : w4.cell? ⟨gb245, 6, none⟩ = some (.int .u32 0) := (blk_cell BK245.out 6).trans rfl; have hcz7_7 : w4.cell? ⟨gb245, 7, none⟩ = some (.int .u32 0) := (blk_cell BK245.out 7).trans rfl; have hfz7_0 := blk_frozen BK245.out 0; have hfz7_1 := blk_frozen BK245.out 1; have hfz7_2 := blk_frozen BK245.out 2; have hfz7_3 := blk_frozen BK245.out 3; have hfz7_4 := blk_frozen BK245.out 4; have hfz7_5 := blk_frozen BK245.out 5; have hfz7_6 := blk_frozen BK245.out 6; have hfz7_7 := blk_frozen BK245.out 7)))
    refine bodyPost_ret (results_ctt rfl _ _ gb245 66 #[.int .u32 0, .int .u32 0, .int .u32 0, .int .u32 0, .int .u32 0, .int .u32 0, .int .u32 0, .int .u32 0] (0, 0) _ rfl (zkp BK245) Try.underlying66 rfl (by kernel_rfl)) rfl ?_
    exact ⟨by first | rfl | (simp [errW_none, errW_some] <;> rfl) | (simp [*, errW_none, errW_some] <;> rfl), zb HB⟩
  · rw [if_neg c2] at H
    have c2b0 : decide (1048576 < (l0.length : Int)) = false := decide_eq_false c2
    have c2b1 : decide (1048576 < l0.length) = false := decide_eq_false (by omega)
    clear c2
    have H' := Aside0.mk H
    clear H
    go_enter Try.func44, Try.ntmps44
    go_wp2_with (first | ((with_reducible refine gate_dst (N := 2) rfl ?_); (try (refine gate_guard (by rfl) ?_; dsimp only)); refine zbox (N := 2) (cs := #[.int .u32 0, .int .u32 0, .int .u32 0, .int .u32 0, .int .u32 0, .int .u32 0, .int .u32 0, .int .u32 0]) (t := 66) ?_; intro gb245 hg w8 hbox hb; have BK245 := Aside0.mk hbox; have GW245 := zge hg HB; have GE245 := zge hg HB; replace HB := zbs HB hb; clear hb hbox hg) | ((with_reducible refine gate_dst (N := 5) rfl ?_); (try (refine gate_guard (by rfl) ?_; dsimp only)); refine zbox (N := 5) (cs := #[.int .u32 0, .int .u32 0, .int .u32 0, .int .u32 0, .int .u32 0, .int .u32 0, .int .u32 0, .int .u32 0]) (t := 66) ?_; intro gb246 hg w9 hbox hb; have BK246 := Aside0.mk hbox; have GW246 := zge hg HB; have GE246 := zge hg HB; have NB245_246 := znl hg BK245; have NB246_245 := zng hg BK245; replace BK245 := zkb BK245 hb; replace HB := zbs HB hb; clear hb hbox hg; have hnb10 := NB246_245.out; have hnc10 := NB245_246.out; have hcz11_0 : w9.cell? ⟨gb246, 0, none⟩ = some (.int .u32 0) := (blk_cell BK246.out 0).trans rfl; have hcz11_1 : w9.cell? ⟨gb246, 1, none⟩ = some (.int .u32 0) := (blk_cell BK246.out 1).trans rfl; have hcz11_2 : w9.cell? ⟨gb246, 2, none⟩ = some (.int .u32 0) := (blk_cell BK246.out 2).trans rfl; have hcz11_3 : w9.cell? ⟨gb246, 3, none⟩ = some (.int .u32 0) := (blk_cell BK246.out 3).trans rfl; have hcz11_4 : w9.cell? ⟨gb246, 4, none⟩ = some (.int .u32 0) := (blk_cell BK246.out 4).trans rfl; have hcz11_5 : w9.cell? ⟨gb246, 5, none⟩ = some (.int .u32 0) := (blk_cell BK246.out 5).trans rfl; have hcz11_6 : w9.cell? ⟨gb246, 6, none⟩ = some (.int .u32 0) := (blk_cell BK246.out 6).trans rfl; have hcz11_7 : w9.cell? ⟨gb246, 7, none⟩ = some (.int .u32 0) := (blk_cell BK246.out 7).trans rfl; have hfz11_0 := blk_frozen BK246.out 0; have hfz11_1 := blk_frozen BK246.out 1; have hfz11_2 := blk_frozen BK246.out 2; have hfz11_3 := blk_frozen BK246.out 3; have hfz11_4 := blk_frozen BK246.out 4; have hfz11_5 := blk_frozen BK246.out 5; have hfz11_6 := blk_frozen BK246.out 6; have hfz11_7 := blk_frozen BK246.out 7))
    repeat (go_quiet (first | ((with_reducible refine gate_dst (N := 2) rfl ?_); (try (refine gate_guard (by rfl) ?_; dsimp only)); refine zbox (N := 2) (cs := #[.int .u32 0, .int .u32 0, .int .u32 0, .int .u32 0, .int .u32 0, .int .u32 0, .int .u32 0, .int .u32 0]) (t := 66) ?_; intro gb245 hg w8 hbox hb; have BK245 := Aside0.mk hbox; have GW245 := zge hg HB; have GE245 := zge hg HB; replace HB := zbs HB hb; clear hb hbox hg) | ((with_reducible refine gate_dst (N := 5) rfl ?_); (try (refine gate_guard (by rfl) ?_; dsimp only)); refine zbox (N := 5) (cs := #[.int .u32 0, .int .u32 0, .int .u32 0, .int .u32 0, .int .u32 0, .int .u32 0, .int .u32 0, .int .u32 0]) (t := 66) ?_; intro gb246 hg w9 hbox hb; have BK246 := Aside0.mk hbox; have GW246 := zge hg HB; have GE246 := zge hg HB; have NB245_246 := znl hg BK245; have NB246_245 := zng hg BK245; replace BK245 := zkb BK245 hb; replace HB := zbs HB hb; clear hb hbox hg; have hnb10 := NB246_245.out; have hnc10 := NB245_246.out; have hcz11_0 : w9.cell? ⟨gb246, 0, none⟩ = some (.int .u32 0) := (blk_cell BK246.out 0).trans rfl; have hcz11_1 : w9.cell? ⟨gb246, 1, none⟩ = some (.int .u32 0) := (blk_cell BK246.out 1).trans rfl; have hcz11_2 : w9.cell? ⟨gb246, 2, none⟩ = some (.int .u32 0) := (blk_cell BK246.out 2).trans rfl; have hcz11_3 : w9.cell? ⟨gb246, 3, none⟩ = some (.int .u32 0) := (blk_cell BK246.out 3).trans rfl; have hcz11_4 : w9.cell? ⟨gb246, 4, none⟩ = some (.int .u32 0) := (blk_cell BK246.out 4).trans rfl; have hcz11_5 : w9.cell? ⟨gb246, 5, none⟩ = some (.int .u32 0) := (blk_cell BK246.out 5).trans rfl; have hcz11_6 : w9.cell? ⟨gb246, 6, none⟩ = some (.int .u32 0) := (blk_cell BK246.out 6).trans rfl; have hcz11_7 : w9.cell? ⟨gb246, 7, none⟩ = some (.int .u32 0) := (blk_cell BK246.out 7).trans rfl; have hfz11_0 := blk_frozen BK246.out 0; have hfz11_1 := blk_frozen BK246.out 1; have hfz11_2 := blk_frozen BK246.out 2; have hfz11_3 := blk_frozen BK246.out 3; have hfz11_4 := blk_frozen BK246.out 4; have hfz11_5 := blk_frozen BK246.out 5; have hfz11_6 := blk_frozen BK246.out 6; have hfz11_7 := blk_frozen BK246.out 7)); try go_wp2_with (first | ((with_reducible refine gate_dst (N := 2) rfl ?_); (try (refine gate_guard (by rfl) ?_; dsimp only)); refine zbox (N := 2) (cs := #[.int .u32 0, .int .u32 0, .int .u32 0, .int .u32 0, .int .u32 0, .int .u32 0, .int .u32 0, .int .u32 0]) (t := 66) ?_; intro gb245 hg w8 hbox hb; have BK245 := Aside0.mk hbox; have GW245 := zge hg HB; have GE245 := zge hg HB; replace HB := zbs HB hb; clear hb hbox hg) | ((with_reducible refine gate_dst (N := 5) rfl ?_); (try (refine gate_guard (by rfl) ?_; dsimp only)); refine zbox (N := 5) (cs := #[.int .u32 0, .int .u32 0, .int .u32 0, .int .u32 0, .int .u32 0, .int .u32 0, .int .u32 0, .int .u32 0]) (t := 66) ?_; intro gb246 hg w9 hbox hb; have BK246 := Aside0.mk hbox; have GW246 := zge hg HB; have GE246 := zge hg HB; have NB245_246 := znl hg BK245; have NB246_245 := zng hg BK245; replace BK245 := zkb BK245 hb; replace HB := zbs HB hb; clear hb hbox hg; have hnb10 := NB246_245.out; have hnc10 := NB245_246.out; have hcz11_0 : w9.cell? ⟨gb246, 0, none⟩ = some (.int .u32 0) := (blk_cell BK246.out 0).trans rfl; have hcz11_1 : w9.cell? ⟨gb246, 1, none⟩ = some (.int .u32 0) := (blk_cell BK246.out 1).trans rfl; have hcz11_2 : w9.cell? ⟨gb246, 2, none⟩ = some (.int .u32 0) := (blk_cell BK246.out 2).trans rfl; have hcz11_3 : w9.cell? ⟨gb246, 3, none⟩ = some (.int .u32 0) := (blk_cell BK246.out 3).trans rfl; have hcz11_4 : w9.cell? ⟨gb246, 4, none⟩ = some (.int .u32 0) := (blk_cell BK246.out 4).trans rfl; have hcz11_5 : w9.cell? ⟨gb246, 5, none⟩ = some (.int .u32 0) := (blk_cell BK246.out 5).trans rfl; have hcz11_6 : w9.cell? ⟨gb246, 6, none⟩ = some (.int .u32 0) := (blk_cell BK246.out 6).trans rfl; have hcz11_7 : w9.cell? ⟨gb246, 7, none⟩ = some (.int .u32 0) := (blk_cell BK246.out 7).trans rfl; have hfz11_0 := blk_frozen BK246.out 0; have hfz11_1 := blk_frozen BK246.out 1; have hfz11_2 := blk_frozen BK246.out 2; have hfz11_3 := blk_frozen BK246.out 3; have hfz11_4 := blk_frozen BK246.out 4; have hfz11_5 := blk_frozen BK246.out 5; have hfz11_6 := blk_frozen BK246.out 6; have hfz11_7 := blk_frozen BK246.out 7)))
    go_loopg [6] k (fun kq v6 w' => ∃ (x6_1 : Int), v6 = .int .i64 x6_1 ∧ Aside0 (grottoref07_Parse.l0 kq l0 x6_1 = some (r1, r2, r3, r4, r5, r6, r7, r8, r9, r10)) ∧ Aside0 (kq ≤ k) ∧ Aside0 (w'.heap[gb245]? = some (.cells #[.int .u32 0, .int .u32 0, .int .u32 0, .int .u32 0, .int .u32 0, .int .u32 0, .int .u32 0, .int .u32 0] 66 (0, 0))) ∧ Aside0 (w'.heap[gb246]? = some (.cells #[.int .u32 0, .int .u32 0, .int .u32 0, .int .u32 0, .int .u32 0, .int .u32 0, .int .u32 0, .int .u32 0] 66 (0, 0))) ∧ Aside0 (Below w.heap.size w w'))
    case atStart => exact ⟨0, rfl, H', ⟨Nat.le_refl _⟩, ⟨zkp BK245⟩, ⟨zkp BK246⟩, ⟨zb HB⟩⟩
    case round =>
      clear H'
      clear c2b0 c2b1
      obtain ⟨x6_1, rfl, HA, HK1, BK245, BK246, HB⟩ := hrel
      cases gk with
      | zero => exact absurd HA.out (by simp [grottoref07_Parse.l0])
      | succ k1 =>
        have H := HA.out
        clear HA
        simp only [grottoref07_Parse.l0] at H
        by_cases c13 : x6_1 < 4
        · rw [if_pos c13] at H
          have c13b0 : decide (x6_1 < 4) = true := decide_eq_true c13
          by_cases c16 : x6_1 < (l0.length : Int)
          · rw [if_pos c16] at H
            have c16b0 : decide (x6_1 < (l0.length : Int)) = true := decide_eq_true c16
            by_cases c15 : 0 ≤ x6_1
            · rw [if_pos c15] at H
              have c15b0 : decide (0 ≤ x6_1) = true := decide_eq_true c15
              have p247 : 0 ≤ (x6_1 : Int) := c15
              have q247 : x6_1 < (l0.length : Int) := c16
              obtain ⟨ad247, e247, hx247_0⟩ := Kd.at_int HR0.out x6_1 p247 q247
              cases e247
              replace hx247_0 := (HB.out.cell (World.block_lt_of_cell? w _ hx247_0)).trans hx247_0
              replace p247 := eq_true p247
              replace q247 := eq_true q247
              have p18 : 0 ≤ (x6_1 : Int) := c15
              have q18 : x6_1 < (4 : Int) := c13
              have hx18 := bt_at (⟨#[71, 108, 117, 108]⟩ : ByteArray) x6_1
              replace p18 := eq_true p18
              replace q18 := eq_true q18
              clear c13 c15 c16
              by_cases c19 : rd l0 x6_1 = bt (⟨#[71, 108, 117, 108]⟩ : ByteArray) x6_1
              · rw [if_pos c19] at H
                have c19b0 : ((rd l0 x6_1) == (bt (⟨#[71, 108, 117, 108]⟩ : ByteArray) x6_1)) = true := beq_iff_eq.mpr c19
                have c19b1 : ((rd l0 x6_1) != (bt (⟨#[71, 108, 117, 108]⟩ : ByteArray) x6_1)) = false := bne_eq_false_iff_eq.mpr c19
                clear c19
                have H' := Aside0.mk H
                clear H
                go_wp2
                repeat (go_quiet (fail); try go_wp2)
                go_roundg k1
                case measure => have := HK1.out; omega
                case rel => exact ⟨wrap64 (x6_1 + 1), rfl, H', ⟨by have := HK1.out; omega⟩, ⟨zkp BK245⟩, ⟨zkp BK246⟩, ⟨zb HB⟩⟩
              · rw [if_neg c19] at H
                have c19b0 : ((rd l0 x6_1) == (bt (⟨#[71, 108, 117, 108]⟩ : ByteArray) x6_1)) = false := beq_eq_false_iff_ne.mpr c19
                have c19b1 : ((rd l0 x6_1) != (bt (⟨#[71, 108, 117, 108]⟩ : ByteArray) x6_1)) = true := bne_iff_ne.mpr c19
                clear c19
                simp only [Option.some.injEq, Prod.mk.injEq] at H
                obtain ⟨rfl, rfl, rfl, rfl, rfl, rfl, rfl, rfl, rfl, rfl⟩ := H
                have hnb_ := NB246_245.out
                have hnc_ := NB245_246.out
                obtain ⟨hcz6_0, hcz6_1, hcz6_2, hcz6_3, hcz6_4, hcz6_5, hcz6_6, hcz6_7, hfz6_0, hfz6_1, hfz6_2, hfz6_3, hfz6_4, hfz6_5, hfz6_6, hfz6_7⟩ := cells8r BK246.out
                obtain ⟨hcz5_0, hcz5_1, hcz5_2, hcz5_3, hcz5_4, hcz5_5, hcz5_6, hcz5_7, hfz5_0, hfz5_1, hfz5_2, hfz5_3, hfz5_4, hfz5_5, hfz5_6, hfz5_7⟩ := cells8r BK245.out
                go_wp2
                repeat (go_quiet (fail); try go_wp2)
                refine bodyPost_ret (results_ctt rfl _ _ gb245 66 #[.int .u32 (0), .int .u32 (0), .int .u32 (0), .int .u32 (0), .int .u32 (0), .int .u32 (0), .int .u32 (0), .int .u32 (0)] (0, 0) _ rfl (zkp BK245) Try.underlying66 rfl (by kernel_rfl)) rfl ?_
                exact ⟨by first | rfl | (simp [errW_none, errW_some] <;> rfl) | (simp [*, errW_none, errW_some] <;> rfl), zb HB⟩
            · rw [if_neg c15] at H
              exact absurd H (by simp)
          · rw [if_neg c16] at H
            have c16b0 : decide (x6_1 < (l0.length : Int)) = false := decide_eq_false c16
            have c23b0 : decide ((l0.length : Int) < 36) = true := decide_eq_true (by omega)
            have c23b1 : decide (l0.length < 36) = true := decide_eq_true (by omega)
            clear c13 c16
            simp only [Option.some.injEq, Prod.mk.injEq] at H
            obtain ⟨rfl, rfl, rfl, rfl, rfl, rfl, rfl, rfl, rfl, rfl⟩ := H
            have hnb_ := NB246_245.out
            have hnc_ := NB245_246.out
            obtain ⟨hcz6_0, hcz6_1, hcz6_2, hcz6_3, hcz6_4, hcz6_5, hcz6_6, hcz6_7, hfz6_0, hfz6_1, hfz6_2, hfz6_3, hfz6_4, hfz6_5, hfz6_6, hfz6_7⟩ := cells8r BK246.out
            obtain ⟨hcz5_0, hcz5_1, hcz5_2, hcz5_3, hcz5_4, hcz5_5, hcz5_6, hcz5_7, hfz5_0, hfz5_1, hfz5_2, hfz5_3, hfz5_4, hfz5_5, hfz5_6, hfz5_7⟩ := cells8r BK245.out
            go_wp2
            repeat (go_quiet (fail); try go_wp2)
            refine bodyPost_ret (results_ctt rfl _ _ gb245 66 #[.int .u32 (0), .int .u32 (0), .int .u32 (0), .int .u32 (0), .int .u32 (0), .int .u32 (0), .int .u32 (0), .int .u32 (0)] (0, 0) _ rfl (zkp BK245) Try.underlying66 rfl (by kernel_rfl)) rfl ?_
            exact ⟨by first | rfl | (simp [errW_none, errW_some] <;> rfl) | (simp [*, errW_none, errW_some] <;> rfl), zb HB⟩
        · rw [if_neg c13] at H
          have c13b0 : decide (x6_1 < 4) = false := decide_eq_false c13
          clear c13
          unfold grottoref07_Parse.rest at H
          by_cases c23 : (l0.length : Int) < 36
          · rw [if_pos c23] at H
            have c23b0 : decide ((l0.length : Int) < 36) = true := decide_eq_true c23
            have c23b1 : decide (l0.length < 36) = true := decide_eq_true (by omega)
            clear c23
            simp only [Option.some.injEq, Prod.mk.injEq] at H
            obtain ⟨rfl, rfl, rfl, rfl, rfl, rfl, rfl, rfl, rfl, rfl⟩ := H
            have hnb_ := NB246_245.out
            have hnc_ := NB245_246.out
            obtain ⟨hcz6_0, hcz6_1, hcz6_2, hcz6_3, hcz6_4, hcz6_5, hcz6_6, hcz6_7, hfz6_0, hfz6_1, hfz6_2, hfz6_3, hfz6_4, hfz6_5, hfz6_6, hfz6_7⟩ := cells8r BK246.out
            obtain ⟨hcz5_0, hcz5_1, hcz5_2, hcz5_3, hcz5_4, hcz5_5, hcz5_6, hcz5_7, hfz5_0, hfz5_1, hfz5_2, hfz5_3, hfz5_4, hfz5_5, hfz5_6, hfz5_7⟩ := cells8r BK245.out
            go_wp2
            repeat (go_quiet (fail); try go_wp2)
            refine bodyPost_ret (results_ctt rfl _ _ gb245 66 #[.int .u32 (0), .int .u32 (0), .int .u32 (0), .int .u32 (0), .int .u32 (0), .int .u32 (0), .int .u32 (0), .int .u32 (0)] (0, 0) _ rfl (zkp BK245) Try.underlying66 rfl (by kernel_rfl)) rfl ?_
            exact ⟨by first | rfl | (simp [errW_none, errW_some] <;> rfl) | (simp [*, errW_none, errW_some] <;> rfl), zb HB⟩
          · rw [if_neg c23] at H
            have c23b0 : decide ((l0.length : Int) < 36) = false := decide_eq_false c23
            have c23b1 : decide (l0.length < 36) = false := decide_eq_false (by omega)
            clear c23
            replace H := Option.bind_eq_some_iff.mp H
            obtain ⟨t248, A270, H⟩ := H
            have A27 := Aside0.mk A270
            clear A270
            replace H := Option.bind_eq_some_iff.mp H
            obtain ⟨t249, A280, H⟩ := H
            have A28 := Aside0.mk A280
            clear A280
            replace H := Option.bind_eq_some_iff.mp H
            obtain ⟨t250, A290, H⟩ := H
            have A29 := Aside0.mk A290
            clear A290
            replace H := Option.bind_eq_some_iff.mp H
            obtain ⟨t251, A300, H⟩ := H
            have A30 := Aside0.mk A300
            clear A300
            replace H := Option.bind_eq_some_iff.mp H
            obtain ⟨t252, A310, H⟩ := H
            have A31 := Aside0.mk A310
            clear A310
            replace H := Option.bind_eq_some_iff.mp H
            obtain ⟨t253, A320, H⟩ := H
            have A32 := Aside0.mk A320
            clear A320
            replace H := Option.bind_eq_some_iff.mp H
            obtain ⟨t254, A330, H⟩ := H
            have A33 := Aside0.mk A330
            clear A330
            replace H := Option.bind_eq_some_iff.mp H
            obtain ⟨t255, A340, H⟩ := H
            have A34 := Aside0.mk A340
            clear A340
            have HT := Aside0.mk H
            clear H
            go_upto_region 13 with (first | (go_at_call 63; (with_reducible refine (grottoref07_at.calls k1 _ _ l0 4 t248 _ ?side1 ?side2 A27.out).mono ?_); (case side1 => repeat (first | exact (Kd.C_below HR0.out HB.out) | (with_reducible refine Kd.C_alloc ?_ _) | (with_reducible refine Kd.C_drewN ?_ _) | (with_reducible refine Kd.C_drew ?_))); (case side2 => exact HC0.out); rintro e w' ⟨rfl, ⟨nd, rfl⟩⟩; (try first | exact ⟨rfl, _, World.drewN_drewN _ _ _⟩ | exact ⟨rfl, _, Eq.trans (World.drewN_drewN _ _ _) (congrArg (World.drewN _) (Nat.add_assoc _ _ _))⟩)) | (go_at_call 63; (with_reducible refine (grottoref07_at.calls k1 _ _ l0 8 t249 _ ?side1 ?side2 A28.out).mono ?_); (case side1 => repeat (first | exact (Kd.C_below HR0.out HB.out) | (with_reducible refine Kd.C_alloc ?_ _) | (with_reducible refine Kd.C_drewN ?_ _) | (with_reducible refine Kd.C_drew ?_))); (case side2 => exact HC0.out); rintro e w' ⟨rfl, ⟨nd, rfl⟩⟩; (try first | exact ⟨rfl, _, World.drewN_drewN _ _ _⟩ | exact ⟨rfl, _, Eq.trans (World.drewN_drewN _ _ _) (congrArg (World.drewN _) (Nat.add_assoc _ _ _))⟩)) | (go_at_call 63; (with_reducible refine (grottoref07_at.calls k1 _ _ l0 12 t250 _ ?side1 ?side2 A29.out).mono ?_); (case side1 => repeat (first | exact (Kd.C_below HR0.out HB.out) | (with_reducible refine Kd.C_alloc ?_ _) | (with_reducible refine Kd.C_drewN ?_ _) | (with_reducible refine Kd.C_drew ?_))); (case side2 => exact HC0.out); rintro e w' ⟨rfl, ⟨nd, rfl⟩⟩; (try first | exact ⟨rfl, _, World.drewN_drewN _ _ _⟩ | exact ⟨rfl, _, Eq.trans (World.drewN_drewN _ _ _) (congrArg (World.drewN _) (Nat.add_assoc _ _ _))⟩)) | (go_at_call 63; (with_reducible refine (grottoref07_at.calls k1 _ _ l0 16 t251 _ ?side1 ?side2 A30.out).mono ?_); (case side1 => repeat (first | exact (Kd.C_below HR0.out HB.out) | (with_reducible refine Kd.C_alloc ?_ _) | (with_reducible refine Kd.C_drewN ?_ _) | (with_reducible refine Kd.C_drew ?_))); (case side2 => exact HC0.out); rintro e w' ⟨rfl, ⟨nd, rfl⟩⟩; (try first | exact ⟨rfl, _, World.drewN_drewN _ _ _⟩ | exact ⟨rfl, _, Eq.trans (World.drewN_drewN _ _ _) (congrArg (World.drewN _) (Nat.add_assoc _ _ _))⟩)) | (go_at_call 63; (with_reducible refine (grottoref07_at.calls k1 _ _ l0 20 t252 _ ?side1 ?side2 A31.out).mono ?_); (case side1 => repeat (first | exact (Kd.C_below HR0.out HB.out) | (with_reducible refine Kd.C_alloc ?_ _) | (with_reducible refine Kd.C_drewN ?_ _) | (with_reducible refine Kd.C_drew ?_))); (case side2 => exact HC0.out); rintro e w' ⟨rfl, ⟨nd, rfl⟩⟩; (try first | exact ⟨rfl, _, World.drewN_drewN _ _ _⟩ | exact ⟨rfl, _, Eq.trans (World.drewN_drewN _ _ _) (congrArg (World.drewN _) (Nat.add_assoc _ _ _))⟩)) | (go_at_call 63; (with_reducible refine (grottoref07_at.calls k1 _ _ l0 24 t253 _ ?side1 ?side2 A32.out).mono ?_); (case side1 => repeat (first | exact (Kd.C_below HR0.out HB.out) | (with_reducible refine Kd.C_alloc ?_ _) | (with_reducible refine Kd.C_drewN ?_ _) | (with_reducible refine Kd.C_drew ?_))); (case side2 => exact HC0.out); rintro e w' ⟨rfl, ⟨nd, rfl⟩⟩; (try first | exact ⟨rfl, _, World.drewN_drewN _ _ _⟩ | exact ⟨rfl, _, Eq.trans (World.drewN_drewN _ _ _) (congrArg (World.drewN _) (Nat.add_assoc _ _ _))⟩)) | (go_at_call 63; (with_reducible refine (grottoref07_at.calls k1 _ _ l0 28 t254 _ ?side1 ?side2 A33.out).mono ?_); (case side1 => repeat (first | exact (Kd.C_below HR0.out HB.out) | (with_reducible refine Kd.C_alloc ?_ _) | (with_reducible refine Kd.C_drewN ?_ _) | (with_reducible refine Kd.C_drew ?_))); (case side2 => exact HC0.out); rintro e w' ⟨rfl, ⟨nd, rfl⟩⟩; (try first | exact ⟨rfl, _, World.drewN_drewN _ _ _⟩ | exact ⟨rfl, _, Eq.trans (World.drewN_drewN _ _ _) (congrArg (World.drewN _) (Nat.add_assoc _ _ _))⟩)) | (go_at_call 63; (with_reducible refine (grottoref07_at.calls k1 _ _ l0 32 t255 _ ?side1 ?side2 A34.out).mono ?_); (case side1 => repeat (first | exact (Kd.C_below HR0.out HB.out) | (with_reducible refine Kd.C_alloc ?_ _) | (with_reducible refine Kd.C_drewN ?_ _) | (with_reducible refine Kd.C_drew ?_))); (case side2 => exact HC0.out); rintro e w' ⟨rfl, ⟨nd, rfl⟩⟩; (try first | exact ⟨rfl, _, World.drewN_drewN _ _ _⟩ | exact ⟨rfl, _, Eq.trans (World.drewN_drewN _ _ _) (congrArg (World.drewN _) (Nat.add_assoc _ _ _))⟩)))
            repeat (go_quiet (first | (go_at_call 63; (with_reducible refine (grottoref07_at.calls k1 _ _ l0 4 t248 _ ?side1 ?side2 A27.out).mono ?_); (case side1 => repeat (first | exact (Kd.C_below HR0.out HB.out) | (with_reducible refine Kd.C_alloc ?_ _) | (with_reducible refine Kd.C_drewN ?_ _) | (with_reducible refine Kd.C_drew ?_))); (case side2 => exact HC0.out); rintro e w' ⟨rfl, ⟨nd, rfl⟩⟩; (try first | exact ⟨rfl, _, World.drewN_drewN _ _ _⟩ | exact ⟨rfl, _, Eq.trans (World.drewN_drewN _ _ _) (congrArg (World.drewN _) (Nat.add_assoc _ _ _))⟩)) | (go_at_call 63; (with_reducible refine (grottoref07_at.calls k1 _ _ l0 8 t249 _ ?side1 ?side2 A28.out).mono ?_); (case side1 => repeat (first | exact (Kd.C_below HR0.out HB.out) | (with_reducible refine Kd.C_alloc ?_ _) | (with_reducible refine Kd.C_drewN ?_ _) | (with_reducible refine Kd.C_drew ?_))); (case side2 => exact HC0.out); rintro e w' ⟨rfl, ⟨nd, rfl⟩⟩; (try first | exact ⟨rfl, _, World.drewN_drewN _ _ _⟩ | exact ⟨rfl, _, Eq.trans (World.drewN_drewN _ _ _) (congrArg (World.drewN _) (Nat.add_assoc _ _ _))⟩)) | (go_at_call 63; (with_reducible refine (grottoref07_at.calls k1 _ _ l0 12 t250 _ ?side1 ?side2 A29.out).mono ?_); (case side1 => repeat (first | exact (Kd.C_below HR0.out HB.out) | (with_reducible refine Kd.C_alloc ?_ _) | (with_reducible refine Kd.C_drewN ?_ _) | (with_reducible refine Kd.C_drew ?_))); (case side2 => exact HC0.out); rintro e w' ⟨rfl, ⟨nd, rfl⟩⟩; (try first | exact ⟨rfl, _, World.drewN_drewN _ _ _⟩ | exact ⟨rfl, _, Eq.trans (World.drewN_drewN _ _ _) (congrArg (World.drewN _) (Nat.add_assoc _ _ _))⟩)) | (go_at_call 63; (with_reducible refine (grottoref07_at.calls k1 _ _ l0 16 t251 _ ?side1 ?side2 A30.out).mono ?_); (case side1 => repeat (first | exact (Kd.C_below HR0.out HB.out) | (with_reducible refine Kd.C_alloc ?_ _) | (with_reducible refine Kd.C_drewN ?_ _) | (with_reducible refine Kd.C_drew ?_))); (case side2 => exact HC0.out); rintro e w' ⟨rfl, ⟨nd, rfl⟩⟩; (try first | exact ⟨rfl, _, World.drewN_drewN _ _ _⟩ | exact ⟨rfl, _, Eq.trans (World.drewN_drewN _ _ _) (congrArg (World.drewN _) (Nat.add_assoc _ _ _))⟩)) | (go_at_call 63; (with_reducible refine (grottoref07_at.calls k1 _ _ l0 20 t252 _ ?side1 ?side2 A31.out).mono ?_); (case side1 => repeat (first | exact (Kd.C_below HR0.out HB.out) | (with_reducible refine Kd.C_alloc ?_ _) | (with_reducible refine Kd.C_drewN ?_ _) | (with_reducible refine Kd.C_drew ?_))); (case side2 => exact HC0.out); rintro e w' ⟨rfl, ⟨nd, rfl⟩⟩; (try first | exact ⟨rfl, _, World.drewN_drewN _ _ _⟩ | exact ⟨rfl, _, Eq.trans (World.drewN_drewN _ _ _) (congrArg (World.drewN _) (Nat.add_assoc _ _ _))⟩)) | (go_at_call 63; (with_reducible refine (grottoref07_at.calls k1 _ _ l0 24 t253 _ ?side1 ?side2 A32.out).mono ?_); (case side1 => repeat (first | exact (Kd.C_below HR0.out HB.out) | (with_reducible refine Kd.C_alloc ?_ _) | (with_reducible refine Kd.C_drewN ?_ _) | (with_reducible refine Kd.C_drew ?_))); (case side2 => exact HC0.out); rintro e w' ⟨rfl, ⟨nd, rfl⟩⟩; (try first | exact ⟨rfl, _, World.drewN_drewN _ _ _⟩ | exact ⟨rfl, _, Eq.trans (World.drewN_drewN _ _ _) (congrArg (World.drewN _) (Nat.add_assoc _ _ _))⟩)) | (go_at_call 63; (with_reducible refine (grottoref07_at.calls k1 _ _ l0 28 t254 _ ?side1 ?side2 A33.out).mono ?_); (case side1 => repeat (first | exact (Kd.C_below HR0.out HB.out) | (with_reducible refine Kd.C_alloc ?_ _) | (with_reducible refine Kd.C_drewN ?_ _) | (with_reducible refine Kd.C_drew ?_))); (case side2 => exact HC0.out); rintro e w' ⟨rfl, ⟨nd, rfl⟩⟩; (try first | exact ⟨rfl, _, World.drewN_drewN _ _ _⟩ | exact ⟨rfl, _, Eq.trans (World.drewN_drewN _ _ _) (congrArg (World.drewN _) (Nat.add_assoc _ _ _))⟩)) | (go_at_call 63; (with_reducible refine (grottoref07_at.calls k1 _ _ l0 32 t255 _ ?side1 ?side2 A34.out).mono ?_); (case side1 => repeat (first | exact (Kd.C_below HR0.out HB.out) | (with_reducible refine Kd.C_alloc ?_ _) | (with_reducible refine Kd.C_drewN ?_ _) | (with_reducible refine Kd.C_drew ?_))); (case side2 => exact HC0.out); rintro e w' ⟨rfl, ⟨nd, rfl⟩⟩; (try first | exact ⟨rfl, _, World.drewN_drewN _ _ _⟩ | exact ⟨rfl, _, Eq.trans (World.drewN_drewN _ _ _) (congrArg (World.drewN _) (Nat.add_assoc _ _ _))⟩))); go_upto_region 13 with (first | (go_at_call 63; (with_reducible refine (grottoref07_at.calls k1 _ _ l0 4 t248 _ ?side1 ?side2 A27.out).mono ?_); (case side1 => repeat (first | exact (Kd.C_below HR0.out HB.out) | (with_reducible refine Kd.C_alloc ?_ _) | (with_reducible refine Kd.C_drewN ?_ _) | (with_reducible refine Kd.C_drew ?_))); (case side2 => exact HC0.out); rintro e w' ⟨rfl, ⟨nd, rfl⟩⟩; (try first | exact ⟨rfl, _, World.drewN_drewN _ _ _⟩ | exact ⟨rfl, _, Eq.trans (World.drewN_drewN _ _ _) (congrArg (World.drewN _) (Nat.add_assoc _ _ _))⟩)) | (go_at_call 63; (with_reducible refine (grottoref07_at.calls k1 _ _ l0 8 t249 _ ?side1 ?side2 A28.out).mono ?_); (case side1 => repeat (first | exact (Kd.C_below HR0.out HB.out) | (with_reducible refine Kd.C_alloc ?_ _) | (with_reducible refine Kd.C_drewN ?_ _) | (with_reducible refine Kd.C_drew ?_))); (case side2 => exact HC0.out); rintro e w' ⟨rfl, ⟨nd, rfl⟩⟩; (try first | exact ⟨rfl, _, World.drewN_drewN _ _ _⟩ | exact ⟨rfl, _, Eq.trans (World.drewN_drewN _ _ _) (congrArg (World.drewN _) (Nat.add_assoc _ _ _))⟩)) | (go_at_call 63; (with_reducible refine (grottoref07_at.calls k1 _ _ l0 12 t250 _ ?side1 ?side2 A29.out).mono ?_); (case side1 => repeat (first | exact (Kd.C_below HR0.out HB.out) | (with_reducible refine Kd.C_alloc ?_ _) | (with_reducible refine Kd.C_drewN ?_ _) | (with_reducible refine Kd.C_drew ?_))); (case side2 => exact HC0.out); rintro e w' ⟨rfl, ⟨nd, rfl⟩⟩; (try first | exact ⟨rfl, _, World.drewN_drewN _ _ _⟩ | exact ⟨rfl, _, Eq.trans (World.drewN_drewN _ _ _) (congrArg (World.drewN _) (Nat.add_assoc _ _ _))⟩)) | (go_at_call 63; (with_reducible refine (grottoref07_at.calls k1 _ _ l0 16 t251 _ ?side1 ?side2 A30.out).mono ?_); (case side1 => repeat (first | exact (Kd.C_below HR0.out HB.out) | (with_reducible refine Kd.C_alloc ?_ _) | (with_reducible refine Kd.C_drewN ?_ _) | (with_reducible refine Kd.C_drew ?_))); (case side2 => exact HC0.out); rintro e w' ⟨rfl, ⟨nd, rfl⟩⟩; (try first | exact ⟨rfl, _, World.drewN_drewN _ _ _⟩ | exact ⟨rfl, _, Eq.trans (World.drewN_drewN _ _ _) (congrArg (World.drewN _) (Nat.add_assoc _ _ _))⟩)) | (go_at_call 63; (with_reducible refine (grottoref07_at.calls k1 _ _ l0 20 t252 _ ?side1 ?side2 A31.out).mono ?_); (case side1 => repeat (first | exact (Kd.C_below HR0.out HB.out) | (with_reducible refine Kd.C_alloc ?_ _) | (with_reducible refine Kd.C_drewN ?_ _) | (with_reducible refine Kd.C_drew ?_))); (case side2 => exact HC0.out); rintro e w' ⟨rfl, ⟨nd, rfl⟩⟩; (try first | exact ⟨rfl, _, World.drewN_drewN _ _ _⟩ | exact ⟨rfl, _, Eq.trans (World.drewN_drewN _ _ _) (congrArg (World.drewN _) (Nat.add_assoc _ _ _))⟩)) | (go_at_call 63; (with_reducible refine (grottoref07_at.calls k1 _ _ l0 24 t253 _ ?side1 ?side2 A32.out).mono ?_); (case side1 => repeat (first | exact (Kd.C_below HR0.out HB.out) | (with_reducible refine Kd.C_alloc ?_ _) | (with_reducible refine Kd.C_drewN ?_ _) | (with_reducible refine Kd.C_drew ?_))); (case side2 => exact HC0.out); rintro e w' ⟨rfl, ⟨nd, rfl⟩⟩; (try first | exact ⟨rfl, _, World.drewN_drewN _ _ _⟩ | exact ⟨rfl, _, Eq.trans (World.drewN_drewN _ _ _) (congrArg (World.drewN _) (Nat.add_assoc _ _ _))⟩)) | (go_at_call 63; (with_reducible refine (grottoref07_at.calls k1 _ _ l0 28 t254 _ ?side1 ?side2 A33.out).mono ?_); (case side1 => repeat (first | exact (Kd.C_below HR0.out HB.out) | (with_reducible refine Kd.C_alloc ?_ _) | (with_reducible refine Kd.C_drewN ?_ _) | (with_reducible refine Kd.C_drew ?_))); (case side2 => exact HC0.out); rintro e w' ⟨rfl, ⟨nd, rfl⟩⟩; (try first | exact ⟨rfl, _, World.drewN_drewN _ _ _⟩ | exact ⟨rfl, _, Eq.trans (World.drewN_drewN _ _ _) (congrArg (World.drewN _) (Nat.add_assoc _ _ _))⟩)) | (go_at_call 63; (with_reducible refine (grottoref07_at.calls k1 _ _ l0 32 t255 _ ?side1 ?side2 A34.out).mono ?_); (case side1 => repeat (first | exact (Kd.C_below HR0.out HB.out) | (with_reducible refine Kd.C_alloc ?_ _) | (with_reducible refine Kd.C_drewN ?_ _) | (with_reducible refine Kd.C_drew ?_))); (case side2 => exact HC0.out); rintro e w' ⟨rfl, ⟨nd, rfl⟩⟩; (try first | exact ⟨rfl, _, World.drewN_drewN _ _ _⟩ | exact ⟨rfl, _, Eq.trans (World.drewN_drewN _ _ _) (congrArg (World.drewN _) (Nat.add_assoc _ _ _))⟩))))
            (try simp only [Act.put, List.setIfInBounds_toArray, List.set_cons_zero, List.set_cons_succ])
            have b1_ : ∀ n, (wr.drewN n).heap[gb245]? = some (.cells #[.int .u32 0, .int .u32 0, .int .u32 0, .int .u32 0, .int .u32 0, .int .u32 0, .int .u32 0, .int .u32 0] 66 (0, 0)) := fun n => blk_drewN BK245.out n
            have b2_ : ∀ n, (wr.drewN n).heap[gb246]? = some (.cells #[.int .u32 0, .int .u32 0, .int .u32 0, .int .u32 0, .int .u32 0, .int .u32 0, .int .u32 0, .int .u32 0] 66 (0, 0)) := fun n => blk_drewN BK246.out n
            have b3_ : ∀ n, Below w.heap.size w (wr.drewN n) := fun n => pw_below_drewN HB.out n
            generalize hW_ : World.drewN _ _ = wc
            obtain ⟨n_, hn_⟩ : ∃ n, World.drewN wr n = wc := ⟨_, hW_⟩
            replace b1_ := b1_ n_
            replace b2_ := b2_ n_
            replace b3_ := b3_ n_
            rw [hn_] at b1_ b2_ b3_
            clear hW_ hn_ BK245 BK246 HB
            have BK245 := Aside0.mk b1_
            have BK246 := Aside0.mk b2_
            have HB := Aside0.mk b3_
            clear b1_ b2_ b3_
            have H := HT.out
            clear HT
            have H : (if t248 < 131072 then some (0, 0, 0, 0, 0, 0, 0, 0, 70, 4) else (if t248 > 197119 then some (0, 0, 0, 0, 0, 0, 0, 0, 70, 4) else (if t249 < 256 then some (0, 0, 0, 0, 0, 0, 0, 0, 71, 8) else (if ¬ (Int.tmod t249 256 = 0) then some (0, 0, 0, 0, 0, 0, 0, 0, 71, 8) else (if t250 < t249 then some (0, 0, 0, 0, 0, 0, 0, 0, 71, 12) else (if ¬ (t250 = (l0.length : Int)) then some (0, 0, 0, 0, 0, 0, 0, 0, 71, 12) else (if ¬ (Int.tmod t250 256 = 0) then some (0, 0, 0, 0, 0, 0, 0, 0, 71, 12) else (if t251 < t250 then some (0, 0, 0, 0, 0, 0, 0, 0, 71, 16) else (if t251 > 1048576 then some (0, 0, 0, 0, 0, 0, 0, 0, 71, 16) else (if ¬ (Int.tmod t251 256 = 0) then some (0, 0, 0, 0, 0, 0, 0, 0, 71, 16) else (if t252 = 0 then some (0, 0, 0, 0, 0, 0, 0, 0, 72, 20) else (if t252 > 65536 then some (0, 0, 0, 0, 0, 0, 0, 0, 72, 20) else (if ¬ (Int.tmod t252 256 = 0) then some (0, 0, 0, 0, 0, 0, 0, 0, 72, 20) else (if t253 < 36 then some (0, 0, 0, 0, 0, 0, 0, 0, 71, 24) else (if t253 ≥ t251 then some (0, 0, 0, 0, 0, 0, 0, 0, 71, 24) else (if t254 ≥ t251 then some (0, 0, 0, 0, 0, 0, 0, 0, 71, 28) else ((grottoref07_Sum.f k1 l0).bind fun t256 => (if t255 = wrap64 t256 then some (t248 % 4294967296, t249 % 4294967296, t250 % 4294967296, t251 % 4294967296, t252 % 4294967296, t253 % 4294967296, t254 % 4294967296, t255 % 4294967296, 0, 36) else some (0, 0, 0, 0, 0, 0, 0, 0, 73, 32))))))))))))))))))) = some (r1, r2, r3, r4, r5, r6, r7, r8, r9, r10) := H
            by_cases c100 : t248 < 131072
            · rw [if_pos c100] at H
              have c100b0 : decide (t248 < 131072) = true := decide_eq_true c100
              clear c100
              simp only [Option.some.injEq, Prod.mk.injEq] at H
              obtain ⟨rfl, rfl, rfl, rfl, rfl, rfl, rfl, rfl, rfl, rfl⟩ := H
              have hnb_ := NB246_245.out
              have hnc_ := NB245_246.out
              obtain ⟨hcz6_0, hcz6_1, hcz6_2, hcz6_3, hcz6_4, hcz6_5, hcz6_6, hcz6_7, hfz6_0, hfz6_1, hfz6_2, hfz6_3, hfz6_4, hfz6_5, hfz6_6, hfz6_7⟩ := cells8r BK246.out
              obtain ⟨hcz5_0, hcz5_1, hcz5_2, hcz5_3, hcz5_4, hcz5_5, hcz5_6, hcz5_7, hfz5_0, hfz5_1, hfz5_2, hfz5_3, hfz5_4, hfz5_5, hfz5_6, hfz5_7⟩ := cells8r BK245.out
              go_wp2
              repeat (go_quiet (fail); try go_wp2)
              refine bodyPost_ret (results_ctt rfl _ _ gb245 66 #[.int .u32 (0), .int .u32 (0), .int .u32 (0), .int .u32 (0), .int .u32 (0), .int .u32 (0), .int .u32 (0), .int .u32 (0)] (0, 0) _ rfl (zkp BK245) Try.underlying66 rfl (by kernel_rfl)) rfl ?_
              exact ⟨by first | rfl | (simp [errW_none, errW_some] <;> rfl) | (simp [*, errW_none, errW_some] <;> rfl), zb HB⟩
            · rw [if_neg c100] at H
              have c100b0 : decide (t248 < 131072) = false := decide_eq_false c100
              clear c100
              by_cases c101 : t248 > 197119
              · rw [if_pos c101] at H
                have c101b0 : decide (197119 < t248) = true := decide_eq_true c101
                clear c101
                simp only [Option.some.injEq, Prod.mk.injEq] at H
                obtain ⟨rfl, rfl, rfl, rfl, rfl, rfl, rfl, rfl, rfl, rfl⟩ := H
                have hnb_ := NB246_245.out
                have hnc_ := NB245_246.out
                obtain ⟨hcz6_0, hcz6_1, hcz6_2, hcz6_3, hcz6_4, hcz6_5, hcz6_6, hcz6_7, hfz6_0, hfz6_1, hfz6_2, hfz6_3, hfz6_4, hfz6_5, hfz6_6, hfz6_7⟩ := cells8r BK246.out
                obtain ⟨hcz5_0, hcz5_1, hcz5_2, hcz5_3, hcz5_4, hcz5_5, hcz5_6, hcz5_7, hfz5_0, hfz5_1, hfz5_2, hfz5_3, hfz5_4, hfz5_5, hfz5_6, hfz5_7⟩ := cells8r BK245.out
                go_wp2
                repeat (go_quiet (fail); try go_wp2)
                refine bodyPost_ret (results_ctt rfl _ _ gb245 66 #[.int .u32 (0), .int .u32 (0), .int .u32 (0), .int .u32 (0), .int .u32 (0), .int .u32 (0), .int .u32 (0), .int .u32 (0)] (0, 0) _ rfl (zkp BK245) Try.underlying66 rfl (by kernel_rfl)) rfl ?_
                exact ⟨by first | rfl | (simp [errW_none, errW_some] <;> rfl) | (simp [*, errW_none, errW_some] <;> rfl), zb HB⟩
              · rw [if_neg c101] at H
                have c101b0 : decide (197119 < t248) = false := decide_eq_false c101
                clear c101
                have HT := Aside0.mk H
                clear H
                go_upto_region 15 with (fail)
                repeat (go_quiet (fail); go_upto_region 15 with (fail))
                have H := HT.out
                clear HT
                by_cases c102 : t249 < 256
                · rw [if_pos c102] at H
                  have c102b0 : decide (t249 < 256) = true := decide_eq_true c102
                  clear c102
                  simp only [Option.some.injEq, Prod.mk.injEq] at H
                  obtain ⟨rfl, rfl, rfl, rfl, rfl, rfl, rfl, rfl, rfl, rfl⟩ := H
                  have hnb_ := NB246_245.out
                  have hnc_ := NB245_246.out
                  obtain ⟨hcz6_0, hcz6_1, hcz6_2, hcz6_3, hcz6_4, hcz6_5, hcz6_6, hcz6_7, hfz6_0, hfz6_1, hfz6_2, hfz6_3, hfz6_4, hfz6_5, hfz6_6, hfz6_7⟩ := cells8r BK246.out
                  obtain ⟨hcz5_0, hcz5_1, hcz5_2, hcz5_3, hcz5_4, hcz5_5, hcz5_6, hcz5_7, hfz5_0, hfz5_1, hfz5_2, hfz5_3, hfz5_4, hfz5_5, hfz5_6, hfz5_7⟩ := cells8r BK245.out
                  go_wp2
                  repeat (go_quiet (fail); try go_wp2)
                  refine bodyPost_ret (results_ctt rfl _ _ gb245 66 #[.int .u32 (0), .int .u32 (0), .int .u32 (0), .int .u32 (0), .int .u32 (0), .int .u32 (0), .int .u32 (0), .int .u32 (0)] (0, 0) _ rfl (zkp BK245) Try.underlying66 rfl (by kernel_rfl)) rfl ?_
                  exact ⟨by first | rfl | (simp [errW_none, errW_some] <;> rfl) | (simp [*, errW_none, errW_some] <;> rfl), zb HB⟩
                · rw [if_neg c102] at H
                  have c102b0 : decide (t249 < 256) = false := decide_eq_false c102
                  clear c102
                  by_cases c103 : ¬ (Int.tmod t249 256 = 0)
                  · rw [if_pos c103] at H
                    have c103b0 : (Int.tmod t249 256 == 0) = false := beq_eq_false_iff_ne.mpr c103
                    have c103b1 : (Int.tmod t249 256 != 0) = true := bne_iff_ne.mpr c103
                    clear c103
                    simp only [Option.some.injEq, Prod.mk.injEq] at H
                    obtain ⟨rfl, rfl, rfl, rfl, rfl, rfl, rfl, rfl, rfl, rfl⟩ := H
                    have hnb_ := NB246_245.out
                    have hnc_ := NB245_246.out
                    obtain ⟨hcz6_0, hcz6_1, hcz6_2, hcz6_3, hcz6_4, hcz6_5, hcz6_6, hcz6_7, hfz6_0, hfz6_1, hfz6_2, hfz6_3, hfz6_4, hfz6_5, hfz6_6, hfz6_7⟩ := cells8r BK246.out
                    obtain ⟨hcz5_0, hcz5_1, hcz5_2, hcz5_3, hcz5_4, hcz5_5, hcz5_6, hcz5_7, hfz5_0, hfz5_1, hfz5_2, hfz5_3, hfz5_4, hfz5_5, hfz5_6, hfz5_7⟩ := cells8r BK245.out
                    go_wp2
                    repeat (go_quiet (fail); try go_wp2)
                    refine bodyPost_ret (results_ctt rfl _ _ gb245 66 #[.int .u32 (0), .int .u32 (0), .int .u32 (0), .int .u32 (0), .int .u32 (0), .int .u32 (0), .int .u32 (0), .int .u32 (0)] (0, 0) _ rfl (zkp BK245) Try.underlying66 rfl (by kernel_rfl)) rfl ?_
                    exact ⟨by first | rfl | (simp [errW_none, errW_some] <;> rfl) | (simp [*, errW_none, errW_some] <;> rfl), zb HB⟩
                  · rw [if_neg c103] at H
                    have c103b0 : (Int.tmod t249 256 == 0) = true := beq_iff_eq.mpr (Decidable.not_not.mp c103)
                    have c103b1 : (Int.tmod t249 256 != 0) = false := bne_eq_false_iff_eq.mpr (Decidable.not_not.mp c103)
                    clear c103
                    have HT := Aside0.mk H
                    clear H
                    go_upto_region 17 with (fail)
                    repeat (go_quiet (fail); go_upto_region 17 with (fail))
                    have H := HT.out
                    clear HT
                    by_cases c104 : t250 < t249
                    · rw [if_pos c104] at H
                      have c104b0 : decide (t250 < t249) = true := decide_eq_true c104
                      clear c104
                      simp only [Option.some.injEq, Prod.mk.injEq] at H
                      obtain ⟨rfl, rfl, rfl, rfl, rfl, rfl, rfl, rfl, rfl, rfl⟩ := H
                      have hnb_ := NB246_245.out
                      have hnc_ := NB245_246.out
                      obtain ⟨hcz6_0, hcz6_1, hcz6_2, hcz6_3, hcz6_4, hcz6_5, hcz6_6, hcz6_7, hfz6_0, hfz6_1, hfz6_2, hfz6_3, hfz6_4, hfz6_5, hfz6_6, hfz6_7⟩ := cells8r BK246.out
                      obtain ⟨hcz5_0, hcz5_1, hcz5_2, hcz5_3, hcz5_4, hcz5_5, hcz5_6, hcz5_7, hfz5_0, hfz5_1, hfz5_2, hfz5_3, hfz5_4, hfz5_5, hfz5_6, hfz5_7⟩ := cells8r BK245.out
                      go_wp2
                      repeat (go_quiet (fail); try go_wp2)
                      refine bodyPost_ret (results_ctt rfl _ _ gb245 66 #[.int .u32 (0), .int .u32 (0), .int .u32 (0), .int .u32 (0), .int .u32 (0), .int .u32 (0), .int .u32 (0), .int .u32 (0)] (0, 0) _ rfl (zkp BK245) Try.underlying66 rfl (by kernel_rfl)) rfl ?_
                      exact ⟨by first | rfl | (simp [errW_none, errW_some] <;> rfl) | (simp [*, errW_none, errW_some] <;> rfl), zb HB⟩
                    · rw [if_neg c104] at H
                      have c104b0 : decide (t250 < t249) = false := decide_eq_false c104
                      clear c104
                      by_cases c105 : ¬ (t250 = (l0.length : Int))
                      · rw [if_pos c105] at H
                        have c105b0 : (t250 == (l0.length : Int)) = false := beq_eq_false_iff_ne.mpr c105
                        have c105b1 : (t250 != (l0.length : Int)) = true := bne_iff_ne.mpr c105
                        clear c105
                        simp only [Option.some.injEq, Prod.mk.injEq] at H
                        obtain ⟨rfl, rfl, rfl, rfl, rfl, rfl, rfl, rfl, rfl, rfl⟩ := H
                        have hnb_ := NB246_245.out
                        have hnc_ := NB245_246.out
                        obtain ⟨hcz6_0, hcz6_1, hcz6_2, hcz6_3, hcz6_4, hcz6_5, hcz6_6, hcz6_7, hfz6_0, hfz6_1, hfz6_2, hfz6_3, hfz6_4, hfz6_5, hfz6_6, hfz6_7⟩ := cells8r BK246.out
                        obtain ⟨hcz5_0, hcz5_1, hcz5_2, hcz5_3, hcz5_4, hcz5_5, hcz5_6, hcz5_7, hfz5_0, hfz5_1, hfz5_2, hfz5_3, hfz5_4, hfz5_5, hfz5_6, hfz5_7⟩ := cells8r BK245.out
                        go_wp2
                        repeat (go_quiet (fail); try go_wp2)
                        refine bodyPost_ret (results_ctt rfl _ _ gb245 66 #[.int .u32 (0), .int .u32 (0), .int .u32 (0), .int .u32 (0), .int .u32 (0), .int .u32 (0), .int .u32 (0), .int .u32 (0)] (0, 0) _ rfl (zkp BK245) Try.underlying66 rfl (by kernel_rfl)) rfl ?_
                        exact ⟨by first | rfl | (simp [errW_none, errW_some] <;> rfl) | (simp [*, errW_none, errW_some] <;> rfl), zb HB⟩
                      · rw [if_neg c105] at H
                        have c105b0 : (t250 == (l0.length : Int)) = true := beq_iff_eq.mpr (Decidable.not_not.mp c105)
                        have c105b1 : (t250 != (l0.length : Int)) = false := bne_eq_false_iff_eq.mpr (Decidable.not_not.mp c105)
                        clear c105
                        by_cases c106 : ¬ (Int.tmod t250 256 = 0)
                        · rw [if_pos c106] at H
                          have c106b0 : (Int.tmod t250 256 == 0) = false := beq_eq_false_iff_ne.mpr c106
                          have c106b1 : (Int.tmod t250 256 != 0) = true := bne_iff_ne.mpr c106
                          clear c106
                          simp only [Option.some.injEq, Prod.mk.injEq] at H
                          obtain ⟨rfl, rfl, rfl, rfl, rfl, rfl, rfl, rfl, rfl, rfl⟩ := H
                          have hnb_ := NB246_245.out
                          have hnc_ := NB245_246.out
                          obtain ⟨hcz6_0, hcz6_1, hcz6_2, hcz6_3, hcz6_4, hcz6_5, hcz6_6, hcz6_7, hfz6_0, hfz6_1, hfz6_2, hfz6_3, hfz6_4, hfz6_5, hfz6_6, hfz6_7⟩ := cells8r BK246.out
                          obtain ⟨hcz5_0, hcz5_1, hcz5_2, hcz5_3, hcz5_4, hcz5_5, hcz5_6, hcz5_7, hfz5_0, hfz5_1, hfz5_2, hfz5_3, hfz5_4, hfz5_5, hfz5_6, hfz5_7⟩ := cells8r BK245.out
                          go_wp2
                          repeat (go_quiet (fail); try go_wp2)
                          refine bodyPost_ret (results_ctt rfl _ _ gb245 66 #[.int .u32 (0), .int .u32 (0), .int .u32 (0), .int .u32 (0), .int .u32 (0), .int .u32 (0), .int .u32 (0), .int .u32 (0)] (0, 0) _ rfl (zkp BK245) Try.underlying66 rfl (by kernel_rfl)) rfl ?_
                          exact ⟨by first | rfl | (simp [errW_none, errW_some] <;> rfl) | (simp [*, errW_none, errW_some] <;> rfl), zb HB⟩
                        · rw [if_neg c106] at H
                          have c106b0 : (Int.tmod t250 256 == 0) = true := beq_iff_eq.mpr (Decidable.not_not.mp c106)
                          have c106b1 : (Int.tmod t250 256 != 0) = false := bne_eq_false_iff_eq.mpr (Decidable.not_not.mp c106)
                          clear c106
                          have HT := Aside0.mk H
                          clear H
                          go_upto_region 19 with (fail)
                          repeat (go_quiet (fail); go_upto_region 19 with (fail))
                          have H := HT.out
                          clear HT
                          by_cases c107 : t251 < t250
                          · rw [if_pos c107] at H
                            have c107b0 : decide (t251 < t250) = true := decide_eq_true c107
                            clear c107
                            simp only [Option.some.injEq, Prod.mk.injEq] at H
                            obtain ⟨rfl, rfl, rfl, rfl, rfl, rfl, rfl, rfl, rfl, rfl⟩ := H
                            have hnb_ := NB246_245.out
                            have hnc_ := NB245_246.out
                            obtain ⟨hcz6_0, hcz6_1, hcz6_2, hcz6_3, hcz6_4, hcz6_5, hcz6_6, hcz6_7, hfz6_0, hfz6_1, hfz6_2, hfz6_3, hfz6_4, hfz6_5, hfz6_6, hfz6_7⟩ := cells8r BK246.out
                            obtain ⟨hcz5_0, hcz5_1, hcz5_2, hcz5_3, hcz5_4, hcz5_5, hcz5_6, hcz5_7, hfz5_0, hfz5_1, hfz5_2, hfz5_3, hfz5_4, hfz5_5, hfz5_6, hfz5_7⟩ := cells8r BK245.out
                            go_wp2
                            repeat (go_quiet (fail); try go_wp2)
                            refine bodyPost_ret (results_ctt rfl _ _ gb245 66 #[.int .u32 (0), .int .u32 (0), .int .u32 (0), .int .u32 (0), .int .u32 (0), .int .u32 (0), .int .u32 (0), .int .u32 (0)] (0, 0) _ rfl (zkp BK245) Try.underlying66 rfl (by kernel_rfl)) rfl ?_
                            exact ⟨by first | rfl | (simp [errW_none, errW_some] <;> rfl) | (simp [*, errW_none, errW_some] <;> rfl), zb HB⟩
                          · rw [if_neg c107] at H
                            have c107b0 : decide (t251 < t250) = false := decide_eq_false c107
                            clear c107
                            by_cases c108 : t251 > 1048576
                            · rw [if_pos c108] at H
                              have c108b0 : decide (1048576 < t251) = true := decide_eq_true c108
                              clear c108
                              simp only [Option.some.injEq, Prod.mk.injEq] at H
                              obtain ⟨rfl, rfl, rfl, rfl, rfl, rfl, rfl, rfl, rfl, rfl⟩ := H
                              have hnb_ := NB246_245.out
                              have hnc_ := NB245_246.out
                              obtain ⟨hcz6_0, hcz6_1, hcz6_2, hcz6_3, hcz6_4, hcz6_5, hcz6_6, hcz6_7, hfz6_0, hfz6_1, hfz6_2, hfz6_3, hfz6_4, hfz6_5, hfz6_6, hfz6_7⟩ := cells8r BK246.out
                              obtain ⟨hcz5_0, hcz5_1, hcz5_2, hcz5_3, hcz5_4, hcz5_5, hcz5_6, hcz5_7, hfz5_0, hfz5_1, hfz5_2, hfz5_3, hfz5_4, hfz5_5, hfz5_6, hfz5_7⟩ := cells8r BK245.out
                              go_wp2
                              repeat (go_quiet (fail); try go_wp2)
                              refine bodyPost_ret (results_ctt rfl _ _ gb245 66 #[.int .u32 (0), .int .u32 (0), .int .u32 (0), .int .u32 (0), .int .u32 (0), .int .u32 (0), .int .u32 (0), .int .u32 (0)] (0, 0) _ rfl (zkp BK245) Try.underlying66 rfl (by kernel_rfl)) rfl ?_
                              exact ⟨by first | rfl | (simp [errW_none, errW_some] <;> rfl) | (simp [*, errW_none, errW_some] <;> rfl), zb HB⟩
                            · rw [if_neg c108] at H
                              have c108b0 : decide (1048576 < t251) = false := decide_eq_false c108
                              clear c108
                              by_cases c109 : ¬ (Int.tmod t251 256 = 0)
                              · rw [if_pos c109] at H
                                have c109b0 : (Int.tmod t251 256 == 0) = false := beq_eq_false_iff_ne.mpr c109
                                have c109b1 : (Int.tmod t251 256 != 0) = true := bne_iff_ne.mpr c109
                                clear c109
                                simp only [Option.some.injEq, Prod.mk.injEq] at H
                                obtain ⟨rfl, rfl, rfl, rfl, rfl, rfl, rfl, rfl, rfl, rfl⟩ := H
                                have hnb_ := NB246_245.out
                                have hnc_ := NB245_246.out
                                obtain ⟨hcz6_0, hcz6_1, hcz6_2, hcz6_3, hcz6_4, hcz6_5, hcz6_6, hcz6_7, hfz6_0, hfz6_1, hfz6_2, hfz6_3, hfz6_4, hfz6_5, hfz6_6, hfz6_7⟩ := cells8r BK246.out
                                obtain ⟨hcz5_0, hcz5_1, hcz5_2, hcz5_3, hcz5_4, hcz5_5, hcz5_6, hcz5_7, hfz5_0, hfz5_1, hfz5_2, hfz5_3, hfz5_4, hfz5_5, hfz5_6, hfz5_7⟩ := cells8r BK245.out
                                go_wp2
                                repeat (go_quiet (fail); try go_wp2)
                                refine bodyPost_ret (results_ctt rfl _ _ gb245 66 #[.int .u32 (0), .int .u32 (0), .int .u32 (0), .int .u32 (0), .int .u32 (0), .int .u32 (0), .int .u32 (0), .int .u32 (0)] (0, 0) _ rfl (zkp BK245) Try.underlying66 rfl (by kernel_rfl)) rfl ?_
                                exact ⟨by first | rfl | (simp [errW_none, errW_some] <;> rfl) | (simp [*, errW_none, errW_some] <;> rfl), zb HB⟩
                              · rw [if_neg c109] at H
                                have c109b0 : (Int.tmod t251 256 == 0) = true := beq_iff_eq.mpr (Decidable.not_not.mp c109)
                                have c109b1 : (Int.tmod t251 256 != 0) = false := bne_eq_false_iff_eq.mpr (Decidable.not_not.mp c109)
                                clear c109
                                have HT := Aside0.mk H
                                clear H
                                go_upto_region 21 with (fail)
                                repeat (go_quiet (fail); go_upto_region 21 with (fail))
                                have H := HT.out
                                clear HT
                                by_cases c110 : t252 = 0
                                · rw [if_pos c110] at H
                                  have c110b0 : (t252 == 0) = true := beq_iff_eq.mpr c110
                                  have c110b1 : (t252 != 0) = false := bne_eq_false_iff_eq.mpr c110
                                  clear c110
                                  simp only [Option.some.injEq, Prod.mk.injEq] at H
                                  obtain ⟨rfl, rfl, rfl, rfl, rfl, rfl, rfl, rfl, rfl, rfl⟩ := H
                                  have hnb_ := NB246_245.out
                                  have hnc_ := NB245_246.out
                                  obtain ⟨hcz6_0, hcz6_1, hcz6_2, hcz6_3, hcz6_4, hcz6_5, hcz6_6, hcz6_7, hfz6_0, hfz6_1, hfz6_2, hfz6_3, hfz6_4, hfz6_5, hfz6_6, hfz6_7⟩ := cells8r BK246.out
                                  obtain ⟨hcz5_0, hcz5_1, hcz5_2, hcz5_3, hcz5_4, hcz5_5, hcz5_6, hcz5_7, hfz5_0, hfz5_1, hfz5_2, hfz5_3, hfz5_4, hfz5_5, hfz5_6, hfz5_7⟩ := cells8r BK245.out
                                  go_wp2
                                  repeat (go_quiet (fail); try go_wp2)
                                  refine bodyPost_ret (results_ctt rfl _ _ gb245 66 #[.int .u32 (0), .int .u32 (0), .int .u32 (0), .int .u32 (0), .int .u32 (0), .int .u32 (0), .int .u32 (0), .int .u32 (0)] (0, 0) _ rfl (zkp BK245) Try.underlying66 rfl (by kernel_rfl)) rfl ?_
                                  exact ⟨by first | rfl | (simp [errW_none, errW_some] <;> rfl) | (simp [*, errW_none, errW_some] <;> rfl), zb HB⟩
                                · rw [if_neg c110] at H
                                  have c110b0 : (t252 == 0) = false := beq_eq_false_iff_ne.mpr c110
                                  have c110b1 : (t252 != 0) = true := bne_iff_ne.mpr c110
                                  clear c110
                                  by_cases c111 : t252 > 65536
                                  · rw [if_pos c111] at H
                                    have c111b0 : decide (65536 < t252) = true := decide_eq_true c111
                                    clear c111
                                    simp only [Option.some.injEq, Prod.mk.injEq] at H
                                    obtain ⟨rfl, rfl, rfl, rfl, rfl, rfl, rfl, rfl, rfl, rfl⟩ := H
                                    have hnb_ := NB246_245.out
                                    have hnc_ := NB245_246.out
                                    obtain ⟨hcz6_0, hcz6_1, hcz6_2, hcz6_3, hcz6_4, hcz6_5, hcz6_6, hcz6_7, hfz6_0, hfz6_1, hfz6_2, hfz6_3, hfz6_4, hfz6_5, hfz6_6, hfz6_7⟩ := cells8r BK246.out
                                    obtain ⟨hcz5_0, hcz5_1, hcz5_2, hcz5_3, hcz5_4, hcz5_5, hcz5_6, hcz5_7, hfz5_0, hfz5_1, hfz5_2, hfz5_3, hfz5_4, hfz5_5, hfz5_6, hfz5_7⟩ := cells8r BK245.out
                                    go_wp2
                                    repeat (go_quiet (fail); try go_wp2)
                                    refine bodyPost_ret (results_ctt rfl _ _ gb245 66 #[.int .u32 (0), .int .u32 (0), .int .u32 (0), .int .u32 (0), .int .u32 (0), .int .u32 (0), .int .u32 (0), .int .u32 (0)] (0, 0) _ rfl (zkp BK245) Try.underlying66 rfl (by kernel_rfl)) rfl ?_
                                    exact ⟨by first | rfl | (simp [errW_none, errW_some] <;> rfl) | (simp [*, errW_none, errW_some] <;> rfl), zb HB⟩
                                  · rw [if_neg c111] at H
                                    have c111b0 : decide (65536 < t252) = false := decide_eq_false c111
                                    clear c111
                                    by_cases c112 : ¬ (Int.tmod t252 256 = 0)
                                    · rw [if_pos c112] at H
                                      have c112b0 : (Int.tmod t252 256 == 0) = false := beq_eq_false_iff_ne.mpr c112
                                      have c112b1 : (Int.tmod t252 256 != 0) = true := bne_iff_ne.mpr c112
                                      clear c112
                                      simp only [Option.some.injEq, Prod.mk.injEq] at H
                                      obtain ⟨rfl, rfl, rfl, rfl, rfl, rfl, rfl, rfl, rfl, rfl⟩ := H
                                      have hnb_ := NB246_245.out
                                      have hnc_ := NB245_246.out
                                      obtain ⟨hcz6_0, hcz6_1, hcz6_2, hcz6_3, hcz6_4, hcz6_5, hcz6_6, hcz6_7, hfz6_0, hfz6_1, hfz6_2, hfz6_3, hfz6_4, hfz6_5, hfz6_6, hfz6_7⟩ := cells8r BK246.out
                                      obtain ⟨hcz5_0, hcz5_1, hcz5_2, hcz5_3, hcz5_4, hcz5_5, hcz5_6, hcz5_7, hfz5_0, hfz5_1, hfz5_2, hfz5_3, hfz5_4, hfz5_5, hfz5_6, hfz5_7⟩ := cells8r BK245.out
                                      go_wp2
                                      repeat (go_quiet (fail); try go_wp2)
                                      refine bodyPost_ret (results_ctt rfl _ _ gb245 66 #[.int .u32 (0), .int .u32 (0), .int .u32 (0), .int .u32 (0), .int .u32 (0), .int .u32 (0), .int .u32 (0), .int .u32 (0)] (0, 0) _ rfl (zkp BK245) Try.underlying66 rfl (by kernel_rfl)) rfl ?_
                                      exact ⟨by first | rfl | (simp [errW_none, errW_some] <;> rfl) | (simp [*, errW_none, errW_some] <;> rfl), zb HB⟩
                                    · rw [if_neg c112] at H
                                      have c112b0 : (Int.tmod t252 256 == 0) = true := beq_iff_eq.mpr (Decidable.not_not.mp c112)
                                      have c112b1 : (Int.tmod t252 256 != 0) = false := bne_eq_false_iff_eq.mpr (Decidable.not_not.mp c112)
                                      clear c112
                                      have HT := Aside0.mk H
                                      clear H
                                      go_upto_region 23 with (fail)
                                      repeat (go_quiet (fail); go_upto_region 23 with (fail))
                                      have H := HT.out
                                      clear HT
                                      by_cases c113 : t253 < 36
                                      · rw [if_pos c113] at H
                                        have c113b0 : decide (t253 < 36) = true := decide_eq_true c113
                                        clear c113
                                        simp only [Option.some.injEq, Prod.mk.injEq] at H
                                        obtain ⟨rfl, rfl, rfl, rfl, rfl, rfl, rfl, rfl, rfl, rfl⟩ := H
                                        have hnb_ := NB246_245.out
                                        have hnc_ := NB245_246.out
                                        obtain ⟨hcz6_0, hcz6_1, hcz6_2, hcz6_3, hcz6_4, hcz6_5, hcz6_6, hcz6_7, hfz6_0, hfz6_1, hfz6_2, hfz6_3, hfz6_4, hfz6_5, hfz6_6, hfz6_7⟩ := cells8r BK246.out
                                        obtain ⟨hcz5_0, hcz5_1, hcz5_2, hcz5_3, hcz5_4, hcz5_5, hcz5_6, hcz5_7, hfz5_0, hfz5_1, hfz5_2, hfz5_3, hfz5_4, hfz5_5, hfz5_6, hfz5_7⟩ := cells8r BK245.out
                                        go_wp2
                                        repeat (go_quiet (fail); try go_wp2)
                                        refine bodyPost_ret (results_ctt rfl _ _ gb245 66 #[.int .u32 (0), .int .u32 (0), .int .u32 (0), .int .u32 (0), .int .u32 (0), .int .u32 (0), .int .u32 (0), .int .u32 (0)] (0, 0) _ rfl (zkp BK245) Try.underlying66 rfl (by kernel_rfl)) rfl ?_
                                        exact ⟨by first | rfl | (simp [errW_none, errW_some] <;> rfl) | (simp [*, errW_none, errW_some] <;> rfl), zb HB⟩
                                      · rw [if_neg c113] at H
                                        have c113b0 : decide (t253 < 36) = false := decide_eq_false c113
                                        clear c113
                                        by_cases c114 : t253 ≥ t251
                                        · rw [if_pos c114] at H
                                          have c114b0 : decide (t251 ≤ t253) = true := decide_eq_true c114
                                          clear c114
                                          simp only [Option.some.injEq, Prod.mk.injEq] at H
                                          obtain ⟨rfl, rfl, rfl, rfl, rfl, rfl, rfl, rfl, rfl, rfl⟩ := H
                                          have hnb_ := NB246_245.out
                                          have hnc_ := NB245_246.out
                                          obtain ⟨hcz6_0, hcz6_1, hcz6_2, hcz6_3, hcz6_4, hcz6_5, hcz6_6, hcz6_7, hfz6_0, hfz6_1, hfz6_2, hfz6_3, hfz6_4, hfz6_5, hfz6_6, hfz6_7⟩ := cells8r BK246.out
                                          obtain ⟨hcz5_0, hcz5_1, hcz5_2, hcz5_3, hcz5_4, hcz5_5, hcz5_6, hcz5_7, hfz5_0, hfz5_1, hfz5_2, hfz5_3, hfz5_4, hfz5_5, hfz5_6, hfz5_7⟩ := cells8r BK245.out
                                          go_wp2
                                          repeat (go_quiet (fail); try go_wp2)
                                          refine bodyPost_ret (results_ctt rfl _ _ gb245 66 #[.int .u32 (0), .int .u32 (0), .int .u32 (0), .int .u32 (0), .int .u32 (0), .int .u32 (0), .int .u32 (0), .int .u32 (0)] (0, 0) _ rfl (zkp BK245) Try.underlying66 rfl (by kernel_rfl)) rfl ?_
                                          exact ⟨by first | rfl | (simp [errW_none, errW_some] <;> rfl) | (simp [*, errW_none, errW_some] <;> rfl), zb HB⟩
                                        · rw [if_neg c114] at H
                                          have c114b0 : decide (t251 ≤ t253) = false := decide_eq_false c114
                                          clear c114
                                          by_cases c115 : t254 ≥ t251
                                          · rw [if_pos c115] at H
                                            have c115b0 : decide (t251 ≤ t254) = true := decide_eq_true c115
                                            clear c115
                                            simp only [Option.some.injEq, Prod.mk.injEq] at H
                                            obtain ⟨rfl, rfl, rfl, rfl, rfl, rfl, rfl, rfl, rfl, rfl⟩ := H
                                            have hnb_ := NB246_245.out
                                            have hnc_ := NB245_246.out
                                            obtain ⟨hcz6_0, hcz6_1, hcz6_2, hcz6_3, hcz6_4, hcz6_5, hcz6_6, hcz6_7, hfz6_0, hfz6_1, hfz6_2, hfz6_3, hfz6_4, hfz6_5, hfz6_6, hfz6_7⟩ := cells8r BK246.out
                                            obtain ⟨hcz5_0, hcz5_1, hcz5_2, hcz5_3, hcz5_4, hcz5_5, hcz5_6, hcz5_7, hfz5_0, hfz5_1, hfz5_2, hfz5_3, hfz5_4, hfz5_5, hfz5_6, hfz5_7⟩ := cells8r BK245.out
                                            go_wp2
                                            repeat (go_quiet (fail); try go_wp2)
                                            refine bodyPost_ret (results_ctt rfl _ _ gb245 66 #[.int .u32 (0), .int .u32 (0), .int .u32 (0), .int .u32 (0), .int .u32 (0), .int .u32 (0), .int .u32 (0), .int .u32 (0)] (0, 0) _ rfl (zkp BK245) Try.underlying66 rfl (by kernel_rfl)) rfl ?_
                                            exact ⟨by first | rfl | (simp [errW_none, errW_some] <;> rfl) | (simp [*, errW_none, errW_some] <;> rfl), zb HB⟩
                                          · rw [if_neg c115] at H
                                            have c115b0 : decide (t251 ≤ t254) = false := decide_eq_false c115
                                            clear c115
                                            replace H := Option.bind_eq_some_iff.mp H
                                            obtain ⟨t256, A780, H⟩ := H
                                            have A78 := Aside0.mk A780
                                            clear A780
                                            by_cases c199 : t255 = wrap64 t256
                                            · rw [if_pos c199] at H
                                              have c199b0 : (t255 == (wrap64 (t256))) = true := beq_iff_eq.mpr c199
                                              have c199b1 : (t255 != (wrap64 (t256))) = false := bne_eq_false_iff_eq.mpr c199
                                              clear c199
                                              simp only [Option.some.injEq, Prod.mk.injEq] at H
                                              obtain ⟨rfl, rfl, rfl, rfl, rfl, rfl, rfl, rfl, rfl, rfl⟩ := H
                                              have hnb_ := NB246_245.out
                                              have hnc_ := NB245_246.out
                                              obtain ⟨hcz5_0, hcz5_1, hcz5_2, hcz5_3, hcz5_4, hcz5_5, hcz5_6, hcz5_7, hfz5_0, hfz5_1, hfz5_2, hfz5_3, hfz5_4, hfz5_5, hfz5_6, hfz5_7⟩ := cells8r BK245.out
                                              go_wp2_with (first | (go_at_call 43; (with_reducible refine (grottoref07_Sum.calls k1 _ _ l0 t256 _ ?side1 ?side2 A78.out).mono ?_); (case side1 => repeat (first | exact (Kd.C_below HR0.out HB.out) | (with_reducible refine Kd.C_alloc ?_ _) | (with_reducible refine Kd.C_drewN ?_ _) | (with_reducible refine Kd.C_drew ?_))); (case side2 => exact HC0.out); rintro e w' ⟨rfl, ⟨nd, rfl⟩⟩; (try first | exact ⟨rfl, _, World.drewN_drewN _ _ _⟩ | exact ⟨rfl, _, Eq.trans (World.drewN_drewN _ _ _) (congrArg (World.drewN _) (Nat.add_assoc _ _ _))⟩)))
                                              repeat (go_quiet (first | (go_at_call 43; (with_reducible refine (grottoref07_Sum.calls k1 _ _ l0 t256 _ ?side1 ?side2 A78.out).mono ?_); (case side1 => repeat (first | exact (Kd.C_below HR0.out HB.out) | (with_reducible refine Kd.C_alloc ?_ _) | (with_reducible refine Kd.C_drewN ?_ _) | (with_reducible refine Kd.C_drew ?_))); (case side2 => exact HC0.out); rintro e w' ⟨rfl, ⟨nd, rfl⟩⟩; (try first | exact ⟨rfl, _, World.drewN_drewN _ _ _⟩ | exact ⟨rfl, _, Eq.trans (World.drewN_drewN _ _ _) (congrArg (World.drewN _) (Nat.add_assoc _ _ _))⟩))); try go_wp2_with (first | (go_at_call 43; (with_reducible refine (grottoref07_Sum.calls k1 _ _ l0 t256 _ ?side1 ?side2 A78.out).mono ?_); (case side1 => repeat (first | exact (Kd.C_below HR0.out HB.out) | (with_reducible refine Kd.C_alloc ?_ _) | (with_reducible refine Kd.C_drewN ?_ _) | (with_reducible refine Kd.C_drew ?_))); (case side2 => exact HC0.out); rintro e w' ⟨rfl, ⟨nd, rfl⟩⟩; (try first | exact ⟨rfl, _, World.drewN_drewN _ _ _⟩ | exact ⟨rfl, _, Eq.trans (World.drewN_drewN _ _ _) (congrArg (World.drewN _) (Nat.add_assoc _ _ _))⟩))))
                                              refine bodyPost_ret (results_ctt rfl _ _ gb245 66 #[.int .u32 (t248 % 4294967296), .int .u32 (t249 % 4294967296), .int .u32 (t250 % 4294967296), .int .u32 (t251 % 4294967296), .int .u32 (t252 % 4294967296), .int .u32 (t253 % 4294967296), .int .u32 (t254 % 4294967296), .int .u32 (t255 % 4294967296)] (0, 0) _ rfl (zkp BK245) Try.underlying66 rfl (by kernel_rfl)) rfl ?_
                                              exact ⟨by first | rfl | (simp [errW_none, errW_some] <;> rfl) | (simp [*, errW_none, errW_some] <;> rfl), zb HB⟩
                                            · rw [if_neg c199] at H
                                              have c199b0 : (t255 == (wrap64 (t256))) = false := beq_eq_false_iff_ne.mpr c199
                                              have c199b1 : (t255 != (wrap64 (t256))) = true := bne_iff_ne.mpr c199
                                              clear c199
                                              simp only [Option.some.injEq, Prod.mk.injEq] at H
                                              obtain ⟨rfl, rfl, rfl, rfl, rfl, rfl, rfl, rfl, rfl, rfl⟩ := H
                                              have hnb_ := NB246_245.out
                                              have hnc_ := NB245_246.out
                                              obtain ⟨hcz6_0, hcz6_1, hcz6_2, hcz6_3, hcz6_4, hcz6_5, hcz6_6, hcz6_7, hfz6_0, hfz6_1, hfz6_2, hfz6_3, hfz6_4, hfz6_5, hfz6_6, hfz6_7⟩ := cells8r BK246.out
                                              obtain ⟨hcz5_0, hcz5_1, hcz5_2, hcz5_3, hcz5_4, hcz5_5, hcz5_6, hcz5_7, hfz5_0, hfz5_1, hfz5_2, hfz5_3, hfz5_4, hfz5_5, hfz5_6, hfz5_7⟩ := cells8r BK245.out
                                              go_wp2_with (first | (go_at_call 43; (with_reducible refine (grottoref07_Sum.calls k1 _ _ l0 t256 _ ?side1 ?side2 A78.out).mono ?_); (case side1 => repeat (first | exact (Kd.C_below HR0.out HB.out) | (with_reducible refine Kd.C_alloc ?_ _) | (with_reducible refine Kd.C_drewN ?_ _) | (with_reducible refine Kd.C_drew ?_))); (case side2 => exact HC0.out); rintro e w' ⟨rfl, ⟨nd, rfl⟩⟩; (try first | exact ⟨rfl, _, World.drewN_drewN _ _ _⟩ | exact ⟨rfl, _, Eq.trans (World.drewN_drewN _ _ _) (congrArg (World.drewN _) (Nat.add_assoc _ _ _))⟩)))
                                              repeat (go_quiet (first | (go_at_call 43; (with_reducible refine (grottoref07_Sum.calls k1 _ _ l0 t256 _ ?side1 ?side2 A78.out).mono ?_); (case side1 => repeat (first | exact (Kd.C_below HR0.out HB.out) | (with_reducible refine Kd.C_alloc ?_ _) | (with_reducible refine Kd.C_drewN ?_ _) | (with_reducible refine Kd.C_drew ?_))); (case side2 => exact HC0.out); rintro e w' ⟨rfl, ⟨nd, rfl⟩⟩; (try first | exact ⟨rfl, _, World.drewN_drewN _ _ _⟩ | exact ⟨rfl, _, Eq.trans (World.drewN_drewN _ _ _) (congrArg (World.drewN _) (Nat.add_assoc _ _ _))⟩))); try go_wp2_with (first | (go_at_call 43; (with_reducible refine (grottoref07_Sum.calls k1 _ _ l0 t256 _ ?side1 ?side2 A78.out).mono ?_); (case side1 => repeat (first | exact (Kd.C_below HR0.out HB.out) | (with_reducible refine Kd.C_alloc ?_ _) | (with_reducible refine Kd.C_drewN ?_ _) | (with_reducible refine Kd.C_drew ?_))); (case side2 => exact HC0.out); rintro e w' ⟨rfl, ⟨nd, rfl⟩⟩; (try first | exact ⟨rfl, _, World.drewN_drewN _ _ _⟩ | exact ⟨rfl, _, Eq.trans (World.drewN_drewN _ _ _) (congrArg (World.drewN _) (Nat.add_assoc _ _ _))⟩))))
                                              refine bodyPost_ret (results_ctt rfl _ _ gb245 66 #[.int .u32 (0), .int .u32 (0), .int .u32 (0), .int .u32 (0), .int .u32 (0), .int .u32 (0), .int .u32 (0), .int .u32 (0)] (0, 0) _ rfl (zkp BK245) Try.underlying66 rfl (by kernel_rfl)) rfl ?_
                                              exact ⟨by first | rfl | (simp [errW_none, errW_some] <;> rfl) | (simp [*, errW_none, errW_some] <;> rfl), zb HB⟩

end Go.Proofs.Ytmpiifjckhcbmaa.PQ
