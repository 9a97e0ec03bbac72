-- by a program of this claim
import Derived.Test.YtpklekleehcglaaPQx0
import Derived.Test.YtpklekleehcglaaPQx2
import Derived.Test.YtpklekleehcglaaPQx7
import Derived.Test.YtpklekleehcglaaPQx8
namespace Go.Proofs.Ytpklekleehcglaa.PQ
open Go.RowKit Go.Proofs.YtpklekleehcglaaW.PrintWords Go.Proofs.YtpklekleehcglaaW.PrintLast Go.Proofs.YtpklekleehcglaaW.PrintMore Go.Proofs.Ytpklekleehcglaa.Z
attribute [local go_sem] max2_int min2_int max_two min_two max_three min_three max_four min_four   -- for this text's walks alone
set_option linter.unusedVariables false
set_option linter.unusedSimpArgs false

/-! ### grottolaw07_HeaderPieces: function 8 -/
def grottolaw07_HeaderPieces.j0 : Nat → List Int → List Int → Bool → Option (Bool)
  | 0, _, _, _ => none
  | k + 1, x0, x1, x26 => if x26 = true then ((grottolaw07_live.f k).bind fun t395 => (some t395)) else ((header_Sum.f k x1).bind fun t396 => (if (x1.length : Int) ≥ 36 then ((grottoref01_Be.f k x1 32 4).bind fun bt397 => ((some (([] : List Int) : List Int)).bind fun y399 => (if y399.length + x0.length < 140737488355328 then ((some (y399 ++ x0 : List Int)).bind fun y402 => (if y402.length + x1.length < 140737488355328 then ((header_Sum.f k (y402 ++ x1)).bind fun t408 => ((header_Sum.f k x0).bind fun t409 => (if t408 = ((t409 + ((t396 + bt397.1) % 4294967296)) % 4294967296) then ((grottolaw07_live.f k).bind fun t410 => (some t410)) else (some false)))) else (none))) else (none)))) else ((some (([] : List Int) : List Int)).bind fun y411 => (if y411.length + x0.length < 140737488355328 then ((some (y411 ++ x0 : List Int)).bind fun y414 => (if y414.length + x1.length < 140737488355328 then ((header_Sum.f k (y414 ++ x1)).bind fun t420 => ((header_Sum.f k x0).bind fun t421 => (if t420 = ((t421 + t396) % 4294967296) then ((grottolaw07_live.f k).bind fun t422 => (some t422)) else (some false)))) else (none))) else (none)))))
def grottolaw07_HeaderPieces.f (k : Nat) (l0 : List Int) (l1 : List Int) : Option (Bool) := if (l0.length : Int) > 65536 then (grottolaw07_HeaderPieces.j0 k l0 l1 true) else (if (l1.length : Int) > 65536 then (grottolaw07_HeaderPieces.j0 k l0 l1 true) else (if ((l0.length : Int) % 4) = 0 then (grottolaw07_HeaderPieces.j0 k l0 l1 (decide ((l0.length : Int) < 36))) else (grottolaw07_HeaderPieces.j0 k l0 l1 true)))
theorem grottolaw07_HeaderPieces.mono_l : ∀ k, (∀ y0 y1 y2, LeO (grottolaw07_HeaderPieces.j0 k y0 y1 y2) (grottolaw07_HeaderPieces.j0 (k + 1) y0 y1 y2))
  | 0 => fun _ _ _ r h => by simp [grottolaw07_HeaderPieces.j0] at h
  | k + 1 => by
    have ih0 := grottolaw07_HeaderPieces.mono_l k
    · intro y0 y1 y2
      unfold grottolaw07_HeaderPieces.j0
      repeat' first
      | (with_reducible exact ih0 _ _ _)
      | (with_reducible exact grottolaw07_live.mono _)
      | (with_reducible exact grottoref01_Be.mono _ _ _ _)
      | (with_reducible exact header_Sum.mono _ _)
      | (with_reducible exact LeO.refl _)
      | (with_reducible exact LeO.none _)
      | (with_reducible refine LeO.ite ?_ ?_)
      | (with_reducible refine LeO.bind ?_ (fun _ => ?_))
      | exact ih0 _ _ _
      | exact grottolaw07_live.mono _
      | exact grottoref01_Be.mono _ _ _ _
      | exact header_Sum.mono _ _
      | exact LeO.none _
      | refine LeO.ite ?_ ?_
      | refine LeO.bind ?_ (fun _ => ?_)
theorem grottolaw07_HeaderPieces.mono : ∀ a0 a1 k, LeO (grottolaw07_HeaderPieces.f k a0 a1) (grottolaw07_HeaderPieces.f (k + 1) a0 a1) := by
  intro a0 a1 k
  have ih0 := grottolaw07_HeaderPieces.mono_l k
  unfold grottolaw07_HeaderPieces.f
  repeat' first
      | (with_reducible exact ih0 _ _ _)
      | (with_reducible exact grottolaw07_live.mono _)
      | (with_reducible exact grottoref01_Be.mono _ _ _ _)
      | (with_reducible exact header_Sum.mono _ _)
      | (with_reducible exact LeO.refl _)
      | (with_reducible exact LeO.none _)
      | (with_reducible refine LeO.ite ?_ ?_)
      | (with_reducible refine LeO.bind ?_ (fun _ => ?_))
      | exact ih0 _ _ _
      | exact grottolaw07_live.mono _
      | exact grottoref01_Be.mono _ _ _ _
      | exact header_Sum.mono _ _
      | exact LeO.none _
      | refine LeO.ite ?_ ?_
      | refine LeO.bind ?_ (fun _ => ?_)
set_option maxHeartbeats 8000000 in
set_option maxRecDepth 100000 in
theorem grottolaw07_HeaderPieces.calls (k : Nat) (A0 : Option Addr) (c0 : Nat) (l0 : List Int) (A1 : Option Addr) (c1 : Nat) (l1 : List Int) (r : Bool) (w : World) (hr0 : Kd.C (Kd.int .u8) w A0 l0.length l0) (hc0 : l0.length ≤ c0) (hr1 : Kd.C (Kd.int .u8) w A1 l1.length l1) (hc1 : l1.length ≤ c1) (h : grottolaw07_HeaderPieces.f k l0 l1 = some r) (hr : r = true := by rfl) :
    Calls Try.prog 8 #[.slice A0 l0.length c0, .slice A1 l1.length c1] w fun e w' => e = .returned (.bool r) ∧ Below w.heap.size w w' := by
  have HRT := Aside0.mk hr
  clear hr
  have HR0 := Aside0.mk hr0
  have HC0 := Aside0.mk hc0
  clear hr0 hc0
  have HR1 := Aside0.mk hr1
  have HC1 := Aside0.mk hc1
  clear hr1 hc1
  have HB := Aside0.mk (Below.refl w.heap.size w)
  have H : (if (l0.length : Int) > 65536 then (grottolaw07_HeaderPieces.j0 k l0 l1 true) else (if (l1.length : Int) > 65536 then (grottolaw07_HeaderPieces.j0 k l0 l1 true) else (if ((l0.length : Int) % 4) = 0 then (grottolaw07_HeaderPieces.j0 k l0 l1 (decide ((l0.length : Int) < 36))) else (grottolaw07_HeaderPieces.j0 k l0 l1 true)))) = some r := h
  clear h
  have HC3 := Aside0.mk H
  clear H
  go_enter Try.func8, Try.ntmps8
  go_upto_region 1 with (fail)
  go_cut [26] (fun v26 wc => ∃ (kq : Nat) (x26_2 : Bool), v26 = .bool x26_2 ∧ Aside0 (grottolaw07_HeaderPieces.j0 kq l0 l1 x26_2 = some r) ∧ Aside0 (kq ≤ k) ∧ Aside0 (Below w.heap.size w wc))
  case first =>
    have H := HC3.out
    clear HC3
    by_cases c4 : (l0.length : Int) > 65536
    · rw [if_pos c4] at H
      have c4b0 : decide (65536 < (l0.length : Int)) = true := decide_eq_true c4
      have c4b1 : decide (65536 < l0.length) = true := decide_eq_true (by omega)
      clear c4
      (first | rw [c4b0] | (simp only [i64_w, i32_w]; rw [c4b0]) | skip)
      have H' := Aside0.mk H
      clear H
      go_wp2
      go_meet
      case rel => exact ⟨_, (true), (by first | rfl | (simp; done) | (simp [*]; done)), H', ⟨by first | omega | exact Nat.le_refl _⟩, ⟨zb HB⟩⟩
    · rw [if_neg c4] at H
      have c4b0 : decide (65536 < (l0.length : Int)) = false := decide_eq_false c4
      have c4b1 : decide (65536 < l0.length) = false := decide_eq_false (by omega)
      clear c4
      (first | rw [c4b0] | (simp only [i64_w, i32_w]; rw [c4b0]) | skip)
      by_cases c5 : (l1.length : Int) > 65536
      · rw [if_pos c5] at H
        have c5b0 : decide (65536 < (l1.length : Int)) = true := decide_eq_true c5
        have c5b1 : decide (65536 < l1.length) = true := decide_eq_true (by omega)
        clear c5
        have H' := Aside0.mk H
        clear H
        go_wp2
        go_meet
        case rel => exact ⟨_, (true), (by first | rfl | (simp; done) | (simp [*]; done)), H', ⟨by first | omega | exact Nat.le_refl _⟩, ⟨zb HB⟩⟩
      · rw [if_neg c5] at H
        have c5b0 : decide (65536 < (l1.length : Int)) = false := decide_eq_false c5
        have c5b1 : decide (65536 < l1.length) = false := decide_eq_false (by omega)
        clear c5
        by_cases c6 : ((l0.length : Int) % 4) = 0
        · rw [if_pos c6] at H
          have c6b0 : (((l0.length : Int) % 4) == 0) = true := beq_iff_eq.mpr c6
          have c6b1 : (((l0.length : Int) % 4) != 0) = false := bne_eq_false_iff_eq.mpr c6
          clear c6
          have H' := Aside0.mk H
          clear H
          go_wp2
          go_meet
          case rel => exact ⟨_, (decide ((l0.length : Int) < 36)), (by first | rfl | (simp; done) | (simp [*]; done)), H', ⟨by first | omega | exact Nat.le_refl _⟩, ⟨zb HB⟩⟩
        · rw [if_neg c6] at H
          have c6b0 : (((l0.length : Int) % 4) == 0) = false := beq_eq_false_iff_ne.mpr c6
          have c6b1 : (((l0.length : Int) % 4) != 0) = true := bne_iff_ne.mpr c6
          have H' := Aside0.mk H
          clear H
          go_wp2
          go_meet
          case rel => exact ⟨_, (true), (by first | rfl | (simp; done) | (simp [*]; done)), H', ⟨by first | omega | exact Nat.le_refl _⟩, ⟨zb HB⟩⟩
  case rest =>
    clear HC3
    try clear c1
    try clear p2
    try clear c4
    try clear c4b0
    try clear c4b1
    try clear c5
    try clear c5b0
    try clear c5b1
    try clear c6
    try clear c6b0
    try clear c6b1
    obtain ⟨kq, x26_2, rfl, HA, HJ2, HB⟩ := hcut
    cases kq with
    | zero => exact absurd HA.out (by simp [grottolaw07_HeaderPieces.j0])
    | succ kj2 =>
      have H := HA.out
      clear HA
      simp only [grottolaw07_HeaderPieces.j0] at H
      by_cases c7 : x26_2 = true
      · subst c7
        have H1 : ((grottolaw07_live.f kj2).bind fun t395 => (some t395)) = some r := by rw [if_pos rfl] at H; exact H
        clear H
        have H := H1
        clear H1
        replace H := Option.bind_eq_some_iff.mp H
        obtain ⟨t395, A80, H⟩ := H
        replace H : (some t395) = some r := H
        have A8 := Aside0.mk A80
        clear A80
        obtain rfl := Option.some.inj H
        go_wp2_with (first | ((with_reducible refine gate_callee (f := 10) rfl ?_); refine zgo (some 27) Try.func10 #[] ?_; (with_reducible refine (grottolaw07_live.calls kj2  t395 _ A8.out).mono ?_); rintro e w9 ⟨rfl, hb⟩; refine ⟨_, rfl, ?_⟩; replace HB := zbs HB hb; (try clear hb); (try clear hb2); (try clear hk); (try clear hi)))
        go_ret
        exact ⟨by first | rfl | (simp [errW_none, errW_some] <;> rfl) | (simp [*, errW_none, errW_some] <;> rfl), zb HB⟩
      · replace c7 := Bool.eq_false_iff.mpr c7
        subst c7
        have H1 : ((header_Sum.f kj2 l1).bind fun t396 => (if (l1.length : Int) ≥ 36 then ((grottoref01_Be.f kj2 l1 32 4).bind fun bt397 => ((some (([] : List Int) : List Int)).bind fun y399 => (if y399.length + l0.length < 140737488355328 then ((some (y399 ++ l0 : List Int)).bind fun y402 => (if y402.length + l1.length < 140737488355328 then ((header_Sum.f kj2 (y402 ++ l1)).bind fun t408 => ((header_Sum.f kj2 l0).bind fun t409 => (if t408 = ((t409 + ((t396 + bt397.1) % 4294967296)) % 4294967296) then ((grottolaw07_live.f kj2).bind fun t410 => (some t410)) else (some false)))) else (none))) else (none)))) else ((some (([] : List Int) : List Int)).bind fun y411 => (if y411.length + l0.length < 140737488355328 then ((some (y411 ++ l0 : List Int)).bind fun y414 => (if y414.length + l1.length < 140737488355328 then ((header_Sum.f kj2 (y414 ++ l1)).bind fun t420 => ((header_Sum.f kj2 l0).bind fun t421 => (if t420 = ((t421 + t396) % 4294967296) then ((grottolaw07_live.f kj2).bind fun t422 => (some t422)) else (some false)))) else (none))) else (none))))) = some r := by rw [if_neg (show ¬ (false = true) by decide)] at H; exact H
        clear H
        have H := H1
        clear H1
        replace H := Option.bind_eq_some_iff.mp H
        obtain ⟨t396, A100, H⟩ := H
        replace H : (if (l1.length : Int) ≥ 36 then ((grottoref01_Be.f kj2 l1 32 4).bind fun bt397 => ((some (([] : List Int) : List Int)).bind fun y399 => (if y399.length + l0.length < 140737488355328 then ((some (y399 ++ l0 : List Int)).bind fun y402 => (if y402.length + l1.length < 140737488355328 then ((header_Sum.f kj2 (y402 ++ l1)).bind fun t408 => ((header_Sum.f kj2 l0).bind fun t409 => (if t408 = ((t409 + ((t396 + bt397.1) % 4294967296)) % 4294967296) then ((grottolaw07_live.f kj2).bind fun t410 => (some t410)) else (some false)))) else (none))) else (none)))) else ((some (([] : List Int) : List Int)).bind fun y411 => (if y411.length + l0.length < 140737488355328 then ((some (y411 ++ l0 : List Int)).bind fun y414 => (if y414.length + l1.length < 140737488355328 then ((header_Sum.f kj2 (y414 ++ l1)).bind fun t420 => ((header_Sum.f kj2 l0).bind fun t421 => (if t420 = ((t421 + t396) % 4294967296) then ((grottolaw07_live.f kj2).bind fun t422 => (some t422)) else (some false)))) else (none))) else (none)))) = some r := H
        have A10 := Aside0.mk A100
        clear A100
        by_cases c11 : (l1.length : Int) ≥ 36
        · rw [if_pos c11] at H
          have c11b0 : decide (36 ≤ (l1.length : Int)) = true := decide_eq_true c11
          have c11b1 : decide (36 ≤ l1.length) = true := decide_eq_true (by omega)
          clear c11
          replace H := Option.bind_eq_some_iff.mp H
          obtain ⟨⟨t397, t398⟩, A120, H⟩ := H
          replace H : ((some (([] : List Int) : List Int)).bind fun y399 => (if y399.length + l0.length < 140737488355328 then ((some (y399 ++ l0 : List Int)).bind fun y402 => (if y402.length + l1.length < 140737488355328 then ((header_Sum.f kj2 (y402 ++ l1)).bind fun t408 => ((header_Sum.f kj2 l0).bind fun t409 => (if t408 = ((t409 + ((t396 + t397) % 4294967296)) % 4294967296) then ((grottolaw07_live.f kj2).bind fun t410 => (some t410)) else (some false)))) else (none))) else (none))) = some r := H
          have A12 := Aside0.mk A120
          clear A120
          obtain ⟨y399, hy399⟩ : ∃ y_ : List Int, y_ = (([] : List Int)) := ⟨_, rfl⟩
          replace H : (if y399.length + l0.length < 140737488355328 then ((some (y399 ++ l0 : List Int)).bind fun y402 => (if y402.length + l1.length < 140737488355328 then ((header_Sum.f kj2 (y402 ++ l1)).bind fun t408 => ((header_Sum.f kj2 l0).bind fun t409 => (if t408 = ((t409 + ((t396 + t397) % 4294967296)) % 4294967296) then ((grottolaw07_live.f kj2).bind fun t410 => (some t410)) else (some false)))) else (none))) else (none)) = some r := by first | (rw [hy399]; with_reducible exact H) | (have H2_ := (Option.bind_some _ _).symm.trans H; rw [hy399]; with_reducible exact H2_) | (have H2_ := (Option.bind_some _ _).symm.trans H; with_reducible exact H2_) | with_reducible exact H | (rw [hy399]; exact H) | exact H
          have Ny399 := Aside0.mk hy399
          clear hy399
          by_cases c13 : y399.length + l0.length < 140737488355328
          · rw [if_pos c13] at H
            have LMc13 := Aside0.mk c13
            clear c13
            obtain ⟨y402, hy402⟩ : ∃ y_ : List Int, y_ = (y399 ++ l0) := ⟨_, rfl⟩
            replace H : (if y402.length + l1.length < 140737488355328 then ((header_Sum.f kj2 (y402 ++ l1)).bind fun t408 => ((header_Sum.f kj2 l0).bind fun t409 => (if t408 = ((t409 + ((t396 + t397) % 4294967296)) % 4294967296) then ((grottolaw07_live.f kj2).bind fun t410 => (some t410)) else (some false)))) else (none)) = some r := by first | (rw [hy402]; with_reducible exact H) | (have H2_ := (Option.bind_some _ _).symm.trans H; rw [hy402]; with_reducible exact H2_) | (have H2_ := (Option.bind_some _ _).symm.trans H; with_reducible exact H2_) | with_reducible exact H | (rw [hy402]; exact H) | exact H
            have Ny402 := Aside0.mk hy402
            clear hy402
            by_cases c14 : y402.length + l1.length < 140737488355328
            · rw [if_pos c14] at H
              have LMc14 := Aside0.mk c14
              clear c14
              obtain ⟨y405, hy405⟩ : ∃ y_ : List Int, y_ = (y402 ++ l1) := ⟨_, rfl⟩
              replace H : ((header_Sum.f kj2 y405).bind fun t408 => ((header_Sum.f kj2 l0).bind fun t409 => (if t408 = ((t409 + ((t396 + t397) % 4294967296)) % 4294967296) then ((grottolaw07_live.f kj2).bind fun t410 => (some t410)) else (some false)))) = some r := by first | (rw [hy405]; with_reducible exact H) | (have H2_ := (Option.bind_some _ _).symm.trans H; rw [hy405]; with_reducible exact H2_) | (have H2_ := (Option.bind_some _ _).symm.trans H; with_reducible exact H2_) | with_reducible exact H | (rw [hy405]; exact H) | exact H
              have Ny405 := Aside0.mk hy405
              clear hy405
              replace H := Option.bind_eq_some_iff.mp H
              obtain ⟨t408, A150, H⟩ := H
              replace H : ((header_Sum.f kj2 l0).bind fun t409 => (if t408 = ((t409 + ((t396 + t397) % 4294967296)) % 4294967296) then ((grottolaw07_live.f kj2).bind fun t410 => (some t410)) else (some false))) = some r := H
              have A15 := Aside0.mk A150
              clear A150
              replace H := Option.bind_eq_some_iff.mp H
              obtain ⟨t409, A160, H⟩ := H
              replace H : (if t408 = ((t409 + ((t396 + t397) % 4294967296)) % 4294967296) then ((grottolaw07_live.f kj2).bind fun t410 => (some t410)) else (some false)) = some r := H
              have A16 := Aside0.mk A160
              clear A160
              by_cases c17 : t408 = ((t409 + ((t396 + t397) % 4294967296)) % 4294967296)
              · rw [if_pos c17] at H
                have c17b0 : (t408 == ((t409 + ((t396 + t397) % 4294967296)) % 4294967296)) = true := beq_iff_eq.mpr c17
                have c17b2 : t408 = (t409 + (t396 + t397)) % 4294967296 := by rw [c17]; omega
                have c17b3 : (t408 = (t409 + (t396 + t397)) % 4294967296) = True := eq_true c17b2
                have c17b4 : (t408 == (t409 + (t396 + t397)) % 4294967296) = true := beq_iff_eq.mpr c17b2
                clear c17b2
                have c17b1 : (t408 != ((t409 + ((t396 + t397) % 4294967296)) % 4294967296)) = false := bne_eq_false_iff_eq.mpr c17
                clear c17
                replace H := Option.bind_eq_some_iff.mp H
                obtain ⟨t410, A180, H⟩ := H
                replace H : (some t410) = some r := H
                have A18 := Aside0.mk A180
                clear A180
                obtain rfl := Option.some.inj H
                go_wp2_with (first | ((with_reducible refine gate_callee (f := 16) rfl ?_); refine zgo (some 29) Try.func16 #[.slice A1 l1.length c1] ?_; (with_reducible refine (header_Sum.calls kj2 _ _ l1 t396 _ ?side1 ?side2 A10.out).mono ?_); (case side1 => repeat (first | exact (Kd.C_below HR1.out HB.out) | (with_reducible refine Kd.C_alloc ?_ _) | (with_reducible refine Kd.C_drewN ?_ _) | (with_reducible refine Kd.C_drew ?_))); (case side2 => exact HC1.out); rintro e w' ⟨rfl, ⟨nd, rfl⟩⟩; refine ⟨_, rfl, ?_⟩) | ((with_reducible refine gate_callee (f := 21) rfl ?_); refine zgo (some 35) Try.func21 #[.slice A1 l1.length c1, .int .i64 32, .int .i64 4] ?_; (with_reducible refine (grottoref01_Be.calls kj2 _ _ l1 32 4 t397 t398 _ ?side1 ?side2 A12.out).mono ?_); (case side1 => repeat (first | exact (Kd.C_below HR1.out (zb HB)) | (with_reducible refine Kd.C_alloc ?_ _) | (with_reducible refine Kd.C_drewN ?_ _) | (with_reducible refine Kd.C_drew ?_))); (case side2 => exact HC1.out); rintro e w' ⟨rfl, ⟨nd, rfl⟩⟩; refine ⟨_, rfl, ?_⟩) | ((with_reducible refine gate_dst (N := 41) rfl ?_); (try (refine gate_guard (by rfl) ?_; dsimp only)); refine Kd.R_lit (Kd.int .u8) _ 5 ?hg (N := 41) ?hd (xs := ([] : List Int)) (inner := []) (ok := fun _ => True) (okp := fun _ => True) ?hr ?hp (fun _ hk => hk) trivial (Below.refl _ _) (Nat.le_refl _) (by simp) ?_; (case hd => rfl); (case hg => rfl); (case hr => first | (go_simp; done) | (go_simp; rfl)); (case hp => exact (Reps.none _ _)); intro v400 w19 ho20 hb hg_ hnew_; clear hg_ hnew_; (first | rw [← Ny399.out] at ho20 | (simp only [Int.reduceToNat] at ho20; rw [← Ny399.out] at ho20)); have HO401 := Aside0.mk (Kd.R_lower ho20 (below_size (zb HB))); replace HB := zbs HB hb; clear hb ho20) | ((with_reducible refine gate_builtin (b := .append) (xs := #[.tmp 41, .tmp 42]) rfl ?_); (try (refine gate_guard (by rfl) ?_; dsimp only)); at_builtin; refine Kd.R_append_rows (Kd.int .u8) (w0 := w) w.heap.size rfl (.tmp 41) (.tmp 42) 22 5 (.int .u8 0) 1 rfl Try.underlying22 info5 rfl (by decide) (by omega) v400 y399 l0 _ _ _ (fun _ => True) (fun _ => False) rfl rfl ?aO ?aR (fun _ _ h => h) (fun _ h => h.elim) ?aF ?aB ?aS ?aL ?_; (case aR => repeat (first | exact (Kd.C_below HR0.out HB.out) | (with_reducible refine Kd.C_alloc ?_ _) | (with_reducible refine Kd.C_drewN ?_ _) | (with_reducible refine Kd.C_drew ?_))); (case aB => exact (zb HB)); (case aF => exact (fun _ _ => trivial)); (case aO => exact (by (with_reducible repeat (first | apply Kd.R_alloc | apply Kd.R_drewN | apply Kd.R_drew)); exact HO401.out)); (case aS => exact (below_size (zb HB))); (case aL => have := LMc13.out; omega); intro v403 w21 ho hb hg hat; rw [← Ny402.out] at ho; have HO404 := Aside0.mk (ho); replace HB := Aside0.mk (hb); clear HO401; clear ho hb hg hat) | ((with_reducible refine gate_builtin (b := .append) (xs := #[.tmp 43, .tmp 44]) rfl ?_); (try (refine gate_guard (by rfl) ?_; dsimp only)); at_builtin; refine Kd.R_append_rows (Kd.int .u8) (w0 := w) w.heap.size rfl (.tmp 43) (.tmp 44) 22 5 (.int .u8 0) 1 rfl Try.underlying22 info5 rfl (by decide) (by omega) v403 y402 l1 _ _ _ (fun _ => True) (fun _ => False) rfl rfl ?aO ?aR (fun _ _ h => h) (fun _ h => h.elim) ?aF ?aB ?aS ?aL ?_; (case aR => repeat (first | exact (Kd.C_below HR1.out HB.out) | (with_reducible refine Kd.C_alloc ?_ _) | (with_reducible refine Kd.C_drewN ?_ _) | (with_reducible refine Kd.C_drew ?_))); (case aB => exact (zb HB)); (case aF => exact (fun _ _ => trivial)); (case aO => exact (by (with_reducible repeat (first | apply Kd.R_alloc | apply Kd.R_drewN | apply Kd.R_drew)); exact HO404.out)); (case aS => exact (below_size (zb HB))); (case aL => have := LMc14.out; omega); intro v406 w22 ho hb hg hat; rw [← Ny405.out] at ho; have HO407 := Aside0.mk (ho); replace HB := Aside0.mk (hb); clear HO404; clear ho hb hg hat; obtain ⟨Ao23, co23, eo23⟩ := Kd.R_slice HO407.out; subst eo23) | ((with_reducible refine gate_callee (f := 16) rfl ?_); refine zgo (some 46) Try.func16 #[.slice Ao23 y405.length co23] ?_; (with_reducible refine (header_Sum.calls kj2 _ _ y405 t408 _ ?side1 ?side2 A15.out).mono ?_); (case side1 => repeat (first | exact (Kd.R_reads' HO407.out).2.2 | (with_reducible refine Kd.C_alloc ?_ _) | (with_reducible refine Kd.C_drewN ?_ _) | (with_reducible refine Kd.C_drew ?_))); (case side2 => exact (Kd.R_reads' HO407.out).2.1); rintro e w' ⟨rfl, ⟨nd, rfl⟩⟩; refine ⟨_, rfl, ?_⟩) | ((with_reducible refine gate_callee (f := 16) rfl ?_); refine zgo (some 48) Try.func16 #[.slice A0 l0.length c0] ?_; (with_reducible refine (header_Sum.calls kj2 _ _ l0 t409 _ ?side1 ?side2 A16.out).mono ?_); (case side1 => repeat (first | exact (Kd.C_below HR0.out (zb HB)) | (with_reducible refine Kd.C_alloc ?_ _) | (with_reducible refine Kd.C_drewN ?_ _) | (with_reducible refine Kd.C_drew ?_))); (case side2 => exact HC0.out); rintro e w' ⟨rfl, ⟨nd, rfl⟩⟩; refine ⟨_, rfl, ?_⟩) | (go_at_call 10; (with_reducible refine (grottolaw07_live.calls kj2  t410 _ A18.out).mono ?_); rintro e w24 ⟨rfl, hb⟩; replace HO407 := Aside0.mk (Kd.R_below (by (with_reducible repeat (first | apply Kd.R_alloc | apply Kd.R_drewN | apply Kd.R_drew)); exact HO407.out) hb); replace HB := zbs HB hb; (try clear hb); (try clear hb2); (try clear hk); (try clear hi)))
                go_ret
                exact ⟨by first | rfl | (simp [errW_none, errW_some] <;> rfl) | (simp [*, errW_none, errW_some] <;> rfl), zb HB⟩
              · rw [if_neg c17] at H
                exact absurd (Option.some.inj H) (by rw [HRT.out]; decide)
            · rw [if_neg c14] at H
              exact absurd H (by simp)
          · rw [if_neg c13] at H
            exact absurd H (by simp)
        · rw [if_neg c11] at H
          have c11b0 : decide (36 ≤ (l1.length : Int)) = false := decide_eq_false c11
          have c11b1 : decide (36 ≤ l1.length) = false := decide_eq_false (by omega)
          clear c11
          obtain ⟨y411, hy411⟩ : ∃ y_ : List Int, y_ = (([] : List Int)) := ⟨_, rfl⟩
          replace H : (if y411.length + l0.length < 140737488355328 then ((some (y411 ++ l0 : List Int)).bind fun y414 => (if y414.length + l1.length < 140737488355328 then ((header_Sum.f kj2 (y414 ++ l1)).bind fun t420 => ((header_Sum.f kj2 l0).bind fun t421 => (if t420 = ((t421 + t396) % 4294967296) then ((grottolaw07_live.f kj2).bind fun t422 => (some t422)) else (some false)))) else (none))) else (none)) = some r := by first | (rw [hy411]; with_reducible exact H) | (have H2_ := (Option.bind_some _ _).symm.trans H; rw [hy411]; with_reducible exact H2_) | (have H2_ := (Option.bind_some _ _).symm.trans H; with_reducible exact H2_) | with_reducible exact H | (rw [hy411]; exact H) | exact H
          have Ny411 := Aside0.mk hy411
          clear hy411
          by_cases c30 : y411.length + l0.length < 140737488355328
          · rw [if_pos c30] at H
            have LMc30 := Aside0.mk c30
            clear c30
            obtain ⟨y414, hy414⟩ : ∃ y_ : List Int, y_ = (y411 ++ l0) := ⟨_, rfl⟩
            replace H : (if y414.length + l1.length < 140737488355328 then ((header_Sum.f kj2 (y414 ++ l1)).bind fun t420 => ((header_Sum.f kj2 l0).bind fun t421 => (if t420 = ((t421 + t396) % 4294967296) then ((grottolaw07_live.f kj2).bind fun t422 => (some t422)) else (some false)))) else (none)) = some r := by first | (rw [hy414]; with_reducible exact H) | (have H2_ := (Option.bind_some _ _).symm.trans H; rw [hy414]; with_reducible exact H2_) | (have H2_ := (Option.bind_some _ _).symm.trans H; with_reducible exact H2_) | with_reducible exact H | (rw [hy414]; exact H) | exact H
            have Ny414 := Aside0.mk hy414
            clear hy414
            by_cases c31 : y414.length + l1.length < 140737488355328
            · rw [if_pos c31] at H
              have LMc31 := Aside0.mk c31
              clear c31
              obtain ⟨y417, hy417⟩ : ∃ y_ : List Int, y_ = (y414 ++ l1) := ⟨_, rfl⟩
              replace H : ((header_Sum.f kj2 y417).bind fun t420 => ((header_Sum.f kj2 l0).bind fun t421 => (if t420 = ((t421 + t396) % 4294967296) then ((grottolaw07_live.f kj2).bind fun t422 => (some t422)) else (some false)))) = some r := by first | (rw [hy417]; with_reducible exact H) | (have H2_ := (Option.bind_some _ _).symm.trans H; rw [hy417]; with_reducible exact H2_) | (have H2_ := (Option.bind_some _ _).symm.trans H; with_reducible exact H2_) | with_reducible exact H | (rw [hy417]; exact H) | exact H
              have Ny417 := Aside0.mk hy417
              clear hy417
              replace H := Option.bind_eq_some_iff.mp H
              obtain ⟨t420, A320, H⟩ := H
              replace H : ((header_Sum.f kj2 l0).bind fun t421 => (if t420 = ((t421 + t396) % 4294967296) then ((grottolaw07_live.f kj2).bind fun t422 => (some t422)) else (some false))) = some r := H
              have A32 := Aside0.mk A320
              clear A320
              replace H := Option.bind_eq_some_iff.mp H
              obtain ⟨t421, A330, H⟩ := H
              replace H : (if t420 = ((t421 + t396) % 4294967296) then ((grottolaw07_live.f kj2).bind fun t422 => (some t422)) else (some false)) = some r := H
              have A33 := Aside0.mk A330
              clear A330
              by_cases c34 : t420 = ((t421 + t396) % 4294967296)
              · rw [if_pos c34] at H
                have c34b0 : (t420 == ((t421 + t396) % 4294967296)) = true := beq_iff_eq.mpr c34
                have c34b1 : (t420 != ((t421 + t396) % 4294967296)) = false := bne_eq_false_iff_eq.mpr c34
                clear c34
                replace H := Option.bind_eq_some_iff.mp H
                obtain ⟨t422, A350, H⟩ := H
                replace H : (some t422) = some r := H
                have A35 := Aside0.mk A350
                clear A350
                obtain rfl := Option.some.inj H
                go_wp2_with (first | ((with_reducible refine gate_callee (f := 16) rfl ?_); refine zgo (some 29) Try.func16 #[.slice A1 l1.length c1] ?_; (with_reducible refine (header_Sum.calls kj2 _ _ l1 t396 _ ?side1 ?side2 A10.out).mono ?_); (case side1 => repeat (first | exact (Kd.C_below HR1.out HB.out) | (with_reducible refine Kd.C_alloc ?_ _) | (with_reducible refine Kd.C_drewN ?_ _) | (with_reducible refine Kd.C_drew ?_))); (case side2 => exact HC1.out); rintro e w' ⟨rfl, ⟨nd, rfl⟩⟩; refine ⟨_, rfl, ?_⟩) | ((with_reducible refine gate_dst (N := 41) rfl ?_); (try (refine gate_guard (by rfl) ?_; dsimp only)); refine Kd.R_lit (Kd.int .u8) _ 5 ?hg (N := 41) ?hd (xs := ([] : List Int)) (inner := []) (ok := fun _ => True) (okp := fun _ => True) ?hr ?hp (fun _ hk => hk) trivial (Below.refl _ _) (Nat.le_refl _) (by simp) ?_; (case hd => rfl); (case hg => rfl); (case hr => first | (go_simp; done) | (go_simp; rfl)); (case hp => exact (Reps.none _ _)); intro v412 w36 ho37 hb hg_ hnew_; clear hg_ hnew_; (first | rw [← Ny411.out] at ho37 | (simp only [Int.reduceToNat] at ho37; rw [← Ny411.out] at ho37)); have HO413 := Aside0.mk (Kd.R_lower ho37 (below_size (zb HB))); replace HB := zbs HB hb; clear hb ho37) | ((with_reducible refine gate_builtin (b := .append) (xs := #[.tmp 41, .tmp 42]) rfl ?_); (try (refine gate_guard (by rfl) ?_; dsimp only)); at_builtin; refine Kd.R_append_rows (Kd.int .u8) (w0 := w) w.heap.size rfl (.tmp 41) (.tmp 42) 22 5 (.int .u8 0) 1 rfl Try.underlying22 info5 rfl (by decide) (by omega) v412 y411 l0 _ _ _ (fun _ => True) (fun _ => False) rfl rfl ?aO ?aR (fun _ _ h => h) (fun _ h => h.elim) ?aF ?aB ?aS ?aL ?_; (case aR => repeat (first | exact (Kd.C_below HR0.out HB.out) | (with_reducible refine Kd.C_alloc ?_ _) | (with_reducible refine Kd.C_drewN ?_ _) | (with_reducible refine Kd.C_drew ?_))); (case aB => exact (zb HB)); (case aF => exact (fun _ _ => trivial)); (case aO => exact (by (with_reducible repeat (first | apply Kd.R_alloc | apply Kd.R_drewN | apply Kd.R_drew)); exact HO413.out)); (case aS => exact (below_size (zb HB))); (case aL => have := LMc30.out; omega); intro v415 w38 ho hb hg hat; rw [← Ny414.out] at ho; have HO416 := Aside0.mk (ho); replace HB := Aside0.mk (hb); clear HO413; clear ho hb hg hat) | ((with_reducible refine gate_builtin (b := .append) (xs := #[.tmp 43, .tmp 44]) rfl ?_); (try (refine gate_guard (by rfl) ?_; dsimp only)); at_builtin; refine Kd.R_append_rows (Kd.int .u8) (w0 := w) w.heap.size rfl (.tmp 43) (.tmp 44) 22 5 (.int .u8 0) 1 rfl Try.underlying22 info5 rfl (by decide) (by omega) v415 y414 l1 _ _ _ (fun _ => True) (fun _ => False) rfl rfl ?aO ?aR (fun _ _ h => h) (fun _ h => h.elim) ?aF ?aB ?aS ?aL ?_; (case aR => repeat (first | exact (Kd.C_below HR1.out HB.out) | (with_reducible refine Kd.C_alloc ?_ _) | (with_reducible refine Kd.C_drewN ?_ _) | (with_reducible refine Kd.C_drew ?_))); (case aB => exact (zb HB)); (case aF => exact (fun _ _ => trivial)); (case aO => exact (by (with_reducible repeat (first | apply Kd.R_alloc | apply Kd.R_drewN | apply Kd.R_drew)); exact HO416.out)); (case aS => exact (below_size (zb HB))); (case aL => have := LMc31.out; omega); intro v418 w39 ho hb hg hat; rw [← Ny417.out] at ho; have HO419 := Aside0.mk (ho); replace HB := Aside0.mk (hb); clear HO416; clear ho hb hg hat; obtain ⟨Ao40, co40, eo40⟩ := Kd.R_slice HO419.out; subst eo40) | ((with_reducible refine gate_callee (f := 16) rfl ?_); refine zgo (some 46) Try.func16 #[.slice Ao40 y417.length co40] ?_; (with_reducible refine (header_Sum.calls kj2 _ _ y417 t420 _ ?side1 ?side2 A32.out).mono ?_); (case side1 => repeat (first | exact (Kd.R_reads' HO419.out).2.2 | (with_reducible refine Kd.C_alloc ?_ _) | (with_reducible refine Kd.C_drewN ?_ _) | (with_reducible refine Kd.C_drew ?_))); (case side2 => exact (Kd.R_reads' HO419.out).2.1); rintro e w' ⟨rfl, ⟨nd, rfl⟩⟩; refine ⟨_, rfl, ?_⟩) | ((with_reducible refine gate_callee (f := 16) rfl ?_); refine zgo (some 48) Try.func16 #[.slice A0 l0.length c0] ?_; (with_reducible refine (header_Sum.calls kj2 _ _ l0 t421 _ ?side1 ?side2 A33.out).mono ?_); (case side1 => repeat (first | exact (Kd.C_below HR0.out (zb HB)) | (with_reducible refine Kd.C_alloc ?_ _) | (with_reducible refine Kd.C_drewN ?_ _) | (with_reducible refine Kd.C_drew ?_))); (case side2 => exact HC0.out); rintro e w' ⟨rfl, ⟨nd, rfl⟩⟩; refine ⟨_, rfl, ?_⟩) | (go_at_call 10; (with_reducible refine (grottolaw07_live.calls kj2  t422 _ A35.out).mono ?_); rintro e w41 ⟨rfl, hb⟩; replace HO419 := Aside0.mk (Kd.R_below (by (with_reducible repeat (first | apply Kd.R_alloc | apply Kd.R_drewN | apply Kd.R_drew)); exact HO419.out) hb); replace HB := zbs HB hb; (try clear hb); (try clear hb2); (try clear hk); (try clear hi)))
                go_ret
                exact ⟨by first | rfl | (simp [errW_none, errW_some] <;> rfl) | (simp [*, errW_none, errW_some] <;> rfl), zb HB⟩
              · rw [if_neg c34] at H
                exact absurd (Option.some.inj H) (by rw [HRT.out]; decide)
            · rw [if_neg c31] at H
              exact absurd H (by simp)
          · rw [if_neg c30] at H
            exact absurd H (by simp)

/-- THE ONE PURE STATEMENT of grottolaw07_HeaderPieces: yours. -/
def grottolaw07_HeaderPieces.Pure : Prop := ∀ (l0 : List Int) (l1 : List Int), l0.length ≤ maxLen → l0.length * 1 ≤ 140737488351232 → (∀ x ∈ l0, (Lit.int .u8 x).wf = true) → l1.length ≤ maxLen → l1.length * 1 ≤ 140737488351232 → (∀ x ∈ l1, (Lit.int .u8 x).wf = true) → ∃ k, grottolaw07_HeaderPieces.f k l0 l1 = some true
theorem grottolaw07_HeaderPieces.walk (P : grottolaw07_HeaderPieces.Pure) (a0 : Option Addr) (len0 cap0 : Nat) (z0 : List Int) (a1 : Option Addr) (len1 cap1 : Nat) (z1 : List Int) (w : World) (w0 : (a0 = none ∧ len0 = 0 ∧ cap0 = 0 ∧ z0 = []) ∨ ∃ x, a0 = some x ∧ len0 ≤ cap0 ∧ cap0 ≤ maxLen ∧ z0.length = cap0 ∧ (∀ i, i < z0.length → w.cell? (x.add i) = some (.int .u8 (z0.getD i 0))) ∧ ∀ n ∈ z0, (Lit.int .u8 n).wf = true) (y0 : len0 * 1 ≤ 140737488351232) (w1 : (a1 = none ∧ len1 = 0 ∧ cap1 = 0 ∧ z1 = []) ∨ ∃ x, a1 = some x ∧ len1 ≤ cap1 ∧ cap1 ≤ maxLen ∧ z1.length = cap1 ∧ (∀ i, i < z1.length → w.cell? (x.add i) = some (.int .u8 (z1.getD i 0))) ∧ ∀ n ∈ z1, (Lit.int .u8 n).wf = true) (y1 : len1 * 1 ≤ 140737488351232) :
    Calls Try.prog 8 #[.slice a0 len0 cap0, .slice a1 len1 cap1] w fun e w' => e = .returned (.bool true) ∧ Below w.heap.size w w' := by
  obtain ⟨l0, rfl, hr0, hm0, hw0, hc0⟩ := ReadsInt.ofRowC w0
  obtain ⟨l1, rfl, hr1, hm1, hw1, hc1⟩ := ReadsInt.ofRowC w1
  obtain ⟨k, h⟩ := P l0 l1 hm0 y0 hw0 hm1 y1 hw1
  refine (grottolaw07_HeaderPieces.calls k _ _ l0 _ _ l1 true w (Kd.C_of_reads (d := (0 : Int)) (h1 := fun _ => rfl) hr0) hc0 (Kd.C_of_reads (d := (0 : Int)) (h1 := fun _ => rfl) hr1) hc1 h).mono ?_
  rintro e w' ⟨rfl, hd⟩
  exact ⟨rfl, hd⟩

end Go.Proofs.Ytpklekleehcglaa.PQ
