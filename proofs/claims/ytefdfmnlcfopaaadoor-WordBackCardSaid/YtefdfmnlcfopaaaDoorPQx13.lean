-- by a program of this claim
import Derived.Test.YtefdfmnlcfopaaaDoorPQx0
import Derived.Test.YtefdfmnlcfopaaaDoorPQx1
namespace Go.Proofs.YtefdfmnlcfopaaaDoor.PQ
open Go.RowKit Go.Proofs.YtefdfmnlcfopaaaDoorW.PrintWords Go.Proofs.YtefdfmnlcfopaaaDoorW.PrintLast Go.Proofs.YtefdfmnlcfopaaaDoorW.PrintMore Go.Proofs.YtefdfmnlcfopaaaDoor.Z
attribute [local go_sem] max2_int min2_int max_two min_two max_three min_three max_four min_four   -- for this text's walks alone
set_option linter.unusedVariables false
set_option linter.unusedSimpArgs false

/-! ### grottolaw01_WordBack: function 7 -/
mutual
def grottolaw01_WordBack.j0 : Nat → Int → Int → List Int → Bool → Option (Bool)
  | 0, _, _, _, _ => none
  | k + 1, x1, x2, x7, x31 => if x31 = true then (some false) else ((word_Be.f k x7 4 x2).bind fun bt243 => (if x2 = 1 then (grottolaw01_WordBack.j1 k x1 x2 x7 bt243.1 bt243.2 false) else (if x2 = 2 then (grottolaw01_WordBack.j1 k x1 x2 x7 bt243.1 bt243.2 false) else (grottolaw01_WordBack.j1 k x1 x2 x7 bt243.1 bt243.2 (x2 != 4)))))
def grottolaw01_WordBack.j1 : Nat → Int → Int → List Int → Int → Int → Bool → Option (Bool)
  | 0, _, _, _, _, _, _ => none
  | k + 1, x1, x2, x7, x10, x11, x47 => if x47 = true then (if (x7.length : Int) = 4 then (if x10 = 0 then ((grottolaw01_num.f x11).bind fun t245 => (if t245 = 1 then ((grottolaw01_live.f k).bind fun t246 => (some t246)) else (some false))) else (some false)) else (some false)) else ((word_Shl.f 4294967295 ((wrap64 (8 * x2)) % 4294967296)).bind fun t247 => (if (x7.length : Int) = (wrap64 (4 + x2)) then ((grottolaw01_num.f x11).bind fun t248 => (if t248 = 0 then (if x10 = (Go.bits .andNot .u32 x1 t247) then ((grottolaw01_live.f k).bind fun t249 => (some t249)) else (some false)) else (some false))) else (some false)))
end
def grottolaw01_WordBack.f (k : Nat) (a0 : Int) (a1 : Int) (a2 : Int) : Option (Bool) := (word_Put.f k a0 4).bind fun t231 => ((word_Put.f k a1 a2).bind fun t234 => (if t231.length + t234.length < 140737488355328 then ((some (t231 ++ t234 : List Int)).bind fun y237 => ((word_Be.f k y237 0 4).bind fun bt240 => (if bt240.1 = a0 then ((grottolaw01_num.f bt240.2).bind fun t242 => (grottolaw01_WordBack.j0 k a1 a2 y237 (t242 != 0))) else (grottolaw01_WordBack.j0 k a1 a2 y237 true)))) else (none)))
theorem grottolaw01_WordBack.mono_l : ∀ k, (∀ y0 y1 y2 y3, LeO (grottolaw01_WordBack.j0 k y0 y1 y2 y3) (grottolaw01_WordBack.j0 (k + 1) y0 y1 y2 y3)) ∧ (∀ y0 y1 y2 y3 y4 y5, LeO (grottolaw01_WordBack.j1 k y0 y1 y2 y3 y4 y5) (grottolaw01_WordBack.j1 (k + 1) y0 y1 y2 y3 y4 y5))
  | 0 => ⟨fun _ _ _ _ r h => by simp [grottolaw01_WordBack.j0] at h, fun _ _ _ _ _ _ r h => by simp [grottolaw01_WordBack.j1] at h⟩
  | k + 1 => by
    obtain ⟨ih0, ih1⟩ := grottolaw01_WordBack.mono_l k
    refine ⟨?_, ?_⟩
    · intro y0 y1 y2 y3
      unfold grottolaw01_WordBack.j0
      repeat' first
      | (with_reducible exact ih0 _ _ _ _)
      | (with_reducible exact ih1 _ _ _ _ _ _)
      | (with_reducible exact grottolaw01_live.mono _)
      | (with_reducible exact word_Be.mono _ _ _ _)
      | (with_reducible exact word_Put.mono _ _ _)
      | (with_reducible exact LeO.refl _)
      | (with_reducible exact LeO.none _)
      | (with_reducible refine LeO.ite ?_ ?_)
      | (with_reducible refine LeO.bind ?_ (fun _ => ?_))
      | exact ih0 _ _ _ _
      | exact ih1 _ _ _ _ _ _
      | exact grottolaw01_live.mono _
      | exact word_Be.mono _ _ _ _
      | exact word_Put.mono _ _ _
      | exact LeO.none _
      | refine LeO.ite ?_ ?_
      | refine LeO.bind ?_ (fun _ => ?_)
    · intro y0 y1 y2 y3 y4 y5
      unfold grottolaw01_WordBack.j1
      repeat' first
      | (with_reducible exact ih0 _ _ _ _)
      | (with_reducible exact ih1 _ _ _ _ _ _)
      | (with_reducible exact grottolaw01_live.mono _)
      | (with_reducible exact word_Be.mono _ _ _ _)
      | (with_reducible exact word_Put.mono _ _ _)
      | (with_reducible exact LeO.refl _)
      | (with_reducible exact LeO.none _)
      | (with_reducible refine LeO.ite ?_ ?_)
      | (with_reducible refine LeO.bind ?_ (fun _ => ?_))
      | exact ih0 _ _ _ _
      | exact ih1 _ _ _ _ _ _
      | exact grottolaw01_live.mono _
      | exact word_Be.mono _ _ _ _
      | exact word_Put.mono _ _ _
      | exact LeO.none _
      | refine LeO.ite ?_ ?_
      | refine LeO.bind ?_ (fun _ => ?_)
theorem grottolaw01_WordBack.mono : ∀ a0 a1 a2 k, LeO (grottolaw01_WordBack.f k a0 a1 a2) (grottolaw01_WordBack.f (k + 1) a0 a1 a2) := by
  intro a0 a1 a2 k
  obtain ⟨ih0, ih1⟩ := grottolaw01_WordBack.mono_l k
  unfold grottolaw01_WordBack.f
  repeat' first
      | (with_reducible exact ih0 _ _ _ _)
      | (with_reducible exact ih1 _ _ _ _ _ _)
      | (with_reducible exact grottolaw01_live.mono _)
      | (with_reducible exact word_Be.mono _ _ _ _)
      | (with_reducible exact word_Put.mono _ _ _)
      | (with_reducible exact LeO.refl _)
      | (with_reducible exact LeO.none _)
      | (with_reducible refine LeO.ite ?_ ?_)
      | (with_reducible refine LeO.bind ?_ (fun _ => ?_))
      | exact ih0 _ _ _ _
      | exact ih1 _ _ _ _ _ _
      | exact grottolaw01_live.mono _
      | exact word_Be.mono _ _ _ _
      | exact word_Put.mono _ _ _
      | exact LeO.none _
      | refine LeO.ite ?_ ?_
      | refine LeO.bind ?_ (fun _ => ?_)
set_option maxHeartbeats 8000000 in
set_option maxRecDepth 100000 in
theorem grottolaw01_WordBack.calls (k : Nat) (a0 : Int) (a1 : Int) (a2 : Int) (r : Bool) (w : World) (HT : Tab w) (h : grottolaw01_WordBack.f k a0 a1 a2 = some r) :
    Calls Tryd.prog 7 #[.int .u32 a0, .int .u32 a1, .int .i64 a2] w fun e w' => e = .returned (.bool r) ∧ Below w.heap.size w w' := by
  have HB := Aside0.mk (Below.refl w.heap.size w)
  have H : ((word_Put.f k a0 4).bind fun t231 => ((word_Put.f k a1 a2).bind fun t234 => (if t231.length + t234.length < 140737488355328 then ((some (t231 ++ t234 : List Int)).bind fun y237 => ((word_Be.f k y237 0 4).bind fun bt240 => (if bt240.1 = a0 then ((grottolaw01_num.f bt240.2).bind fun t242 => (grottolaw01_WordBack.j0 k a1 a2 y237 (t242 != 0))) else (grottolaw01_WordBack.j0 k a1 a2 y237 true)))) else (none)))) = some r := h
  clear h
  replace H := Option.bind_eq_some_iff.mp H
  obtain ⟨t231, A40, H⟩ := H
  replace H : ((word_Put.f k a1 a2).bind fun t234 => (if t231.length + t234.length < 140737488355328 then ((some (t231 ++ t234 : List Int)).bind fun y237 => ((word_Be.f k y237 0 4).bind fun bt240 => (if bt240.1 = a0 then ((grottolaw01_num.f bt240.2).bind fun t242 => (grottolaw01_WordBack.j0 k a1 a2 y237 (t242 != 0))) else (grottolaw01_WordBack.j0 k a1 a2 y237 true)))) else (none))) = some r := H
  have A4 := Aside0.mk A40
  clear A40
  replace H := Option.bind_eq_some_iff.mp H
  obtain ⟨t234, A50, H⟩ := H
  replace H : (if t231.length + t234.length < 140737488355328 then ((some (t231 ++ t234 : List Int)).bind fun y237 => ((word_Be.f k y237 0 4).bind fun bt240 => (if bt240.1 = a0 then ((grottolaw01_num.f bt240.2).bind fun t242 => (grottolaw01_WordBack.j0 k a1 a2 y237 (t242 != 0))) else (grottolaw01_WordBack.j0 k a1 a2 y237 true)))) else (none)) = some r := H
  have A5 := Aside0.mk A50
  clear A50
  by_cases c6 : t231.length + t234.length < 140737488355328
  · rw [if_pos c6] at H
    have LMc6 := Aside0.mk c6
    clear c6
    obtain ⟨y237, hy237⟩ : ∃ y_ : List Int, y_ = (t231 ++ t234) := ⟨_, rfl⟩
    replace H : ((word_Be.f k y237 0 4).bind fun bt240 => (if bt240.1 = a0 then ((grottolaw01_num.f bt240.2).bind fun t242 => (grottolaw01_WordBack.j0 k a1 a2 y237 (t242 != 0))) else (grottolaw01_WordBack.j0 k a1 a2 y237 true))) = some r := by first | (rw [hy237]; with_reducible exact H) | (have H2_ := (Option.bind_some _ _).symm.trans H; rw [hy237]; with_reducible exact H2_) | (have H2_ := (Option.bind_some _ _).symm.trans H; with_reducible exact H2_) | with_reducible exact H | (rw [hy237]; exact H) | exact H
    have Ny237 := Aside0.mk hy237
    clear hy237
    replace H := Option.bind_eq_some_iff.mp H
    obtain ⟨⟨t240, t241⟩, A70, H⟩ := H
    replace H : (if t240 = a0 then ((grottolaw01_num.f t241).bind fun t242 => (grottolaw01_WordBack.j0 k a1 a2 y237 (t242 != 0))) else (grottolaw01_WordBack.j0 k a1 a2 y237 true)) = some r := H
    have A7 := Aside0.mk A70
    clear A70
    have HC8 := Aside0.mk H
    clear H
    go_enter Tryd.func7, Tryd.ntmps7
    go_upto_region 3 with (first | ((with_reducible refine gate_callee (f := 16) rfl ?_); refine zgo (some 14) Tryd.func16 #[.int .u32 a0, .int .i64 4] ?_; (with_reducible refine (word_Put.calls k a0 4 t231 _ A4.out).mono ?_); rintro e w9 ⟨v232, rfl, ho0, hb⟩; refine ⟨_, rfl, ?_⟩; have HO233 := Aside0.mk (Kd.R_lower ho0 (below_size (zb HB))); replace HB := zbs HB hb; (try clear hb); (try clear hb2); (try clear hk); (try clear hi); (try clear ho0)) | ((with_reducible refine gate_callee (f := 16) rfl ?_); refine zgo (some 17) Tryd.func16 #[.int .u32 a1, .int .i64 a2] ?_; (with_reducible refine (word_Put.calls k a1 a2 t234 _ A5.out).mono ?_); rintro e w10 ⟨v235, rfl, ho0, hb⟩; refine ⟨_, rfl, ?_⟩; have HO236 := Aside0.mk (Kd.R_lower (Kd.R_new' ho0 (Kd.R_lt (by (with_reducible repeat (first | apply Kd.R_alloc | apply Kd.R_drewN | apply Kd.R_drew)); exact HO233.out))) (below_size (zb HB))); replace HO233 := Aside0.mk (Kd.R_elder' (by (with_reducible repeat (first | apply Kd.R_alloc | apply Kd.R_drewN | apply Kd.R_drew)); exact HO233.out) (Kd.R_base ho0) hb); replace HB := zbs HB hb; (try clear hb); (try clear hb2); (try clear hk); (try clear hi); (try clear ho0); obtain ⟨Ao12, co12, eo12⟩ := Kd.R_slice HO236.out; subst eo12) | ((with_reducible refine gate_builtin (b := .append) (xs := #[.tmp 14, .tmp 17]) rfl ?_); at_builtin; refine Kd.R_append_rows (Kd.int .u8) (w0 := w) w.heap.size rfl (.tmp 14) (.tmp 17) 22 5 (.int .u8 0) 1 rfl Tryd.underlying22 info5 rfl (by decide) (by omega) v232 t231 t234 _ _ _ (fun k_ => some k_ ≠ (.slice Ao12 t234.length co12 : Value).ownBlock) (fun _ => False) rfl rfl ?aO ?aR (fun _ _ h => h) (fun _ h => h.elim) ?aF ?aB ?aS ?aL ?_; (case aR => repeat (first | exact (Kd.R_reads' HO236.out).2.2 | (with_reducible refine Kd.C_alloc ?_ _) | (with_reducible refine Kd.C_drewN ?_ _) | (with_reducible refine Kd.C_drew ?_))); (case aB => exact (zb HB)); (case aF => exact (fun k_ hk => Kd.fresh' (Kd.R_lt (by (with_reducible repeat (first | apply Kd.R_alloc | apply Kd.R_drewN | apply Kd.R_drew)); exact HO236.out)) k_ hk)); (case aO => exact (by (with_reducible repeat (first | apply Kd.R_alloc | apply Kd.R_drewN | apply Kd.R_drew)); exact Kd.R_mono HO233.out (fun _ hk => hk.2))); (case aS => exact (below_size (zb HB))); (case aL => have := LMc6.out; omega); intro v238 w11 ho hb hg hat; rw [← Ny237.out] at ho; have HO239 := Aside0.mk (ho); replace HO236 := Aside0.mk (Kd.R_after (ok := (fun _ => True)) (by (with_reducible repeat (first | apply Kd.R_alloc | apply Kd.R_drewN | apply Kd.R_drew)); exact HO236.out) hg hat); replace HB := Aside0.mk (hb); clear HO233; clear ho hb hg hat; obtain ⟨Ao13, co13, eo13⟩ := Kd.R_slice HO239.out; subst eo13) | ((with_reducible refine gate_callee (f := 14) rfl ?_); refine zgo (some 21) Tryd.func14 #[.slice Ao13 y237.length co13, .int .i64 0, .int .i64 4] ?_; (with_reducible refine (word_Be.calls k _ _ y237 0 4 t240 t241 _ ?side1 ?side2 A7.out).mono ?_); (case side1 => repeat (first | exact (Kd.R_reads' HO239.out).2.2 | (with_reducible refine Kd.C_alloc ?_ _) | (with_reducible refine Kd.C_drewN ?_ _) | (with_reducible refine Kd.C_drew ?_))); (case side2 => exact (Kd.R_reads' HO239.out).2.1); rintro e w' ⟨rfl, ⟨nd, rfl⟩⟩; refine ⟨_, rfl, ?_⟩))
    (try simp only [Act.put, List.setIfInBounds_toArray, List.set_cons_zero, List.set_cons_succ])
    go_cut [31] (fun v31 wc => ∃ (kq : Nat) (x31_7 : Bool), v31 = .bool x31_7 ∧ Aside0 (grottolaw01_WordBack.j0 kq a1 a2 y237 x31_7 = some r) ∧ Aside0 (kq ≤ k) ∧ Aside0 (Kd.R (Kd.int .u8) 5 wc w.heap.size (fun _ => True) (.slice Ao13 y237.length co13) y237) ∧ Aside0 (Below w.heap.size w wc))
    case first =>
      have H := HC8.out
      clear HC8
      by_cases c14 : t240 = a0
      · rw [if_pos c14] at H
        have c14b0 : (t240 == a0) = true := beq_iff_eq.mpr c14
        have c14b1 : (t240 != a0) = false := bne_eq_false_iff_eq.mpr c14
        clear c14
        (first | rw [c14b0] | (simp only [i64_w, i32_w]; rw [c14b0]) | skip)
        replace H := Option.bind_eq_some_iff.mp H
        obtain ⟨t242, A150, H⟩ := H
        replace H : (grottolaw01_WordBack.j0 k a1 a2 y237 (t242 != 0)) = some r := H
        have A15 := Aside0.mk A150
        clear A150
        have H' := Aside0.mk H
        clear H
        go_wp2_with (first | (go_at_call 17; (with_reducible refine (grottolaw01_num.calls t241 t242 _ A15.out).mono ?_); rintro e w' ⟨rfl, ⟨nd, rfl⟩⟩))
        go_meet
        case rel => exact ⟨_, ((t242 != 0)), (by first | rfl | (simp; done) | (simp [*]; done)), H', ⟨by first | omega | exact Nat.le_refl _⟩, ⟨by (with_reducible repeat (first | apply Kd.R_alloc | apply Kd.R_drewN | apply Kd.R_drew)); exact Kd.R_mono HO239.out (fun _ hk => trivial)⟩, ⟨zb HB⟩⟩
      · rw [if_neg c14] at H
        have c14b0 : (t240 == a0) = false := beq_eq_false_iff_ne.mpr c14
        have c14b1 : (t240 != a0) = true := bne_iff_ne.mpr c14
        (first | rw [c14b0] | (simp only [i64_w, i32_w]; rw [c14b0]) | skip)
        have H' := Aside0.mk H
        clear H
        go_wp2
        go_meet
        case rel => exact ⟨_, (true), (by first | rfl | (simp; done) | (simp [*]; done)), H', ⟨by first | omega | exact Nat.le_refl _⟩, ⟨by (with_reducible repeat (first | apply Kd.R_alloc | apply Kd.R_drewN | apply Kd.R_drew)); exact Kd.R_mono HO239.out (fun _ hk => trivial)⟩, ⟨zb HB⟩⟩
    case rest =>
      clear HC8
      try clear c1
      try clear p2
      try clear c6
      try clear c7
      try clear c14
      try clear c14b0
      try clear c14b1
      obtain ⟨kq, x31_7, rfl, HA, HJ7, HO_7, HB⟩ := hcut
      cases kq with
      | zero => exact absurd HA.out (by simp [grottolaw01_WordBack.j0])
      | succ kj7 =>
        have H := HA.out
        clear HA
        simp only [grottolaw01_WordBack.j0] at H
        by_cases c16 : x31_7 = true
        · subst c16
          have H1 : (some false) = some r := by rw [if_pos rfl] at H; exact H
          clear H
          have H := H1
          clear H1
          obtain rfl := Option.some.inj H
          go_wp2
          go_ret
          exact ⟨by first | rfl | (simp [errW_none, errW_some] <;> rfl) | (simp [*, errW_none, errW_some] <;> rfl), zb HB⟩
        · replace c16 := Bool.eq_false_iff.mpr c16
          subst c16
          have H1 : ((word_Be.f kj7 y237 4 a2).bind fun bt243 => (if a2 = 1 then (grottolaw01_WordBack.j1 kj7 a1 a2 y237 bt243.1 bt243.2 false) else (if a2 = 2 then (grottolaw01_WordBack.j1 kj7 a1 a2 y237 bt243.1 bt243.2 false) else (grottolaw01_WordBack.j1 kj7 a1 a2 y237 bt243.1 bt243.2 (a2 != 4))))) = some r := by rw [if_neg (show ¬ (false = true) by decide)] at H; exact H
          clear H
          have H := H1
          clear H1
          replace H := Option.bind_eq_some_iff.mp H
          obtain ⟨⟨t243, t244⟩, A170, H⟩ := H
          replace H : (if a2 = 1 then (grottolaw01_WordBack.j1 kj7 a1 a2 y237 t243 t244 false) else (if a2 = 2 then (grottolaw01_WordBack.j1 kj7 a1 a2 y237 t243 t244 false) else (grottolaw01_WordBack.j1 kj7 a1 a2 y237 t243 t244 (a2 != 4)))) = some r := H
          have A17 := Aside0.mk A170
          clear A170
          have HC18 := Aside0.mk H
          clear H
          go_upto_region 6 with (first | ((with_reducible refine gate_callee (f := 14) rfl ?_); refine zgo (some 35) Tryd.func14 #[.slice Ao13 y237.length co13, .int .i64 4, .int .i64 a2] ?_; (with_reducible refine (word_Be.calls kj7 _ _ y237 4 a2 t243 t244 _ ?side1 ?side2 A17.out).mono ?_); (case side1 => repeat (first | exact (Kd.R_reads' HO_7.out).2.2 | (with_reducible refine Kd.C_alloc ?_ _) | (with_reducible refine Kd.C_drewN ?_ _) | (with_reducible refine Kd.C_drew ?_))); (case side2 => exact (Kd.R_reads' HO_7.out).2.1); rintro e w' ⟨rfl, ⟨nd, rfl⟩⟩; refine ⟨_, rfl, ?_⟩))
          (try simp only [Act.put, List.setIfInBounds_toArray, List.set_cons_zero, List.set_cons_succ])
          go_cut [47] (fun v47 wc => ∃ (kq : Nat) (x47_17 : Bool), v47 = .bool x47_17 ∧ Aside0 (grottolaw01_WordBack.j1 kq a1 a2 y237 t243 t244 x47_17 = some r) ∧ Aside0 (kq ≤ kj7) ∧ Aside0 (Kd.R (Kd.int .u8) 5 wc w.heap.size (fun _ => True) (.slice Ao13 y237.length co13) y237) ∧ Aside0 (Below w.heap.size w wc))
          case first =>
            have H := HC18.out
            clear HC18
            by_cases c19 : a2 = 1
            · rw [if_pos c19] at H
              have c19b0 : (a2 == 1) = true := beq_iff_eq.mpr c19
              have c19b1 : (a2 != 1) = false := bne_eq_false_iff_eq.mpr c19
              clear c19
              (first | rw [c19b0] | (simp only [i64_w, i32_w]; rw [c19b0]) | skip)
              have H' := Aside0.mk H
              clear H
              go_wp2
              go_meet
              case rel => exact ⟨_, (false), (by first | rfl | (simp; done) | (simp [*]; done)), H', ⟨by have := HJ7.out; first | omega | exact Nat.le_refl _⟩, ⟨by (with_reducible repeat (first | apply Kd.R_alloc | apply Kd.R_drewN | apply Kd.R_drew)); exact HO_7.out⟩, ⟨zb HB⟩⟩
            · rw [if_neg c19] at H
              have c19b0 : (a2 == 1) = false := beq_eq_false_iff_ne.mpr c19
              have c19b1 : (a2 != 1) = true := bne_iff_ne.mpr c19
              (first | rw [c19b0] | (simp only [i64_w, i32_w]; rw [c19b0]) | skip)
              by_cases c20 : a2 = 2
              · rw [if_pos c20] at H
                have c20b0 : (a2 == 2) = true := beq_iff_eq.mpr c20
                have c20b1 : (a2 != 2) = false := bne_eq_false_iff_eq.mpr c20
                clear c20
                have H' := Aside0.mk H
                clear H
                go_wp2
                go_meet
                case rel => exact ⟨_, (false), (by first | rfl | (simp; done) | (simp [*]; done)), H', ⟨by have := HJ7.out; first | omega | exact Nat.le_refl _⟩, ⟨by (with_reducible repeat (first | apply Kd.R_alloc | apply Kd.R_drewN | apply Kd.R_drew)); exact HO_7.out⟩, ⟨zb HB⟩⟩
              · rw [if_neg c20] at H
                have c20b0 : (a2 == 2) = false := beq_eq_false_iff_ne.mpr c20
                have c20b1 : (a2 != 2) = true := bne_iff_ne.mpr c20
                have H' := Aside0.mk H
                clear H
                go_wp2
                go_meet
                case rel => exact ⟨_, ((a2 != 4)), (by first | rfl | (simp; done) | (simp [*]; done)), H', ⟨by have := HJ7.out; first | omega | exact Nat.le_refl _⟩, ⟨by (with_reducible repeat (first | apply Kd.R_alloc | apply Kd.R_drewN | apply Kd.R_drew)); exact HO_7.out⟩, ⟨zb HB⟩⟩
          case rest =>
            clear HC18
            try clear c1
            try clear c2
            try clear p2
            try clear c6
            try clear c7
            try clear c14
            try clear c14b0
            try clear c14b1
            try clear c16
            try clear c19
            try clear c19b0
            try clear c19b1
            try clear c20
            try clear c20b0
            try clear c20b1
            try clear p2
            obtain ⟨kq, x47_17, rfl, HA, HJ17, HO_7, HB⟩ := hcut
            cases kq with
            | zero => exact absurd HA.out (by simp [grottolaw01_WordBack.j1])
            | succ kj17 =>
              have H := HA.out
              clear HA
              simp only [grottolaw01_WordBack.j1] at H
              by_cases c21 : x47_17 = true
              · subst c21
                have H1 : (if (y237.length : Int) = 4 then (if t243 = 0 then ((grottolaw01_num.f t244).bind fun t245 => (if t245 = 1 then ((grottolaw01_live.f kj17).bind fun t246 => (some t246)) else (some false))) else (some false)) else (some false)) = some r := by rw [if_pos rfl] at H; exact H
                clear H
                have H := H1
                clear H1
                by_cases c22 : (y237.length : Int) = 4
                · rw [if_pos c22] at H
                  have c22b0 : ((y237.length : Int) == 4) = true := beq_iff_eq.mpr c22
                  have c22b1 : ((y237.length : Int) != 4) = false := bne_eq_false_iff_eq.mpr c22
                  clear c22
                  by_cases c23 : t243 = 0
                  · rw [if_pos c23] at H
                    have c23b0 : (t243 == 0) = true := beq_iff_eq.mpr c23
                    have c23b1 : (t243 != 0) = false := bne_eq_false_iff_eq.mpr c23
                    clear c23
                    replace H := Option.bind_eq_some_iff.mp H
                    obtain ⟨t245, A240, H⟩ := H
                    replace H : (if t245 = 1 then ((grottolaw01_live.f kj17).bind fun t246 => (some t246)) else (some false)) = some r := H
                    have A24 := Aside0.mk A240
                    clear A240
                    by_cases c25 : t245 = 1
                    · rw [if_pos c25] at H
                      have c25b0 : (t245 == 1) = true := beq_iff_eq.mpr c25
                      have c25b1 : (t245 != 1) = false := bne_eq_false_iff_eq.mpr c25
                      clear c25
                      replace H := Option.bind_eq_some_iff.mp H
                      obtain ⟨t246, A260, H⟩ := H
                      replace H : (some t246) = some r := H
                      have A26 := Aside0.mk A260
                      clear A260
                      obtain rfl := Option.some.inj H
                      go_wp2_with (first | (go_at_call 17; (with_reducible refine (grottolaw01_num.calls t244 t245 _ A24.out).mono ?_); rintro e w' ⟨rfl, ⟨nd, rfl⟩⟩) | (go_at_call 12; (with_reducible refine (grottolaw01_live.calls kj17  t246 _ (tbl HT HB) A26.out).mono ?_); rintro e w27 ⟨rfl, hb⟩; replace HO_7 := Aside0.mk (Kd.R_below (by (with_reducible repeat (first | apply Kd.R_alloc | apply Kd.R_drewN | apply Kd.R_drew)); exact HO_7.out) hb); replace HB := zbs HB hb; (try clear hb); (try clear hb2); (try clear hk); (try clear hi)))
                      go_ret
                      exact ⟨by first | rfl | (simp [errW_none, errW_some] <;> rfl) | (simp [*, errW_none, errW_some] <;> rfl), zb HB⟩
                    · rw [if_neg c25] at H
                      have c25b0 : (t245 == 1) = false := beq_eq_false_iff_ne.mpr c25
                      have c25b1 : (t245 != 1) = true := bne_iff_ne.mpr c25
                      obtain rfl := Option.some.inj H
                      go_wp2_with (first | (go_at_call 17; (with_reducible refine (grottolaw01_num.calls t244 t245 _ A24.out).mono ?_); rintro e w' ⟨rfl, ⟨nd, rfl⟩⟩))
                      go_ret
                      exact ⟨by first | rfl | (simp [errW_none, errW_some] <;> rfl) | (simp [*, errW_none, errW_some] <;> rfl), zb HB⟩
                  · rw [if_neg c23] at H
                    have c23b0 : (t243 == 0) = false := beq_eq_false_iff_ne.mpr c23
                    have c23b1 : (t243 != 0) = true := bne_iff_ne.mpr c23
                    obtain rfl := Option.some.inj H
                    go_wp2
                    go_ret
                    exact ⟨by first | rfl | (simp [errW_none, errW_some] <;> rfl) | (simp [*, errW_none, errW_some] <;> rfl), zb HB⟩
                · rw [if_neg c22] at H
                  have c22b0 : ((y237.length : Int) == 4) = false := beq_eq_false_iff_ne.mpr c22
                  have c22b1 : ((y237.length : Int) != 4) = true := bne_iff_ne.mpr c22
                  obtain rfl := Option.some.inj H
                  go_wp2
                  go_ret
                  exact ⟨by first | rfl | (simp [errW_none, errW_some] <;> rfl) | (simp [*, errW_none, errW_some] <;> rfl), zb HB⟩
              · replace c21 := Bool.eq_false_iff.mpr c21
                subst c21
                have H1 : ((word_Shl.f 4294967295 ((wrap64 (8 * a2)) % 4294967296)).bind fun t247 => (if (y237.length : Int) = (wrap64 (4 + a2)) then ((grottolaw01_num.f t244).bind fun t248 => (if t248 = 0 then (if t243 = (Go.bits .andNot .u32 a1 t247) then ((grottolaw01_live.f kj17).bind fun t249 => (some t249)) else (some false)) else (some false))) else (some false))) = some r := by rw [if_neg (show ¬ (false = true) by decide)] at H; exact H
                clear H
                have H := H1
                clear H1
                replace H := Option.bind_eq_some_iff.mp H
                obtain ⟨t247, A280, H⟩ := H
                replace H : (if (y237.length : Int) = (wrap64 (4 + a2)) then ((grottolaw01_num.f t244).bind fun t248 => (if t248 = 0 then (if t243 = (Go.bits .andNot .u32 a1 t247) then ((grottolaw01_live.f kj17).bind fun t249 => (some t249)) else (some false)) else (some false))) else (some false)) = some r := H
                have A28 := Aside0.mk A280
                clear A280
                by_cases c29 : (y237.length : Int) = (wrap64 (4 + a2))
                · rw [if_pos c29] at H
                  have c29b0 : ((y237.length : Int) == (wrap64 (4 + a2))) = true := beq_iff_eq.mpr c29
                  have c29b1 : ((y237.length : Int) != (wrap64 (4 + a2))) = false := bne_eq_false_iff_eq.mpr c29
                  clear c29
                  replace H := Option.bind_eq_some_iff.mp H
                  obtain ⟨t248, A300, H⟩ := H
                  replace H : (if t248 = 0 then (if t243 = (Go.bits .andNot .u32 a1 t247) then ((grottolaw01_live.f kj17).bind fun t249 => (some t249)) else (some false)) else (some false)) = some r := H
                  have A30 := Aside0.mk A300
                  clear A300
                  by_cases c31 : t248 = 0
                  · rw [if_pos c31] at H
                    have c31b0 : (t248 == 0) = true := beq_iff_eq.mpr c31
                    have c31b1 : (t248 != 0) = false := bne_eq_false_iff_eq.mpr c31
                    clear c31
                    by_cases c32 : t243 = (Go.bits .andNot .u32 a1 t247)
                    · rw [if_pos c32] at H
                      have c32b0 : (t243 == (Go.bits .andNot .u32 a1 t247)) = true := beq_iff_eq.mpr c32
                      have c32b1 : (t243 != (Go.bits .andNot .u32 a1 t247)) = false := bne_eq_false_iff_eq.mpr c32
                      clear c32
                      replace H := Option.bind_eq_some_iff.mp H
                      obtain ⟨t249, A330, H⟩ := H
                      replace H : (some t249) = some r := H
                      have A33 := Aside0.mk A330
                      clear A330
                      obtain rfl := Option.some.inj H
                      go_wp2_with (first | ((with_reducible refine gate_callee (f := 28) rfl ?_); refine zgo (some 66) Tryd.func28 #[.int .u32 4294967295, .int .u32 ((wrap64 (8 * a2)) % 4294967296)] ?_; (with_reducible refine (word_Shl.calls 4294967295 ((wrap64 (8 * a2)) % 4294967296) t247 _ A28.out).mono ?_); rintro e w' ⟨rfl, ⟨nd, rfl⟩⟩; refine ⟨_, rfl, ?_⟩) | (go_at_call 17; (with_reducible refine (grottolaw01_num.calls t244 t248 _ A30.out).mono ?_); rintro e w' ⟨rfl, ⟨nd, rfl⟩⟩) | (go_at_call 12; (with_reducible refine (grottolaw01_live.calls kj17  t249 _ (tbl HT HB) A33.out).mono ?_); rintro e w34 ⟨rfl, hb⟩; replace HO_7 := Aside0.mk (Kd.R_below (by (with_reducible repeat (first | apply Kd.R_alloc | apply Kd.R_drewN | apply Kd.R_drew)); exact HO_7.out) hb); replace HB := zbs HB hb; (try clear hb); (try clear hb2); (try clear hk); (try clear hi)))
                      go_ret
                      exact ⟨by first | rfl | (simp [errW_none, errW_some] <;> rfl) | (simp [*, errW_none, errW_some] <;> rfl), zb HB⟩
                    · rw [if_neg c32] at H
                      have c32b0 : (t243 == (Go.bits .andNot .u32 a1 t247)) = false := beq_eq_false_iff_ne.mpr c32
                      have c32b1 : (t243 != (Go.bits .andNot .u32 a1 t247)) = true := bne_iff_ne.mpr c32
                      obtain rfl := Option.some.inj H
                      go_wp2_with (first | ((with_reducible refine gate_callee (f := 28) rfl ?_); refine zgo (some 66) Tryd.func28 #[.int .u32 4294967295, .int .u32 ((wrap64 (8 * a2)) % 4294967296)] ?_; (with_reducible refine (word_Shl.calls 4294967295 ((wrap64 (8 * a2)) % 4294967296) t247 _ A28.out).mono ?_); rintro e w' ⟨rfl, ⟨nd, rfl⟩⟩; refine ⟨_, rfl, ?_⟩) | (go_at_call 17; (with_reducible refine (grottolaw01_num.calls t244 t248 _ A30.out).mono ?_); rintro e w' ⟨rfl, ⟨nd, rfl⟩⟩))
                      go_ret
                      exact ⟨by first | rfl | (simp [errW_none, errW_some] <;> rfl) | (simp [*, errW_none, errW_some] <;> rfl), zb HB⟩
                  · rw [if_neg c31] at H
                    have c31b0 : (t248 == 0) = false := beq_eq_false_iff_ne.mpr c31
                    have c31b1 : (t248 != 0) = true := bne_iff_ne.mpr c31
                    obtain rfl := Option.some.inj H
                    go_wp2_with (first | ((with_reducible refine gate_callee (f := 28) rfl ?_); refine zgo (some 66) Tryd.func28 #[.int .u32 4294967295, .int .u32 ((wrap64 (8 * a2)) % 4294967296)] ?_; (with_reducible refine (word_Shl.calls 4294967295 ((wrap64 (8 * a2)) % 4294967296) t247 _ A28.out).mono ?_); rintro e w' ⟨rfl, ⟨nd, rfl⟩⟩; refine ⟨_, rfl, ?_⟩) | (go_at_call 17; (with_reducible refine (grottolaw01_num.calls t244 t248 _ A30.out).mono ?_); rintro e w' ⟨rfl, ⟨nd, rfl⟩⟩))
                    go_ret
                    exact ⟨by first | rfl | (simp [errW_none, errW_some] <;> rfl) | (simp [*, errW_none, errW_some] <;> rfl), zb HB⟩
                · rw [if_neg c29] at H
                  have c29b0 : ((y237.length : Int) == (wrap64 (4 + a2))) = false := beq_eq_false_iff_ne.mpr c29
                  have c29b1 : ((y237.length : Int) != (wrap64 (4 + a2))) = true := bne_iff_ne.mpr c29
                  obtain rfl := Option.some.inj H
                  go_wp2_with (first | ((with_reducible refine gate_callee (f := 28) rfl ?_); refine zgo (some 66) Tryd.func28 #[.int .u32 4294967295, .int .u32 ((wrap64 (8 * a2)) % 4294967296)] ?_; (with_reducible refine (word_Shl.calls 4294967295 ((wrap64 (8 * a2)) % 4294967296) t247 _ A28.out).mono ?_); rintro e w' ⟨rfl, ⟨nd, rfl⟩⟩; refine ⟨_, rfl, ?_⟩))
                  go_ret
                  exact ⟨by first | rfl | (simp [errW_none, errW_some] <;> rfl) | (simp [*, errW_none, errW_some] <;> rfl), zb HB⟩
  · rw [if_neg c6] at H
    exact absurd H (by simp)


end Go.Proofs.YtefdfmnlcfopaaaDoor.PQ
