-- by a program of this claim
import Derived.Test.YtefdfmnlcfopaaaDoorPQx0
import Derived.Test.YtefdfmnlcfopaaaDoorPQx1
import Derived.Test.YtefdfmnlcfopaaaDoorPQx8
namespace Go.Proofs.YtefdfmnlcfopaaaDoor.PQ
open Go.RowKit Go.Proofs.YtefdfmnlcfopaaaDoorW.PrintWords Go.Proofs.YtefdfmnlcfopaaaDoorW.PrintLast Go.Proofs.YtefdfmnlcfopaaaDoorW.PrintMore Go.Proofs.YtefdfmnlcfopaaaDoor.Z
attribute [local go_sem] max2_int min2_int max_two min_two max_three min_three max_four min_four   -- for this text's walks alone
set_option linter.unusedVariables false
set_option linter.unusedSimpArgs false

/-! ### grottolaw01_WordBytes: function 3 -/
def grottolaw01_WordBytes.f (k : Nat) (l0 : List Int) (a1 : Int) (a2 : Int) (a3 : Int) : Option (Bool) := if (l0.length : Int) > 4096 then ((grottolaw01_live.f k).bind fun t168 => (some t168)) else ((grottoref01_Lent.f l0).bind fun t169 => ((word_Be.f k t169 a1 a2).bind fun bt172 => ((grottoref01_Be.f k l0 a1 a2).bind fun bt174 => ((word_Put.f k a3 a2).bind fun t176 => (if bt172.1 = bt174.1 then ((grottolaw01_num.f bt172.2).bind fun t179 => (if t179 = bt174.2 then ((grottoref01_Put.f k a3 a2).bind fun t180 => ((grottoref01_Same.f t176 t180).bind fun t183 => (if t183 = true then ((grottoref01_Kept.f t169 l0).bind fun t184 => (if t184 = true then ((grottolaw01_live.f k).bind fun t185 => (some t185)) else (some false))) else (some false)))) else (some false))) else (some false))))))
theorem grottolaw01_WordBytes.mono : ∀ a0 a1 a2 a3 k, LeO (grottolaw01_WordBytes.f k a0 a1 a2 a3) (grottolaw01_WordBytes.f (k + 1) a0 a1 a2 a3) := by
  intro a0 a1 a2 a3 k
  unfold grottolaw01_WordBytes.f
  repeat' first
      | (with_reducible exact grottolaw01_live.mono _)
      | (with_reducible exact grottoref01_Be.mono _ _ _ _)
      | (with_reducible exact grottoref01_Put.mono _ _ _)
      | (with_reducible exact word_Be.mono _ _ _ _)
      | (with_reducible exact word_Put.mono _ _ _)
      | (with_reducible exact LeO.refl _)
      | (with_reducible exact LeO.none _)
      | (with_reducible refine LeO.ite ?_ ?_)
      | (with_reducible refine LeO.bind ?_ (fun _ => ?_))
      | exact grottolaw01_live.mono _
      | exact grottoref01_Be.mono _ _ _ _
      | exact grottoref01_Put.mono _ _ _
      | exact word_Be.mono _ _ _ _
      | exact word_Put.mono _ _ _
      | exact LeO.none _
      | refine LeO.ite ?_ ?_
      | refine LeO.bind ?_ (fun _ => ?_)
set_option maxHeartbeats 8000000 in
set_option maxRecDepth 100000 in
theorem grottolaw01_WordBytes.calls (k : Nat) (A0 : Option Addr) (c0 : Nat) (l0 : List Int) (a1 : Int) (a2 : Int) (a3 : Int) (r : Bool) (w : World) (HT : Tab w) (hr0 : Kd.C (Kd.int .u8) w A0 l0.length l0) (hc0 : l0.length ≤ c0) (h : grottolaw01_WordBytes.f k l0 a1 a2 a3 = some r) :
    Calls Tryd.prog 3 #[.slice A0 l0.length c0, .int .i64 a1, .int .i64 a2, .int .u32 a3] w fun e w' => e = .returned (.bool r) ∧ Below w.heap.size w w' := by
  have HR0 := Aside0.mk hr0
  have HC0 := Aside0.mk hc0
  clear hr0 hc0
  have HB := Aside0.mk (Below.refl w.heap.size w)
  have H : (if (l0.length : Int) > 4096 then ((grottolaw01_live.f k).bind fun t168 => (some t168)) else ((grottoref01_Lent.f l0).bind fun t169 => ((word_Be.f k t169 a1 a2).bind fun bt172 => ((grottoref01_Be.f k l0 a1 a2).bind fun bt174 => ((word_Put.f k a3 a2).bind fun t176 => (if bt172.1 = bt174.1 then ((grottolaw01_num.f bt172.2).bind fun t179 => (if t179 = bt174.2 then ((grottoref01_Put.f k a3 a2).bind fun t180 => ((grottoref01_Same.f t176 t180).bind fun t183 => (if t183 = true then ((grottoref01_Kept.f t169 l0).bind fun t184 => (if t184 = true then ((grottolaw01_live.f k).bind fun t185 => (some t185)) else (some false))) else (some false)))) else (some false))) else (some false))))))) = some r := h
  clear h
  by_cases c5 : (l0.length : Int) > 4096
  · rw [if_pos c5] at H
    have c5b0 : decide (4096 < (l0.length : Int)) = true := decide_eq_true c5
    have c5b1 : decide (4096 < l0.length) = true := decide_eq_true (by omega)
    clear c5
    replace H := Option.bind_eq_some_iff.mp H
    obtain ⟨t168, A60, H⟩ := H
    replace H : (some t168) = some r := H
    have A6 := Aside0.mk A60
    clear A60
    obtain rfl := Option.some.inj H
    go_enter Tryd.func3, Tryd.ntmps3
    go_wp2_with (first | ((with_reducible refine gate_callee (f := 12) rfl ?_); refine zgo (some 18) Tryd.func12 #[] ?_; (with_reducible refine (grottolaw01_live.calls k  t168 _ (tbl HT HB) A6.out).mono ?_); rintro e w7 ⟨rfl, hb⟩; refine ⟨_, rfl, ?_⟩; replace HB := zbs HB hb; (try clear hb); (try clear hb2); (try clear hk); (try clear hi)))
    go_ret
    exact ⟨by first | rfl | (simp [errW_none, errW_some] <;> rfl) | (simp [*, errW_none, errW_some] <;> rfl), zb HB⟩
  · rw [if_neg c5] at H
    have c5b0 : decide (4096 < (l0.length : Int)) = false := decide_eq_false c5
    have c5b1 : decide (4096 < l0.length) = false := decide_eq_false (by omega)
    clear c5
    replace H := Option.bind_eq_some_iff.mp H
    obtain ⟨t169, A80, H⟩ := H
    replace H : ((word_Be.f k t169 a1 a2).bind fun bt172 => ((grottoref01_Be.f k l0 a1 a2).bind fun bt174 => ((word_Put.f k a3 a2).bind fun t176 => (if bt172.1 = bt174.1 then ((grottolaw01_num.f bt172.2).bind fun t179 => (if t179 = bt174.2 then ((grottoref01_Put.f k a3 a2).bind fun t180 => ((grottoref01_Same.f t176 t180).bind fun t183 => (if t183 = true then ((grottoref01_Kept.f t169 l0).bind fun t184 => (if t184 = true then ((grottolaw01_live.f k).bind fun t185 => (some t185)) else (some false))) else (some false)))) else (some false))) else (some false))))) = some r := H
    have A8 := Aside0.mk A80
    clear A80
    replace H := Option.bind_eq_some_iff.mp H
    obtain ⟨⟨t172, t173⟩, A90, H⟩ := H
    replace H : ((grottoref01_Be.f k l0 a1 a2).bind fun bt174 => ((word_Put.f k a3 a2).bind fun t176 => (if t172 = bt174.1 then ((grottolaw01_num.f t173).bind fun t179 => (if t179 = bt174.2 then ((grottoref01_Put.f k a3 a2).bind fun t180 => ((grottoref01_Same.f t176 t180).bind fun t183 => (if t183 = true then ((grottoref01_Kept.f t169 l0).bind fun t184 => (if t184 = true then ((grottolaw01_live.f k).bind fun t185 => (some t185)) else (some false))) else (some false)))) else (some false))) else (some false)))) = some r := H
    have A9 := Aside0.mk A90
    clear A90
    replace H := Option.bind_eq_some_iff.mp H
    obtain ⟨⟨t174, t175⟩, A100, H⟩ := H
    replace H : ((word_Put.f k a3 a2).bind fun t176 => (if t172 = t174 then ((grottolaw01_num.f t173).bind fun t179 => (if t179 = t175 then ((grottoref01_Put.f k a3 a2).bind fun t180 => ((grottoref01_Same.f t176 t180).bind fun t183 => (if t183 = true then ((grottoref01_Kept.f t169 l0).bind fun t184 => (if t184 = true then ((grottolaw01_live.f k).bind fun t185 => (some t185)) else (some false))) else (some false)))) else (some false))) else (some false))) = some r := H
    have A10 := Aside0.mk A100
    clear A100
    replace H := Option.bind_eq_some_iff.mp H
    obtain ⟨t176, A110, H⟩ := H
    replace H : (if t172 = t174 then ((grottolaw01_num.f t173).bind fun t179 => (if t179 = t175 then ((grottoref01_Put.f k a3 a2).bind fun t180 => ((grottoref01_Same.f t176 t180).bind fun t183 => (if t183 = true then ((grottoref01_Kept.f t169 l0).bind fun t184 => (if t184 = true then ((grottolaw01_live.f k).bind fun t185 => (some t185)) else (some false))) else (some false)))) else (some false))) else (some false)) = some r := H
    have A11 := Aside0.mk A110
    clear A110
    by_cases c12 : t172 = t174
    · rw [if_pos c12] at H
      have c12b0 : (t172 == t174) = true := beq_iff_eq.mpr c12
      have c12b1 : (t172 != t174) = false := bne_eq_false_iff_eq.mpr c12
      clear c12
      replace H := Option.bind_eq_some_iff.mp H
      obtain ⟨t179, A130, H⟩ := H
      replace H : (if t179 = t175 then ((grottoref01_Put.f k a3 a2).bind fun t180 => ((grottoref01_Same.f t176 t180).bind fun t183 => (if t183 = true then ((grottoref01_Kept.f t169 l0).bind fun t184 => (if t184 = true then ((grottolaw01_live.f k).bind fun t185 => (some t185)) else (some false))) else (some false)))) else (some false)) = some r := H
      have A13 := Aside0.mk A130
      clear A130
      by_cases c14 : t179 = t175
      · rw [if_pos c14] at H
        have c14b0 : (t179 == t175) = true := beq_iff_eq.mpr c14
        have c14b1 : (t179 != t175) = false := bne_eq_false_iff_eq.mpr c14
        clear c14
        replace H := Option.bind_eq_some_iff.mp H
        obtain ⟨t180, A150, H⟩ := H
        replace H : ((grottoref01_Same.f t176 t180).bind fun t183 => (if t183 = true then ((grottoref01_Kept.f t169 l0).bind fun t184 => (if t184 = true then ((grottolaw01_live.f k).bind fun t185 => (some t185)) else (some false))) else (some false))) = some r := H
        have A15 := Aside0.mk A150
        clear A150
        replace H := Option.bind_eq_some_iff.mp H
        obtain ⟨t183, A160, H⟩ := H
        replace H : (if t183 = true then ((grottoref01_Kept.f t169 l0).bind fun t184 => (if t184 = true then ((grottolaw01_live.f k).bind fun t185 => (some t185)) else (some false))) else (some false)) = some r := H
        have A16 := Aside0.mk A160
        clear A160
        by_cases c17 : t183 = true
        · subst c17
          have H1 : ((grottoref01_Kept.f t169 l0).bind fun t184 => (if t184 = true then ((grottolaw01_live.f k).bind fun t185 => (some t185)) else (some false))) = some r := by rw [if_pos rfl] at H; exact H
          clear H
          have H := H1
          clear H1
          replace H := Option.bind_eq_some_iff.mp H
          obtain ⟨t184, A180, H⟩ := H
          replace H : (if t184 = true then ((grottolaw01_live.f k).bind fun t185 => (some t185)) else (some false)) = some r := H
          have A18 := Aside0.mk A180
          clear A180
          by_cases c19 : t184 = true
          · subst c19
            have H1 : ((grottolaw01_live.f k).bind fun t185 => (some t185)) = some r := by rw [if_pos rfl] at H; exact H
            clear H
            have H := H1
            clear H1
            replace H := Option.bind_eq_some_iff.mp H
            obtain ⟨t185, A200, H⟩ := H
            replace H : (some t185) = some r := H
            have A20 := Aside0.mk A200
            clear A200
            obtain rfl := Option.some.inj H
            go_enter Tryd.func3, Tryd.ntmps3
            go_wp2_with (first | ((with_reducible refine gate_callee (f := 13) rfl ?_); refine zgo (some 20) Tryd.func13 #[.slice A0 l0.length c0] ?_; (with_reducible refine (grottoref01_Lent.calls _ _ l0 t169 _ ?side1 ?side2 A8.out).mono ?_); (case side1 => repeat (first | exact HR0.out | (with_reducible refine Kd.C_alloc ?_ _) | (with_reducible refine Kd.C_drewN ?_ _) | (with_reducible refine Kd.C_drew ?_))); (case side2 => exact HC0.out); rintro e w21 ⟨Ao22, co22, rfl, ho0, hb⟩; refine ⟨_, rfl, ?_⟩; have HO171 := Aside0.mk (Kd.R_lower ho0 (below_size (zb HB))); replace HB := zbs HB hb; (try clear hb); (try clear hb2); (try clear hk); (try clear hi); (try clear ho0)) | ((with_reducible refine gate_callee (f := 14) rfl ?_); refine zgo (some 25) Tryd.func14 #[.slice Ao22 t169.length co22, .int .i64 a1, .int .i64 a2] ?_; (with_reducible refine (word_Be.calls k _ _ t169 a1 a2 t172 t173 _ ?side1 ?side2 A9.out).mono ?_); (case side1 => repeat (first | exact C_pre (Kd.R_reads' HO171.out).2.2 | (with_reducible refine Kd.C_alloc ?_ _) | (with_reducible refine Kd.C_drewN ?_ _) | (with_reducible refine Kd.C_drew ?_))); (case side2 => exact Nat.le_of_succ_le (Kd.R_reads' HO171.out).2.1); rintro e w' ⟨rfl, ⟨nd, rfl⟩⟩; refine ⟨_, rfl, ?_⟩) | ((with_reducible refine gate_callee (f := 15) rfl ?_); refine zgo (some 32) Tryd.func15 #[.slice A0 l0.length c0, .int .i64 a1, .int .i64 a2] ?_; (with_reducible refine (grottoref01_Be.calls k _ _ l0 a1 a2 t174 t175 _ ?side1 ?side2 A10.out).mono ?_); (case side1 => repeat (first | exact (Kd.C_below HR0.out (zb HB)) | (with_reducible refine Kd.C_alloc ?_ _) | (with_reducible refine Kd.C_drewN ?_ _) | (with_reducible refine Kd.C_drew ?_))); (case side2 => exact HC0.out); rintro e w' ⟨rfl, ⟨nd, rfl⟩⟩; refine ⟨_, rfl, ?_⟩) | ((with_reducible refine gate_callee (f := 16) rfl ?_); refine zgo (some 37) Tryd.func16 #[.int .u32 a3, .int .i64 a2] ?_; (with_reducible refine (word_Put.calls k a3 a2 t176 _ A11.out).mono ?_); rintro e w23 ⟨v177, rfl, ho0, hb⟩; refine ⟨_, rfl, ?_⟩; have HO178 := Aside0.mk (Kd.R_lower (Kd.R_new' ho0 (Kd.R_lt (by (with_reducible repeat (first | apply Kd.R_alloc | apply Kd.R_drewN | apply Kd.R_drew)); exact HO171.out))) (below_size (zb HB))); replace HO171 := Aside0.mk (Kd.R_elder' (by (with_reducible repeat (first | apply Kd.R_alloc | apply Kd.R_drewN | apply Kd.R_drew)); exact HO171.out) (Kd.R_base ho0) hb); replace HB := zbs HB hb; (try clear hb); (try clear hb2); (try clear hk); (try clear hi); (try clear ho0)) | (go_at_call 17; (with_reducible refine (grottolaw01_num.calls t173 t179 _ A13.out).mono ?_); rintro e w' ⟨rfl, ⟨nd, rfl⟩⟩) | (go_at_call 19; (with_reducible refine (grottoref01_Put.calls k a3 a2 t180 _ A15.out).mono ?_); rintro e w24 ⟨v181, rfl, ho0, hb⟩; have HO182 := Aside0.mk (Kd.R_lower (Kd.R_new' (Kd.R_new' ho0 (Kd.R_lt (by (with_reducible repeat (first | apply Kd.R_alloc | apply Kd.R_drewN | apply Kd.R_drew)); exact HO171.out))) (Kd.R_lt (by (with_reducible repeat (first | apply Kd.R_alloc | apply Kd.R_drewN | apply Kd.R_drew)); exact HO178.out))) (below_size (zb HB))); replace HO171 := Aside0.mk (Kd.R_elder' (by (with_reducible repeat (first | apply Kd.R_alloc | apply Kd.R_drewN | apply Kd.R_drew)); exact HO171.out) (Kd.R_base ho0) hb); replace HO178 := Aside0.mk (Kd.R_elder' (by (with_reducible repeat (first | apply Kd.R_alloc | apply Kd.R_drewN | apply Kd.R_drew)); exact HO178.out) (Kd.R_base ho0) hb); replace HB := zbs HB hb; (try clear hb); (try clear hb2); (try clear hk); (try clear hi); (try clear ho0); obtain ⟨Ao25, co25, eo25⟩ := Kd.R_slice HO178.out; subst eo25; obtain ⟨Ao26, co26, eo26⟩ := Kd.R_slice HO182.out; subst eo26) | (go_at_call 18; (with_reducible refine (grottoref01_Same.calls _ _ t176 _ _ t180 true _ ?side1 ?side2 ?side3 ?side4 A16.out).mono ?_); (case side1 => repeat (first | exact (Kd.R_reads' HO178.out).2.2 | (with_reducible refine Kd.C_alloc ?_ _) | (with_reducible refine Kd.C_drewN ?_ _) | (with_reducible refine Kd.C_drew ?_))); (case side2 => exact (Kd.R_reads' HO178.out).2.1); (case side3 => repeat (first | exact (Kd.R_reads' HO182.out).2.2 | (with_reducible refine Kd.C_alloc ?_ _) | (with_reducible refine Kd.C_drewN ?_ _) | (with_reducible refine Kd.C_drew ?_))); (case side4 => exact (Kd.R_reads' HO182.out).2.1); rintro e w' ⟨rfl, ⟨nd, rfl⟩⟩) | (go_at_call 20; (with_reducible refine (grottoref01_Kept.calls _ _ t169 _ _ l0 true _ ?side1 ?side2 ?side3 ?side4 A18.out).mono ?_); (case side1 => repeat (first | exact (Kd.R_reads' HO171.out).2.2 | (with_reducible refine Kd.C_alloc ?_ _) | (with_reducible refine Kd.C_drewN ?_ _) | (with_reducible refine Kd.C_drew ?_))); (case side2 => exact (Kd.R_reads' HO171.out).2.1); (case side3 => repeat (first | exact (Kd.C_below HR0.out (zb HB)) | (with_reducible refine Kd.C_alloc ?_ _) | (with_reducible refine Kd.C_drewN ?_ _) | (with_reducible refine Kd.C_drew ?_))); (case side4 => exact HC0.out); rintro e w' ⟨rfl, ⟨nd, rfl⟩⟩) | (go_at_call 12; (with_reducible refine (grottolaw01_live.calls k  t185 _ (tbl HT HB) A20.out).mono ?_); rintro e w27 ⟨rfl, hb⟩; replace HO171 := Aside0.mk (Kd.R_below (by (with_reducible repeat (first | apply Kd.R_alloc | apply Kd.R_drewN | apply Kd.R_drew)); exact HO171.out) hb); replace HO178 := Aside0.mk (Kd.R_below (by (with_reducible repeat (first | apply Kd.R_alloc | apply Kd.R_drewN | apply Kd.R_drew)); exact HO178.out) hb); replace HO182 := Aside0.mk (Kd.R_below (by (with_reducible repeat (first | apply Kd.R_alloc | apply Kd.R_drewN | apply Kd.R_drew)); exact HO182.out) hb); replace HB := zbs HB hb; (try clear hb); (try clear hb2); (try clear hk); (try clear hi)))
            go_ret
            exact ⟨by first | rfl | (simp [errW_none, errW_some] <;> rfl) | (simp [*, errW_none, errW_some] <;> rfl), zb HB⟩
          · replace c19 := Bool.eq_false_iff.mpr c19
            subst c19
            exact absurd A18.out (by unfold grottoref01_Kept.f; split <;> (try split) <;> simp)
        · replace c17 := Bool.eq_false_iff.mpr c17
          subst c17
          have H1 : (some false) = some r := by rw [if_neg (show ¬ (false = true) by decide)] at H; exact H
          clear H
          have H := H1
          clear H1
          obtain rfl := Option.some.inj H
          go_enter Tryd.func3, Tryd.ntmps3
          go_wp2_with (first | ((with_reducible refine gate_callee (f := 13) rfl ?_); refine zgo (some 20) Tryd.func13 #[.slice A0 l0.length c0] ?_; (with_reducible refine (grottoref01_Lent.calls _ _ l0 t169 _ ?side1 ?side2 A8.out).mono ?_); (case side1 => repeat (first | exact HR0.out | (with_reducible refine Kd.C_alloc ?_ _) | (with_reducible refine Kd.C_drewN ?_ _) | (with_reducible refine Kd.C_drew ?_))); (case side2 => exact HC0.out); rintro e w34 ⟨Ao35, co35, rfl, ho0, hb⟩; refine ⟨_, rfl, ?_⟩; have HO171 := Aside0.mk (Kd.R_lower ho0 (below_size (zb HB))); replace HB := zbs HB hb; (try clear hb); (try clear hb2); (try clear hk); (try clear hi); (try clear ho0)) | ((with_reducible refine gate_callee (f := 14) rfl ?_); refine zgo (some 25) Tryd.func14 #[.slice Ao35 t169.length co35, .int .i64 a1, .int .i64 a2] ?_; (with_reducible refine (word_Be.calls k _ _ t169 a1 a2 t172 t173 _ ?side1 ?side2 A9.out).mono ?_); (case side1 => repeat (first | exact C_pre (Kd.R_reads' HO171.out).2.2 | (with_reducible refine Kd.C_alloc ?_ _) | (with_reducible refine Kd.C_drewN ?_ _) | (with_reducible refine Kd.C_drew ?_))); (case side2 => exact Nat.le_of_succ_le (Kd.R_reads' HO171.out).2.1); rintro e w' ⟨rfl, ⟨nd, rfl⟩⟩; refine ⟨_, rfl, ?_⟩) | ((with_reducible refine gate_callee (f := 15) rfl ?_); refine zgo (some 32) Tryd.func15 #[.slice A0 l0.length c0, .int .i64 a1, .int .i64 a2] ?_; (with_reducible refine (grottoref01_Be.calls k _ _ l0 a1 a2 t174 t175 _ ?side1 ?side2 A10.out).mono ?_); (case side1 => repeat (first | exact (Kd.C_below HR0.out (zb HB)) | (with_reducible refine Kd.C_alloc ?_ _) | (with_reducible refine Kd.C_drewN ?_ _) | (with_reducible refine Kd.C_drew ?_))); (case side2 => exact HC0.out); rintro e w' ⟨rfl, ⟨nd, rfl⟩⟩; refine ⟨_, rfl, ?_⟩) | ((with_reducible refine gate_callee (f := 16) rfl ?_); refine zgo (some 37) Tryd.func16 #[.int .u32 a3, .int .i64 a2] ?_; (with_reducible refine (word_Put.calls k a3 a2 t176 _ A11.out).mono ?_); rintro e w36 ⟨v177, rfl, ho0, hb⟩; refine ⟨_, rfl, ?_⟩; have HO178 := Aside0.mk (Kd.R_lower (Kd.R_new' ho0 (Kd.R_lt (by (with_reducible repeat (first | apply Kd.R_alloc | apply Kd.R_drewN | apply Kd.R_drew)); exact HO171.out))) (below_size (zb HB))); replace HO171 := Aside0.mk (Kd.R_elder' (by (with_reducible repeat (first | apply Kd.R_alloc | apply Kd.R_drewN | apply Kd.R_drew)); exact HO171.out) (Kd.R_base ho0) hb); replace HB := zbs HB hb; (try clear hb); (try clear hb2); (try clear hk); (try clear hi); (try clear ho0)) | (go_at_call 17; (with_reducible refine (grottolaw01_num.calls t173 t179 _ A13.out).mono ?_); rintro e w' ⟨rfl, ⟨nd, rfl⟩⟩) | (go_at_call 19; (with_reducible refine (grottoref01_Put.calls k a3 a2 t180 _ A15.out).mono ?_); rintro e w37 ⟨v181, rfl, ho0, hb⟩; have HO182 := Aside0.mk (Kd.R_lower (Kd.R_new' (Kd.R_new' ho0 (Kd.R_lt (by (with_reducible repeat (first | apply Kd.R_alloc | apply Kd.R_drewN | apply Kd.R_drew)); exact HO171.out))) (Kd.R_lt (by (with_reducible repeat (first | apply Kd.R_alloc | apply Kd.R_drewN | apply Kd.R_drew)); exact HO178.out))) (below_size (zb HB))); replace HO171 := Aside0.mk (Kd.R_elder' (by (with_reducible repeat (first | apply Kd.R_alloc | apply Kd.R_drewN | apply Kd.R_drew)); exact HO171.out) (Kd.R_base ho0) hb); replace HO178 := Aside0.mk (Kd.R_elder' (by (with_reducible repeat (first | apply Kd.R_alloc | apply Kd.R_drewN | apply Kd.R_drew)); exact HO178.out) (Kd.R_base ho0) hb); replace HB := zbs HB hb; (try clear hb); (try clear hb2); (try clear hk); (try clear hi); (try clear ho0); obtain ⟨Ao38, co38, eo38⟩ := Kd.R_slice HO178.out; subst eo38; obtain ⟨Ao39, co39, eo39⟩ := Kd.R_slice HO182.out; subst eo39) | (go_at_call 18; (with_reducible refine (grottoref01_Same.calls _ _ t176 _ _ t180 false _ ?side1 ?side2 ?side3 ?side4 A16.out).mono ?_); (case side1 => repeat (first | exact (Kd.R_reads' HO178.out).2.2 | (with_reducible refine Kd.C_alloc ?_ _) | (with_reducible refine Kd.C_drewN ?_ _) | (with_reducible refine Kd.C_drew ?_))); (case side2 => exact (Kd.R_reads' HO178.out).2.1); (case side3 => repeat (first | exact (Kd.R_reads' HO182.out).2.2 | (with_reducible refine Kd.C_alloc ?_ _) | (with_reducible refine Kd.C_drewN ?_ _) | (with_reducible refine Kd.C_drew ?_))); (case side4 => exact (Kd.R_reads' HO182.out).2.1); rintro e w' ⟨rfl, ⟨nd, rfl⟩⟩))
          go_ret
          exact ⟨by first | rfl | (simp [errW_none, errW_some] <;> rfl) | (simp [*, errW_none, errW_some] <;> rfl), zb HB⟩
      · rw [if_neg c14] at H
        have c14b0 : (t179 == t175) = false := beq_eq_false_iff_ne.mpr c14
        have c14b1 : (t179 != t175) = true := bne_iff_ne.mpr c14
        obtain rfl := Option.some.inj H
        go_enter Tryd.func3, Tryd.ntmps3
        go_wp2_with (first | ((with_reducible refine gate_callee (f := 13) rfl ?_); refine zgo (some 20) Tryd.func13 #[.slice A0 l0.length c0] ?_; (with_reducible refine (grottoref01_Lent.calls _ _ l0 t169 _ ?side1 ?side2 A8.out).mono ?_); (case side1 => repeat (first | exact HR0.out | (with_reducible refine Kd.C_alloc ?_ _) | (with_reducible refine Kd.C_drewN ?_ _) | (with_reducible refine Kd.C_drew ?_))); (case side2 => exact HC0.out); rintro e w40 ⟨Ao41, co41, rfl, ho0, hb⟩; refine ⟨_, rfl, ?_⟩; have HO171 := Aside0.mk (Kd.R_lower ho0 (below_size (zb HB))); replace HB := zbs HB hb; (try clear hb); (try clear hb2); (try clear hk); (try clear hi); (try clear ho0)) | ((with_reducible refine gate_callee (f := 14) rfl ?_); refine zgo (some 25) Tryd.func14 #[.slice Ao41 t169.length co41, .int .i64 a1, .int .i64 a2] ?_; (with_reducible refine (word_Be.calls k _ _ t169 a1 a2 t172 t173 _ ?side1 ?side2 A9.out).mono ?_); (case side1 => repeat (first | exact C_pre (Kd.R_reads' HO171.out).2.2 | (with_reducible refine Kd.C_alloc ?_ _) | (with_reducible refine Kd.C_drewN ?_ _) | (with_reducible refine Kd.C_drew ?_))); (case side2 => exact Nat.le_of_succ_le (Kd.R_reads' HO171.out).2.1); rintro e w' ⟨rfl, ⟨nd, rfl⟩⟩; refine ⟨_, rfl, ?_⟩) | ((with_reducible refine gate_callee (f := 15) rfl ?_); refine zgo (some 32) Tryd.func15 #[.slice A0 l0.length c0, .int .i64 a1, .int .i64 a2] ?_; (with_reducible refine (grottoref01_Be.calls k _ _ l0 a1 a2 t174 t175 _ ?side1 ?side2 A10.out).mono ?_); (case side1 => repeat (first | exact (Kd.C_below HR0.out (zb HB)) | (with_reducible refine Kd.C_alloc ?_ _) | (with_reducible refine Kd.C_drewN ?_ _) | (with_reducible refine Kd.C_drew ?_))); (case side2 => exact HC0.out); rintro e w' ⟨rfl, ⟨nd, rfl⟩⟩; refine ⟨_, rfl, ?_⟩) | ((with_reducible refine gate_callee (f := 16) rfl ?_); refine zgo (some 37) Tryd.func16 #[.int .u32 a3, .int .i64 a2] ?_; (with_reducible refine (word_Put.calls k a3 a2 t176 _ A11.out).mono ?_); rintro e w42 ⟨v177, rfl, ho0, hb⟩; refine ⟨_, rfl, ?_⟩; have HO178 := Aside0.mk (Kd.R_lower (Kd.R_new' ho0 (Kd.R_lt (by (with_reducible repeat (first | apply Kd.R_alloc | apply Kd.R_drewN | apply Kd.R_drew)); exact HO171.out))) (below_size (zb HB))); replace HO171 := Aside0.mk (Kd.R_elder' (by (with_reducible repeat (first | apply Kd.R_alloc | apply Kd.R_drewN | apply Kd.R_drew)); exact HO171.out) (Kd.R_base ho0) hb); replace HB := zbs HB hb; (try clear hb); (try clear hb2); (try clear hk); (try clear hi); (try clear ho0)) | (go_at_call 17; (with_reducible refine (grottolaw01_num.calls t173 t179 _ A13.out).mono ?_); rintro e w' ⟨rfl, ⟨nd, rfl⟩⟩))
        go_ret
        exact ⟨by first | rfl | (simp [errW_none, errW_some] <;> rfl) | (simp [*, errW_none, errW_some] <;> rfl), zb HB⟩
    · rw [if_neg c12] at H
      have c12b0 : (t172 == t174) = false := beq_eq_false_iff_ne.mpr c12
      have c12b1 : (t172 != t174) = true := bne_iff_ne.mpr c12
      obtain rfl := Option.some.inj H
      go_enter Tryd.func3, Tryd.ntmps3
      go_wp2_with (first | ((with_reducible refine gate_callee (f := 13) rfl ?_); refine zgo (some 20) Tryd.func13 #[.slice A0 l0.length c0] ?_; (with_reducible refine (grottoref01_Lent.calls _ _ l0 t169 _ ?side1 ?side2 A8.out).mono ?_); (case side1 => repeat (first | exact HR0.out | (with_reducible refine Kd.C_alloc ?_ _) | (with_reducible refine Kd.C_drewN ?_ _) | (with_reducible refine Kd.C_drew ?_))); (case side2 => exact HC0.out); rintro e w43 ⟨Ao44, co44, rfl, ho0, hb⟩; refine ⟨_, rfl, ?_⟩; have HO171 := Aside0.mk (Kd.R_lower ho0 (below_size (zb HB))); replace HB := zbs HB hb; (try clear hb); (try clear hb2); (try clear hk); (try clear hi); (try clear ho0)) | ((with_reducible refine gate_callee (f := 14) rfl ?_); refine zgo (some 25) Tryd.func14 #[.slice Ao44 t169.length co44, .int .i64 a1, .int .i64 a2] ?_; (with_reducible refine (word_Be.calls k _ _ t169 a1 a2 t172 t173 _ ?side1 ?side2 A9.out).mono ?_); (case side1 => repeat (first | exact C_pre (Kd.R_reads' HO171.out).2.2 | (with_reducible refine Kd.C_alloc ?_ _) | (with_reducible refine Kd.C_drewN ?_ _) | (with_reducible refine Kd.C_drew ?_))); (case side2 => exact Nat.le_of_succ_le (Kd.R_reads' HO171.out).2.1); rintro e w' ⟨rfl, ⟨nd, rfl⟩⟩; refine ⟨_, rfl, ?_⟩) | ((with_reducible refine gate_callee (f := 15) rfl ?_); refine zgo (some 32) Tryd.func15 #[.slice A0 l0.length c0, .int .i64 a1, .int .i64 a2] ?_; (with_reducible refine (grottoref01_Be.calls k _ _ l0 a1 a2 t174 t175 _ ?side1 ?side2 A10.out).mono ?_); (case side1 => repeat (first | exact (Kd.C_below HR0.out (zb HB)) | (with_reducible refine Kd.C_alloc ?_ _) | (with_reducible refine Kd.C_drewN ?_ _) | (with_reducible refine Kd.C_drew ?_))); (case side2 => exact HC0.out); rintro e w' ⟨rfl, ⟨nd, rfl⟩⟩; refine ⟨_, rfl, ?_⟩) | ((with_reducible refine gate_callee (f := 16) rfl ?_); refine zgo (some 37) Tryd.func16 #[.int .u32 a3, .int .i64 a2] ?_; (with_reducible refine (word_Put.calls k a3 a2 t176 _ A11.out).mono ?_); rintro e w45 ⟨v177, rfl, ho0, hb⟩; refine ⟨_, rfl, ?_⟩; have HO178 := Aside0.mk (Kd.R_lower (Kd.R_new' ho0 (Kd.R_lt (by (with_reducible repeat (first | apply Kd.R_alloc | apply Kd.R_drewN | apply Kd.R_drew)); exact HO171.out))) (below_size (zb HB))); replace HO171 := Aside0.mk (Kd.R_elder' (by (with_reducible repeat (first | apply Kd.R_alloc | apply Kd.R_drewN | apply Kd.R_drew)); exact HO171.out) (Kd.R_base ho0) hb); replace HB := zbs HB hb; (try clear hb); (try clear hb2); (try clear hk); (try clear hi); (try clear ho0)))
      go_ret
      exact ⟨by first | rfl | (simp [errW_none, errW_some] <;> rfl) | (simp [*, errW_none, errW_some] <;> rfl), zb HB⟩


end Go.Proofs.YtefdfmnlcfopaaaDoor.PQ
