/- The law FindRings walked. -/
import Derived.Test.YtohmipmioaceeaaLRp
namespace Go.Proofs.Ytohmipmioaceeaa.PQ
set_option linter.all false
open Go.RowKit Go.Proofs.YtohmipmioaceeaaW.PrintWords Go.Proofs.YtohmipmioaceeaaW.PrintLast Go.Proofs.YtohmipmioaceeaaW.PrintMore Go.Proofs.Ytohmipmioaceeaa.Z Go.Proofs.Ytohmipmioaceeaa.Pure
set_option linter.unusedVariables false
set_option linter.unusedSimpArgs false
theorem bs2 {a : Act} {o : Oper} {W : World} {x y : Int} (p q : Tmp) (ho : o.op = .buildSlice 22 2 #[(0, .tmp p), (1, .tmp q)]) (hx : a.eval (.tmp p) = .int .u32 x) (hy : a.eval (.tmp q) = .int .u32 y) :
    (execOp a.eval o).run Try.prog W = .ok (.value (.slice (some ⟨W.heap.size, 0, none⟩) 2 2)) (W.alloc (.cells #[.int .u32 x, .int .u32 y] 23)) := by
  have hx1 : a.tmps[p]?.getD undef = .int .u32 x := by simpa [Act.eval] using hx
  have hy1 : a.tmps[q]?.getD undef = .int .u32 y := by simpa [Act.eval] using hy
  unfold execOp
  rw [ho]
  go_simp
  first | done | rfl
theorem b32r (a : Int) (w : World) : (Instr.build 32 #[(0, .int .u32 a), (1, .int .u32 4), (2, .int .u32 256), (6, .int .u32 4)]).run Try.prog w = .ok (.agg #[.int .u32 a, .int .u32 4, .int .u32 256, .int .u32 0, .int .u32 0, .int .u32 0, .int .u32 4, .int .u32 0]) w := run_build w 32 _ _ (by kernel_rfl)
theorem ring_w {i : Int} (h : 0 ≤ i ∧ i < 1000) : wrap64 (i + 1) = i + 1 ∧ wrap64 (8 * (i + 1)) = 8 * (i + 1) ∧ wrap64 (256 + 8 * (i + 1)) = 256 + 8 * (i + 1) ∧ (256 + 8 * (i + 1)) % 4294967296 = 256 + 8 * (i + 1) := ⟨w64 (by omega) (by omega), w64 (by omega) (by omega), w64 (by omega) (by omega), by omega⟩
theorem ring_q {i : Int} (h : 0 ≤ i ∧ i < 1000) : wrap64 i = i ∧ wrap64 (8 * i) = 8 * i ∧ wrap64 (256 + 8 * i) = 256 + 8 * i ∧ (256 + 8 * i) % 4294967296 = 256 + 8 * i := ⟨w64 (by omega) (by omega), w64 (by omega) (by omega), w64 (by omega) (by omega), by omega⟩
set_option maxHeartbeats 8000000 in
set_option maxRecDepth 100000 in
theorem FindRings.law (A0 : Option Addr) (c0 : Nat) (l0 : List Int) (a1 : Int) (a2 : Int) (w : World) (hr0 : Kd.C (Kd.int .u32) w A0 l0.length l0) (hc0 : l0.length ≤ c0) (hm0 : l0.length ≤ maxLen) (y0 : l0.length * 4 ≤ 140737488351232) (w0 : ∀ x ∈ l0, (Lit.int .u32 x).wf = true) (w1 : (Lit.int .u32 a1).wf = true) (w2 : (Lit.int .u16 a2).wf = true) :
    Calls Try.prog 6 #[.slice A0 l0.length c0, .int .u32 a1, .int .u16 a2] w fun e w' => e = .returned (.bool true) ∧ Below w.heap.size w w' := by
  have HB := Aside0.mk (Below.refl w.heap.size w)
  have HR := Aside0.mk hr0
  have HW := Aside0.mk (wf32s w0)
  have B1 := Aside0.mk (wf_u32 w1)
  have b2 := wf_u16 w2
  have bb := b32r a1
  clear hr0 hc0 hm0 y0 w0 w1 w2
  have hcs : (((l0.length : Int) == 0) = true ∧ decide ((l0.length : Int) = 0) = true) ∨ (((l0.length : Int) == 0) = false ∧ decide ((l0.length : Int) = 0) = false ∧ decide (100 < (l0.length : Int)) = true ∧ decide (100 < l0.length) = true) ∨ (((l0.length : Int) == 0) = false ∧ decide ((l0.length : Int) = 0) = false ∧ decide (100 < (l0.length : Int)) = false ∧ decide (100 < l0.length) = false ∧ 1 ≤ l0.length ∧ l0.length ≤ 100) := by
    by_cases c1 : l0.length = 0
    · exact Or.inl ⟨beq_iff_eq.2 (by omega), decide_eq_true (by omega)⟩
    · by_cases c2 : 100 < l0.length
      · exact Or.inr (Or.inl ⟨beq_false_of_ne (by omega), decide_eq_false (by omega), decide_eq_true (by omega), decide_eq_true c2⟩)
      · exact Or.inr (Or.inr ⟨beq_false_of_ne (by omega), decide_eq_false (by omega), decide_eq_false (by omega), decide_eq_false c2, by omega, by omega⟩)
  rcases hcs with ⟨d1, d2⟩ | ⟨d1, d2, d3, d4⟩ | ⟨d1, d2, d3, d4, hl1, hl2⟩
  · clear b2
    go_enter Try.func6, Try.ntmps6
    go_wp2_with (first | (go_at_call 14; (with_reducible refine (live.is _).mono ?_); rintro e w_ ⟨rfl, hb⟩; replace HB := zbs HB hb; clear hb) | fail)
    go_ret
    exact ⟨rfl, zb HB⟩
  · clear b2
    go_enter Try.func6, Try.ntmps6
    go_wp2_with (first | (go_at_call 14; (with_reducible refine (live.is _).mono ?_); rintro e w_ ⟨rfl, hb⟩; replace HB := zbs HB hb; clear hb) | fail)
    go_ret
    exact ⟨rfl, zb HB⟩
  obtain ⟨q, hqd⟩ : ∃ q, q = a2 % (l0.length : Int) := ⟨_, rfl⟩
  have hq : 0 ≤ q ∧ q < (l0.length : Int) := by rw [hqd]; exact ⟨Int.emod_nonneg _ (by omega), Int.emod_lt_of_pos _ (by omega)⟩
  have tq : Int.tmod a2 (l0.length : Int) = q := by rw [hqd]; exact Int.tmod_eq_emod_of_nonneg b2.1
  obtain ⟨q1, q2, q3, q4⟩ := ring_q (i := q) (by omega)
  have x2 : wrap64 a2 = a2 := w64 (by omega) (by omega)
  have x5 : wrap64 ((l0.length : Int) - 1) = (l0.length : Int) - 1 := w64 (by omega) (by omega)
  have nz : ¬ ((l0.length : Int) = 0) := by omega
  have nz2 : ¬ (l0.length = 0) := by omega
  have HQ := Aside0.mk (And.intro hq (And.intro hl1 hl2))
  clear hqd hq b2 hl1 hl2
  go_enter Try.func6, Try.ntmps6
  go_wp2
  go_loopg [7, 8, 9, 10] (l0.length + 1) (fun kq v7 v8 v9 v10 w' => ∃ (i : Int) (b : Bool), v9 = .int .i64 i ∧ v8 = .bool b ∧ Aside0 (0 ≤ i ∧ i ≤ (l0.length : Int) ∧ kq = ((l0.length : Int) - i).toNat + 1 ∧ b = inI l0 a1 i.toNat) ∧ Aside0 (Kd.R (Kd.int .u32) 23 w' w.heap.size (fun _ => True) v7 (ringL l0 q i.toNat)) ∧ Aside0 (Below w.heap.size w w'))
  case atStart => exact ⟨0, false, rfl, rfl, ⟨by omega, by omega, by omega, rfl⟩, ⟨Kd.R_nil _ _ _ _ _⟩, ⟨zb HB⟩⟩
  case round =>
    clear HB
    obtain ⟨i, b, rfl, rfl, HI, HO, HB⟩ := hrel
    by_cases c1 : i < (l0.length : Int)
    · have p1 : 0 ≤ i := HI.out.1
      obtain ⟨ad, ea, hx⟩ := Kd.at_int HR.out i p1 c1
      subst ea
      have HX := Aside0.mk hx
      replace hx := pw_cell_below HB.out hx
      obtain ⟨w1_, w2_, w3_, w4_⟩ := ring_w (i := i) (by have := HQ.out; omega)
      have b1 : decide (i < (l0.length : Int)) = true := decide_eq_true c1
      have HI2 := Aside0.mk (show 0 ≤ i + 1 ∧ i + 1 ≤ (l0.length : Int) ∧ ((l0.length : Int) - (i + 1)).toNat + 1 < gk by have := HI.out; omega)
      have hs := inI_succ (l := l0) (key := a1) (i := i.toNat) (by have := HI.out; omega)
      have hn := ringL_succ l0 q i.toNat
      rw [← HI.out.2.2.2] at hs
      rw [show i.toNat + 1 = (i + 1).toNat by omega, Int.toNat_of_nonneg p1] at hs hn
      have hln := ringL_len l0 q i.toNat
      have HLN := Aside0.mk (show ((ringL l0 q i.toNat).length + 2) * 4 ≤ 140737488355328 by have := HQ.out; omega)
      have hk : (decide (rd l0 i = a1) = true ∧ (rd l0 i == a1) = true) ∨ (decide (rd l0 i = a1) = false ∧ (rd l0 i == a1) = false) := by by_cases c : rd l0 i = a1 <;> simp [c]
      by_cases c9 : i = (l0.length : Int) - 1
      · have e1 : (i == (l0.length : Int) - 1) = true := beq_iff_eq.2 c9
        obtain ⟨nx, hnx⟩ : ∃ nx, nx = 256 + 8 * q := ⟨_, rfl⟩
        have hn2 : ringL l0 q (i + 1).toNat = ringL l0 q i.toNat ++ [rd l0 i, nx] := by rw [hn, hnx]; unfold nxtI; rw [if_pos c9]
        replace q4 : (256 + 8 * q) % 4294967296 = nx := q4.trans hnx.symm
        clear hnx w2_ w3_ w4_
        have HN := Aside0.mk hn2
        have HS := Aside0.mk hs
        replace c1 := eq_true c1
        replace p1 := eq_true p1
        clear hs hn hn2 hln c9
        rcases hk with ⟨k1, k2⟩ | ⟨k1, k2⟩ <;> cases b
        all_goals
          go_wp2_with (first | ((with_reducible refine gate_dst (N := 54) rfl ?_); (try simp only [q4]); refine Kd.R_lit (Kd.int .u32) _ 23 ?hg (N := 54) ?hd (xs := ([rd l0 i, nx] : List Int)) (inner := [.int .u32 (rd l0 i), .int .u32 (nx)]) (ok := fun _ => True) (okp := fun _ => True) ?hr ?hp (fun _ hk => hk) trivial (Below.refl _ _) (Nat.le_refl _) (by simp) ?_; (case hd => rfl); (case hg => rfl); (case hr => exact bs2 52 53 rfl rfl rfl); (case hp => exact Kd.reps_scalar (enc := Value.int .u32) ([rd l0 i, nx] : List Int)); intro v2 w2 ho8 hb hg_ hnew_; clear hg_ hnew_; have HO2 := Aside0.mk (Kd.R_reads ho8); replace HO := Aside0.mk (Kd.R_below HO.out hb); replace HB := Aside0.mk (below_step HB.out hb); clear hb ho8; obtain ⟨A2, c2_, he2, hc2, hr2⟩ := HO2.out; subst he2; clear HO2; have HR2 := Aside0.mk hr2; clear hr2 hc2) | ((with_reducible refine gate_builtin (b := .append) (xs := #[.tmp 48, .tmp 54]) rfl ?_); at_builtin; refine Kd.R_append_rows (Kd.int .u32) (w0 := w) w.heap.size rfl (.tmp 48) (.tmp 54) 22 23 (.int .u32 0) 4 rfl Try.underlying22 info23 rfl (by decide) (by omega) u7 (ringL l0 q i.toNat) ([rd l0 i, nx] : List Int) _ _ _ (fun _ => True) (fun _ => False) rfl rfl ?aO ?aR (fun _ _ h => h) (fun _ h => h.elim) ?aF ?aB ?aS ?aL ?_; (case aR => exact HR2.out); (case aB => exact HB.out); (case aF => exact (fun _ _ => trivial)); (case aO => exact HO.out); (case aS => exact (below_size HB.out)); (case aL => exact HLN.out); intro v3 w3 ho hb hg hat; rw [← HN.out] at ho; replace HO := Aside0.mk ho; replace HB := Aside0.mk hb; replace hx := pw_cell_below HB.out HX.out; clear ho hb hg hat HR2) | fail)
          go_roundg (((l0.length : Int) - (i + 1)).toNat + 1)
          case measure => exact HI2.out.2.2
          case rel => exact ⟨i + 1, _, by first | rfl | rw [w1_], rfl, ⟨HI2.out.1, HI2.out.2.1, rfl, by rw [HS.out, k2]; rfl⟩, HO, HB⟩
      · have e1 : (i == (l0.length : Int) - 1) = false := beq_false_of_ne c9
        obtain ⟨nx, hnx⟩ : ∃ nx, nx = 256 + 8 * (i + 1) := ⟨_, rfl⟩
        have hn2 : ringL l0 q (i + 1).toNat = ringL l0 q i.toNat ++ [rd l0 i, nx] := by rw [hn, hnx]; unfold nxtI; rw [if_neg c9]
        replace w4_ : (256 + 8 * (i + 1)) % 4294967296 = nx := w4_.trans hnx.symm
        clear hnx q1 q2 q3 q4 tq x2
        have HN := Aside0.mk hn2
        have HS := Aside0.mk hs
        replace c1 := eq_true c1
        replace p1 := eq_true p1
        clear hs hn hn2 hln c9
        rcases hk with ⟨k1, k2⟩ | ⟨k1, k2⟩ <;> cases b
        all_goals
          go_wp2_with (first | ((with_reducible refine gate_dst (N := 54) rfl ?_); (try simp only [w2_, w3_, w4_]); refine Kd.R_lit (Kd.int .u32) _ 23 ?hg (N := 54) ?hd (xs := ([rd l0 i, nx] : List Int)) (inner := [.int .u32 (rd l0 i), .int .u32 (nx)]) (ok := fun _ => True) (okp := fun _ => True) ?hr ?hp (fun _ hk => hk) trivial (Below.refl _ _) (Nat.le_refl _) (by simp) ?_; (case hd => rfl); (case hg => rfl); (case hr => exact bs2 52 53 rfl rfl rfl); (case hp => exact Kd.reps_scalar (enc := Value.int .u32) ([rd l0 i, nx] : List Int)); intro v2 w2 ho8 hb hg_ hnew_; clear hg_ hnew_; have HO2 := Aside0.mk (Kd.R_reads ho8); replace HO := Aside0.mk (Kd.R_below HO.out hb); replace HB := Aside0.mk (below_step HB.out hb); clear hb ho8; obtain ⟨A2, c2_, he2, hc2, hr2⟩ := HO2.out; subst he2; clear HO2; have HR2 := Aside0.mk hr2; clear hr2 hc2) | ((with_reducible refine gate_builtin (b := .append) (xs := #[.tmp 48, .tmp 54]) rfl ?_); at_builtin; refine Kd.R_append_rows (Kd.int .u32) (w0 := w) w.heap.size rfl (.tmp 48) (.tmp 54) 22 23 (.int .u32 0) 4 rfl Try.underlying22 info23 rfl (by decide) (by omega) u7 (ringL l0 q i.toNat) ([rd l0 i, nx] : List Int) _ _ _ (fun _ => True) (fun _ => False) rfl rfl ?aO ?aR (fun _ _ h => h) (fun _ h => h.elim) ?aF ?aB ?aS ?aL ?_; (case aR => exact HR2.out); (case aB => exact HB.out); (case aF => exact (fun _ _ => trivial)); (case aO => exact HO.out); (case aS => exact (below_size HB.out)); (case aL => exact HLN.out); intro v3 w3 ho hb hg hat; rw [← HN.out] at ho; replace HO := Aside0.mk ho; replace HB := Aside0.mk hb; replace hx := pw_cell_below HB.out HX.out; clear ho hb hg hat HR2) | fail)
          go_roundg (((l0.length : Int) - (i + 1)).toNat + 1)
          case measure => exact HI2.out.2.2
          case rel => exact ⟨i + 1, _, by first | rfl | rw [w1_], rfl, ⟨HI2.out.1, HI2.out.2.1, rfl, by rw [HS.out, k2]; rfl⟩, HO, HB⟩
    · have b1 : decide (i < (l0.length : Int)) = false := decide_eq_false c1
      have hi : i = (l0.length : Int) := by have := HI.out; omega
      subst hi
      have hbb : b = inI l0 a1 l0.length := HI.out.2.2.2
      replace HO := Aside0.mk (show Kd.R (Kd.int .u32) 23 _ w.heap.size (fun _ => True) _ (ringL l0 q l0.length) from HO.out)
      obtain ⟨Ar, cr, er⟩ := Kd.R_slice HO.out
      subst er
      have HW2 := Aside0.mk (And.intro (ringL_32 HW.out (q := q) (by have := HQ.out; omega) (by have := HQ.out; omega) l0.length (Nat.le_refl _)) (And.intro (show (ringL l0 q l0.length).length ≤ 100000 by rw [ringL_len]; have := HQ.out; omega) (show (ringL l0 q l0.length).length ≤ 960 by rw [ringL_len]; have := HQ.out; omega)))
      obtain ⟨k, r, er, hlk, hcase⟩ := ring_all HW.out HQ.out.2.2 HQ.out.2.1 B1.out HQ.out.1
      have HLK := Aside0.mk hlk
      have HOK := Aside0.mk (show (Sr.mk a1 4 256 0 0 0 4 0).Ok from mkOk B1.out (by omega) (by omega) (by omega) (by omega) (by omega) (by omega) (by omega))
      rw [← hbb] at hcase
      clear hlk hbb c1
      rcases hcase with ⟨rfl, rfl, hr1, hr2⟩ | ⟨rfl, rfl, rfl⟩
      · have e1 : decide (256 ≤ r) = true := decide_eq_true hr1
        clear hr1 hr2
        go_upto_region 16 with (first | (go_at_call 16; (with_reducible refine (words_is Ar cr (ringL l0 q l0.length) _ (Kd.R_reads' HO.out).2.2 (Kd.R_reads' HO.out).2.1 HW2.out.1 HW2.out.2.1).mono ?_); rintro e w_ ⟨A9, c9, rfl, hv, hb⟩; have HV := Aside0.mk (Kd.R_reads' hv); replace HB := zbs HB hb; clear hv hb) | (go_at_call 15; (with_reducible refine (laid_words (ringL l0 q l0.length) A9 c9 _ HV.out.2.2 HW2.out.2.2).mono ?_); rintro e w_ ⟨g, gb, c, h, rfl, hm, hb⟩; have HM := Aside0.mk hm; replace HB := zbs HB hb; clear hb hm))
        go_upto_region 18 with (first | (go_at_call 21; (with_reducible refine (find_Linked.is k g (Sr.mk a1 4 256 0 0 0 4 0) (wordM (ringL l0 q l0.length)) r _ _ HOK.out HM.out.pm HLK.out).mono ?_); rintro e w_ ⟨rfl, hb⟩; replace HB := zbs HB hb; clear hb HM))
        go_wp2_with (first | (go_at_call 18; (with_reducible refine (num_be _ _).mono ?_); rintro e w_ ⟨rfl, hb⟩; replace HB := zbs HB hb; clear hb) | (go_at_call 14; (with_reducible refine (live.is _).mono ?_); rintro e w_ ⟨rfl, hb⟩; replace HB := zbs HB hb; clear hb) | fail)
        go_ret
        exact ⟨rfl, zb HB⟩
      · go_upto_region 16 with (first | (go_at_call 16; (with_reducible refine (words_is Ar cr (ringL l0 q l0.length) _ (Kd.R_reads' HO.out).2.2 (Kd.R_reads' HO.out).2.1 HW2.out.1 HW2.out.2.1).mono ?_); rintro e w_ ⟨A9, c9, rfl, hv, hb⟩; have HV := Aside0.mk (Kd.R_reads' hv); replace HB := zbs HB hb; clear hv hb) | (go_at_call 15; (with_reducible refine (laid_words (ringL l0 q l0.length) A9 c9 _ HV.out.2.2 HW2.out.2.2).mono ?_); rintro e w_ ⟨g, gb, c, h, rfl, hm, hb⟩; have HM := Aside0.mk hm; replace HB := zbs HB hb; clear hb hm))
        go_upto_region 19 with (first | (go_at_call 21; (with_reducible refine (find_Linked.is k g (Sr.mk a1 4 256 0 0 0 4 0) (wordM (ringL l0 q l0.length)) 0 _ _ HOK.out HM.out.pm HLK.out).mono ?_); rintro e w_ ⟨rfl, hb⟩; replace HB := zbs HB hb; clear hb HM))
        go_wp2_with (first | (go_at_call 18; (with_reducible refine (num_be _ _).mono ?_); rintro e w_ ⟨rfl, hb⟩; replace HB := zbs HB hb; clear hb) | (go_at_call 14; (with_reducible refine (live.is _).mono ?_); rintro e w_ ⟨rfl, hb⟩; replace HB := zbs HB hb; clear hb) | fail)
        go_ret
        exact ⟨rfl, zb HB⟩
end Go.Proofs.Ytohmipmioaceeaa.PQ
