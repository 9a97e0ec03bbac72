/- A write that fails; the law AccelRegions (seat r18). -/
import Derived.Test.YtmpiifjckhcbmaaLO
namespace Go.Proofs.Ytmpiifjckhcbmaa.PQ
set_option linter.all false
open Go.RowKit Go.Proofs.YtmpiifjckhcbmaaW.PrintWords Go.Proofs.YtmpiifjckhcbmaaW.PrintLast Go.Proofs.YtmpiifjckhcbmaaW.PrintMore Go.Proofs.Ytmpiifjckhcbmaa.Z Go.Proofs.Ytmpiifjckhcbmaa.Pure
set_option linter.unusedVariables false
set_option linter.unusedSimpArgs false

theorem beN_one {l : List Int} {i : Nat} (h : i < l.length) : beN l i 1 = (rd l (i : Int)).toNat := by
  unfold beN
  have e : (l.take (i + 1)).drop i = [rd l (i : Int)] := by
    rw [List.take_succ_eq_append_getElem h, List.drop_append_of_le_length (by rw [List.length_take]; omega), List.drop_eq_nil_of_le (by rw [List.length_take]; omega), rd_nat h]
    rfl
  rw [e]
  show bev (0 * 256 + (rd l (i : Int)).toNat) [] = _
  simp [bev]
theorem memory_Write.not (base g gb c : Nat) (bs : List Int) (a : Int) (x : Int) (w : World) (hm : PW w base g gb c bs) (h0 : 0 ≤ a ∧ a < 4294967296) (ha : ¬ (256 ≤ a ∧ a < (bs.length : Int))) :
    Calls Try.prog 11 #[.pointer (some ⟨g, 0, none⟩), .int .u32 a, .int .i64 1, .int .u32 x] w fun e w' => (∃ r : Int, e = .returned (.int .i64 r)) ∧ Below w.heap.size w w' := by
  obtain ⟨cs, k1, k2, k3⟩ := hm.blk
  exact (memory_Write.no g bs a x w hm.pm ((blk_cell k1 3).trans k3) h0 ha).mono fun _ _ h => ⟨⟨_, h.1⟩, h.2.below⟩
theorem wq (v : Int) (h : 0 ≤ v ∧ v < 256) (a : Int) (ha : 0 ≤ a) :
    ∃ k : Int, kindS v a = k ∧ (((v / 16 == 7) = true ∧ decide (256 ≤ a) = true ∧ k = 1) ∨ ((v / 16 == 7) = true ∧ decide (256 ≤ a) = false ∧ k = 0) ∨ ((v / 16 == 7) = false ∧ (v / 16 == 12) = true ∧ k = 2) ∨ ((v / 16 == 7) = false ∧ (v / 16 == 12) = false ∧ (v / 16 == 13) = true ∧ k = 2) ∨ ((v / 16 == 7) = false ∧ (v / 16 == 12) = false ∧ (v / 16 == 13) = false ∧ (v / 16 == 14) = true ∧ k = 3) ∨ ((v / 16 == 7) = false ∧ (v / 16 == 12) = false ∧ (v / 16 == 13) = false ∧ (v / 16 == 14) = false ∧ (v / 16 == 15) = true ∧ k = 3) ∨ ((v / 16 == 7) = false ∧ (v / 16 == 12) = false ∧ (v / 16 == 13) = false ∧ (v / 16 == 14) = false ∧ (v / 16 == 15) = false ∧ k = 0)) := by
  refine ⟨_, rfl, ?_⟩
  simp only [beq_iff_eq, beq_eq_false_iff_ne, decide_eq_true_eq, decide_eq_false_iff_not, ne_eq]
  unfold kindS
  by_cases c1 : 224 ≤ v
  · rw [if_pos c1]; omega
  · rw [if_neg c1]
    by_cases c2 : 192 ≤ v
    · rw [if_pos c2]; omega
    · rw [if_neg c2]
      by_cases c3 : 112 ≤ v ∧ v ≤ 127 ∧ 256 ≤ a
      · rw [if_pos c3]; omega
      · rw [if_neg c3]; omega
theorem wf_u16i {a : Int} (h : (Lit.int .u16 a).wf = true) : 0 ≤ a ∧ a < 65536 := by
  simp [Lit.wf, IntKind.min, IntKind.max, IntKind.signed, IntKind.bits] at h; omega
theorem badS00 : badS 0 0 = false := rfl
theorem do1 (bs ps : List Int) (a : Int) {k : Int} (h : regionS bs 0 0 a = (k, 0)) : doS bs ps 1 a 0 = (k, 0, 0) := by
  unfold doS doE doF
  rw [if_neg (by omega), if_pos rfl, h, badS00, if_neg (by decide)]
theorem laid_nil (w : World) : Calls Try.prog 9 #[.slice none 0 0] w fun e w' => ∃ g gb c h hb d : Nat, e = .returned (.tuple #[.pointer (some ⟨g, 0, none⟩), .pointer (some ⟨h, 0, none⟩)]) ∧ PH w' w.heap.size g gb c (laidB [] 0) ∧ RW w' w.heap.size h hb d (laidB [] 0) ∧ gb ≠ hb ∧ w.heap.size ≤ g ∧ w.heap.size ≤ h ∧ Below w.heap.size w w' :=
  laid.is none 0 [] w (Kd.C_nil _ _) (by intro x hx; cases hx) (by decide)
theorem params_nil (w : World) : Calls Try.prog 10 #[.slice none 0 0] w fun e w' => ∃ ga cp : Nat, e = .returned (.slice (some ⟨ga, 0, none⟩) 9 cp) ∧ Kd.R (Kd.int .u32) 29 w' w.heap.size (fun _ => True) (.slice (some ⟨ga, 0, none⟩) 9 cp) (parL []) ∧ Below w.heap.size w w' :=
  params_law [] none 0 w (Kd.C_nil _ _) (by decide)
theorem Do_one (v : World) (gm gb ga c cp ca : Nat) (bs ps : List Int) (a : Int) (A : Option Addr) (n x s e : Int) (w : World) (hb : Below v.heap.size v w) (hm : PH w v.heap.size gm gb c bs) (hp : Kd.R (Kd.int .u32) 29 w v.heap.size (fun _ => True) (.slice (some ⟨ga, 0, none⟩) 9 cp) ps) (hpr : ∀ x ∈ ps, 0 ≤ x ∧ x < 4294967296) (hn : 1 ≤ n ∧ n ≤ 13) (hx : Kd.C (Kd.int .u32) w A 1 [a]) (h1 : 0 ≤ a ∧ a < 4294967296) (hr : doS bs ps n a 0 = (x, s, e)) :
    Calls Try.prog 14 #[.pointer (some ⟨gm, 0, none⟩), .slice (some ⟨ga, 0, none⟩) 9 cp, .int .u32 n, .slice A 1 ca] w fun r w' => r = .returned (.tuple #[.int .u32 x, .int .i64 s, .int .i64 e]) ∧ Below w.heap.size w w' :=
  Do_law v gm gb ga c cp ca bs ps [a] A n x s e w hb hm hp hpr hn hx (by intro y hy; rw [List.mem_singleton] at hy; rw [hy]; exact h1) hr
set_option maxHeartbeats 8000000 in
set_option maxRecDepth 100000 in
theorem AccelRegions.law (x0 a0 n : Int) (w : World) (w0 : (Lit.int .u8 x0).wf = true) (w1 : (Lit.int .u16 a0).wf = true) (w2 : (Lit.int .u8 n).wf = true) :
    Calls Try.prog 3 #[.int .u8 x0, .int .u16 a0, .int .u8 n] w fun e w' => e = .returned (.bool true) ∧ Below w.heap.size w w' := by
  have hx0 := wf_u8 w0
  have ha0 := wf_u16i w1
  have hn := wf_u8 w2
  have HB := Aside0.mk (Below.refl w.heap.size w)
  obtain ⟨a, ha⟩ : ∃ a, a0 % 3000 = a := ⟨_, rfl⟩
  have har : 0 ≤ a ∧ a < 3000 := by omega
  have e1 : a0 % 4294967296 = a0 := by omega
  have e2 : x0 % 4294967296 = x0 := by omega
  have e3 : n % 4294967296 = n := by omega
  -- the bytes behind the write
  obtain ⟨bs, hbs⟩ : ∃ bs : List Int, bs = if 256 ≤ a ∧ a < 2048 then (laidB [] 0).set a.toNat x0 else laidB [] 0 := ⟨_, rfl⟩
  have hlen0 : (laidB [] 0).length = 2048 := laidB_len (by decide) (by omega)
  have hlen : bs.length = 2048 := by rw [hbs]; split; (· rw [List.length_set]; exact hlen0); (· exact hlen0)
  have hby : Byt bs := by
    rw [hbs]
    split
    · intro y hy
      rcases List.mem_or_eq_of_mem_set hy with h | h
      · exact laidB_byt (by intro x hx; cases hx) 0 y h
      · rw [h]; exact hx0
    · exact laidB_byt (by intro x hx; cases hx) 0
  -- what the read says, what the region is
  have key : ∃ er v k : Int, rdS bs a 1 = (v, er) ∧ regionS bs 0 0 a = (k, 0) ∧ (0 ≤ v ∧ v < 4294967296) ∧ ((er = 0 ∧ a < 36 ∧ k = 0) ∨ (er ≠ 0 ∧ k = 0) ∨ (er = 0 ∧ 36 ≤ a ∧ 0 ≤ v ∧ v < 256 ∧ kindS v a = k)) := by
    by_cases c1 : a < 2048
    · have hb := beN_one (l := bs) (i := a.toNat) (by omega)
      rw [Int.toNat_of_nonneg har.1] at hb
      have hv := hby.at (i := a.toNat) (by omega)
      rw [Int.toNat_of_nonneg har.1] at hv
      have hrd : rdS bs a 1 = (rd bs a, 0) := by
        unfold rdS
        rw [if_pos (Or.inl rfl), if_pos (by omega), show ((1 : Int).toNat) = 1 from rfl, hb, Int.toNat_of_nonneg hv.1]
      by_cases c2 : a < 36
      · exact ⟨0, rd bs a, 0, hrd, by unfold regionS; rw [if_pos (Or.inl c2)], ⟨hv.1, by omega⟩, Or.inl ⟨rfl, c2, rfl⟩⟩
      · refine ⟨0, rd bs a, kindS (rd bs a) a, hrd, ?_, ⟨hv.1, by omega⟩, Or.inr (Or.inr ⟨rfl, by omega, hv.1, hv.2, rfl⟩)⟩
        unfold regionS readS
        rw [if_neg (by omega), if_neg (by omega), hrd]
    · have hrd : rdS bs a 1 = (0, 90) := by
        unfold rdS
        rw [if_pos (Or.inl rfl), if_neg (by omega)]
      exact ⟨90, 0, 0, hrd, by unfold regionS; rw [if_pos (Or.inr (by omega))], by omega, Or.inr (Or.inl ⟨by omega, rfl⟩)⟩
  obtain ⟨er, v, k, hrd, hrg, hvr, hway⟩ := key
  have key2 : ∃ z : Int, regionS bs 0 0 (a + n * 16777216) = (z, 0) ∧ (((n == 0) = true ∧ n = 0) ∨ ((n == 0) = false ∧ z = 0)) := by
    by_cases c : n = 0
    · rw [c, show a + 0 * 16777216 = a by omega]
      exact ⟨k, hrg, Or.inl ⟨rfl, rfl⟩⟩
    · exact ⟨0, by unfold regionS; rw [if_pos (Or.inr (by omega))], Or.inr ⟨beq_false_of_ne c, rfl⟩⟩
  obtain ⟨z, hrg2, hnz⟩ := key2
  have HD1 := Aside0.mk (do1 bs (parL []) a hrg)
  have HD2 := Aside0.mk (do1 bs (parL []) (a + n * 16777216) hrg2)
  have HRD := Aside0.mk hrd
  have HAR := Aside0.mk (show 0 ≤ a ∧ a < 4294967296 by omega)
  have HAR2 := Aside0.mk (show 0 ≤ a + n * 16777216 ∧ a + n * 16777216 < 4294967296 by omega)
  have HA3 := Aside0.mk har
  have HX := Aside0.mk hx0
  have HBS := Aside0.mk hbs
  have HL0 := Aside0.mk hlen0
  have HVR := Aside0.mk hvr
  have hPR := parL_rng (l := []) (by intro x hx; cases hx)
  have HPR := Aside0.mk hPR
  have hsh : IntKind.u32.wrap (n * 2 ^ 24) = n * 16777216 := by rw [IntKind.wrap_u32]; omega
  have had : (a + n * 16777216) % 4294967296 = a + n * 16777216 := by omega
  have HWAY := Aside0.mk hway
  have HNZ := Aside0.mk hnz
  have e4 : v.tdiv 16 = v / 16 := Int.tdiv_eq_ediv_of_nonneg hvr.1
  have e5 : a0.tmod 3000 = a := by rw [Int.tmod_eq_emod_of_nonneg (by omega)]; exact ha
  have e6 : v / 16 % 4294967296 = v / 16 := by omega
  clear w0 w1 w2 hx0 ha0 hn har hbs hlen0 hlen hby hrd hrg hvr hway hrg2 hnz hPR
  go_enter Try.func3, Try.ntmps3
  go_upto_region 4 with (first | (go_at_call 9; (with_reducible refine (laid_nil _).mono ?_); rintro e_ w_ ⟨g, gb, c, h, hb', d, rfl, hm, _, _, _, _, hb⟩; have HM0 := Aside0.mk (show PH w_ w.heap.size g gb c (laidB [] 0) from hm.lower (below_size HB.out)); replace HB := zbs HB hb; clear hb hm) | fail)
  go_upto_region 6 with (first | (go_at_call 10; (with_reducible refine (params_nil _).mono ?_); rintro e_ w_ ⟨ga, cp, rfl, hp, hb⟩; have HP := Aside0.mk (Kd.R_lower hp (below_size HB.out)); replace HM0 := Aside0.mk (HM0.out.below hb); replace HB := zbs HB hb; clear hb hp) | fail)
  go_cut [] (fun wc => Aside0 (Below w.heap.size w wc) ∧ Aside0 (PH wc w.heap.size g gb c bs) ∧ Aside0 (Kd.R (Kd.int .u32) 29 wc w.heap.size (fun _ => True) (.slice (some ⟨ga, 0, none⟩) 9 cp) (parL [])))
  case first =>
    by_cases cw : 256 ≤ a ∧ a < 2048
    · have HCW := Aside0.mk (show 256 ≤ a ∧ a < ((laidB [] 0).length : Int) by rw [HL0.out]; exact cw)
      have HE := Aside0.mk (show (laidB [] 0).set a.toNat x0 = bs by rw [HBS.out, if_pos cw])
      clear cw
      go_wp2_with (first | (go_at_call 11; (with_reducible refine (memory_Write.to w.heap.size g gb c (laidB [] 0) a x0 _ HM0.out.pw HCW.out HX.out).mono ?_); rintro e_ w_ ⟨rfl, hm, hg⟩; rw [HE.out] at hm; have HM := Aside0.mk (HM0.out.write hg hm); replace HP := Aside0.mk (row_grown HP.out hg (fun e_ => (HM0.out.neRow HP.out).2 e_.symm)); replace HB := Aside0.mk (HB.out.grown hg (below_size HB.out) (fun k_ hk_ => by injection hk_ with hk_; subst hk_; exact HM0.out.pw.base_le)); clear hm hg) | fail)
      go_meet
      case rel => exact ⟨HB, HM, HP⟩
    · have HE := Aside0.mk (show laidB [] 0 = bs by rw [HBS.out, if_neg cw])
      have HCW := Aside0.mk (show ¬ (256 ≤ a ∧ a < ((laidB [] 0).length : Int)) by rw [HL0.out]; exact cw)
      clear cw
      go_wp2_with (first | (go_at_call 11; (with_reducible refine (memory_Write.not w.heap.size g gb c (laidB [] 0) a x0 _ HM0.out.pw HAR.out HCW.out).mono ?_); rintro e_ w_ ⟨⟨r, rfl⟩, hb⟩; have HM := Aside0.mk (HE.out ▸ HM0.out.below hb); replace HP := Aside0.mk (Kd.R_below HP.out hb); replace HB := zbs HB hb; clear hb) | fail)
      go_meet
      case rel => exact ⟨HB, HM, HP⟩
  case rest =>
    clear HM0 HB HP HX HBS HL0
    obtain ⟨HB, HM, HP⟩ := hcut
    go_upto_region 9 with (first | (go_at_call 12; (with_reducible refine (memory_Read.be g bs a 1 v er _ HM.out.pw.pm HAR.out HRD.out).mono ?_); rintro e_ w_ ⟨rfl, hb⟩; replace HM := Aside0.mk (HM.out.below hb); replace HP := Aside0.mk (Kd.R_below HP.out hb); replace HB := zbs HB hb; clear hb) | fail)
    have hway : ((er == 0) = true ∧ er = 0 ∧ decide (36 ≤ a) = false ∧ k = 0) ∨ ((er == 0) = false ∧ k = 0) ∨ ((er == 0) = true ∧ er = 0 ∧ decide (36 ≤ a) = true ∧ 0 ≤ v ∧ v < 256 ∧ kindS v a = k) := by
      rcases HWAY.out with ⟨h1, h2, h3⟩ | ⟨h1, h2⟩ | ⟨h1, h2, h3, h4, h5⟩
      · exact Or.inl ⟨beq_iff_eq.2 h1, h1, decide_eq_false (by omega), h3⟩
      · exact Or.inr (Or.inl ⟨beq_false_of_ne h1, h2⟩)
      · exact Or.inr (Or.inr ⟨beq_iff_eq.2 h1, h1, decide_eq_true h2, h3, h4, h5⟩)
    clear HWAY
    rcases hway with ⟨d1, rfl, d2, rfl⟩ | ⟨d1, rfl⟩ | ⟨d1, rfl, d2, d3, d4, d5⟩
    rotate_right
    obtain ⟨k', hk, hq⟩ := wq v ⟨d3, d4⟩ a HA3.out.1
    rw [d5] at hk
    subst hk
    clear d3 d4 d5
    rcases hq with ⟨q1, q2, rfl⟩ | ⟨q1, q2, rfl⟩ | ⟨q1, q2, rfl⟩ | ⟨q1, q2, q3, rfl⟩ | ⟨q1, q2, q3, q4, rfl⟩ | ⟨q1, q2, q3, q4, q5, rfl⟩ | ⟨q1, q2, q3, q4, q5, rfl⟩
    all_goals
      rcases HNZ.out with ⟨n1, _⟩ | ⟨n1, rfl⟩
    all_goals
      clear HNZ
      go_wp2_with (first | ((with_reducible refine gate_dst (N := 64) rfl ?_); refine Kd.R_lit (Kd.int .u32) _ 29 ?hg (N := 64) ?hd (xs := ([a] : List Int)) (inner := [.int .u32 (a)]) (ok := fun _ => True) (okp := fun _ => True) ?hr ?hp (fun _ hk => hk) trivial (Below.refl _ _) (Nat.le_refl _) (by simp) ?_; (case hd => rfl); (case hg => rfl); (case hr => first | (go_simp; done) | (go_simp; rfl)); (case hp => exact Kd.reps_scalar (enc := Value.int .u32) ([a] : List Int)); intro v3 w3 ho hb hg_ hnew_; clear hg_ hnew_; obtain ⟨A3, c3, he3, hc3, hr3⟩ := Kd.R_reads ho; replace he3 : v3 = .slice A3 1 c3 := he3; subst he3; have HX := Aside0.mk (show Kd.C (Kd.int .u32) w3 A3 1 [a] from hr3); clear ho hr3 hc3; replace HM := Aside0.mk (HM.out.below hb); replace HP := Aside0.mk (Kd.R_below HP.out hb); replace HB := zbs HB hb; clear hb) | ((with_reducible refine gate_dst (N := 77) rfl ?_); refine Kd.R_lit (Kd.int .u32) _ 29 ?hg (N := 77) ?hd (xs := ([a + n * 16777216] : List Int)) (inner := [.int .u32 (a + n * 16777216)]) (ok := fun _ => True) (okp := fun _ => True) ?hr ?hp (fun _ hk => hk) trivial (Below.refl _ _) (Nat.le_refl _) (by simp) ?_; (case hd => rfl); (case hg => rfl); (case hr => first | (go_simp; done) | (go_simp; rfl)); (case hp => exact Kd.reps_scalar (enc := Value.int .u32) ([a + n * 16777216] : List Int)); intro v3 w3 ho hb hg_ hnew_; clear hg_ hnew_; obtain ⟨A3, c3, he3, hc3, hr3⟩ := Kd.R_reads ho; replace he3 : v3 = .slice A3 1 c3 := he3; subst he3; have HX := Aside0.mk (show Kd.C (Kd.int .u32) w3 A3 1 [a + n * 16777216] from hr3); clear ho hr3 hc3; replace HM := Aside0.mk (HM.out.below hb); replace HP := Aside0.mk (Kd.R_below HP.out hb); replace HB := zbs HB hb; clear hb) | (go_at_call 14; (with_reducible refine (Do_one w g gb ga c cp _ bs (parL []) (a) A3 1 _ 0 0 _ HB.out HM.out HP.out HPR.out (by omega) HX.out HAR.out HD1.out).mono ?_); rintro e_ w_ ⟨rfl, hb⟩; clear HX; replace HM := Aside0.mk (HM.out.below hb); replace HP := Aside0.mk (Kd.R_below HP.out hb); replace HB := zbs HB hb; clear hb) | (go_at_call 14; (with_reducible refine (Do_one w g gb ga c cp _ bs (parL []) (a + n * 16777216) A3 1 _ 0 0 _ HB.out HM.out HP.out HPR.out (by omega) HX.out HAR2.out HD2.out).mono ?_); rintro e_ w_ ⟨rfl, hb⟩; clear HX; replace HM := Aside0.mk (HM.out.below hb); replace HP := Aside0.mk (Kd.R_below HP.out hb); replace HB := zbs HB hb; clear hb) | (go_at_call 13; (with_reducible refine (num_be _ _).mono ?_); rintro e_ w_ ⟨rfl, hb⟩; replace HM := Aside0.mk (HM.out.below hb); replace HP := Aside0.mk (Kd.R_below HP.out hb); replace HB := zbs HB hb; clear hb) | (go_at_call 15; (with_reducible refine (live.is _).mono ?_); rintro e_ w_ ⟨rfl, hb⟩; replace HB := zbs HB hb; clear hb) | fail)
      go_ret
      exact ⟨rfl, zb HB⟩

end Go.Proofs.Ytmpiifjckhcbmaa.PQ
