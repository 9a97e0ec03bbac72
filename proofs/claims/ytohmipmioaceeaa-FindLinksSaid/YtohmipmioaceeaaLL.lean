/- The law FindLinks walked. -/
import Derived.Test.YtohmipmioaceeaaLLp
import Derived.Test.YtohmipmioaceeaaPQx4
namespace Go.Proofs.Ytohmipmioaceeaa.PQ
set_option linter.all false
open Go.RowKit Go.Proofs.YtohmipmioaceeaaW.PrintWords Go.Proofs.YtohmipmioaceeaaW.PrintLast Go.Proofs.YtohmipmioaceeaaW.PrintMore Go.Proofs.Ytohmipmioaceeaa.Z Go.Proofs.Ytohmipmioaceeaa.Pure
set_option linter.unusedVariables false
set_option linter.unusedSimpArgs false
theorem info4q : (Try.prog.info? 4).map (fun i => (i.zero, i.size, i.bytes)) = some (some (.bool false), 1, 1) := by kernel_rfl
theorem link_w {i : Int} (h : 0 ≤ i ∧ i < 1000) : wrap64 (i + 1) = i + 1 ∧ wrap64 (8 * i) = 8 * i := ⟨w64 (by omega) (by omega), w64 (by omega) (by omega)⟩
theorem laid_wordsN (l : List Int) (N : Nat) (A : Option Addr) (c0 : Nat) (w : World) (hN : (wordsB l).length = N) (hr : Kd.C (Kd.int .u8) w A (wordsB l).length (wordsB l)) (hl : l.length ≤ 960) : Calls Try.prog 15 #[.slice A N c0] w fun e w' => ∃ g gb c h : Nat, e = .returned (.tuple #[.pointer (some ⟨g, 0, none⟩), .pointer (some ⟨h, 0, none⟩)]) ∧ PW w' w.heap.size g gb c (wordM l) ∧ Below w.heap.size w w' := by
  subst hN
  exact laid_words l A c0 w hr hl
theorem b32l (a st : Int) (w : World) : (Instr.build 32 #[(0, .int .u32 a), (1, .int .u32 4), (2, .int .u32 st), (6, .int .u32 4)]).run Try.prog w = .ok (.agg #[.int .u32 a, .int .u32 4, .int .u32 st, .int .u32 0, .int .u32 0, .int .u32 0, .int .u32 4, .int .u32 0]) w := run_build w 32 _ _ (by kernel_rfl)
theorem link_last {x : Int} (h : 0 ≤ x ∧ x < 1000) : IntKind.i64.wrap (8 * x) = 8 * x ∧ IntKind.i64.wrap (8 * x + 4) = 8 * x + 4 ∧ wrap64 (8 * x) = 8 * x ∧ wrap64 (8 * x + 4) = 8 * x + 4 := ⟨by rw [IntKind.wrap_i64]; omega, by rw [IntKind.wrap_i64]; omega, w64 (by omega) (by omega), w64 (by omega) (by omega)⟩
theorem put4 {z : Int} (hz : 0 ≤ z ∧ z < 4294967296) : grottoref01_Put.f 30 z 4 = some (byts z.toNat 4) := by
  have h := rput_eq (x := z.toNat) (by omega) (k := 30) (by omega)
  rw [show ((z.toNat : Nat) : Int) = z by omega] at h
  exact h
section
variable {P : Program} {ops : Array Oper} {rest : List Oper} {o : Oper} {a : Act} {Q : Exit → Act → World → Prop}
theorem mk_bool {w0 W : World} (t e : TypeId) (hgd : o.guard = none) {N : Tmp} (hd : o.dst = some N) (x y : Operand) (ho : o.op = .makeSlice t x y) (l : Int) (hx : a.eval x = .int .i64 l) (hy : a.eval y = .int .i64 l) (h0 : 0 ≤ l) (hl : l ≤ 1000000)
    (ht : P.underlying t = some (.slice e)) (hinfo : (P.info? e).map (fun i => (i.zero, i.size, i.bytes)) = some (some (.bool false), 1, 1)) (HB : Below w0.heap.size w0 W)
    (h : ∀ g w1, w1.heap[g]? = some (.cells ((List.replicate l.toNat false).map Value.bool).toArray e (0, 0)) → W.heap.size ≤ g → Below w0.heap.size w0 w1 → Below W.heap.size W w1 → wpList P ops Q rest (a.put (some N) (.slice (some ⟨g, 0, none⟩) l.toNat l.toNat)) w1) : wpList P ops Q (o :: rest) a W := by
  obtain ⟨i0, hi, hzz⟩ := Option.map_eq_some_iff.1 hinfo
  simp only [Prod.mk.injEq] at hzz
  obtain ⟨hz0, hz1, hz2⟩ := hzz
  have hr := run_make (P := P) W t e i0 (.bool false) ht hi hz0 .i64 .i64 l l h0 (by omega) (by rw [hz2]; omega) (by omega)
  rw [hz1, Nat.mul_one] at hr
  rw [← hd] at h
  refine Kd.event_run hgd (v := .slice (some ⟨W.heap.size, 0, none⟩) l.toNat l.toNat) (w1 := W.alloc (.cells (madeCells #[.bool false] l.toNat) e)) (by simp [execOp, ho, hx, hy, hr]; rfl) (h _ _ ?_ (Nat.le_refl _) (below_alloc HB _) (below_alloc (Below.refl _ _) _))
  have e1 : madeCells #[.bool false] l.toNat = ((List.replicate l.toNat false).map Value.bool).toArray := by
    apply Array.toList_inj.1
    apply List.ext_getElem
    · simp [madeCells]
    · intro i h1 h2
      simp [madeCells, Nat.mod_one]
  rw [← e1]
  exact blk_new _ _
theorem store_bool {W : World} (hN : o.dst = none) (hgd : o.guard = none) (t t0 : TypeId) (p x : Operand) (ho : o.op = .store t p x) {g j : Nat} {z : Bool} {met : List Bool}
    (haddr : a.eval p = .pointer (some ⟨g, j, none⟩)) (hx : a.eval x = .bool z) (hh : W.heap[g]? = some (.cells (met.map Value.bool).toArray t0 (0, 0))) (hj : j < met.length) (ht : (P.info? t).map (·.size) = some 1)
    (h : ∀ w1, w1.heap[g]? = some (.cells ((met.set j z).map Value.bool).toArray t0 (0, 0)) → W.grownBy w1 (some g) → wpList P ops Q rest a w1) : wpList P ops Q (o :: rest) a W := by
  have hrun := run_store_run (P := P) (o := j) t (.bool z) [.bool z] hh rfl ht (by simp; omega) (by intro q hq; rw [List.mem_singleton] at hq; subst hq; rfl)
  obtain ⟨s1, s2, s3, s4⟩ := setCells_same g [.bool z] j W
  have h3 : (W.setCells g j [.bool z]).heap[g]? = some (.cells (((met.map Value.bool).toArray).setIfInBounds j (.bool z)) t0 (0, 0)) := blk_set hh j _
  rw [List.setIfInBounds_toArray, ← List.map_set] at h3
  refine wpList_plain hgd fun K hK => ?_
  unfold Oper.wp execOp
  simp only [ho, haddr, hx, Sem.run_bind, Sem.run_pure, Result.andThen_ok, hrun]
  show K (a.put o.dst undef) _
  rw [hN]
  exact hK a _ (h _ h3 ⟨s1, s2, s3, by rw [s4]; exact Nat.le_refl _, fun k _ hk => setCells_far _ _ k (fun he => hk (by rw [he]))⟩)
end
set_option maxHeartbeats 8000000 in
set_option maxRecDepth 100000 in
theorem FindLinks.law (A0 : Option Addr) (c0 : Nat) (l0 : List Int) (A1 : Option Addr) (c1 : Nat) (l1 : List Int) (a2 : Int) (w : World) (hr0 : Kd.C (Kd.int .u32) w A0 l0.length l0) (hc0 : l0.length ≤ c0) (hm0 : l0.length ≤ maxLen) (y0 : l0.length * 4 ≤ 140737488351232) (w0 : ∀ x ∈ l0, (Lit.int .u32 x).wf = true) (hr1 : Kd.C (Kd.int .u16) w A1 l1.length l1) (hc1 : l1.length ≤ c1) (hm1 : l1.length ≤ maxLen) (y1 : l1.length * 2 ≤ 140737488351232) (w1 : ∀ x ∈ l1, (Lit.int .u16 x).wf = true) (w2 : (Lit.int .u32 a2).wf = true) :
    Calls Try.prog 5 #[.slice A0 l0.length c0, .slice A1 l1.length c1, .int .u32 a2] w fun e w' => e = .returned (.bool true) ∧ Below w.heap.size w w' := by
  have HB := Aside0.mk (Below.refl w.heap.size w)
  have HR := Aside0.mk hr0
  have HR1 := Aside0.mk hr1
  have HW := Aside0.mk (wf32s w0)
  have HW1 := Aside0.mk (wf16s w1)
  have B2 := Aside0.mk (wf_u32 w2)
  clear hr0 hc0 hm0 y0 w0 hr1 hc1 hm1 y1 w1 w2
  have hcs : (decide (400 < (l0.length : Int)) = true ∧ decide (400 < l0.length) = true) ∨ (decide (400 < (l0.length : Int)) = false ∧ decide (400 < l0.length) = false ∧ decide (400 < (l1.length : Int)) = true ∧ decide (400 < l1.length) = true) ∨ (decide (400 < (l0.length : Int)) = false ∧ decide (400 < l0.length) = false ∧ decide (400 < (l1.length : Int)) = false ∧ decide (400 < l1.length) = false ∧ l0.length ≤ 400 ∧ l1.length ≤ 400) := by
    by_cases c1 : 400 < l0.length
    · exact Or.inl ⟨decide_eq_true (by omega), decide_eq_true c1⟩
    · by_cases c2 : 400 < l1.length
      · exact Or.inr (Or.inl ⟨decide_eq_false (by omega), decide_eq_false c1, decide_eq_true (by omega), decide_eq_true c2⟩)
      · exact Or.inr (Or.inr ⟨decide_eq_false (by omega), decide_eq_false c1, decide_eq_false (by omega), decide_eq_false c2, by omega, by omega⟩)
  rcases hcs with ⟨d1, d2⟩ | ⟨d1, d2, d3, d4⟩ | ⟨d1, d2, d3, d4, hl1, hl2⟩
  iterate 2
    · go_enter Try.func5, Try.ntmps5
      go_wp2_with (first | (go_at_call 14; (with_reducible refine (live.is _).mono ?_); rintro e w_ ⟨rfl, hb⟩; replace HB := zbs HB hb; clear hb) | fail)
      go_ret
      exact ⟨rfl, zb HB⟩
  have HL := Aside0.mk (And.intro hl1 hl2)
  clear hl1 hl2
  by_cases n0 : l0.length = 0
  · have hl0 := List.eq_nil_of_length_eq_zero n0
    subst hl0
    clear n0 HR HW
    have HS := Aside0.mk (show LinkedS (wordM []) (Sr.mk a2 4 0 0 0 0 4 0) 1 = some (0, 0) from linked_all (Linked.zero (KeysIn.zero [])) (by simp) (by simp) B2.out)
    have HOK := Aside0.mk (show (Sr.mk a2 4 0 0 0 0 4 0).Ok from mkOk B2.out (by omega) (by omega) (by omega) (by omega) (by omega) (by omega) (by omega))
    have bb := b32l a2 0
    go_enter Try.func5, Try.ntmps5
    go_upto_region 4 with (first | ((with_reducible refine gate_dst (N := 32) rfl ?_); refine mk_cap (w0 := w) 29 5 .u8 1 rfl (N := 32) rfl _ _ rfl .i64 .i64 0 0 rfl rfl (by omega) (by omega) Try.underlying29 info5 (by omega) (by omega) HB.out ?_; intro v1 w_ ho hb hq; replace HB := Aside0.mk hb; have HO := Aside0.mk (show Kd.R (Kd.int .u8) 5 _ w.heap.size (fun _ => True) v1 [] from ho); clear hb ho hq))
    obtain ⟨Ab, cb, eb⟩ := Kd.R_slice HO.out
    subst eb
    go_wp2
    go_loopg [8] 1 (fun kq v8 w' => v8 = .int .i64 0 ∧ kq = 1 ∧ w' = w_)
    case atStart => exact ⟨rfl, rfl, rfl⟩
    case round =>
      obtain ⟨rfl, hk, rfl⟩ := hrel
      clear hk
      go_upto_region 10 with (first | ((with_reducible refine gate_dst (N := 51) rfl ?_); refine mk_bool (w0 := w) 42 4 rfl (N := 51) rfl _ _ rfl 0 rfl rfl (by omega) (by omega) Try.underlying42 info4q HB.out ?_; intro gm w_ hmb hgm hb hq; replace HO := Aside0.mk (Kd.R_below HO.out hq); replace HB := Aside0.mk hb; clear hmb hgm hb hq))
      go_wp2
      go_loopg [10, 11, 12, 13, 14, 15] (l1.length + 1) (fun kq v10 v11 v12 v13 v14 v15 w' => ∃ i : Int, v13 = .int .i64 i ∧ v10 = .int .u32 0 ∧ v12 = .int .u32 0 ∧ Aside0 (0 ≤ i ∧ i ≤ (l1.length : Int) ∧ kq = ((l1.length : Int) - i).toNat + 1) ∧ w' = w_)
      case atStart => exact ⟨0, rfl, rfl, rfl, ⟨by omega, by omega, by omega⟩, rfl⟩
      case round =>
        obtain ⟨i, rfl, rfl, rfl, HI, rfl⟩ := hrel
        by_cases c1 : i < (l1.length : Int)
        · have HI2 := Aside0.mk (show 0 ≤ i + 1 ∧ i + 1 ≤ (l1.length : Int) ∧ ((l1.length : Int) - (i + 1)).toNat + 1 < gk by have := HI.out; omega)
          have b2 : decide (i < (l1.length : Int)) = true := decide_eq_true c1
          have hi := (link_w (i := i) (by have := HI.out; have := HL.out; omega)).1
          clear c1
          go_wp2
          go_roundg (((l1.length : Int) - (i + 1)).toNat + 1)
          case measure => exact HI2.out.2.2
          case rel => exact ⟨i + 1, by first | rfl | rw [hi], rfl, rfl, ⟨HI2.out.1, HI2.out.2.1, rfl⟩, rfl⟩
        · have b2 : decide (i < (l1.length : Int)) = false := decide_eq_false c1
          clear c1
          go_upto_region 26 with (first | (go_at_call 15; (with_reducible refine (laid_wordsN [] 0 Ab cb _ rfl (Kd.R_reads' HO.out).2.2 (by simp)).mono ?_); rintro e w_ ⟨g, gb', c, h, rfl, hm, hb⟩; have HM := Aside0.mk hm; replace HB := zbs HB hb; clear hb hm HO))
          go_upto_region 27 with (first | (go_at_call 21; (with_reducible refine (find_Linked.is 1 g (Sr.mk a2 4 0 0 0 0 4 0) (wordM []) 0 0 _ HOK.out HM.out.pm HS.out).mono ?_); rintro e w_ ⟨rfl, hb⟩; replace HB := zbs HB hb; clear hb HM))
          go_wp2_with (first | (go_at_call 18; (with_reducible refine (num_be _ _).mono ?_); rintro e w_ ⟨rfl, hb⟩; replace HB := zbs HB hb; clear hb) | (go_at_call 14; (with_reducible refine (live.is _).mono ?_); rintro e w_ ⟨rfl, hb⟩; replace HB := zbs HB hb; clear hb) | fail)
          go_ret
          exact ⟨rfl, zb HB⟩
  obtain ⟨N8, hN8⟩ : ∃ N8 : Nat, N8 = 8 * l0.length := ⟨_, rfl⟩
  have HN8 := Aside0.mk (show N8 = 8 * l0.length ∧ 0 < N8 ∧ N8 ≤ 3200 by have := HL.out; omega)
  have x8 : wrap64 (8 * (l0.length : Int)) = (N8 : Int) := by rw [hN8, (link_w (i := (l0.length : Int)) (by have := HL.out; omega)).2]; rfl
  clear hN8
  go_enter Try.func5, Try.ntmps5
  go_upto_region 4 with (first | ((with_reducible refine gate_dst (N := 32) rfl ?_); (try simp only [x8]); refine mk_cap (w0 := w) 29 5 .u8 1 rfl (N := 32) rfl _ _ rfl .i64 .i64 (N8 : Int) (N8 : Int) rfl rfl (by omega) (by omega) Try.underlying29 info5 (by have := HN8.out; omega) (by have := HN8.out; omega) HB.out ?_; intro v1 w1 ho hb hq; replace HB := Aside0.mk hb; rw [Int.toNat_natCast] at ho; obtain ⟨gb, cb, he, hge, hlt, _⟩ := Kd.R_form ho (by rw [List.length_replicate]; have := HN8.out; omega); rw [List.length_replicate] at he; subst he; have HO := Aside0.mk ho; have GB := Aside0.mk hge; clear hb ho hge hlt hq))
  clear x8
  have HKI := Aside0.mk (KeysIn.zero l0)
  replace HO := Aside0.mk (show Kd.R (Kd.int .u8) 5 _ w.heap.size (fun _ => True) (.slice (some ⟨gb, 0, none⟩) N8 cb) (wordsB (List.replicate (2 * l0.length) 0)) by rw [wordsB_zero, show 4 * (2 * l0.length) = N8 by have := HN8.out; omega]; exact HO.out)
  have HCB := Aside0.mk (Kd.R_reads' HO.out).2.1
  go_wp2
  go_loopg [8] (l0.length + 1) (fun kq v8 w' => ∃ (i : Int) (L : List Int), v8 = .int .i64 i ∧ Aside0 ((0 ≤ i ∧ i ≤ (l0.length : Int) ∧ kq = ((l0.length : Int) - i).toNat + 1) ∧ KeysIn l0 L i.toNat) ∧ Aside0 (Kd.R (Kd.int .u8) 5 w' w.heap.size (fun _ => True) (.slice (some ⟨gb, 0, none⟩) N8 cb) (wordsB L)) ∧ Aside0 (Below w.heap.size w w'))
  case atStart => exact ⟨0, _, rfl, ⟨⟨by omega, by omega, by omega⟩, HKI.out⟩, HO, ⟨zb HB⟩⟩
  case round =>
    clear HB HO HKI
    obtain ⟨i, L, rfl, HI, HO, HB⟩ := hrel
    by_cases c1 : i < (l0.length : Int)
    · have p1 : 0 ≤ i := HI.out.1.1
      obtain ⟨ad, ea, hx⟩ := Kd.at_int HR.out i p1 c1
      subst ea
      have HX := Aside0.mk hx
      replace hx := pw_cell_below HB.out hx
      obtain ⟨o8, ho8⟩ : ∃ o8, o8 = 8 * i := ⟨_, rfl⟩
      have hr := HW.out.at (i := i.toNat) (by omega)
      rw [Int.toNat_of_nonneg p1] at hr
      have HP := Aside0.mk (put4 hr)
      have hwl := wordsB_len L
      have hkl := HI.out.2.len
      have HLN := Aside0.mk (show (wordsB L).length = N8 by have := HN8.out; omega)
      have HOF := Aside0.mk (show o8.toNat + 4 ≤ N8 ∧ o8.toNat = 4 * (2 * i.toNat) by have := HN8.out; omega)
      have p3 := eq_true (show 0 ≤ o8 by omega)
      have p4 := eq_true (show o8 ≤ (N8 : Int) by have := HN8.out; omega)
      have hca : ¬ (cb = o8.toNat) := by have := HOF.out; have := HCB.out; omega
      have HI2 := Aside0.mk (show 0 ≤ i + 1 ∧ i + 1 ≤ (l0.length : Int) ∧ ((l0.length : Int) - (i + 1)).toNat + 1 < gk by have := HI.out; omega)
      have hks := KeysIn.succ HW.out HI.out.2 (by omega)
      rw [show i.toNat + 1 = (i + 1).toNat by omega, Int.toNat_of_nonneg p1] at hks
      have HKS := Aside0.mk hks
      have HJ := Aside0.mk (show 2 * i.toNat < L.length by omega)
      have b1 : decide (i < (l0.length : Int)) = true := decide_eq_true c1
      have hw2 := link_w (i := i) (by have := HL.out; omega)
      have hi := hw2.1
      have h8 : wrap64 (8 * i) = o8 := hw2.2.trans ho8.symm
      clear hw2
      have h9 : IntKind.i64.wrap (8 * i) = o8 := by rw [IntKind.wrap_i64, ho8]; have := HL.out; omega
      replace c1 := eq_true c1
      replace p1 := eq_true p1
      clear ho8 hr hwl hkl hks
      go_wp2
      go_region_held3 (fun w' => w'.cell? (ad.add i.toNat) = some (.int .u32 (rd l0 i))) (first | exact pw_cell_below (zb HB) HX.out | go_keep) (first | (go_at_call 20; (with_reducible refine (grottoref01_Put.calls 30 (rd l0 i) 4 _ _ HP.out).mono ?_); rintro e w3 ⟨v3, rfl, hv, hb⟩; obtain ⟨A3, c3, rfl⟩ := Kd.R_slice hv; have HV := Aside0.mk (Kd.R_reads' hv).2.2; replace HO := Aside0.mk (Kd.R_below HO.out (by first | exact hb | exact below_step (below_drew1 (Below.refl _ _)) hb)); replace HB := zbs HB hb; clear hv hb) | (refine step_copy_in (by rfl) (.tmp 42) (.tmp 47) 29 29 (by rfl) (off := o8.toNat) (m := (byts (rd l0 i).toNat 4).length) (by rfl) (by rfl) HO.out HV.out HLN.out (by rw [byts_len]; decide) (by rw [byts_len]; have := HOF.out; omega) Try.underlying29 (infoS info5) ?_; intro w4 ho hg4; replace HO := Aside0.mk ho; replace HB := Aside0.mk (HB.out.grown hg4 (below_size HB.out) (fun k_ hk_ => by injection hk_ with hk_; subst hk_; exact GB.out)); clear ho hg4) | fail)
      go_wp2
      replace HO := Aside0.mk (show Kd.R (Kd.int .u8) 5 _ w.heap.size (fun _ => True) (.slice (some ⟨gb, 0, none⟩) N8 cb) (wordsB (L.set (2 * i.toNat) (rd l0 i))) by have h := HO.out; rw [byts_len, HOF.out.2, wordsB_set HJ.out] at h; exact h)
      go_roundg (((l0.length : Int) - (i + 1)).toNat + 1)
      case measure => exact HI2.out.2.2
      case rel => exact ⟨i + 1, _, by first | rfl | rw [hi], ⟨⟨HI2.out.1, HI2.out.2.1, rfl⟩, HKS.out⟩, ⟨by first | exact HO.out | exact Kd.R_drew HO.out | exact Kd.R_drewN HO.out _⟩, ⟨zb HB⟩⟩
    · have b1 : decide (i < (l0.length : Int)) = false := decide_eq_false c1
      have hin : i.toNat = l0.length := by have := HI.out; omega
      have HK := HI.out.2
      rw [hin] at HK
      have HLK := Aside0.mk (Linked.zero HK)
      clear HI HK hin c1
      go_upto_region 10 with (first | ((with_reducible refine gate_dst (N := 51) rfl ?_); refine mk_bool (w0 := w) 42 4 rfl (N := 51) rfl _ _ rfl (l0.length : Int) rfl rfl (by omega) (by have := HL.out; omega) Try.underlying42 info4q HB.out ?_; intro gm w1 hmb hgm hb hq; rw [Int.toNat_natCast] at hmb; simp only [Int.toNat_natCast]; have GM := Aside0.mk (Nat.le_trans (below_size HB.out) hgm); replace HO := Aside0.mk (Kd.R_below HO.out hq); have HMB := Aside0.mk hmb; replace HB := Aside0.mk hb; clear hmb hgm hb hq))
      have HNE := Aside0.mk (ne_of_R HO.out HMB.out (by decide))
      go_wp2
      go_loopg [10, 11, 12, 13, 14, 15] (l1.length + 1) (fun kq v10 v11 v12 v13 v14 v15 w' => ∃ (i start last want : Int) (L : List Int) (met : List Bool) (ks : List Nat), v13 = .int .i64 i ∧ v10 = .int .u32 start ∧ v11 = .int .i64 last ∧ v12 = .int .u32 want ∧ Aside0 ((0 ≤ i ∧ i ≤ (l1.length : Int) ∧ kq = ((l1.length : Int) - i).toNat + 1 ∧ (ks.length : Int) ≤ i) ∧ Linked l0 L met start last ks ∧ want = wantI l0 a2 ks) ∧ Aside0 (Kd.R (Kd.int .u8) 5 w' w.heap.size (fun _ => True) (.slice (some ⟨gb, 0, none⟩) N8 cb) (wordsB L)) ∧ Aside0 (w'.heap[gm]? = some (.cells (met.map Value.bool).toArray 4 (0, 0))) ∧ Aside0 (Below w.heap.size w w'))
      case atStart => exact ⟨0, 0, -1, 0, _, _, [], rfl, rfl, rfl, rfl, ⟨⟨by omega, by omega, by omega, by simp⟩, HLK.out, rfl⟩, HO, HMB, ⟨zb HB⟩⟩
      case round =>
        clear HB HO HMB HLK b1
        obtain ⟨i, start, last, want, L, met, ks, rfl, rfl, rfl, rfl, HI, HO, HMB, HB⟩ := hrel
        by_cases c1 : i < (l1.length : Int)
        · have p1 : 0 ≤ i := HI.out.1.1
          obtain ⟨ad, ea, hx⟩ := Kd.at_int HR1.out i p1 c1
          subst ea
          replace hx := pw_cell_below HB.out hx
          have hr1 := HW1.out.at (i := i.toNat) (by omega)
          rw [Int.toNat_of_nonneg p1] at hr1
          obtain ⟨q, hqd⟩ : ∃ q, q = rd l1 i % (l0.length : Int) := ⟨_, rfl⟩
          have hq : 0 ≤ q ∧ q < (l0.length : Int) := by rw [hqd]; exact ⟨Int.emod_nonneg _ (by omega), Int.emod_lt_of_pos _ (by omega)⟩
          have tq : Int.tmod (rd l1 i) (l0.length : Int) = q := by rw [hqd]; exact Int.tmod_eq_emod_of_nonneg hr1.1
          obtain ⟨a0d, ea0, hx0⟩ := Kd.at_int HR.out q hq.1 hq.2
          subst ea0
          have HX0 := Aside0.mk hx0
          replace hx0 := pw_cell_below HB.out hx0
          have hml := HI.out.2.1.ml
          have hqm : q.toNat < met.length := by omega
          obtain ⟨b, hb⟩ : ∃ b, met[q.toNat]? = some b := ⟨_, List.getElem?_eq_getElem hqm⟩
          have hcell : wr.cell? ⟨gm, q.toNat, none⟩ = some (.bool b) := (blk_cell HMB.out q.toNat).trans (by simp [hb])
          have nz : ¬ ((l0.length : Int) = 0) := by omega
          have nz2 : ((l0.length : Int) == 0) = false := beq_false_of_ne nz
          have p5 := eq_true hq.1
          have p6 := eq_true hq.2
          have hks : (ks.length : Int) ≤ i := HI.out.1.2.2.2
          have HI2 := Aside0.mk (show 0 ≤ i + 1 ∧ i + 1 ≤ (l1.length : Int) ∧ ((l1.length : Int) - (i + 1)).toNat + 1 < gk ∧ (ks.length : Int) + 1 ≤ i + 1 by have := HI.out.1; omega)
          have HQ := Aside0.mk (show 0 ≤ q ∧ q < 400 ∧ q.toNat < l0.length ∧ ((q.toNat : Nat) : Int) = q ∧ q.toNat < met.length by have := HL.out; omega)
          have b2 : decide (i < (l1.length : Int)) = true := decide_eq_true c1
          obtain ⟨q1, q2, q3, q4⟩ := ring_q (i := q) (by have := HL.out; omega)
          have hi := (link_w (i := i) (by have := HL.out; omega)).1
          have xr : wrap64 (rd l1 i) = rd l1 i := w64 (by omega) (by omega)
          replace c1 := eq_true c1
          replace p1 := eq_true p1
          clear hqd hq hr1 hml hqm hks
          cases b
          · have hmk : met[q.toNat]? ≠ some true := by rw [hb]; simp
            obtain ⟨nx, hnx⟩ : ∃ nx, nx = 256 + 8 * q := ⟨_, rfl⟩
            replace q4 := q4.trans hnx.symm
            have hws := wantI_snoc l0 a2 q.toNat ks
            rw [HQ.out.2.2.2.1, ← hnx, ← HI.out.2.2] at hws
            have hnr : 0 ≤ nx ∧ nx < 4294967296 := by have := HQ.out; omega
            have HP2 := Aside0.mk (put4 hnr)
            have hwc : ((want == 0) = true ∧ decide (want = 0) = true ∧ (rd l0 q == a2) = true ∧ decide (rd l0 q = a2) = true ∧ wantI l0 a2 (ks ++ [q.toNat]) = nx) ∨ ((want == 0) = true ∧ decide (want = 0) = true ∧ (rd l0 q == a2) = false ∧ decide (rd l0 q = a2) = false ∧ wantI l0 a2 (ks ++ [q.toNat]) = want) ∨ ((want == 0) = false ∧ decide (want = 0) = false ∧ (rd l0 q == a2) = (rd l0 q == a2) ∧ decide (rd l0 q = a2) = decide (rd l0 q = a2) ∧ wantI l0 a2 (ks ++ [q.toNat]) = want) := by
              by_cases w1 : want = 0
              · rw [if_pos w1] at hws
                by_cases w2 : rd l0 q = a2
                · rw [if_pos w2] at hws
                  exact Or.inl ⟨beq_iff_eq.2 w1, decide_eq_true w1, beq_iff_eq.2 w2, decide_eq_true w2, hws⟩
                · rw [if_neg w2] at hws
                  exact Or.inr (Or.inl ⟨beq_iff_eq.2 w1, decide_eq_true w1, beq_false_of_ne w2, decide_eq_false w2, hws.trans w1.symm⟩)
              · rw [if_neg w1] at hws
                exact Or.inr (Or.inr ⟨beq_false_of_ne w1, decide_eq_false w1, rfl, rfl, hws⟩)
            by_cases hlt : last < 0
            · have bl : decide (last < 0) = true := decide_eq_true hlt
              have hlk := Linked.first HI.out.2.1 HL.out.1 hlt HQ.out.2.2.1 hmk
              rw [HQ.out.2.2.2.1, ← hnx] at hlk
              have HLK := Aside0.mk hlk
              clear hlk hws hnr hlt hmk hnx
              rcases hwc with ⟨k1, k2, k3, k4, k5⟩ | ⟨k1, k2, k3, k4, k5⟩ | ⟨k1, k2, _, _, k5⟩
              all_goals
                have HWN := Aside0.mk k5.symm
                clear k5
                go_wp2_with (first | ((with_reducible refine gate_ (.store 4 (.tmp 84) (.const (.bool true))) rfl ?_); refine store_bool rfl rfl 4 4 (.tmp 84) (.const (.bool true)) rfl (j := q.toNat) (met := met) rfl rfl ?hh ?hj (infoS info4q) ?_; (case hh => exact HMB.out); (case hj => exact HQ.out.2.2.2.2); intro w5 hh hgr; replace HO := Aside0.mk (row_grown HO.out hgr (by simp; exact fun e_ => HNE.out e_.symm)); replace HB := Aside0.mk (HB.out.grown hgr (below_size HB.out) (fun k_ hk_ => by injection hk_ with hk_; subst hk_; exact GM.out)); replace HMB := Aside0.mk hh; replace hx0 := pw_cell_below HB.out HX0.out; clear hh hgr hx hcell) | fail)
                go_roundg (((l1.length : Int) - (i + 1)).toNat + 1)
                case measure => exact HI2.out.2.2.1
                case rel => exact ⟨i + 1, nx, q, _, L, met.set q.toNat true, ks ++ [q.toNat], by first | rfl | rw [hi], by first | rfl | (simp only [q1, q2, q3, q4]), by first | rfl | (simp only [xr, tq, q1]), by first | rfl | (simp only [q1, q2, q3, q4]), ⟨⟨HI2.out.1, HI2.out.2.1, rfl, by rw [List.length_append]; simp; have := HI2.out; omega⟩, HLK.out, HWN.out⟩, HO, HMB, HB⟩
            · have bl : decide (last < 0) = false := decide_eq_false hlt
              have hlr : 0 ≤ last ∧ last < (l0.length : Int) := by rcases HI.out.2.1.last with ⟨_, h, _⟩ | ⟨_, _, _, h, h2, _⟩ <;> omega
              have hlk := Linked.next HI.out.2.1 HL.out.1 hlr.1 HQ.out.2.2.1 hmk
              rw [HQ.out.2.2.2.1, ← hnx] at hlk
              have HLK := Aside0.mk hlk
              have hwl := wordsB_len L
              have hll := HI.out.2.1.len
              have HLN := Aside0.mk (show (wordsB L).length = N8 by have := HN8.out; omega)
              obtain ⟨o9, ho9⟩ : ∃ o9, o9 = 8 * last + 4 := ⟨_, rfl⟩
              have HOF := Aside0.mk (show o9.toNat + 4 ≤ N8 ∧ o9.toNat = 4 * (2 * last.toNat + 1) ∧ 2 * last.toNat + 1 < L.length by have := HN8.out; omega)
              have p7 := eq_true (show 0 ≤ o9 by omega)
              have p8 := eq_true (show o9 ≤ (N8 : Int) by have := HN8.out; omega)
              have hca : ¬ (cb = o9.toNat) := by have := HOF.out; have := HCB.out; omega
              have hl9 := link_last (x := last) (by have := HL.out; omega)
              have g1 := hl9.1
              have g2 : IntKind.i64.wrap (8 * last + 4) = o9 := hl9.2.1.trans ho9.symm
              have g3 := hl9.2.2.1
              have g4 : wrap64 (8 * last + 4) = o9 := hl9.2.2.2.trans ho9.symm
              clear hlk hws hnr hlt hmk hnx hlr hwl hll ho9 hl9
              rcases hwc with ⟨k1, k2, k3, k4, k5⟩ | ⟨k1, k2, k3, k4, k5⟩ | ⟨k1, k2, _, _, k5⟩
              all_goals
                have HWN := Aside0.mk k5.symm
                clear k5
                go_wp2_with (first | ((with_reducible refine gate_ (.store 4 (.tmp 84) (.const (.bool true))) rfl ?_); refine store_bool rfl rfl 4 4 (.tmp 84) (.const (.bool true)) rfl (j := q.toNat) (met := met) rfl rfl ?hh ?hj (infoS info4q) ?_; (case hh => exact HMB.out); (case hj => exact HQ.out.2.2.2.2); intro w5 hh hgr; replace HO := Aside0.mk (row_grown HO.out hgr (by simp; exact fun e_ => HNE.out e_.symm)); replace HB := Aside0.mk (HB.out.grown hgr (below_size HB.out) (fun k_ hk_ => by injection hk_ with hk_; subst hk_; exact GM.out)); replace HMB := Aside0.mk hh; replace hx0 := pw_cell_below HB.out HX0.out; clear hh hgr hx hcell) | fail)
                go_region_held3 (fun _ => True) (first | trivial | go_keep) (first | (go_at_call 20; (try simp only [q1, q2, q3, q4]); (with_reducible refine (grottoref01_Put.calls 30 nx 4 _ _ HP2.out).mono ?_); rintro e w3 ⟨v3, rfl, hv, hb⟩; obtain ⟨A3, c3, rfl⟩ := Kd.R_slice hv; have HV := Aside0.mk (Kd.R_reads' hv).2.2; replace HO := Aside0.mk (Kd.R_below HO.out (by first | exact hb | exact below_step (below_drew1 (Below.refl _ _)) hb)); replace HMB := Aside0.mk (blk_below HMB.out (by first | exact hb | exact below_step (below_drew1 (Below.refl _ _)) hb)); replace HB := zbs HB hb; clear hv hb) | (refine step_copy_in (by rfl) (.tmp 96) (.tmp 98) 29 29 (by rfl) (off := o9.toNat) (m := (byts nx.toNat 4).length) (by rfl) (by rfl) HO.out HV.out HLN.out (by rw [byts_len]; decide) (by rw [byts_len]; have := HOF.out; omega) Try.underlying29 (infoS info5) ?_; intro w4 ho hg4; replace HO := Aside0.mk ho; replace HMB := Aside0.mk (blk_grown HMB.out hg4 (by simp; exact HNE.out)); replace HB := Aside0.mk (HB.out.grown hg4 (below_size HB.out) (fun k_ hk_ => by injection hk_ with hk_; subst hk_; exact GB.out)); replace hx0 := pw_cell_below HB.out HX0.out; clear ho hg4) | fail)
                replace HO := Aside0.mk (show Kd.R (Kd.int .u8) 5 _ w.heap.size (fun _ => True) (.slice (some ⟨gb, 0, none⟩) N8 cb) (wordsB (L.set (2 * last.toNat + 1) nx)) by have h := HO.out; rw [byts_len, HOF.out.2.1, wordsB_set HOF.out.2.2] at h; exact h)
                go_wp2
                go_roundg (((l1.length : Int) - (i + 1)).toNat + 1)
                case measure => exact HI2.out.2.2.1
                case rel => exact ⟨i + 1, start, q, _, L.set (2 * last.toNat + 1) nx, met.set q.toNat true, ks ++ [q.toNat], by first | rfl | rw [hi], rfl, by first | rfl | (simp only [xr, tq, q1]), by first | rfl | (simp only [q1, q2, q3, q4]), ⟨⟨HI2.out.1, HI2.out.2.1, rfl, by rw [List.length_append]; simp; have := HI2.out; omega⟩, HLK.out, HWN.out⟩, ⟨by first | exact HO.out | exact Kd.R_drew HO.out | exact Kd.R_drewN HO.out _⟩, ⟨by first | exact HMB.out | exact blk_drew HMB.out⟩, ⟨zb HB⟩⟩
          · go_wp2
            go_roundg (((l1.length : Int) - (i + 1)).toNat + 1)
            case measure => exact HI2.out.2.2.1
            case rel => exact ⟨i + 1, start, last, want, L, met, ks, by first | rfl | rw [hi], rfl, rfl, rfl, ⟨⟨HI2.out.1, HI2.out.2.1, rfl, by have := HI2.out; omega⟩, HI.out.2⟩, HO, HMB, HB⟩
        · have b2 : decide (i < (l1.length : Int)) = false := decide_eq_false c1
          have bb := b32l a2 start
          have hst : 0 ≤ start ∧ start < 4294967296 := by rcases HI.out.2.1.last with ⟨_, _, h⟩ | ⟨_, _, _, _, _, h⟩ <;> omega
          have HOK := Aside0.mk (show (Sr.mk a2 4 start 0 0 0 4 0).Ok from mkOk B2.out (by omega) hst (by omega) (by omega) (by omega) (by omega) (by omega))
          have HS := Aside0.mk (linked_all HI.out.2.1 HL.out.1 (by have := HI.out.1; have := HL.out; omega) B2.out)
          rw [← HI.out.2.2] at HS
          have hwl := wordsB_len L
          have hll := HI.out.2.1.len
          have HLN := Aside0.mk (show (wordsB L).length = N8 ∧ L.length ≤ 960 by have := HN8.out; have := HL.out; omega)
          clear hst c1 hwl hll HMB
          go_upto_region 26 with (first | (go_at_call 15; (with_reducible refine (laid_wordsN L N8 (some ⟨gb, 0, none⟩) cb _ HLN.out.1 (Kd.R_reads' HO.out).2.2 HLN.out.2).mono ?_); rintro e w_ ⟨g, gb', c, h, rfl, hm, hb⟩; have HM := Aside0.mk hm; replace HB := zbs HB hb; clear hb hm HO))
          go_upto_region 27 with (first | (go_at_call 21; (with_reducible refine (find_Linked.is (ks.length + 1) g (Sr.mk a2 4 start 0 0 0 4 0) (wordM L) want 0 _ HOK.out HM.out.pm HS.out).mono ?_); rintro e w_ ⟨rfl, hb⟩; replace HB := zbs HB hb; clear hb HM))
          go_wp2_with (first | (go_at_call 18; (with_reducible refine (num_be _ _).mono ?_); rintro e w_ ⟨rfl, hb⟩; replace HB := zbs HB hb; clear hb) | (go_at_call 14; (with_reducible refine (live.is _).mono ?_); rintro e w_ ⟨rfl, hb⟩; replace HB := zbs HB hb; clear hb) | fail)
          go_ret
          exact ⟨rfl, zb HB⟩
end Go.Proofs.Ytohmipmioaceeaa.PQ
