/- Texts AC8 AC9 AC10 AC11 AC12 AC13 in one. -/
import Derived.Test.YtmpiifjckhcbmaaGC
import Derived.Test.YtmpiifjckhcbmaaGA
/- accel: where a property is told (numbers of seat r18). -/
namespace Go.Proofs.Ytmpiifjckhcbmaa.PQ
set_option linter.all false
open Go.RowKit Go.Proofs.YtmpiifjckhcbmaaW.PrintWords Go.Proofs.YtmpiifjckhcbmaaW.PrintLast Go.Proofs.YtmpiifjckhcbmaaW.PrintMore Go.Proofs.Ytmpiifjckhcbmaa.Z Go.Proofs.Ytmpiifjckhcbmaa.Pure
set_option linter.unusedVariables false
set_option linter.unusedSimpArgs false

theorem sort_fast (bs : List Int) (s : Sr) (key : List Int) : ∀ (d : Nat) (low high : Int), 0 ≤ low → high - low < 2 ^ d → ∃ r, sortS bs s key (d + 1) low high = some r
  | 0, low, high, h0, h => by
    unfold sortS
    rw [if_neg (by simp only [Int.pow_zero] at h; omega)]
    exact ⟨_, rfl⟩
  | d + 1, low, high, h0, h => by
    unfold sortS
    by_cases c : low < high
    · rw [if_pos c]
      have e : (2 : Int) ^ (d + 1) = 2 ^ d * 2 := Int.pow_succ ..
      rw [e] at h
      simp only
      split
      · exact ⟨_, rfl⟩
      · split
        · exact ⟨_, rfl⟩
        · split
          · exact sort_fast bs s key d _ _ (by omega) (by omega)
          · exact sort_fast bs s key d _ _ (by omega) (by omega)
    · rw [if_neg c]
      exact ⟨_, rfl⟩
/-- what Binary comes to -/
def binS (bs : List Int) (s : Sr) : Int × Int := (BinaryS bs s 40).getD (0, 0)
theorem binS_ok (bs : List Int) {s : Sr} (h : s.Ok) : BinaryS bs s 40 = some (binS bs s) := by
  unfold binS BinaryS
  split
  · obtain ⟨r, hr⟩ := sort_fast bs s (keyS bs s).1 39 0 s.count (by omega) (by have := h.count; omega)
    rw [hr]
    rfl
  · rfl
theorem readS_u32 {bs : List Int} (hb : Byt bs) {s e a n x e' : Int} (h : readS bs s e a n = (x, e')) : 0 ≤ x ∧ x < 4294967296 := by
  unfold readS at h
  split at h
  · injection h with h1 h2
    subst h1
    omega
  · have := rdS_u32 hb a n
    rw [h] at this
    exact this
/-- where an object's table is told -/
abbrev tabA (a attrs : Int) : Int := (a + 4 * ((3 + attrs / 4) % 4294967296)) % 4294967296
theorem m32 (x : Int) : 0 ≤ x % 4294967296 ∧ x % 4294967296 < 4294967296 := by omega
/-- where a property is told: the place, the slip, the error -/
def tabS (bs : List Int) (attrs slip e a b : Int) : Int × Int × Int :=
  let r := regionS bs slip e a
  if r.1 ≠ 1 then (0, wrongS slip r.2 1, r.2)
  else
    let t := readS bs slip r.2 (tabA a attrs) 4
    if t.1 = 0 then (0, slip, t.2)
    else
      let n := readS bs slip t.2 t.1 4
      if badS slip n.2 = true then (0, slip, n.2)
      else ((binS bs ⟨b, 2, (t.1 + 4) % 4294967296, 10, n.1, 0, 0, 0⟩).1, slip, (binS bs ⟨b, 2, (t.1 + 4) % 4294967296, 10, n.1, 0, 0, 0⟩).2)
set_option maxHeartbeats 8000000 in
set_option maxRecDepth 100000 in
theorem tab_wk (K : KC) (s e a b x s' e' : Int) (v w : World) (h : WK v w K s e) (ha : 0 ≤ a ∧ a < 4294967296) (hb : 0 ≤ b ∧ b < 4294967296) (hr : tabS K.bs K.attrs s e a b = (x, s', e')) :
    Calls Try.prog 34 #[.pointer (some ⟨K.g, 0, none⟩), .int .u32 a, .int .u32 b] w (WkTo v K (.int .u32 x) s' e') := by
  have HW := Aside0.mk h
  have HA := Aside0.mk ha
  have HY := Aside0.mk h.mm.pw.byt
  obtain ⟨z0, z1, z2, z3, z4⟩ := h.cells
  have hdiv : K.attrs.tdiv 4 = K.attrs / 4 := Int.tdiv_eq_ediv_of_nonneg h.ok.at'.1
  unfold tabS at hr
  obtain ⟨r, e1, hr1⟩ : ∃ r e1, regionS K.bs s e a = (r, e1) := ⟨_, _, rfl⟩
  rw [hr1] at hr
  have HR1 := Aside0.mk hr1
  simp only at hr
  by_cases c1 : r = 1
  · subst c1
    rw [if_neg (by omega)] at hr
    obtain ⟨t, e2, hr2⟩ : ∃ t e2, readS K.bs s e1 (tabA a K.attrs) 4 = (t, e2) := ⟨_, _, rfl⟩
    rw [hr2] at hr
    have HT := Aside0.mk (readS_u32 HY.out hr2)
    have HR2 := Aside0.mk hr2
    simp only at hr
    by_cases c2 : t = 0
    · subst c2
      rw [if_pos rfl] at hr
      simp only [Prod.mk.injEq] at hr
      obtain ⟨rfl, rfl, rfl⟩ := hr
      clear h ha hr1 hr2 hb
      go_enter Try.func34, Try.ntmps34
      go_wp2_with (first | (go_at_call 33; (with_reducible refine (region_wk K s e a _ _ v _ (wkz HW) HA.out HR1.out).mono ?_); rintro e_ w_ ⟨rfl, hw⟩; replace HW := Aside0.mk hw; clear hw z0 z1 z2 z3 z4; obtain ⟨z0, z1, z2, z3, z4⟩ := HW.out.cells) | (go_at_call 54; go_loud ((with_reducible refine (read_wk K s e1 _ 4 _ _ v _ (wkz HW) (m32 _) HR2.out).mono ?_); rintro e_ w_ ⟨rfl, hw⟩; replace HW := Aside0.mk hw; clear hw z0 z1 z2 z3 z4; obtain ⟨z0, z1, z2, z3, z4⟩ := HW.out.cells)) | fail)
      go_ret
      exact ⟨rfl, HW.out⟩
    · rw [if_neg c2] at hr
      have d2 : (t == 0) = false := beq_false_of_ne c2
      obtain ⟨n, e3, hr3⟩ : ∃ n e3, readS K.bs s e2 t 4 = (n, e3) := ⟨_, _, rfl⟩
      rw [hr3] at hr
      have HR3 := Aside0.mk hr3
      have hn := readS_u32 HY.out hr3
      simp only at hr
      cases c3 : badS s e3
      · rw [if_neg (by rw [c3]; decide)] at hr
        simp only [Prod.mk.injEq] at hr
        obtain ⟨rfl, rfl, rfl⟩ := hr
        have HR4 := Aside0.mk c3
        have HO := Aside0.mk (show (Sr.mk b 2 ((t + 4) % 4294967296) 10 n 0 0 0).Ok from ⟨hb, by simp only; omega, by simp only; omega, by simp only; omega, hn, by simp only; omega, by simp only; omega, by simp only; omega⟩)
        have HR5 := Aside0.mk (show BinaryS K.bs (Sr.mk b 2 ((t + 4) % 4294967296) 10 n 0 0 0) 40 = some ((binS K.bs (Sr.mk b 2 ((t + 4) % 4294967296) 10 n 0 0 0)).1, (binS K.bs (Sr.mk b 2 ((t + 4) % 4294967296) 10 n 0 0 0)).2) from binS_ok K.bs HO.out)
        generalize (binS K.bs (Sr.mk b 2 ((t + 4) % 4294967296) 10 n 0 0 0)).1 = x at HR5 ⊢
        generalize (binS K.bs (Sr.mk b 2 ((t + 4) % 4294967296) 10 n 0 0 0)).2 = e4 at HR5 ⊢
        have hbl : ∀ w : World, (Instr.build 115 #[(0, .int .u32 b), (1, .int .u32 2), (2, .int .u32 ((t + 4) % 4294967296)), (3, .int .u32 10), (4, .int .u32 n)]).run Try.prog w = .ok (.agg #[.int .u32 b, .int .u32 2, .int .u32 ((t + 4) % 4294967296), .int .u32 10, .int .u32 n, .int .u32 0, .int .u32 0, .int .u32 0]) w := fun w => run_build w 115 _ _ (by kernel_rfl)
        clear h ha hr1 hr2 hb c2 hr3 hn c3
        go_enter Try.func34, Try.ntmps34
        go_wp2_with (first | (go_at_call 33; (with_reducible refine (region_wk K s e a _ _ v _ (wkz HW) HA.out HR1.out).mono ?_); rintro e_ w_ ⟨rfl, hw⟩; replace HW := Aside0.mk hw; clear hw z0 z1 z2 z3 z4; obtain ⟨z0, z1, z2, z3, z4⟩ := HW.out.cells) | (go_at_call 54; go_loud ((with_reducible refine (read_wk K s e1 _ 4 _ _ v _ (wkz HW) (m32 _) HR2.out).mono ?_); rintro e_ w_ ⟨rfl, hw⟩; replace HW := Aside0.mk hw; clear hw z0 z1 z2 z3 z4; obtain ⟨z0, z1, z2, z3, z4⟩ := HW.out.cells)) | (go_at_call 54; go_loud ((with_reducible refine (read_wk K s e2 t 4 _ _ v _ (wkz HW) HT.out HR3.out).mono ?_); rintro e_ w_ ⟨rfl, hw⟩; replace HW := Aside0.mk hw; clear hw z0 z1 z2 z3 z4; obtain ⟨z0, z1, z2, z3, z4⟩ := HW.out.cells)) | (go_at_call 40; (with_reducible refine (bad_wk K s e3 _ v _ (wkz HW) HR4.out).mono ?_); rintro e_ w_ ⟨rfl, rfl⟩) | (go_at_call 57; (with_reducible refine (find_Binary.is 40 K.gm _ K.bs x e4 _ HO.out HW.out.mm.pw.pm HR5.out).mono ?_); rintro e_ w_ ⟨rfl, hb⟩; replace HW := Aside0.mk (HW.out.below hb); clear hb z0 z1 z2 z3 z4; obtain ⟨z0, z1, z2, z3, z4⟩ := HW.out.cells) | ((with_reducible refine gate_ (.store 30 (.tmp 51) (.tmp 49)) rfl ?_); refine store_cell (cs := wkC K.gm (some ⟨K.ga, 0, none⟩) 9 K.cp K.attrs s e3) rfl rfl 30 86 (.tmp 51) (.tmp 49) rfl (j := 4) rfl rfl ?hh ?hsz (infoW info30q) ?_; (case hh => exact HW.out.kk); (case hsz => exact (by decide : (4 : Nat) < 5)); intro w5 hh hgr; replace HW := Aside0.mk (HW.out.step (s' := s) (e' := e4) (HW.out.mm.grown HW.out.kk hgr) hh hgr); clear hh hgr) | fail)
        go_ret
        exact ⟨rfl, HW.out⟩
      · rw [if_pos c3] at hr
        simp only [Prod.mk.injEq] at hr
        obtain ⟨rfl, rfl, rfl⟩ := hr
        have HR4 := Aside0.mk c3
        clear h ha hr1 hr2 hb c2 hr3 hn c3
        go_enter Try.func34, Try.ntmps34
        go_wp2_with (first | (go_at_call 33; (with_reducible refine (region_wk K s e a _ _ v _ (wkz HW) HA.out HR1.out).mono ?_); rintro e_ w_ ⟨rfl, hw⟩; replace HW := Aside0.mk hw; clear hw z0 z1 z2 z3 z4; obtain ⟨z0, z1, z2, z3, z4⟩ := HW.out.cells) | (go_at_call 54; go_loud ((with_reducible refine (read_wk K s e1 _ 4 _ _ v _ (wkz HW) (m32 _) HR2.out).mono ?_); rintro e_ w_ ⟨rfl, hw⟩; replace HW := Aside0.mk hw; clear hw z0 z1 z2 z3 z4; obtain ⟨z0, z1, z2, z3, z4⟩ := HW.out.cells)) | (go_at_call 54; go_loud ((with_reducible refine (read_wk K s e2 t 4 _ _ v _ (wkz HW) HT.out HR3.out).mono ?_); rintro e_ w_ ⟨rfl, hw⟩; replace HW := Aside0.mk hw; clear hw z0 z1 z2 z3 z4; obtain ⟨z0, z1, z2, z3, z4⟩ := HW.out.cells)) | (go_at_call 40; (with_reducible refine (bad_wk K s e3 _ v _ (wkz HW) HR4.out).mono ?_); rintro e_ w_ ⟨rfl, rfl⟩) | fail)
        go_ret
        exact ⟨rfl, HW.out⟩
  · rw [if_pos c1] at hr
    simp only [Prod.mk.injEq] at hr
    obtain ⟨rfl, rfl, rfl⟩ := hr
    have d1 : (r != 1) = true := bne_iff_ne.2 c1
    clear h ha hr1 c1 hb
    go_enter Try.func34, Try.ntmps34
    go_wp2_with (first | (go_at_call 33; (with_reducible refine (region_wk K s e a _ _ v _ (wkz HW) HA.out HR1.out).mono ?_); rintro e_ w_ ⟨rfl, hw⟩; replace HW := Aside0.mk hw; clear hw z0 z1 z2 z3 z4; obtain ⟨z0, z1, z2, z3, z4⟩ := HW.out.cells) | (go_at_call 56; (with_reducible refine (wrong_wk K s e1 1 v _ (wkz HW)).mono ?_); rintro e_ w_ ⟨rfl, hw⟩; replace HW := Aside0.mk hw; clear hw z0 z1 z2 z3 z4; obtain ⟨z0, z1, z2, z3, z4⟩ := HW.out.cells) | fail)
    go_ret
    exact ⟨rfl, HW.out⟩
end Go.Proofs.Ytmpiifjckhcbmaa.PQ

/- accel: where a property is told that may be seen (numbers of seat r18). -/
namespace Go.Proofs.Ytmpiifjckhcbmaa.PQ
open Go.RowKit Go.Proofs.YtmpiifjckhcbmaaW.PrintWords Go.Proofs.YtmpiifjckhcbmaaW.PrintLast Go.Proofs.YtmpiifjckhcbmaaW.PrintMore Go.Proofs.Ytmpiifjckhcbmaa.Z Go.Proofs.Ytmpiifjckhcbmaa.Pure
set_option linter.unusedVariables false
set_option linter.unusedSimpArgs false

theorem bit1 (q : Int) (h : 0 ≤ q ∧ q < 4294967296) : (Go.bits .and .u32 q 1 == 1) = decide (q % 2 = 1) := by
  obtain ⟨n, rfl⟩ := Int.eq_ofNat_of_zero_le h.1
  have hw : ∀ m : Int, 0 ≤ m → m < 2 ^ 32 → IntKind.u32.wrap m = m := fun m h0 h1 => by rw [IntKind.wrap_u32]; omega
  have e := (bits_nat .u32 32 (by decide) hw n 1 (by omega) (by omega)).1
  rw [Nat.and_one_is_mod] at e
  rw [show (1 : Int) = ((1 : Nat) : Int) from rfl, e]
  by_cases c : n % 2 = 1
  · rw [c, decide_eq_true (by omega)]; rfl
  · rw [decide_eq_false (by omega), show n % 2 = 0 by omega]; rfl
/-- the end of prop: the table's place at a, the number b; c: the class that the number names, or 0 -/
def propT (bs ps : List Int) (attrs slip e a b c : Int) : Int × Int × Int :=
  let p := tabS bs attrs slip e a b
  if p.1 = 0 ∨ badS p.2.1 p.2.2 = true then (0, p.2.1, p.2.2)
  else
    let i := if c = 0 then inS bs ps attrs p.2.1 p.2.2 a else (false, p.2.2)
    if i.1 = true ∧ ownS ps b = false then (0, p.2.1, i.2)
    else
      let r := readS bs p.2.1 i.2 (rd ps 6) 4
      let q := if r.1 = a then (0, r.2) else readS bs p.2.1 r.2 ((p.1 + 9) % 4294967296) 1
      if q.1 % 2 = 1 then (0, p.2.1, q.2) else (p.1, p.2.1, q.2)
set_option maxHeartbeats 8000000 in
set_option maxRecDepth 100000 in
theorem prop_low (K : KC) (s e a b x s' e' : Int) (v w : World) (h : WK v w K s e) (ha : 0 ≤ a ∧ a < 4294967296) (hb : 0 ≤ b ∧ b < 65536) (hr : propT K.bs K.ps K.attrs s e a b 0 = (x, s', e')) :
    Calls Try.prog 58 #[.pointer (some ⟨K.g, 0, none⟩), .int .u32 a, .int .u32 b] w (WkTo v K (.int .u32 x) s' e') := by
  have HW := Aside0.mk h
  have HA := Aside0.mk ha
  have HBR := Aside0.mk (show 0 ≤ b ∧ b < 4294967296 by omega)
  have HY := Aside0.mk h.mm.pw.byt
  have HP6 := Aside0.mk (show 0 ≤ rd K.ps 6 ∧ rd K.ps 6 < 4294967296 from h.ok.rd (i := 6) (by omega))
  have d0 : decide (65536 ≤ b) = false := decide_eq_false (by omega)
  obtain ⟨z0, z1, z2, z3, z4⟩ := h.cells
  obtain ⟨p0, p1, p2, p3, p4, p5, p6, p8⟩ := h.params
  clear h ha hb
  unfold propT at hr
  obtain ⟨p, s1, e1, ht⟩ : ∃ p s1 e1, tabS K.bs K.attrs s e a b = (p, s1, e1) := ⟨_, _, _, rfl⟩
  rw [ht] at hr
  have HT := Aside0.mk ht
  simp only at hr
  clear ht
  by_cases c1 : p = 0
  · rw [if_pos (Or.inl c1)] at hr
    simp only [Prod.mk.injEq] at hr
    obtain ⟨rfl, rfl, rfl⟩ := hr
    have d1 : (p == 0) = true := beq_iff_eq.2 c1
    clear c1
    go_enter Try.func58, Try.ntmps58
    go_wp2_with (first | (go_at_call 34; (with_reducible refine (tab_wk K s e a b _ _ _ v _ (wkz HW) HA.out HBR.out HT.out).mono ?_); rintro e_ w_ ⟨rfl, hw⟩; replace HW := Aside0.mk hw; clear hw z0 z1 z2 z3 z4 p0 p1 p2 p3 p4 p5 p6 p8; obtain ⟨z0, z1, z2, z3, z4⟩ := HW.out.cells; obtain ⟨p0, p1, p2, p3, p4, p5, p6, p8⟩ := HW.out.params) | fail)
    go_ret
    exact ⟨rfl, HW.out⟩
  · have d1 : (p == 0) = false := beq_false_of_ne c1
    cases c2 : badS s1 e1
    · rw [if_neg (fun h => h.elim c1 (fun h => by rw [c2] at h; cases h))] at hr
      have HB1 := Aside0.mk c2
      simp only [if_true] at hr
      obtain ⟨i, e2, hi⟩ : ∃ i e2, inS K.bs K.ps K.attrs s1 e1 a = (i, e2) := ⟨_, _, rfl⟩
      rw [hi] at hr
      have HI := Aside0.mk hi
      simp only at hr
      clear hi
      cases i
      · rw [if_neg (fun h => by cases h.1)] at hr
        obtain ⟨r, e3, hrd⟩ : ∃ r e3, readS K.bs s1 e2 (rd K.ps 6) 4 = (r, e3) := ⟨_, _, rfl⟩
        rw [hrd] at hr
        have HR := Aside0.mk hrd
        simp only at hr
        clear hrd
        by_cases c4 : r = a
        · rw [if_pos c4] at hr
          have d4 : (r != a) = false := by rw [c4]; exact bne_self_eq_false _
          rw [if_neg (show ¬ (0 : Int) % 2 = 1 by omega)] at hr
          simp only [Prod.mk.injEq] at hr
          obtain ⟨rfl, rfl, rfl⟩ := hr
          clear c1 c2 c4
          go_enter Try.func58, Try.ntmps58
          go_wp2_with (first | (go_at_call 34; (with_reducible refine (tab_wk K s e a b _ _ _ v _ (wkz HW) HA.out HBR.out HT.out).mono ?_); rintro e_ w_ ⟨rfl, hw⟩; replace HW := Aside0.mk hw; clear hw z0 z1 z2 z3 z4 p0 p1 p2 p3 p4 p5 p6 p8; obtain ⟨z0, z1, z2, z3, z4⟩ := HW.out.cells; obtain ⟨p0, p1, p2, p3, p4, p5, p6, p8⟩ := HW.out.params) | (go_at_call 40; (with_reducible refine (bad_wk K s1 e1 _ v _ (wkz HW) HB1.out).mono ?_); rintro e_ w_ ⟨rfl, rfl⟩) | (go_at_call 60; (with_reducible refine (inClass_wk K s1 e1 a _ _ v _ (wkz HW) HI.out).mono ?_); rintro e_ w_ ⟨rfl, hw⟩; replace HW := Aside0.mk hw; clear hw z0 z1 z2 z3 z4 p0 p1 p2 p3 p4 p5 p6 p8; obtain ⟨z0, z1, z2, z3, z4⟩ := HW.out.cells; obtain ⟨p0, p1, p2, p3, p4, p5, p6, p8⟩ := HW.out.params) | (go_at_call 54; (with_reducible refine (read_wk K s1 e2 (rd K.ps 6) 4 _ _ v _ (wkz HW) HP6.out HR.out).mono ?_); rintro e_ w_ ⟨rfl, hw⟩; replace HW := Aside0.mk hw; clear hw z0 z1 z2 z3 z4 p0 p1 p2 p3 p4 p5 p6 p8; obtain ⟨z0, z1, z2, z3, z4⟩ := HW.out.cells; obtain ⟨p0, p1, p2, p3, p4, p5, p6, p8⟩ := HW.out.params) | fail)
          go_ret
          exact ⟨rfl, HW.out⟩
        · rw [if_neg c4] at hr
          have d4 : (r != a) = true := bne_iff_ne.2 c4
          obtain ⟨q, e4, hq⟩ : ∃ q e4, readS K.bs s1 e3 ((p + 9) % 4294967296) 1 = (q, e4) := ⟨_, _, rfl⟩
          rw [hq] at hr
          have HQ := Aside0.mk hq
          have hbit := bit1 q (readS_u32 HY.out hq)
          simp only at hr
          by_cases c5 : q % 2 = 1
          · rw [if_pos c5] at hr
            rw [decide_eq_true c5] at hbit
            simp only [Prod.mk.injEq] at hr
            obtain ⟨rfl, rfl, rfl⟩ := hr
            clear c1 c2 c4 c5 hq
            go_enter Try.func58, Try.ntmps58
            go_wp2_with (first | (go_at_call 34; (with_reducible refine (tab_wk K s e a b _ _ _ v _ (wkz HW) HA.out HBR.out HT.out).mono ?_); rintro e_ w_ ⟨rfl, hw⟩; replace HW := Aside0.mk hw; clear hw z0 z1 z2 z3 z4 p0 p1 p2 p3 p4 p5 p6 p8; obtain ⟨z0, z1, z2, z3, z4⟩ := HW.out.cells; obtain ⟨p0, p1, p2, p3, p4, p5, p6, p8⟩ := HW.out.params) | (go_at_call 40; (with_reducible refine (bad_wk K s1 e1 _ v _ (wkz HW) HB1.out).mono ?_); rintro e_ w_ ⟨rfl, rfl⟩) | (go_at_call 60; (with_reducible refine (inClass_wk K s1 e1 a _ _ v _ (wkz HW) HI.out).mono ?_); rintro e_ w_ ⟨rfl, hw⟩; replace HW := Aside0.mk hw; clear hw z0 z1 z2 z3 z4 p0 p1 p2 p3 p4 p5 p6 p8; obtain ⟨z0, z1, z2, z3, z4⟩ := HW.out.cells; obtain ⟨p0, p1, p2, p3, p4, p5, p6, p8⟩ := HW.out.params) | (go_at_call 54; (with_reducible refine (read_wk K s1 e2 (rd K.ps 6) 4 _ _ v _ (wkz HW) HP6.out HR.out).mono ?_); rintro e_ w_ ⟨rfl, hw⟩; replace HW := Aside0.mk hw; clear hw z0 z1 z2 z3 z4 p0 p1 p2 p3 p4 p5 p6 p8; obtain ⟨z0, z1, z2, z3, z4⟩ := HW.out.cells; obtain ⟨p0, p1, p2, p3, p4, p5, p6, p8⟩ := HW.out.params) | (go_at_call 54; (with_reducible refine (read_wk K s1 e3 _ 1 _ _ v _ (wkz HW) (m32 _) HQ.out).mono ?_); rintro e_ w_ ⟨rfl, hw⟩; replace HW := Aside0.mk hw; clear hw z0 z1 z2 z3 z4 p0 p1 p2 p3 p4 p5 p6 p8; obtain ⟨z0, z1, z2, z3, z4⟩ := HW.out.cells; obtain ⟨p0, p1, p2, p3, p4, p5, p6, p8⟩ := HW.out.params) | fail)
            go_ret
            exact ⟨rfl, HW.out⟩
          · rw [if_neg c5] at hr
            rw [decide_eq_false c5] at hbit
            simp only [Prod.mk.injEq] at hr
            obtain ⟨rfl, rfl, rfl⟩ := hr
            clear c1 c2 c4 c5 hq
            go_enter Try.func58, Try.ntmps58
            go_wp2_with (first | (go_at_call 34; (with_reducible refine (tab_wk K s e a b _ _ _ v _ (wkz HW) HA.out HBR.out HT.out).mono ?_); rintro e_ w_ ⟨rfl, hw⟩; replace HW := Aside0.mk hw; clear hw z0 z1 z2 z3 z4 p0 p1 p2 p3 p4 p5 p6 p8; obtain ⟨z0, z1, z2, z3, z4⟩ := HW.out.cells; obtain ⟨p0, p1, p2, p3, p4, p5, p6, p8⟩ := HW.out.params) | (go_at_call 40; (with_reducible refine (bad_wk K s1 e1 _ v _ (wkz HW) HB1.out).mono ?_); rintro e_ w_ ⟨rfl, rfl⟩) | (go_at_call 60; (with_reducible refine (inClass_wk K s1 e1 a _ _ v _ (wkz HW) HI.out).mono ?_); rintro e_ w_ ⟨rfl, hw⟩; replace HW := Aside0.mk hw; clear hw z0 z1 z2 z3 z4 p0 p1 p2 p3 p4 p5 p6 p8; obtain ⟨z0, z1, z2, z3, z4⟩ := HW.out.cells; obtain ⟨p0, p1, p2, p3, p4, p5, p6, p8⟩ := HW.out.params) | (go_at_call 54; (with_reducible refine (read_wk K s1 e2 (rd K.ps 6) 4 _ _ v _ (wkz HW) HP6.out HR.out).mono ?_); rintro e_ w_ ⟨rfl, hw⟩; replace HW := Aside0.mk hw; clear hw z0 z1 z2 z3 z4 p0 p1 p2 p3 p4 p5 p6 p8; obtain ⟨z0, z1, z2, z3, z4⟩ := HW.out.cells; obtain ⟨p0, p1, p2, p3, p4, p5, p6, p8⟩ := HW.out.params) | (go_at_call 54; (with_reducible refine (read_wk K s1 e3 _ 1 _ _ v _ (wkz HW) (m32 _) HQ.out).mono ?_); rintro e_ w_ ⟨rfl, hw⟩; replace HW := Aside0.mk hw; clear hw z0 z1 z2 z3 z4 p0 p1 p2 p3 p4 p5 p6 p8; obtain ⟨z0, z1, z2, z3, z4⟩ := HW.out.cells; obtain ⟨p0, p1, p2, p3, p4, p5, p6, p8⟩ := HW.out.params) | fail)
            go_ret
            exact ⟨rfl, HW.out⟩
      · cases c3 : ownS K.ps b
        · rw [if_pos ⟨rfl, c3⟩] at hr
          have HOW := Aside0.mk c3
          simp only [Prod.mk.injEq] at hr
          obtain ⟨rfl, rfl, rfl⟩ := hr
          clear c1 c2 c3
          go_enter Try.func58, Try.ntmps58
          go_wp2_with (first | (go_at_call 34; (with_reducible refine (tab_wk K s e a b _ _ _ v _ (wkz HW) HA.out HBR.out HT.out).mono ?_); rintro e_ w_ ⟨rfl, hw⟩; replace HW := Aside0.mk hw; clear hw z0 z1 z2 z3 z4 p0 p1 p2 p3 p4 p5 p6 p8; obtain ⟨z0, z1, z2, z3, z4⟩ := HW.out.cells; obtain ⟨p0, p1, p2, p3, p4, p5, p6, p8⟩ := HW.out.params) | (go_at_call 40; (with_reducible refine (bad_wk K s1 e1 _ v _ (wkz HW) HB1.out).mono ?_); rintro e_ w_ ⟨rfl, rfl⟩) | (go_at_call 60; (with_reducible refine (inClass_wk K s1 e1 a _ _ v _ (wkz HW) HI.out).mono ?_); rintro e_ w_ ⟨rfl, hw⟩; replace HW := Aside0.mk hw; clear hw z0 z1 z2 z3 z4 p0 p1 p2 p3 p4 p5 p6 p8; obtain ⟨z0, z1, z2, z3, z4⟩ := HW.out.cells; obtain ⟨p0, p1, p2, p3, p4, p5, p6, p8⟩ := HW.out.params) | (go_at_call 62; (with_reducible refine (own_wk K s1 e2 b _ v _ (wkz HW) HOW.out).mono ?_); rintro e_ w_ ⟨rfl, rfl⟩) | fail)
          go_ret
          exact ⟨rfl, HW.out⟩
        · rw [if_neg (fun h => by rw [c3] at h; cases h.2)] at hr
          have HOW := Aside0.mk c3
          clear c3
          obtain ⟨r, e3, hrd⟩ : ∃ r e3, readS K.bs s1 e2 (rd K.ps 6) 4 = (r, e3) := ⟨_, _, rfl⟩
          rw [hrd] at hr
          have HR := Aside0.mk hrd
          simp only at hr
          clear hrd
          by_cases c4 : r = a
          · rw [if_pos c4] at hr
            have d4 : (r != a) = false := by rw [c4]; exact bne_self_eq_false _
            rw [if_neg (show ¬ (0 : Int) % 2 = 1 by omega)] at hr
            simp only [Prod.mk.injEq] at hr
            obtain ⟨rfl, rfl, rfl⟩ := hr
            clear c1 c2 c4
            go_enter Try.func58, Try.ntmps58
            go_wp2_with (first | (go_at_call 34; (with_reducible refine (tab_wk K s e a b _ _ _ v _ (wkz HW) HA.out HBR.out HT.out).mono ?_); rintro e_ w_ ⟨rfl, hw⟩; replace HW := Aside0.mk hw; clear hw z0 z1 z2 z3 z4 p0 p1 p2 p3 p4 p5 p6 p8; obtain ⟨z0, z1, z2, z3, z4⟩ := HW.out.cells; obtain ⟨p0, p1, p2, p3, p4, p5, p6, p8⟩ := HW.out.params) | (go_at_call 40; (with_reducible refine (bad_wk K s1 e1 _ v _ (wkz HW) HB1.out).mono ?_); rintro e_ w_ ⟨rfl, rfl⟩) | (go_at_call 60; (with_reducible refine (inClass_wk K s1 e1 a _ _ v _ (wkz HW) HI.out).mono ?_); rintro e_ w_ ⟨rfl, hw⟩; replace HW := Aside0.mk hw; clear hw z0 z1 z2 z3 z4 p0 p1 p2 p3 p4 p5 p6 p8; obtain ⟨z0, z1, z2, z3, z4⟩ := HW.out.cells; obtain ⟨p0, p1, p2, p3, p4, p5, p6, p8⟩ := HW.out.params) | (go_at_call 62; (with_reducible refine (own_wk K s1 e2 b _ v _ (wkz HW) HOW.out).mono ?_); rintro e_ w_ ⟨rfl, rfl⟩) | (go_at_call 54; (with_reducible refine (read_wk K s1 e2 (rd K.ps 6) 4 _ _ v _ (wkz HW) HP6.out HR.out).mono ?_); rintro e_ w_ ⟨rfl, hw⟩; replace HW := Aside0.mk hw; clear hw z0 z1 z2 z3 z4 p0 p1 p2 p3 p4 p5 p6 p8; obtain ⟨z0, z1, z2, z3, z4⟩ := HW.out.cells; obtain ⟨p0, p1, p2, p3, p4, p5, p6, p8⟩ := HW.out.params) | fail)
            go_ret
            exact ⟨rfl, HW.out⟩
          · rw [if_neg c4] at hr
            have d4 : (r != a) = true := bne_iff_ne.2 c4
            obtain ⟨q, e4, hq⟩ : ∃ q e4, readS K.bs s1 e3 ((p + 9) % 4294967296) 1 = (q, e4) := ⟨_, _, rfl⟩
            rw [hq] at hr
            have HQ := Aside0.mk hq
            have hbit := bit1 q (readS_u32 HY.out hq)
            simp only at hr
            by_cases c5 : q % 2 = 1
            · rw [if_pos c5] at hr
              rw [decide_eq_true c5] at hbit
              simp only [Prod.mk.injEq] at hr
              obtain ⟨rfl, rfl, rfl⟩ := hr
              clear c1 c2 c4 c5 hq
              go_enter Try.func58, Try.ntmps58
              go_wp2_with (first | (go_at_call 34; (with_reducible refine (tab_wk K s e a b _ _ _ v _ (wkz HW) HA.out HBR.out HT.out).mono ?_); rintro e_ w_ ⟨rfl, hw⟩; replace HW := Aside0.mk hw; clear hw z0 z1 z2 z3 z4 p0 p1 p2 p3 p4 p5 p6 p8; obtain ⟨z0, z1, z2, z3, z4⟩ := HW.out.cells; obtain ⟨p0, p1, p2, p3, p4, p5, p6, p8⟩ := HW.out.params) | (go_at_call 40; (with_reducible refine (bad_wk K s1 e1 _ v _ (wkz HW) HB1.out).mono ?_); rintro e_ w_ ⟨rfl, rfl⟩) | (go_at_call 60; (with_reducible refine (inClass_wk K s1 e1 a _ _ v _ (wkz HW) HI.out).mono ?_); rintro e_ w_ ⟨rfl, hw⟩; replace HW := Aside0.mk hw; clear hw z0 z1 z2 z3 z4 p0 p1 p2 p3 p4 p5 p6 p8; obtain ⟨z0, z1, z2, z3, z4⟩ := HW.out.cells; obtain ⟨p0, p1, p2, p3, p4, p5, p6, p8⟩ := HW.out.params) | (go_at_call 62; (with_reducible refine (own_wk K s1 e2 b _ v _ (wkz HW) HOW.out).mono ?_); rintro e_ w_ ⟨rfl, rfl⟩) | (go_at_call 54; (with_reducible refine (read_wk K s1 e2 (rd K.ps 6) 4 _ _ v _ (wkz HW) HP6.out HR.out).mono ?_); rintro e_ w_ ⟨rfl, hw⟩; replace HW := Aside0.mk hw; clear hw z0 z1 z2 z3 z4 p0 p1 p2 p3 p4 p5 p6 p8; obtain ⟨z0, z1, z2, z3, z4⟩ := HW.out.cells; obtain ⟨p0, p1, p2, p3, p4, p5, p6, p8⟩ := HW.out.params) | (go_at_call 54; (with_reducible refine (read_wk K s1 e3 _ 1 _ _ v _ (wkz HW) (m32 _) HQ.out).mono ?_); rintro e_ w_ ⟨rfl, hw⟩; replace HW := Aside0.mk hw; clear hw z0 z1 z2 z3 z4 p0 p1 p2 p3 p4 p5 p6 p8; obtain ⟨z0, z1, z2, z3, z4⟩ := HW.out.cells; obtain ⟨p0, p1, p2, p3, p4, p5, p6, p8⟩ := HW.out.params) | fail)
              go_ret
              exact ⟨rfl, HW.out⟩
            · rw [if_neg c5] at hr
              rw [decide_eq_false c5] at hbit
              simp only [Prod.mk.injEq] at hr
              obtain ⟨rfl, rfl, rfl⟩ := hr
              clear c1 c2 c4 c5 hq
              go_enter Try.func58, Try.ntmps58
              go_wp2_with (first | (go_at_call 34; (with_reducible refine (tab_wk K s e a b _ _ _ v _ (wkz HW) HA.out HBR.out HT.out).mono ?_); rintro e_ w_ ⟨rfl, hw⟩; replace HW := Aside0.mk hw; clear hw z0 z1 z2 z3 z4 p0 p1 p2 p3 p4 p5 p6 p8; obtain ⟨z0, z1, z2, z3, z4⟩ := HW.out.cells; obtain ⟨p0, p1, p2, p3, p4, p5, p6, p8⟩ := HW.out.params) | (go_at_call 40; (with_reducible refine (bad_wk K s1 e1 _ v _ (wkz HW) HB1.out).mono ?_); rintro e_ w_ ⟨rfl, rfl⟩) | (go_at_call 60; (with_reducible refine (inClass_wk K s1 e1 a _ _ v _ (wkz HW) HI.out).mono ?_); rintro e_ w_ ⟨rfl, hw⟩; replace HW := Aside0.mk hw; clear hw z0 z1 z2 z3 z4 p0 p1 p2 p3 p4 p5 p6 p8; obtain ⟨z0, z1, z2, z3, z4⟩ := HW.out.cells; obtain ⟨p0, p1, p2, p3, p4, p5, p6, p8⟩ := HW.out.params) | (go_at_call 62; (with_reducible refine (own_wk K s1 e2 b _ v _ (wkz HW) HOW.out).mono ?_); rintro e_ w_ ⟨rfl, rfl⟩) | (go_at_call 54; (with_reducible refine (read_wk K s1 e2 (rd K.ps 6) 4 _ _ v _ (wkz HW) HP6.out HR.out).mono ?_); rintro e_ w_ ⟨rfl, hw⟩; replace HW := Aside0.mk hw; clear hw z0 z1 z2 z3 z4 p0 p1 p2 p3 p4 p5 p6 p8; obtain ⟨z0, z1, z2, z3, z4⟩ := HW.out.cells; obtain ⟨p0, p1, p2, p3, p4, p5, p6, p8⟩ := HW.out.params) | (go_at_call 54; (with_reducible refine (read_wk K s1 e3 _ 1 _ _ v _ (wkz HW) (m32 _) HQ.out).mono ?_); rintro e_ w_ ⟨rfl, hw⟩; replace HW := Aside0.mk hw; clear hw z0 z1 z2 z3 z4 p0 p1 p2 p3 p4 p5 p6 p8; obtain ⟨z0, z1, z2, z3, z4⟩ := HW.out.cells; obtain ⟨p0, p1, p2, p3, p4, p5, p6, p8⟩ := HW.out.params) | fail)
              go_ret
              exact ⟨rfl, HW.out⟩
    · rw [if_pos (Or.inr c2)] at hr
      have HB1 := Aside0.mk c2
      simp only [Prod.mk.injEq] at hr
      obtain ⟨rfl, rfl, rfl⟩ := hr
      clear c1 c2
      go_enter Try.func58, Try.ntmps58
      go_wp2_with (first | (go_at_call 34; (with_reducible refine (tab_wk K s e a b _ _ _ v _ (wkz HW) HA.out HBR.out HT.out).mono ?_); rintro e_ w_ ⟨rfl, hw⟩; replace HW := Aside0.mk hw; clear hw z0 z1 z2 z3 z4 p0 p1 p2 p3 p4 p5 p6 p8; obtain ⟨z0, z1, z2, z3, z4⟩ := HW.out.cells; obtain ⟨p0, p1, p2, p3, p4, p5, p6, p8⟩ := HW.out.params) | (go_at_call 40; (with_reducible refine (bad_wk K s1 e1 _ v _ (wkz HW) HB1.out).mono ?_); rintro e_ w_ ⟨rfl, rfl⟩) | fail)
      go_ret
      exact ⟨rfl, HW.out⟩
end Go.Proofs.Ytmpiifjckhcbmaa.PQ

/- accel: is it of a class? (numbers of seat r18) -/
namespace Go.Proofs.Ytmpiifjckhcbmaa.PQ
open Go.RowKit Go.Proofs.YtmpiifjckhcbmaaW.PrintWords Go.Proofs.YtmpiifjckhcbmaaW.PrintLast Go.Proofs.YtmpiifjckhcbmaaW.PrintMore Go.Proofs.Ytmpiifjckhcbmaa.Z Go.Proofs.Ytmpiifjckhcbmaa.Pure
set_option linter.unusedVariables false
set_option linter.unusedSimpArgs false

def oneS (b : Bool) : Int := if b = true then 1 else 0
theorem one_wk (b : Bool) (w : World) : Calls Try.prog 59 #[.bool b] w fun r w' => r = .returned (.int .u32 (oneS b)) ∧ Below w.heap.size w w' :=
  (accel_one.calls b (oneS b) w (by cases b <;> rfl)).mono fun _ _ h => ⟨h.1, h.2.below⟩
/-- a class's list gone through from i on: was b met? the error behind it -/
def ofL (bs : List Int) (s b l n : Int) : Nat → Int → Int → Int × Int
  | 0, _, e => (0, e)
  | k + 1, i, e =>
    if i < n ∧ badS s e = false then
      let r := readS bs s e ((l + 4 * i) % 4294967296) 4
      if r.1 = b ∧ badS s r.2 = false then (1, r.2) else ofL bs s b l n k ((i + 1) % 4294967296) r.2
    else (0, e)
/-- is a of b? the slip, the error -/
def ofS (bs ps : List Int) (attrs slip e a b : Int) : Int × Int × Int :=
  let k := regionS bs slip e a
  if k.1 = 3 then (oneS (b == rd ps 5), slip, k.2)
  else if k.1 = 2 then (oneS (b == rd ps 4), slip, k.2)
  else if k.1 = 0 then (0, slip, k.2)
  else if b = rd ps 2 then (oneS ((inS bs ps attrs slip k.2 a).1 || highS ps a), slip, (inS bs ps attrs slip k.2 a).2)
  else if b = rd ps 3 then (oneS (!(inS bs ps attrs slip k.2 a).1 && !highS ps a), slip, (inS bs ps attrs slip k.2 a).2)
  else if b = rd ps 5 ∨ b = rd ps 4 then (0, slip, k.2)
  else
    let j := inS bs ps attrs slip k.2 b
    if j.1 = false then (0, wrongS slip j.2 2, j.2)
    else
      let p := propT bs ps attrs slip j.2 a 2 0
      if p.1 = 0 ∨ badS p.2.1 p.2.2 = true then (0, p.2.1, p.2.2)
      else
        let l := readS bs p.2.1 p.2.2 ((p.1 + 4) % 4294967296) 4
        if l.1 = 0 then (0, p.2.1, l.2)
        else
          let n := readS bs p.2.1 l.2 ((p.1 + 2) % 4294967296) 2
          let f := ofL bs p.2.1 b l.1 n.1 (n.1.toNat + 1) 0 n.2
          (f.1, p.2.1, f.2)
set_option maxHeartbeats 8000000 in
set_option maxRecDepth 100000 in
theorem of_wk (K : KC) (s e a b x s' e' : Int) (v w : World) (h : WK v w K s e) (ha : 0 ≤ a ∧ a < 4294967296) (hb : 0 ≤ b ∧ b < 4294967296) (hr : ofS K.bs K.ps K.attrs s e a b = (x, s', e')) :
    Calls Try.prog 37 #[.pointer (some ⟨K.g, 0, none⟩), .int .u32 a, .int .u32 b] w (WkTo v K (.int .u32 x) s' e') := by
  have HW := Aside0.mk h
  have HA := Aside0.mk ha
  have HB := Aside0.mk hb
  have HY := Aside0.mk h.mm.pw.byt
  obtain ⟨z0, z1, z2, z3, z4⟩ := h.cells
  obtain ⟨p0, p1, p2, p3, p4, p5, p6, p8⟩ := h.params
  clear h ha hb
  unfold ofS at hr
  obtain ⟨k, e1, hk⟩ : ∃ k e1, regionS K.bs s e a = (k, e1) := ⟨_, _, rfl⟩
  rw [hk] at hr
  have HK := Aside0.mk hk
  simp only at hr
  clear hk
  by_cases c1 : k = 3
  · rw [if_pos c1] at hr
    subst c1
    simp only [Prod.mk.injEq] at hr
    obtain ⟨rfl, rfl, rfl⟩ := hr
    go_enter Try.func37, Try.ntmps37
    go_wp2_with (first | (go_at_call 33; (with_reducible refine (region_wk K s e a _ _ v _ (wkz HW) HA.out HK.out).mono ?_); rintro e_ w_ ⟨rfl, hw⟩; replace HW := Aside0.mk hw; clear hw z0 z1 z2 z3 z4 p0 p1 p2 p3 p4 p5 p6 p8; obtain ⟨z0, z1, z2, z3, z4⟩ := HW.out.cells; obtain ⟨p0, p1, p2, p3, p4, p5, p6, p8⟩ := HW.out.params) | (go_at_call 59; (with_reducible refine (one_wk _ _).mono ?_); rintro e_ w_ ⟨rfl, hd⟩; replace HW := Aside0.mk (HW.out.below (by first | exact hd | exact hd.below)); clear hd z0 z1 z2 z3 z4 p0 p1 p2 p3 p4 p5 p6 p8; obtain ⟨z0, z1, z2, z3, z4⟩ := HW.out.cells; obtain ⟨p0, p1, p2, p3, p4, p5, p6, p8⟩ := HW.out.params) | fail)
    go_ret
    exact ⟨rfl, HW.out⟩
  · rw [if_neg c1] at hr
    have d1 : (k == 3) = false := beq_false_of_ne c1
    by_cases c2 : k = 2
    · rw [if_pos c2] at hr
      subst c2
      simp only [Prod.mk.injEq] at hr
      obtain ⟨rfl, rfl, rfl⟩ := hr
      clear c1 d1
      go_enter Try.func37, Try.ntmps37
      go_wp2_with (first | (go_at_call 33; (with_reducible refine (region_wk K s e a _ _ v _ (wkz HW) HA.out HK.out).mono ?_); rintro e_ w_ ⟨rfl, hw⟩; replace HW := Aside0.mk hw; clear hw z0 z1 z2 z3 z4 p0 p1 p2 p3 p4 p5 p6 p8; obtain ⟨z0, z1, z2, z3, z4⟩ := HW.out.cells; obtain ⟨p0, p1, p2, p3, p4, p5, p6, p8⟩ := HW.out.params) | (go_at_call 59; (with_reducible refine (one_wk _ _).mono ?_); rintro e_ w_ ⟨rfl, hd⟩; replace HW := Aside0.mk (HW.out.below (by first | exact hd | exact hd.below)); clear hd z0 z1 z2 z3 z4 p0 p1 p2 p3 p4 p5 p6 p8; obtain ⟨z0, z1, z2, z3, z4⟩ := HW.out.cells; obtain ⟨p0, p1, p2, p3, p4, p5, p6, p8⟩ := HW.out.params) | fail)
      go_ret
      exact ⟨rfl, HW.out⟩
    · rw [if_neg c2] at hr
      have d2 : (k == 2) = false := beq_false_of_ne c2
      by_cases c3 : k = 0
      · rw [if_pos c3] at hr
        subst c3
        simp only [Prod.mk.injEq] at hr
        obtain ⟨rfl, rfl, rfl⟩ := hr
        clear c1 d1 c2 d2
        go_enter Try.func37, Try.ntmps37
        go_wp2_with (first | (go_at_call 33; (with_reducible refine (region_wk K s e a _ _ v _ (wkz HW) HA.out HK.out).mono ?_); rintro e_ w_ ⟨rfl, hw⟩; replace HW := Aside0.mk hw; clear hw z0 z1 z2 z3 z4 p0 p1 p2 p3 p4 p5 p6 p8; obtain ⟨z0, z1, z2, z3, z4⟩ := HW.out.cells; obtain ⟨p0, p1, p2, p3, p4, p5, p6, p8⟩ := HW.out.params) | fail)
        go_ret
        exact ⟨rfl, HW.out⟩
      · rw [if_neg c3] at hr
        have d3 : (k == 0) = false := beq_false_of_ne c3
        clear c1 c2 c3
        by_cases c4 : b = rd K.ps 2
        · rw [if_pos c4] at hr
          have d4 : (b == rd K.ps 2) = true := beq_iff_eq.2 c4
          obtain ⟨i, e2, hi⟩ : ∃ i e2, inS K.bs K.ps K.attrs s e1 a = (i, e2) := ⟨_, _, rfl⟩
          rw [hi] at hr
          have HI := Aside0.mk hi
          simp only at hr
          clear hi
          obtain ⟨hg, hh⟩ : ∃ hg, highS K.ps a = hg := ⟨_, rfl⟩
          rw [hh] at hr
          have HH := Aside0.mk hh
          clear hh
          cases i <;> cases hg
          all_goals
            simp only [Prod.mk.injEq] at hr
            obtain ⟨rfl, rfl, rfl⟩ := hr
            clear c4
            go_enter Try.func37, Try.ntmps37
            go_wp2_with (first | (go_at_call 33; (with_reducible refine (region_wk K s e a _ _ v _ (wkz HW) HA.out HK.out).mono ?_); rintro e_ w_ ⟨rfl, hw⟩; replace HW := Aside0.mk hw; clear hw z0 z1 z2 z3 z4 p0 p1 p2 p3 p4 p5 p6 p8; obtain ⟨z0, z1, z2, z3, z4⟩ := HW.out.cells; obtain ⟨p0, p1, p2, p3, p4, p5, p6, p8⟩ := HW.out.params) | (go_at_call 60; (with_reducible refine (inClass_wk K s e1 a _ _ v _ (wkz HW) HI.out).mono ?_); rintro e_ w_ ⟨rfl, hw⟩; replace HW := Aside0.mk hw; clear hw z0 z1 z2 z3 z4 p0 p1 p2 p3 p4 p5 p6 p8; obtain ⟨z0, z1, z2, z3, z4⟩ := HW.out.cells; obtain ⟨p0, p1, p2, p3, p4, p5, p6, p8⟩ := HW.out.params) | (go_at_call 61; go_loud ((with_reducible refine (high_wk K s e2 a _ v _ (wkz HW) HH.out).mono ?_); rintro e_ w_ ⟨rfl, hd⟩; replace HW := Aside0.mk (HW.out.below (by first | exact hd | exact hd.below)); clear hd z0 z1 z2 z3 z4 p0 p1 p2 p3 p4 p5 p6 p8; obtain ⟨z0, z1, z2, z3, z4⟩ := HW.out.cells; obtain ⟨p0, p1, p2, p3, p4, p5, p6, p8⟩ := HW.out.params)) | (go_at_call 59; (with_reducible refine (one_wk _ _).mono ?_); rintro e_ w_ ⟨rfl, hd⟩; replace HW := Aside0.mk (HW.out.below (by first | exact hd | exact hd.below)); clear hd z0 z1 z2 z3 z4 p0 p1 p2 p3 p4 p5 p6 p8; obtain ⟨z0, z1, z2, z3, z4⟩ := HW.out.cells; obtain ⟨p0, p1, p2, p3, p4, p5, p6, p8⟩ := HW.out.params) | fail)
            go_ret
            exact ⟨rfl, HW.out⟩
        · rw [if_neg c4] at hr
          have d4 : (b == rd K.ps 2) = false := beq_false_of_ne c4
          clear c4
          by_cases c5 : b = rd K.ps 3
          · rw [if_pos c5] at hr
            have d5 : (b == rd K.ps 3) = true := beq_iff_eq.2 c5
            obtain ⟨i, e2, hi⟩ : ∃ i e2, inS K.bs K.ps K.attrs s e1 a = (i, e2) := ⟨_, _, rfl⟩
            rw [hi] at hr
            have HI := Aside0.mk hi
            simp only at hr
            clear hi
            obtain ⟨hg, hh⟩ : ∃ hg, highS K.ps a = hg := ⟨_, rfl⟩
            rw [hh] at hr
            have HH := Aside0.mk hh
            clear hh
            cases i <;> cases hg
            all_goals
              simp only [Prod.mk.injEq] at hr
              obtain ⟨rfl, rfl, rfl⟩ := hr
              clear c5
              go_enter Try.func37, Try.ntmps37
              go_wp2_with (first | (go_at_call 33; (with_reducible refine (region_wk K s e a _ _ v _ (wkz HW) HA.out HK.out).mono ?_); rintro e_ w_ ⟨rfl, hw⟩; replace HW := Aside0.mk hw; clear hw z0 z1 z2 z3 z4 p0 p1 p2 p3 p4 p5 p6 p8; obtain ⟨z0, z1, z2, z3, z4⟩ := HW.out.cells; obtain ⟨p0, p1, p2, p3, p4, p5, p6, p8⟩ := HW.out.params) | (go_at_call 60; (with_reducible refine (inClass_wk K s e1 a _ _ v _ (wkz HW) HI.out).mono ?_); rintro e_ w_ ⟨rfl, hw⟩; replace HW := Aside0.mk hw; clear hw z0 z1 z2 z3 z4 p0 p1 p2 p3 p4 p5 p6 p8; obtain ⟨z0, z1, z2, z3, z4⟩ := HW.out.cells; obtain ⟨p0, p1, p2, p3, p4, p5, p6, p8⟩ := HW.out.params) | (go_at_call 61; go_loud ((with_reducible refine (high_wk K s e2 a _ v _ (wkz HW) HH.out).mono ?_); rintro e_ w_ ⟨rfl, hd⟩; replace HW := Aside0.mk (HW.out.below (by first | exact hd | exact hd.below)); clear hd z0 z1 z2 z3 z4 p0 p1 p2 p3 p4 p5 p6 p8; obtain ⟨z0, z1, z2, z3, z4⟩ := HW.out.cells; obtain ⟨p0, p1, p2, p3, p4, p5, p6, p8⟩ := HW.out.params)) | (go_at_call 59; (with_reducible refine (one_wk _ _).mono ?_); rintro e_ w_ ⟨rfl, hd⟩; replace HW := Aside0.mk (HW.out.below (by first | exact hd | exact hd.below)); clear hd z0 z1 z2 z3 z4 p0 p1 p2 p3 p4 p5 p6 p8; obtain ⟨z0, z1, z2, z3, z4⟩ := HW.out.cells; obtain ⟨p0, p1, p2, p3, p4, p5, p6, p8⟩ := HW.out.params) | fail)
              go_ret
              exact ⟨rfl, HW.out⟩
          · rw [if_neg c5] at hr
            have d5 : (b == rd K.ps 3) = false := beq_false_of_ne c5
            clear c5
            by_cases c6 : b = rd K.ps 5
            · rw [if_pos (Or.inl c6)] at hr
              have d6 : (b == rd K.ps 5) = true := beq_iff_eq.2 c6
              simp only [Prod.mk.injEq] at hr
              obtain ⟨rfl, rfl, rfl⟩ := hr
              clear c6
              go_enter Try.func37, Try.ntmps37
              go_wp2_with (first | (go_at_call 33; (with_reducible refine (region_wk K s e a _ _ v _ (wkz HW) HA.out HK.out).mono ?_); rintro e_ w_ ⟨rfl, hw⟩; replace HW := Aside0.mk hw; clear hw z0 z1 z2 z3 z4 p0 p1 p2 p3 p4 p5 p6 p8; obtain ⟨z0, z1, z2, z3, z4⟩ := HW.out.cells; obtain ⟨p0, p1, p2, p3, p4, p5, p6, p8⟩ := HW.out.params) | fail)
              go_ret
              exact ⟨rfl, HW.out⟩
            · have d6 : (b == rd K.ps 5) = false := beq_false_of_ne c6
              by_cases c7 : b = rd K.ps 4
              · rw [if_pos (Or.inr c7)] at hr
                have d7 : (b == rd K.ps 4) = true := beq_iff_eq.2 c7
                simp only [Prod.mk.injEq] at hr
                obtain ⟨rfl, rfl, rfl⟩ := hr
                clear c6 c7
                go_enter Try.func37, Try.ntmps37
                go_wp2_with (first | (go_at_call 33; (with_reducible refine (region_wk K s e a _ _ v _ (wkz HW) HA.out HK.out).mono ?_); rintro e_ w_ ⟨rfl, hw⟩; replace HW := Aside0.mk hw; clear hw z0 z1 z2 z3 z4 p0 p1 p2 p3 p4 p5 p6 p8; obtain ⟨z0, z1, z2, z3, z4⟩ := HW.out.cells; obtain ⟨p0, p1, p2, p3, p4, p5, p6, p8⟩ := HW.out.params) | fail)
                go_ret
                exact ⟨rfl, HW.out⟩
              · rw [if_neg (fun h => h.elim c6 c7)] at hr
                have d7 : (b == rd K.ps 4) = false := beq_false_of_ne c7
                clear c6 c7
                obtain ⟨j, e2, hj⟩ : ∃ j e2, inS K.bs K.ps K.attrs s e1 b = (j, e2) := ⟨_, _, rfl⟩
                rw [hj] at hr
                have HJ := Aside0.mk hj
                simp only at hr
                clear hj
                cases j
                · simp only [if_true] at hr
                  simp only [Prod.mk.injEq] at hr
                  obtain ⟨rfl, rfl, rfl⟩ := hr
                  go_enter Try.func37, Try.ntmps37
                  go_wp2_with (first | (go_at_call 33; (with_reducible refine (region_wk K s e a _ _ v _ (wkz HW) HA.out HK.out).mono ?_); rintro e_ w_ ⟨rfl, hw⟩; replace HW := Aside0.mk hw; clear hw z0 z1 z2 z3 z4 p0 p1 p2 p3 p4 p5 p6 p8; obtain ⟨z0, z1, z2, z3, z4⟩ := HW.out.cells; obtain ⟨p0, p1, p2, p3, p4, p5, p6, p8⟩ := HW.out.params) | (go_at_call 60; (with_reducible refine (inClass_wk K s e1 b _ _ v _ (wkz HW) HJ.out).mono ?_); rintro e_ w_ ⟨rfl, hw⟩; replace HW := Aside0.mk hw; clear hw z0 z1 z2 z3 z4 p0 p1 p2 p3 p4 p5 p6 p8; obtain ⟨z0, z1, z2, z3, z4⟩ := HW.out.cells; obtain ⟨p0, p1, p2, p3, p4, p5, p6, p8⟩ := HW.out.params) | (go_at_call 56; (with_reducible refine (wrong_wk K s e2 2 v _ (wkz HW)).mono ?_); rintro e_ w_ ⟨rfl, hw⟩; replace HW := Aside0.mk hw; clear hw z0 z1 z2 z3 z4 p0 p1 p2 p3 p4 p5 p6 p8; obtain ⟨z0, z1, z2, z3, z4⟩ := HW.out.cells; obtain ⟨p0, p1, p2, p3, p4, p5, p6, p8⟩ := HW.out.params) | fail)
                  go_ret
                  exact ⟨rfl, HW.out⟩
                · simp only [Bool.true_eq_false, if_false] at hr
                  obtain ⟨p, s1, e3, hp⟩ : ∃ p s1 e3, propT K.bs K.ps K.attrs s e2 a 2 0 = (p, s1, e3) := ⟨_, _, _, rfl⟩
                  rw [hp] at hr
                  have HP := Aside0.mk hp
                  simp only at hr
                  clear hp
                  by_cases c8 : p = 0
                  · rw [if_pos (Or.inl c8)] at hr
                    simp only [Prod.mk.injEq] at hr
                    obtain ⟨rfl, rfl, rfl⟩ := hr
                    have d8 : (p == 0) = true := beq_iff_eq.2 c8
                    clear c8
                    go_enter Try.func37, Try.ntmps37
                    go_wp2_with (first | (go_at_call 33; (with_reducible refine (region_wk K s e a _ _ v _ (wkz HW) HA.out HK.out).mono ?_); rintro e_ w_ ⟨rfl, hw⟩; replace HW := Aside0.mk hw; clear hw z0 z1 z2 z3 z4 p0 p1 p2 p3 p4 p5 p6 p8; obtain ⟨z0, z1, z2, z3, z4⟩ := HW.out.cells; obtain ⟨p0, p1, p2, p3, p4, p5, p6, p8⟩ := HW.out.params) | (go_at_call 60; (with_reducible refine (inClass_wk K s e1 b _ _ v _ (wkz HW) HJ.out).mono ?_); rintro e_ w_ ⟨rfl, hw⟩; replace HW := Aside0.mk hw; clear hw z0 z1 z2 z3 z4 p0 p1 p2 p3 p4 p5 p6 p8; obtain ⟨z0, z1, z2, z3, z4⟩ := HW.out.cells; obtain ⟨p0, p1, p2, p3, p4, p5, p6, p8⟩ := HW.out.params) | (go_at_call 58; (with_reducible refine (prop_low K s e2 a 2 _ _ _ v _ (wkz HW) HA.out (by omega) HP.out).mono ?_); rintro e_ w_ ⟨rfl, hw⟩; replace HW := Aside0.mk hw; clear hw z0 z1 z2 z3 z4 p0 p1 p2 p3 p4 p5 p6 p8; obtain ⟨z0, z1, z2, z3, z4⟩ := HW.out.cells; obtain ⟨p0, p1, p2, p3, p4, p5, p6, p8⟩ := HW.out.params) | fail)
                    go_ret
                    exact ⟨rfl, HW.out⟩
                  · have d8 : (p == 0) = false := beq_false_of_ne c8
                    cases c9 : badS s1 e3
                    · rw [if_neg (fun h => h.elim c8 (fun h => by rw [c9] at h; cases h))] at hr
                      have HB1 := Aside0.mk c9
                      clear c8 c9
                      obtain ⟨l, e4, hl⟩ : ∃ l e4, readS K.bs s1 e3 ((p + 4) % 4294967296) 4 = (l, e4) := ⟨_, _, rfl⟩
                      rw [hl] at hr
                      have HL := Aside0.mk hl
                      simp only at hr
                      clear hl
                      by_cases c10 : l = 0
                      · rw [if_pos c10] at hr
                        simp only [Prod.mk.injEq] at hr
                        obtain ⟨rfl, rfl, rfl⟩ := hr
                        have d10 : (l == 0) = true := beq_iff_eq.2 c10
                        clear c10
                        go_enter Try.func37, Try.ntmps37
                        go_wp2_with (first | (go_at_call 33; (with_reducible refine (region_wk K s e a _ _ v _ (wkz HW) HA.out HK.out).mono ?_); rintro e_ w_ ⟨rfl, hw⟩; replace HW := Aside0.mk hw; clear hw z0 z1 z2 z3 z4 p0 p1 p2 p3 p4 p5 p6 p8; obtain ⟨z0, z1, z2, z3, z4⟩ := HW.out.cells; obtain ⟨p0, p1, p2, p3, p4, p5, p6, p8⟩ := HW.out.params) | (go_at_call 60; (with_reducible refine (inClass_wk K s e1 b _ _ v _ (wkz HW) HJ.out).mono ?_); rintro e_ w_ ⟨rfl, hw⟩; replace HW := Aside0.mk hw; clear hw z0 z1 z2 z3 z4 p0 p1 p2 p3 p4 p5 p6 p8; obtain ⟨z0, z1, z2, z3, z4⟩ := HW.out.cells; obtain ⟨p0, p1, p2, p3, p4, p5, p6, p8⟩ := HW.out.params) | (go_at_call 58; (with_reducible refine (prop_low K s e2 a 2 _ _ _ v _ (wkz HW) HA.out (by omega) HP.out).mono ?_); rintro e_ w_ ⟨rfl, hw⟩; replace HW := Aside0.mk hw; clear hw z0 z1 z2 z3 z4 p0 p1 p2 p3 p4 p5 p6 p8; obtain ⟨z0, z1, z2, z3, z4⟩ := HW.out.cells; obtain ⟨p0, p1, p2, p3, p4, p5, p6, p8⟩ := HW.out.params) | (go_at_call 40; (with_reducible refine (bad_wk K s1 e3 _ v _ (wkz HW) HB1.out).mono ?_); rintro e_ w_ ⟨rfl, rfl⟩) | (go_at_call 54; (with_reducible refine (read_wk K s1 e3 _ 4 _ _ v _ (wkz HW) (m32 _) HL.out).mono ?_); rintro e_ w_ ⟨rfl, hw⟩; replace HW := Aside0.mk hw; clear hw z0 z1 z2 z3 z4 p0 p1 p2 p3 p4 p5 p6 p8; obtain ⟨z0, z1, z2, z3, z4⟩ := HW.out.cells; obtain ⟨p0, p1, p2, p3, p4, p5, p6, p8⟩ := HW.out.params) | fail)
                        go_ret
                        exact ⟨rfl, HW.out⟩
                      · rw [if_neg c10] at hr
                        have d10 : (l == 0) = false := beq_false_of_ne c10
                        clear c10
                        obtain ⟨n, e5, hn⟩ : ∃ n e5, readS K.bs s1 e4 ((p + 2) % 4294967296) 2 = (n, e5) := ⟨_, _, rfl⟩
                        rw [hn] at hr
                        have HN := Aside0.mk hn
                        have HNR := Aside0.mk (readS_u32 HY.out hn)
                        simp only at hr
                        clear hn
                        obtain ⟨x', e6, hf⟩ : ∃ x' e6, ofL K.bs s1 b l n (n.toNat + 1) 0 e5 = (x', e6) := ⟨_, _, rfl⟩
                        rw [hf] at hr
                        have HF := Aside0.mk hf
                        clear hf
                        simp only [Prod.mk.injEq] at hr
                        obtain ⟨rfl, rfl, rfl⟩ := hr
                        go_enter Try.func37, Try.ntmps37
                        go_wp2_with (first | (go_at_call 33; (with_reducible refine (region_wk K s e a _ _ v _ (wkz HW) HA.out HK.out).mono ?_); rintro e_ w_ ⟨rfl, hw⟩; replace HW := Aside0.mk hw; clear hw z0 z1 z2 z3 z4 p0 p1 p2 p3 p4 p5 p6 p8; obtain ⟨z0, z1, z2, z3, z4⟩ := HW.out.cells; obtain ⟨p0, p1, p2, p3, p4, p5, p6, p8⟩ := HW.out.params) | (go_at_call 60; (with_reducible refine (inClass_wk K s e1 b _ _ v _ (wkz HW) HJ.out).mono ?_); rintro e_ w_ ⟨rfl, hw⟩; replace HW := Aside0.mk hw; clear hw z0 z1 z2 z3 z4 p0 p1 p2 p3 p4 p5 p6 p8; obtain ⟨z0, z1, z2, z3, z4⟩ := HW.out.cells; obtain ⟨p0, p1, p2, p3, p4, p5, p6, p8⟩ := HW.out.params) | (go_at_call 58; (with_reducible refine (prop_low K s e2 a 2 _ _ _ v _ (wkz HW) HA.out (by omega) HP.out).mono ?_); rintro e_ w_ ⟨rfl, hw⟩; replace HW := Aside0.mk hw; clear hw z0 z1 z2 z3 z4 p0 p1 p2 p3 p4 p5 p6 p8; obtain ⟨z0, z1, z2, z3, z4⟩ := HW.out.cells; obtain ⟨p0, p1, p2, p3, p4, p5, p6, p8⟩ := HW.out.params) | (go_at_call 40; (with_reducible refine (bad_wk K s1 e3 _ v _ (wkz HW) HB1.out).mono ?_); rintro e_ w_ ⟨rfl, rfl⟩) | (go_at_call 54; (with_reducible refine (read_wk K s1 e3 _ 4 _ _ v _ (wkz HW) (m32 _) HL.out).mono ?_); rintro e_ w_ ⟨rfl, hw⟩; replace HW := Aside0.mk hw; clear hw z0 z1 z2 z3 z4 p0 p1 p2 p3 p4 p5 p6 p8; obtain ⟨z0, z1, z2, z3, z4⟩ := HW.out.cells; obtain ⟨p0, p1, p2, p3, p4, p5, p6, p8⟩ := HW.out.params) | (go_at_call 54; (with_reducible refine (read_wk K s1 e4 _ 2 _ _ v _ (wkz HW) (m32 _) HN.out).mono ?_); rintro e_ w_ ⟨rfl, hw⟩; replace HW := Aside0.mk hw; clear hw z0 z1 z2 z3 z4 p0 p1 p2 p3 p4 p5 p6 p8; obtain ⟨z0, z1, z2, z3, z4⟩ := HW.out.cells; obtain ⟨p0, p1, p2, p3, p4, p5, p6, p8⟩ := HW.out.params) | fail)
                        go_loopg [10] (n.toNat + 1) (fun kq v10 w' => ∃ i ei : Int, v10 = .int .u32 i ∧ Aside0 (0 ≤ i ∧ i ≤ n ∧ kq = (n - i).toNat + 1) ∧ Aside0 (ofL K.bs s1 b l n kq i ei = (x', e6)) ∧ Aside0 (WK v w' K s1 ei))
                        case atStart => exact ⟨0, e5, rfl, ⟨by have := HNR.out; omega⟩, HF, HW⟩
                        case round =>
                          clear HW HF z0 z1 z2 z3 z4 p0 p1 p2 p3 p4 p5 p6 p8
                          obtain ⟨i, ei, rfl, HI, HF, HW⟩ := hrel
                          obtain ⟨z0, z1, z2, z3, z4⟩ := HW.out.cells; obtain ⟨p0, p1, p2, p3, p4, p5, p6, p8⟩ := HW.out.params
                          have hf := HF.out
                          obtain ⟨kq, rfl⟩ : ∃ j, gk = j + 1 := ⟨gk - 1, by have := HI.out; omega⟩
                          unfold ofL at hf
                          cases cb : badS s1 ei
                          · have HB2 := Aside0.mk cb
                            by_cases c11 : i < n
                            · rw [if_pos ⟨c11, cb⟩] at hf
                              have d11 : decide (i < n) = true := decide_eq_true c11
                              obtain ⟨r, e7, hrd⟩ : ∃ r e7, readS K.bs s1 ei ((l + 4 * i) % 4294967296) 4 = (r, e7) := ⟨_, _, rfl⟩
                              rw [hrd] at hf
                              have HR := Aside0.mk hrd
                              simp only at hf
                              have hnx : (i + 1) % 4294967296 = i + 1 := by have := HI.out; have := HNR.out; omega
                              have HNX := Aside0.mk hnx
                              have HI2 := Aside0.mk (show 0 ≤ i + 1 ∧ i + 1 ≤ n ∧ kq = (n - (i + 1)).toNat + 1 ∧ (n - (i + 1)).toNat + 1 < kq + 1 by have := HI.out; omega)
                              by_cases c12 : r = b
                              · have d12 : (r == b) = true := beq_iff_eq.2 c12
                                cases c13 : badS s1 e7
                                · rw [if_pos ⟨c12, c13⟩] at hf
                                  have HB3 := Aside0.mk c13
                                  simp only [Prod.mk.injEq] at hf
                                  obtain ⟨rfl, rfl⟩ := hf
                                  clear hnx c11 hrd cb c12 c13
                                  go_wp2_with (first | (go_at_call 40; (with_reducible refine (bad_wk K s1 ei _ v _ (wkz HW) HB2.out).mono ?_); rintro e_ w_ ⟨rfl, rfl⟩) | (go_at_call 54; (with_reducible refine (read_wk K s1 ei _ 4 _ _ v _ (wkz HW) (m32 _) HR.out).mono ?_); rintro e_ w_ ⟨rfl, hw⟩; replace HW := Aside0.mk hw; clear hw z0 z1 z2 z3 z4 p0 p1 p2 p3 p4 p5 p6 p8; obtain ⟨z0, z1, z2, z3, z4⟩ := HW.out.cells; obtain ⟨p0, p1, p2, p3, p4, p5, p6, p8⟩ := HW.out.params) | (go_at_call 40; (with_reducible refine (bad_wk K s1 e7 _ v _ (wkz HW) HB3.out).mono ?_); rintro e_ w_ ⟨rfl, rfl⟩) | fail)
                                  go_ret
                                  exact ⟨rfl, HW.out⟩
                                · rw [if_neg (fun h => by rw [c13] at h; cases h.2)] at hf
                                  have HB3 := Aside0.mk c13
                                  clear c12 c13
                                  rw [hnx] at hf
                                  have HF2 := Aside0.mk (HI2.out.2.2.1 ▸ hf)
                                  clear hf hnx c11 hrd cb
                                  go_wp2_with (first | (go_at_call 40; (with_reducible refine (bad_wk K s1 ei _ v _ (wkz HW) HB2.out).mono ?_); rintro e_ w_ ⟨rfl, rfl⟩) | (go_at_call 54; (with_reducible refine (read_wk K s1 ei _ 4 _ _ v _ (wkz HW) (m32 _) HR.out).mono ?_); rintro e_ w_ ⟨rfl, hw⟩; replace HW := Aside0.mk hw; clear hw z0 z1 z2 z3 z4 p0 p1 p2 p3 p4 p5 p6 p8; obtain ⟨z0, z1, z2, z3, z4⟩ := HW.out.cells; obtain ⟨p0, p1, p2, p3, p4, p5, p6, p8⟩ := HW.out.params) | (go_at_call 40; (with_reducible refine (bad_wk K s1 e7 _ v _ (wkz HW) HB3.out).mono ?_); rintro e_ w_ ⟨rfl, rfl⟩) | fail)
                                  go_roundg ((n - (i + 1)).toNat + 1)
                                  case measure => exact HI2.out.2.2.2
                                  case rel => exact ⟨i + 1, e7, by rw [HNX.out], ⟨HI2.out.1, HI2.out.2.1, rfl⟩, HF2, HW⟩
                              · rw [if_neg (fun h => c12 h.1)] at hf
                                have d12 : (r == b) = false := beq_false_of_ne c12
                                clear c12
                                rw [hnx] at hf
                                have HF2 := Aside0.mk (HI2.out.2.2.1 ▸ hf)
                                clear hf hnx c11 hrd cb
                                go_wp2_with (first | (go_at_call 40; (with_reducible refine (bad_wk K s1 ei _ v _ (wkz HW) HB2.out).mono ?_); rintro e_ w_ ⟨rfl, rfl⟩) | (go_at_call 54; (with_reducible refine (read_wk K s1 ei _ 4 _ _ v _ (wkz HW) (m32 _) HR.out).mono ?_); rintro e_ w_ ⟨rfl, hw⟩; replace HW := Aside0.mk hw; clear hw z0 z1 z2 z3 z4 p0 p1 p2 p3 p4 p5 p6 p8; obtain ⟨z0, z1, z2, z3, z4⟩ := HW.out.cells; obtain ⟨p0, p1, p2, p3, p4, p5, p6, p8⟩ := HW.out.params) | (go_at_call 40; (with_reducible refine (bad_wk K s1 e7 _ v _ (wkz HW) HB3.out).mono ?_); rintro e_ w_ ⟨rfl, rfl⟩) | fail)
                                go_roundg ((n - (i + 1)).toNat + 1)
                                case measure => exact HI2.out.2.2.2
                                case rel => exact ⟨i + 1, e7, by rw [HNX.out], ⟨HI2.out.1, HI2.out.2.1, rfl⟩, HF2, HW⟩
                            · rw [if_neg (fun h => c11 h.1)] at hf
                              have d11 : decide (i < n) = false := decide_eq_false c11
                              simp only [Prod.mk.injEq] at hf
                              obtain ⟨rfl, rfl⟩ := hf
                              clear c11 cb
                              go_wp2_with (first | (go_at_call 40; (with_reducible refine (bad_wk K s1 ei _ v _ (wkz HW) HB2.out).mono ?_); rintro e_ w_ ⟨rfl, rfl⟩) | fail)
                              go_ret
                              exact ⟨rfl, HW.out⟩
                          · rw [if_neg (fun h => by rw [cb] at h; cases h.2)] at hf
                            have HB2 := Aside0.mk cb
                            simp only [Prod.mk.injEq] at hf
                            obtain ⟨rfl, rfl⟩ := hf
                            clear cb
                            by_cases c11 : i < n
                            · have d11 : decide (i < n) = true := decide_eq_true c11
                              clear c11
                              go_wp2_with (first | (go_at_call 40; (with_reducible refine (bad_wk K s1 ei _ v _ (wkz HW) HB2.out).mono ?_); rintro e_ w_ ⟨rfl, rfl⟩) | fail)
                              go_ret
                              exact ⟨rfl, HW.out⟩
                            · have d11 : decide (i < n) = false := decide_eq_false c11
                              clear c11
                              go_wp2_with (first | (go_at_call 40; (with_reducible refine (bad_wk K s1 ei _ v _ (wkz HW) HB2.out).mono ?_); rintro e_ w_ ⟨rfl, rfl⟩) | fail)
                              go_ret
                              exact ⟨rfl, HW.out⟩
                    · rw [if_pos (Or.inr c9)] at hr
                      have HB1 := Aside0.mk c9
                      simp only [Prod.mk.injEq] at hr
                      obtain ⟨rfl, rfl, rfl⟩ := hr
                      clear c8 c9
                      go_enter Try.func37, Try.ntmps37
                      go_wp2_with (first | (go_at_call 33; (with_reducible refine (region_wk K s e a _ _ v _ (wkz HW) HA.out HK.out).mono ?_); rintro e_ w_ ⟨rfl, hw⟩; replace HW := Aside0.mk hw; clear hw z0 z1 z2 z3 z4 p0 p1 p2 p3 p4 p5 p6 p8; obtain ⟨z0, z1, z2, z3, z4⟩ := HW.out.cells; obtain ⟨p0, p1, p2, p3, p4, p5, p6, p8⟩ := HW.out.params) | (go_at_call 60; (with_reducible refine (inClass_wk K s e1 b _ _ v _ (wkz HW) HJ.out).mono ?_); rintro e_ w_ ⟨rfl, hw⟩; replace HW := Aside0.mk hw; clear hw z0 z1 z2 z3 z4 p0 p1 p2 p3 p4 p5 p6 p8; obtain ⟨z0, z1, z2, z3, z4⟩ := HW.out.cells; obtain ⟨p0, p1, p2, p3, p4, p5, p6, p8⟩ := HW.out.params) | (go_at_call 58; (with_reducible refine (prop_low K s e2 a 2 _ _ _ v _ (wkz HW) HA.out (by omega) HP.out).mono ?_); rintro e_ w_ ⟨rfl, hw⟩; replace HW := Aside0.mk hw; clear hw z0 z1 z2 z3 z4 p0 p1 p2 p3 p4 p5 p6 p8; obtain ⟨z0, z1, z2, z3, z4⟩ := HW.out.cells; obtain ⟨p0, p1, p2, p3, p4, p5, p6, p8⟩ := HW.out.params) | (go_at_call 40; (with_reducible refine (bad_wk K s1 e3 _ v _ (wkz HW) HB1.out).mono ?_); rintro e_ w_ ⟨rfl, rfl⟩) | fail)
                      go_ret
                      exact ⟨rfl, HW.out⟩
end Go.Proofs.Ytmpiifjckhcbmaa.PQ

/- accel: prop, whole (numbers of seat r18). -/
namespace Go.Proofs.Ytmpiifjckhcbmaa.PQ
open Go.RowKit Go.Proofs.YtmpiifjckhcbmaaW.PrintWords Go.Proofs.YtmpiifjckhcbmaaW.PrintLast Go.Proofs.YtmpiifjckhcbmaaW.PrintMore Go.Proofs.Ytmpiifjckhcbmaa.Z Go.Proofs.Ytmpiifjckhcbmaa.Pure
set_option linter.unusedVariables false
set_option linter.unusedSimpArgs false

theorem and16 (b : Int) (h : 0 ≤ b ∧ b < 4294967296) : Go.bits .and .u32 b 65535 = b % 65536 := by
  obtain ⟨n, rfl⟩ := Int.eq_ofNat_of_zero_le h.1
  have hw : ∀ m : Int, 0 ≤ m → m < 2 ^ 32 → IntKind.u32.wrap m = m := fun m h0 h1 => by rw [IntKind.wrap_u32]; omega
  have e := (bits_nat .u32 32 (by decide) hw n 65535 (by omega) (by omega)).1
  rw [show n &&& 65535 = n % 65536 from Nat.and_two_pow_sub_one_eq_mod n 16] at e
  rw [show (65535 : Int) = ((65535 : Nat) : Int) from rfl, e]
  omega
/-- where a property is told that may be seen: the place, the slip, the error -/
def propS (bs ps : List Int) (attrs slip e a b : Int) : Int × Int × Int :=
  if b < 65536 then propT bs ps attrs slip e a b 0
  else
    let c := readS bs slip e ((rd ps 0 + 4 * (b % 65536)) % 4294967296) 4
    let o := ofS bs ps attrs slip c.2 a c.1
    if o.1 = 0 ∨ badS o.2.1 o.2.2 = true then (0, o.2.1, o.2.2)
    else propT bs ps attrs o.2.1 o.2.2 c.1 (b / 65536) c.1
set_option maxHeartbeats 8000000 in
set_option maxRecDepth 100000 in
theorem prop_high (K : KC) (s e a b x s' e' : Int) (v w : World) (h : WK v w K s e) (ha : 0 ≤ a ∧ a < 4294967296) (hb : 65536 ≤ b ∧ b < 4294967296) (hr : propS K.bs K.ps K.attrs s e a b = (x, s', e')) :
    Calls Try.prog 58 #[.pointer (some ⟨K.g, 0, none⟩), .int .u32 a, .int .u32 b] w (WkTo v K (.int .u32 x) s' e') := by
  have HW := Aside0.mk h
  have HA0 := Aside0.mk ha
  have HBR := Aside0.mk (show 0 ≤ b / 65536 ∧ b / 65536 < 4294967296 by omega)
  have HY := Aside0.mk h.mm.pw.byt
  have HP6 := Aside0.mk (show 0 ≤ rd K.ps 6 ∧ rd K.ps 6 < 4294967296 from h.ok.rd (i := 6) (by omega))
  have d0 : decide (65536 ≤ b) = true := decide_eq_true hb.1
  have hand := and16 b ⟨by omega, hb.2⟩
  obtain ⟨z0, z1, z2, z3, z4⟩ := h.cells
  obtain ⟨p0, p1, p2, p3, p4, p5, p6, p8⟩ := h.params
  unfold propS at hr
  rw [if_neg (by omega)] at hr
  obtain ⟨c, e10, hc⟩ : ∃ c e10, readS K.bs s e ((rd K.ps 0 + 4 * (b % 65536)) % 4294967296) 4 = (c, e10) := ⟨_, _, rfl⟩
  rw [hc] at hr
  have HC := Aside0.mk hc
  have HA := Aside0.mk (readS_u32 HY.out hc)
  simp only at hr
  obtain ⟨o, s11, e11, ho⟩ : ∃ o s11 e11, ofS K.bs K.ps K.attrs s e10 a c = (o, s11, e11) := ⟨_, _, _, rfl⟩
  rw [ho] at hr
  have HF := Aside0.mk ho
  simp only at hr
  clear h ha hb hc ho
  by_cases c20 : o = 0
  · rw [if_pos (Or.inl c20)] at hr
    simp only [Prod.mk.injEq] at hr
    obtain ⟨rfl, rfl, rfl⟩ := hr
    have d20 : (o == 0) = true := beq_iff_eq.2 c20
    clear c20
    go_enter Try.func58, Try.ntmps58
    go_wp2_with (first | (go_at_call 54; (with_reducible refine (read_wk K s e _ 4 _ _ v _ (wkz HW) (m32 _) HC.out).mono ?_); rintro e_ w_ ⟨rfl, hw⟩; replace HW := Aside0.mk hw; clear hw z0 z1 z2 z3 z4 p0 p1 p2 p3 p4 p5 p6 p8; obtain ⟨z0, z1, z2, z3, z4⟩ := HW.out.cells; obtain ⟨p0, p1, p2, p3, p4, p5, p6, p8⟩ := HW.out.params) | (go_at_call 37; (with_reducible refine (of_wk K s e10 a _ _ _ _ v _ (wkz HW) HA0.out HA.out HF.out).mono ?_); rintro e_ w_ ⟨rfl, hw⟩; replace HW := Aside0.mk hw; clear hw z0 z1 z2 z3 z4 p0 p1 p2 p3 p4 p5 p6 p8; obtain ⟨z0, z1, z2, z3, z4⟩ := HW.out.cells; obtain ⟨p0, p1, p2, p3, p4, p5, p6, p8⟩ := HW.out.params) | fail)
    go_ret
    exact ⟨rfl, HW.out⟩
  · have d20 : (o == 0) = false := beq_false_of_ne c20
    cases c21 : badS s11 e11
    · rw [if_neg (fun h => h.elim c20 (fun h => by rw [c21] at h; cases h))] at hr
      have HB0 := Aside0.mk c21
      clear c20 c21
      by_cases cz : c = 0
      · subst cz
        unfold propT at hr
        obtain ⟨p, s1, e1, ht⟩ : ∃ p s1 e1, tabS K.bs K.attrs s11 e11 0 (b / 65536) = (p, s1, e1) := ⟨_, _, _, rfl⟩
        rw [ht] at hr
        have HT := Aside0.mk ht
        simp only at hr
        clear ht
        by_cases c1 : p = 0
        · rw [if_pos (Or.inl c1)] at hr
          simp only [Prod.mk.injEq] at hr
          obtain ⟨rfl, rfl, rfl⟩ := hr
          have d1 : (p == 0) = true := beq_iff_eq.2 c1
          clear c1
          go_enter Try.func58, Try.ntmps58
          go_wp2_with (first | (go_at_call 54; (with_reducible refine (read_wk K s e _ 4 _ _ v _ (wkz HW) (m32 _) HC.out).mono ?_); rintro e_ w_ ⟨rfl, hw⟩; replace HW := Aside0.mk hw; clear hw z0 z1 z2 z3 z4 p0 p1 p2 p3 p4 p5 p6 p8; obtain ⟨z0, z1, z2, z3, z4⟩ := HW.out.cells; obtain ⟨p0, p1, p2, p3, p4, p5, p6, p8⟩ := HW.out.params) | (go_at_call 37; (with_reducible refine (of_wk K s e10 a _ _ _ _ v _ (wkz HW) HA0.out HA.out HF.out).mono ?_); rintro e_ w_ ⟨rfl, hw⟩; replace HW := Aside0.mk hw; clear hw z0 z1 z2 z3 z4 p0 p1 p2 p3 p4 p5 p6 p8; obtain ⟨z0, z1, z2, z3, z4⟩ := HW.out.cells; obtain ⟨p0, p1, p2, p3, p4, p5, p6, p8⟩ := HW.out.params) | (go_at_call 40; (with_reducible refine (bad_wk K s11 e11 _ v _ (wkz HW) HB0.out).mono ?_); rintro e_ w_ ⟨rfl, rfl⟩) | (go_at_call 34; (with_reducible refine (tab_wk K s11 e11 0 (b / 65536) _ _ _ v _ (wkz HW) HA.out HBR.out HT.out).mono ?_); rintro e_ w_ ⟨rfl, hw⟩; replace HW := Aside0.mk hw; clear hw z0 z1 z2 z3 z4 p0 p1 p2 p3 p4 p5 p6 p8; obtain ⟨z0, z1, z2, z3, z4⟩ := HW.out.cells; obtain ⟨p0, p1, p2, p3, p4, p5, p6, p8⟩ := HW.out.params) | fail)
          go_ret
          exact ⟨rfl, HW.out⟩
        · have d1 : (p == 0) = false := beq_false_of_ne c1
          cases c2 : badS s1 e1
          · rw [if_neg (fun h => h.elim c1 (fun h => by rw [c2] at h; cases h))] at hr
            have HB1 := Aside0.mk c2
            simp only [if_true] at hr
            obtain ⟨i, e2, hi⟩ : ∃ i e2, inS K.bs K.ps K.attrs s1 e1 0 = (i, e2) := ⟨_, _, rfl⟩
            rw [hi] at hr
            have HI := Aside0.mk hi
            simp only at hr
            clear hi
            cases i
            · rw [if_neg (fun h => by cases h.1)] at hr
              obtain ⟨r, e3, hrd⟩ : ∃ r e3, readS K.bs s1 e2 (rd K.ps 6) 4 = (r, e3) := ⟨_, _, rfl⟩
              rw [hrd] at hr
              have HR := Aside0.mk hrd
              simp only at hr
              clear hrd
              by_cases c4 : r = 0
              · rw [if_pos c4] at hr
                have d4 : (r != 0) = false := by rw [c4]; exact bne_self_eq_false _
                rw [if_neg (show ¬ (0 : Int) % 2 = 1 by omega)] at hr
                simp only [Prod.mk.injEq] at hr
                obtain ⟨rfl, rfl, rfl⟩ := hr
                clear c1 c2 c4
                go_enter Try.func58, Try.ntmps58
                go_wp2_with (first | (go_at_call 54; (with_reducible refine (read_wk K s e _ 4 _ _ v _ (wkz HW) (m32 _) HC.out).mono ?_); rintro e_ w_ ⟨rfl, hw⟩; replace HW := Aside0.mk hw; clear hw z0 z1 z2 z3 z4 p0 p1 p2 p3 p4 p5 p6 p8; obtain ⟨z0, z1, z2, z3, z4⟩ := HW.out.cells; obtain ⟨p0, p1, p2, p3, p4, p5, p6, p8⟩ := HW.out.params) | (go_at_call 37; (with_reducible refine (of_wk K s e10 a _ _ _ _ v _ (wkz HW) HA0.out HA.out HF.out).mono ?_); rintro e_ w_ ⟨rfl, hw⟩; replace HW := Aside0.mk hw; clear hw z0 z1 z2 z3 z4 p0 p1 p2 p3 p4 p5 p6 p8; obtain ⟨z0, z1, z2, z3, z4⟩ := HW.out.cells; obtain ⟨p0, p1, p2, p3, p4, p5, p6, p8⟩ := HW.out.params) | (go_at_call 40; (with_reducible refine (bad_wk K s11 e11 _ v _ (wkz HW) HB0.out).mono ?_); rintro e_ w_ ⟨rfl, rfl⟩) | (go_at_call 34; (with_reducible refine (tab_wk K s11 e11 0 (b / 65536) _ _ _ v _ (wkz HW) HA.out HBR.out HT.out).mono ?_); rintro e_ w_ ⟨rfl, hw⟩; replace HW := Aside0.mk hw; clear hw z0 z1 z2 z3 z4 p0 p1 p2 p3 p4 p5 p6 p8; obtain ⟨z0, z1, z2, z3, z4⟩ := HW.out.cells; obtain ⟨p0, p1, p2, p3, p4, p5, p6, p8⟩ := HW.out.params) | (go_at_call 40; (with_reducible refine (bad_wk K s1 e1 _ v _ (wkz HW) HB1.out).mono ?_); rintro e_ w_ ⟨rfl, rfl⟩) | (go_at_call 60; (with_reducible refine (inClass_wk K s1 e1 0 _ _ v _ (wkz HW) HI.out).mono ?_); rintro e_ w_ ⟨rfl, hw⟩; replace HW := Aside0.mk hw; clear hw z0 z1 z2 z3 z4 p0 p1 p2 p3 p4 p5 p6 p8; obtain ⟨z0, z1, z2, z3, z4⟩ := HW.out.cells; obtain ⟨p0, p1, p2, p3, p4, p5, p6, p8⟩ := HW.out.params) | (go_at_call 54; (with_reducible refine (read_wk K s1 e2 (rd K.ps 6) 4 _ _ v _ (wkz HW) HP6.out HR.out).mono ?_); rintro e_ w_ ⟨rfl, hw⟩; replace HW := Aside0.mk hw; clear hw z0 z1 z2 z3 z4 p0 p1 p2 p3 p4 p5 p6 p8; obtain ⟨z0, z1, z2, z3, z4⟩ := HW.out.cells; obtain ⟨p0, p1, p2, p3, p4, p5, p6, p8⟩ := HW.out.params) | fail)
                go_ret
                exact ⟨rfl, HW.out⟩
              · rw [if_neg c4] at hr
                have d4 : (r != 0) = true := bne_iff_ne.2 c4
                obtain ⟨q, e4, hq⟩ : ∃ q e4, readS K.bs s1 e3 ((p + 9) % 4294967296) 1 = (q, e4) := ⟨_, _, rfl⟩
                rw [hq] at hr
                have HQ := Aside0.mk hq
                have hbit := bit1 q (readS_u32 HY.out hq)
                simp only at hr
                by_cases c5 : q % 2 = 1
                · rw [if_pos c5] at hr
                  rw [decide_eq_true c5] at hbit
                  simp only [Prod.mk.injEq] at hr
                  obtain ⟨rfl, rfl, rfl⟩ := hr
                  clear c1 c2 c4 c5 hq
                  go_enter Try.func58, Try.ntmps58
                  go_wp2_with (first | (go_at_call 54; (with_reducible refine (read_wk K s e _ 4 _ _ v _ (wkz HW) (m32 _) HC.out).mono ?_); rintro e_ w_ ⟨rfl, hw⟩; replace HW := Aside0.mk hw; clear hw z0 z1 z2 z3 z4 p0 p1 p2 p3 p4 p5 p6 p8; obtain ⟨z0, z1, z2, z3, z4⟩ := HW.out.cells; obtain ⟨p0, p1, p2, p3, p4, p5, p6, p8⟩ := HW.out.params) | (go_at_call 37; (with_reducible refine (of_wk K s e10 a _ _ _ _ v _ (wkz HW) HA0.out HA.out HF.out).mono ?_); rintro e_ w_ ⟨rfl, hw⟩; replace HW := Aside0.mk hw; clear hw z0 z1 z2 z3 z4 p0 p1 p2 p3 p4 p5 p6 p8; obtain ⟨z0, z1, z2, z3, z4⟩ := HW.out.cells; obtain ⟨p0, p1, p2, p3, p4, p5, p6, p8⟩ := HW.out.params) | (go_at_call 40; (with_reducible refine (bad_wk K s11 e11 _ v _ (wkz HW) HB0.out).mono ?_); rintro e_ w_ ⟨rfl, rfl⟩) | (go_at_call 34; (with_reducible refine (tab_wk K s11 e11 0 (b / 65536) _ _ _ v _ (wkz HW) HA.out HBR.out HT.out).mono ?_); rintro e_ w_ ⟨rfl, hw⟩; replace HW := Aside0.mk hw; clear hw z0 z1 z2 z3 z4 p0 p1 p2 p3 p4 p5 p6 p8; obtain ⟨z0, z1, z2, z3, z4⟩ := HW.out.cells; obtain ⟨p0, p1, p2, p3, p4, p5, p6, p8⟩ := HW.out.params) | (go_at_call 40; (with_reducible refine (bad_wk K s1 e1 _ v _ (wkz HW) HB1.out).mono ?_); rintro e_ w_ ⟨rfl, rfl⟩) | (go_at_call 60; (with_reducible refine (inClass_wk K s1 e1 0 _ _ v _ (wkz HW) HI.out).mono ?_); rintro e_ w_ ⟨rfl, hw⟩; replace HW := Aside0.mk hw; clear hw z0 z1 z2 z3 z4 p0 p1 p2 p3 p4 p5 p6 p8; obtain ⟨z0, z1, z2, z3, z4⟩ := HW.out.cells; obtain ⟨p0, p1, p2, p3, p4, p5, p6, p8⟩ := HW.out.params) | (go_at_call 54; (with_reducible refine (read_wk K s1 e2 (rd K.ps 6) 4 _ _ v _ (wkz HW) HP6.out HR.out).mono ?_); rintro e_ w_ ⟨rfl, hw⟩; replace HW := Aside0.mk hw; clear hw z0 z1 z2 z3 z4 p0 p1 p2 p3 p4 p5 p6 p8; obtain ⟨z0, z1, z2, z3, z4⟩ := HW.out.cells; obtain ⟨p0, p1, p2, p3, p4, p5, p6, p8⟩ := HW.out.params) | (go_at_call 54; (with_reducible refine (read_wk K s1 e3 _ 1 _ _ v _ (wkz HW) (m32 _) HQ.out).mono ?_); rintro e_ w_ ⟨rfl, hw⟩; replace HW := Aside0.mk hw; clear hw z0 z1 z2 z3 z4 p0 p1 p2 p3 p4 p5 p6 p8; obtain ⟨z0, z1, z2, z3, z4⟩ := HW.out.cells; obtain ⟨p0, p1, p2, p3, p4, p5, p6, p8⟩ := HW.out.params) | fail)
                  go_ret
                  exact ⟨rfl, HW.out⟩
                · rw [if_neg c5] at hr
                  rw [decide_eq_false c5] at hbit
                  simp only [Prod.mk.injEq] at hr
                  obtain ⟨rfl, rfl, rfl⟩ := hr
                  clear c1 c2 c4 c5 hq
                  go_enter Try.func58, Try.ntmps58
                  go_wp2_with (first | (go_at_call 54; (with_reducible refine (read_wk K s e _ 4 _ _ v _ (wkz HW) (m32 _) HC.out).mono ?_); rintro e_ w_ ⟨rfl, hw⟩; replace HW := Aside0.mk hw; clear hw z0 z1 z2 z3 z4 p0 p1 p2 p3 p4 p5 p6 p8; obtain ⟨z0, z1, z2, z3, z4⟩ := HW.out.cells; obtain ⟨p0, p1, p2, p3, p4, p5, p6, p8⟩ := HW.out.params) | (go_at_call 37; (with_reducible refine (of_wk K s e10 a _ _ _ _ v _ (wkz HW) HA0.out HA.out HF.out).mono ?_); rintro e_ w_ ⟨rfl, hw⟩; replace HW := Aside0.mk hw; clear hw z0 z1 z2 z3 z4 p0 p1 p2 p3 p4 p5 p6 p8; obtain ⟨z0, z1, z2, z3, z4⟩ := HW.out.cells; obtain ⟨p0, p1, p2, p3, p4, p5, p6, p8⟩ := HW.out.params) | (go_at_call 40; (with_reducible refine (bad_wk K s11 e11 _ v _ (wkz HW) HB0.out).mono ?_); rintro e_ w_ ⟨rfl, rfl⟩) | (go_at_call 34; (with_reducible refine (tab_wk K s11 e11 0 (b / 65536) _ _ _ v _ (wkz HW) HA.out HBR.out HT.out).mono ?_); rintro e_ w_ ⟨rfl, hw⟩; replace HW := Aside0.mk hw; clear hw z0 z1 z2 z3 z4 p0 p1 p2 p3 p4 p5 p6 p8; obtain ⟨z0, z1, z2, z3, z4⟩ := HW.out.cells; obtain ⟨p0, p1, p2, p3, p4, p5, p6, p8⟩ := HW.out.params) | (go_at_call 40; (with_reducible refine (bad_wk K s1 e1 _ v _ (wkz HW) HB1.out).mono ?_); rintro e_ w_ ⟨rfl, rfl⟩) | (go_at_call 60; (with_reducible refine (inClass_wk K s1 e1 0 _ _ v _ (wkz HW) HI.out).mono ?_); rintro e_ w_ ⟨rfl, hw⟩; replace HW := Aside0.mk hw; clear hw z0 z1 z2 z3 z4 p0 p1 p2 p3 p4 p5 p6 p8; obtain ⟨z0, z1, z2, z3, z4⟩ := HW.out.cells; obtain ⟨p0, p1, p2, p3, p4, p5, p6, p8⟩ := HW.out.params) | (go_at_call 54; (with_reducible refine (read_wk K s1 e2 (rd K.ps 6) 4 _ _ v _ (wkz HW) HP6.out HR.out).mono ?_); rintro e_ w_ ⟨rfl, hw⟩; replace HW := Aside0.mk hw; clear hw z0 z1 z2 z3 z4 p0 p1 p2 p3 p4 p5 p6 p8; obtain ⟨z0, z1, z2, z3, z4⟩ := HW.out.cells; obtain ⟨p0, p1, p2, p3, p4, p5, p6, p8⟩ := HW.out.params) | (go_at_call 54; (with_reducible refine (read_wk K s1 e3 _ 1 _ _ v _ (wkz HW) (m32 _) HQ.out).mono ?_); rintro e_ w_ ⟨rfl, hw⟩; replace HW := Aside0.mk hw; clear hw z0 z1 z2 z3 z4 p0 p1 p2 p3 p4 p5 p6 p8; obtain ⟨z0, z1, z2, z3, z4⟩ := HW.out.cells; obtain ⟨p0, p1, p2, p3, p4, p5, p6, p8⟩ := HW.out.params) | fail)
                  go_ret
                  exact ⟨rfl, HW.out⟩
            · cases c3 : ownS K.ps (b / 65536)
              · rw [if_pos ⟨rfl, c3⟩] at hr
                have HOW := Aside0.mk c3
                simp only [Prod.mk.injEq] at hr
                obtain ⟨rfl, rfl, rfl⟩ := hr
                clear c1 c2 c3
                go_enter Try.func58, Try.ntmps58
                go_wp2_with (first | (go_at_call 54; (with_reducible refine (read_wk K s e _ 4 _ _ v _ (wkz HW) (m32 _) HC.out).mono ?_); rintro e_ w_ ⟨rfl, hw⟩; replace HW := Aside0.mk hw; clear hw z0 z1 z2 z3 z4 p0 p1 p2 p3 p4 p5 p6 p8; obtain ⟨z0, z1, z2, z3, z4⟩ := HW.out.cells; obtain ⟨p0, p1, p2, p3, p4, p5, p6, p8⟩ := HW.out.params) | (go_at_call 37; (with_reducible refine (of_wk K s e10 a _ _ _ _ v _ (wkz HW) HA0.out HA.out HF.out).mono ?_); rintro e_ w_ ⟨rfl, hw⟩; replace HW := Aside0.mk hw; clear hw z0 z1 z2 z3 z4 p0 p1 p2 p3 p4 p5 p6 p8; obtain ⟨z0, z1, z2, z3, z4⟩ := HW.out.cells; obtain ⟨p0, p1, p2, p3, p4, p5, p6, p8⟩ := HW.out.params) | (go_at_call 40; (with_reducible refine (bad_wk K s11 e11 _ v _ (wkz HW) HB0.out).mono ?_); rintro e_ w_ ⟨rfl, rfl⟩) | (go_at_call 34; (with_reducible refine (tab_wk K s11 e11 0 (b / 65536) _ _ _ v _ (wkz HW) HA.out HBR.out HT.out).mono ?_); rintro e_ w_ ⟨rfl, hw⟩; replace HW := Aside0.mk hw; clear hw z0 z1 z2 z3 z4 p0 p1 p2 p3 p4 p5 p6 p8; obtain ⟨z0, z1, z2, z3, z4⟩ := HW.out.cells; obtain ⟨p0, p1, p2, p3, p4, p5, p6, p8⟩ := HW.out.params) | (go_at_call 40; (with_reducible refine (bad_wk K s1 e1 _ v _ (wkz HW) HB1.out).mono ?_); rintro e_ w_ ⟨rfl, rfl⟩) | (go_at_call 60; (with_reducible refine (inClass_wk K s1 e1 0 _ _ v _ (wkz HW) HI.out).mono ?_); rintro e_ w_ ⟨rfl, hw⟩; replace HW := Aside0.mk hw; clear hw z0 z1 z2 z3 z4 p0 p1 p2 p3 p4 p5 p6 p8; obtain ⟨z0, z1, z2, z3, z4⟩ := HW.out.cells; obtain ⟨p0, p1, p2, p3, p4, p5, p6, p8⟩ := HW.out.params) | (go_at_call 62; (with_reducible refine (own_wk K s1 e2 (b / 65536) _ v _ (wkz HW) HOW.out).mono ?_); rintro e_ w_ ⟨rfl, rfl⟩) | fail)
                go_ret
                exact ⟨rfl, HW.out⟩
              · rw [if_neg (fun h => by rw [c3] at h; cases h.2)] at hr
                have HOW := Aside0.mk c3
                clear c3
                obtain ⟨r, e3, hrd⟩ : ∃ r e3, readS K.bs s1 e2 (rd K.ps 6) 4 = (r, e3) := ⟨_, _, rfl⟩
                rw [hrd] at hr
                have HR := Aside0.mk hrd
                simp only at hr
                clear hrd
                by_cases c4 : r = 0
                · rw [if_pos c4] at hr
                  have d4 : (r != 0) = false := by rw [c4]; exact bne_self_eq_false _
                  rw [if_neg (show ¬ (0 : Int) % 2 = 1 by omega)] at hr
                  simp only [Prod.mk.injEq] at hr
                  obtain ⟨rfl, rfl, rfl⟩ := hr
                  clear c1 c2 c4
                  go_enter Try.func58, Try.ntmps58
                  go_wp2_with (first | (go_at_call 54; (with_reducible refine (read_wk K s e _ 4 _ _ v _ (wkz HW) (m32 _) HC.out).mono ?_); rintro e_ w_ ⟨rfl, hw⟩; replace HW := Aside0.mk hw; clear hw z0 z1 z2 z3 z4 p0 p1 p2 p3 p4 p5 p6 p8; obtain ⟨z0, z1, z2, z3, z4⟩ := HW.out.cells; obtain ⟨p0, p1, p2, p3, p4, p5, p6, p8⟩ := HW.out.params) | (go_at_call 37; (with_reducible refine (of_wk K s e10 a _ _ _ _ v _ (wkz HW) HA0.out HA.out HF.out).mono ?_); rintro e_ w_ ⟨rfl, hw⟩; replace HW := Aside0.mk hw; clear hw z0 z1 z2 z3 z4 p0 p1 p2 p3 p4 p5 p6 p8; obtain ⟨z0, z1, z2, z3, z4⟩ := HW.out.cells; obtain ⟨p0, p1, p2, p3, p4, p5, p6, p8⟩ := HW.out.params) | (go_at_call 40; (with_reducible refine (bad_wk K s11 e11 _ v _ (wkz HW) HB0.out).mono ?_); rintro e_ w_ ⟨rfl, rfl⟩) | (go_at_call 34; (with_reducible refine (tab_wk K s11 e11 0 (b / 65536) _ _ _ v _ (wkz HW) HA.out HBR.out HT.out).mono ?_); rintro e_ w_ ⟨rfl, hw⟩; replace HW := Aside0.mk hw; clear hw z0 z1 z2 z3 z4 p0 p1 p2 p3 p4 p5 p6 p8; obtain ⟨z0, z1, z2, z3, z4⟩ := HW.out.cells; obtain ⟨p0, p1, p2, p3, p4, p5, p6, p8⟩ := HW.out.params) | (go_at_call 40; (with_reducible refine (bad_wk K s1 e1 _ v _ (wkz HW) HB1.out).mono ?_); rintro e_ w_ ⟨rfl, rfl⟩) | (go_at_call 60; (with_reducible refine (inClass_wk K s1 e1 0 _ _ v _ (wkz HW) HI.out).mono ?_); rintro e_ w_ ⟨rfl, hw⟩; replace HW := Aside0.mk hw; clear hw z0 z1 z2 z3 z4 p0 p1 p2 p3 p4 p5 p6 p8; obtain ⟨z0, z1, z2, z3, z4⟩ := HW.out.cells; obtain ⟨p0, p1, p2, p3, p4, p5, p6, p8⟩ := HW.out.params) | (go_at_call 62; (with_reducible refine (own_wk K s1 e2 (b / 65536) _ v _ (wkz HW) HOW.out).mono ?_); rintro e_ w_ ⟨rfl, rfl⟩) | (go_at_call 54; (with_reducible refine (read_wk K s1 e2 (rd K.ps 6) 4 _ _ v _ (wkz HW) HP6.out HR.out).mono ?_); rintro e_ w_ ⟨rfl, hw⟩; replace HW := Aside0.mk hw; clear hw z0 z1 z2 z3 z4 p0 p1 p2 p3 p4 p5 p6 p8; obtain ⟨z0, z1, z2, z3, z4⟩ := HW.out.cells; obtain ⟨p0, p1, p2, p3, p4, p5, p6, p8⟩ := HW.out.params) | fail)
                  go_ret
                  exact ⟨rfl, HW.out⟩
                · rw [if_neg c4] at hr
                  have d4 : (r != 0) = true := bne_iff_ne.2 c4
                  obtain ⟨q, e4, hq⟩ : ∃ q e4, readS K.bs s1 e3 ((p + 9) % 4294967296) 1 = (q, e4) := ⟨_, _, rfl⟩
                  rw [hq] at hr
                  have HQ := Aside0.mk hq
                  have hbit := bit1 q (readS_u32 HY.out hq)
                  simp only at hr
                  by_cases c5 : q % 2 = 1
                  · rw [if_pos c5] at hr
                    rw [decide_eq_true c5] at hbit
                    simp only [Prod.mk.injEq] at hr
                    obtain ⟨rfl, rfl, rfl⟩ := hr
                    clear c1 c2 c4 c5 hq
                    go_enter Try.func58, Try.ntmps58
                    go_wp2_with (first | (go_at_call 54; (with_reducible refine (read_wk K s e _ 4 _ _ v _ (wkz HW) (m32 _) HC.out).mono ?_); rintro e_ w_ ⟨rfl, hw⟩; replace HW := Aside0.mk hw; clear hw z0 z1 z2 z3 z4 p0 p1 p2 p3 p4 p5 p6 p8; obtain ⟨z0, z1, z2, z3, z4⟩ := HW.out.cells; obtain ⟨p0, p1, p2, p3, p4, p5, p6, p8⟩ := HW.out.params) | (go_at_call 37; (with_reducible refine (of_wk K s e10 a _ _ _ _ v _ (wkz HW) HA0.out HA.out HF.out).mono ?_); rintro e_ w_ ⟨rfl, hw⟩; replace HW := Aside0.mk hw; clear hw z0 z1 z2 z3 z4 p0 p1 p2 p3 p4 p5 p6 p8; obtain ⟨z0, z1, z2, z3, z4⟩ := HW.out.cells; obtain ⟨p0, p1, p2, p3, p4, p5, p6, p8⟩ := HW.out.params) | (go_at_call 40; (with_reducible refine (bad_wk K s11 e11 _ v _ (wkz HW) HB0.out).mono ?_); rintro e_ w_ ⟨rfl, rfl⟩) | (go_at_call 34; (with_reducible refine (tab_wk K s11 e11 0 (b / 65536) _ _ _ v _ (wkz HW) HA.out HBR.out HT.out).mono ?_); rintro e_ w_ ⟨rfl, hw⟩; replace HW := Aside0.mk hw; clear hw z0 z1 z2 z3 z4 p0 p1 p2 p3 p4 p5 p6 p8; obtain ⟨z0, z1, z2, z3, z4⟩ := HW.out.cells; obtain ⟨p0, p1, p2, p3, p4, p5, p6, p8⟩ := HW.out.params) | (go_at_call 40; (with_reducible refine (bad_wk K s1 e1 _ v _ (wkz HW) HB1.out).mono ?_); rintro e_ w_ ⟨rfl, rfl⟩) | (go_at_call 60; (with_reducible refine (inClass_wk K s1 e1 0 _ _ v _ (wkz HW) HI.out).mono ?_); rintro e_ w_ ⟨rfl, hw⟩; replace HW := Aside0.mk hw; clear hw z0 z1 z2 z3 z4 p0 p1 p2 p3 p4 p5 p6 p8; obtain ⟨z0, z1, z2, z3, z4⟩ := HW.out.cells; obtain ⟨p0, p1, p2, p3, p4, p5, p6, p8⟩ := HW.out.params) | (go_at_call 62; (with_reducible refine (own_wk K s1 e2 (b / 65536) _ v _ (wkz HW) HOW.out).mono ?_); rintro e_ w_ ⟨rfl, rfl⟩) | (go_at_call 54; (with_reducible refine (read_wk K s1 e2 (rd K.ps 6) 4 _ _ v _ (wkz HW) HP6.out HR.out).mono ?_); rintro e_ w_ ⟨rfl, hw⟩; replace HW := Aside0.mk hw; clear hw z0 z1 z2 z3 z4 p0 p1 p2 p3 p4 p5 p6 p8; obtain ⟨z0, z1, z2, z3, z4⟩ := HW.out.cells; obtain ⟨p0, p1, p2, p3, p4, p5, p6, p8⟩ := HW.out.params) | (go_at_call 54; (with_reducible refine (read_wk K s1 e3 _ 1 _ _ v _ (wkz HW) (m32 _) HQ.out).mono ?_); rintro e_ w_ ⟨rfl, hw⟩; replace HW := Aside0.mk hw; clear hw z0 z1 z2 z3 z4 p0 p1 p2 p3 p4 p5 p6 p8; obtain ⟨z0, z1, z2, z3, z4⟩ := HW.out.cells; obtain ⟨p0, p1, p2, p3, p4, p5, p6, p8⟩ := HW.out.params) | fail)
                    go_ret
                    exact ⟨rfl, HW.out⟩
                  · rw [if_neg c5] at hr
                    rw [decide_eq_false c5] at hbit
                    simp only [Prod.mk.injEq] at hr
                    obtain ⟨rfl, rfl, rfl⟩ := hr
                    clear c1 c2 c4 c5 hq
                    go_enter Try.func58, Try.ntmps58
                    go_wp2_with (first | (go_at_call 54; (with_reducible refine (read_wk K s e _ 4 _ _ v _ (wkz HW) (m32 _) HC.out).mono ?_); rintro e_ w_ ⟨rfl, hw⟩; replace HW := Aside0.mk hw; clear hw z0 z1 z2 z3 z4 p0 p1 p2 p3 p4 p5 p6 p8; obtain ⟨z0, z1, z2, z3, z4⟩ := HW.out.cells; obtain ⟨p0, p1, p2, p3, p4, p5, p6, p8⟩ := HW.out.params) | (go_at_call 37; (with_reducible refine (of_wk K s e10 a _ _ _ _ v _ (wkz HW) HA0.out HA.out HF.out).mono ?_); rintro e_ w_ ⟨rfl, hw⟩; replace HW := Aside0.mk hw; clear hw z0 z1 z2 z3 z4 p0 p1 p2 p3 p4 p5 p6 p8; obtain ⟨z0, z1, z2, z3, z4⟩ := HW.out.cells; obtain ⟨p0, p1, p2, p3, p4, p5, p6, p8⟩ := HW.out.params) | (go_at_call 40; (with_reducible refine (bad_wk K s11 e11 _ v _ (wkz HW) HB0.out).mono ?_); rintro e_ w_ ⟨rfl, rfl⟩) | (go_at_call 34; (with_reducible refine (tab_wk K s11 e11 0 (b / 65536) _ _ _ v _ (wkz HW) HA.out HBR.out HT.out).mono ?_); rintro e_ w_ ⟨rfl, hw⟩; replace HW := Aside0.mk hw; clear hw z0 z1 z2 z3 z4 p0 p1 p2 p3 p4 p5 p6 p8; obtain ⟨z0, z1, z2, z3, z4⟩ := HW.out.cells; obtain ⟨p0, p1, p2, p3, p4, p5, p6, p8⟩ := HW.out.params) | (go_at_call 40; (with_reducible refine (bad_wk K s1 e1 _ v _ (wkz HW) HB1.out).mono ?_); rintro e_ w_ ⟨rfl, rfl⟩) | (go_at_call 60; (with_reducible refine (inClass_wk K s1 e1 0 _ _ v _ (wkz HW) HI.out).mono ?_); rintro e_ w_ ⟨rfl, hw⟩; replace HW := Aside0.mk hw; clear hw z0 z1 z2 z3 z4 p0 p1 p2 p3 p4 p5 p6 p8; obtain ⟨z0, z1, z2, z3, z4⟩ := HW.out.cells; obtain ⟨p0, p1, p2, p3, p4, p5, p6, p8⟩ := HW.out.params) | (go_at_call 62; (with_reducible refine (own_wk K s1 e2 (b / 65536) _ v _ (wkz HW) HOW.out).mono ?_); rintro e_ w_ ⟨rfl, rfl⟩) | (go_at_call 54; (with_reducible refine (read_wk K s1 e2 (rd K.ps 6) 4 _ _ v _ (wkz HW) HP6.out HR.out).mono ?_); rintro e_ w_ ⟨rfl, hw⟩; replace HW := Aside0.mk hw; clear hw z0 z1 z2 z3 z4 p0 p1 p2 p3 p4 p5 p6 p8; obtain ⟨z0, z1, z2, z3, z4⟩ := HW.out.cells; obtain ⟨p0, p1, p2, p3, p4, p5, p6, p8⟩ := HW.out.params) | (go_at_call 54; (with_reducible refine (read_wk K s1 e3 _ 1 _ _ v _ (wkz HW) (m32 _) HQ.out).mono ?_); rintro e_ w_ ⟨rfl, hw⟩; replace HW := Aside0.mk hw; clear hw z0 z1 z2 z3 z4 p0 p1 p2 p3 p4 p5 p6 p8; obtain ⟨z0, z1, z2, z3, z4⟩ := HW.out.cells; obtain ⟨p0, p1, p2, p3, p4, p5, p6, p8⟩ := HW.out.params) | fail)
                    go_ret
                    exact ⟨rfl, HW.out⟩
          · rw [if_pos (Or.inr c2)] at hr
            have HB1 := Aside0.mk c2
            simp only [Prod.mk.injEq] at hr
            obtain ⟨rfl, rfl, rfl⟩ := hr
            clear c1 c2
            go_enter Try.func58, Try.ntmps58
            go_wp2_with (first | (go_at_call 54; (with_reducible refine (read_wk K s e _ 4 _ _ v _ (wkz HW) (m32 _) HC.out).mono ?_); rintro e_ w_ ⟨rfl, hw⟩; replace HW := Aside0.mk hw; clear hw z0 z1 z2 z3 z4 p0 p1 p2 p3 p4 p5 p6 p8; obtain ⟨z0, z1, z2, z3, z4⟩ := HW.out.cells; obtain ⟨p0, p1, p2, p3, p4, p5, p6, p8⟩ := HW.out.params) | (go_at_call 37; (with_reducible refine (of_wk K s e10 a _ _ _ _ v _ (wkz HW) HA0.out HA.out HF.out).mono ?_); rintro e_ w_ ⟨rfl, hw⟩; replace HW := Aside0.mk hw; clear hw z0 z1 z2 z3 z4 p0 p1 p2 p3 p4 p5 p6 p8; obtain ⟨z0, z1, z2, z3, z4⟩ := HW.out.cells; obtain ⟨p0, p1, p2, p3, p4, p5, p6, p8⟩ := HW.out.params) | (go_at_call 40; (with_reducible refine (bad_wk K s11 e11 _ v _ (wkz HW) HB0.out).mono ?_); rintro e_ w_ ⟨rfl, rfl⟩) | (go_at_call 34; (with_reducible refine (tab_wk K s11 e11 0 (b / 65536) _ _ _ v _ (wkz HW) HA.out HBR.out HT.out).mono ?_); rintro e_ w_ ⟨rfl, hw⟩; replace HW := Aside0.mk hw; clear hw z0 z1 z2 z3 z4 p0 p1 p2 p3 p4 p5 p6 p8; obtain ⟨z0, z1, z2, z3, z4⟩ := HW.out.cells; obtain ⟨p0, p1, p2, p3, p4, p5, p6, p8⟩ := HW.out.params) | (go_at_call 40; (with_reducible refine (bad_wk K s1 e1 _ v _ (wkz HW) HB1.out).mono ?_); rintro e_ w_ ⟨rfl, rfl⟩) | fail)
            go_ret
            exact ⟨rfl, HW.out⟩
      · have dz : (c == 0) = false := beq_false_of_ne cz
        unfold propT at hr
        obtain ⟨p, s1, e1, ht⟩ : ∃ p s1 e1, tabS K.bs K.attrs s11 e11 c (b / 65536) = (p, s1, e1) := ⟨_, _, _, rfl⟩
        rw [ht] at hr
        have HT := Aside0.mk ht
        simp only at hr
        clear ht
        by_cases c1 : p = 0
        · rw [if_pos (Or.inl c1)] at hr
          simp only [Prod.mk.injEq] at hr
          obtain ⟨rfl, rfl, rfl⟩ := hr
          have d1 : (p == 0) = true := beq_iff_eq.2 c1
          clear c1
          go_enter Try.func58, Try.ntmps58
          go_wp2_with (first | (go_at_call 54; (with_reducible refine (read_wk K s e _ 4 _ _ v _ (wkz HW) (m32 _) HC.out).mono ?_); rintro e_ w_ ⟨rfl, hw⟩; replace HW := Aside0.mk hw; clear hw z0 z1 z2 z3 z4 p0 p1 p2 p3 p4 p5 p6 p8; obtain ⟨z0, z1, z2, z3, z4⟩ := HW.out.cells; obtain ⟨p0, p1, p2, p3, p4, p5, p6, p8⟩ := HW.out.params) | (go_at_call 37; (with_reducible refine (of_wk K s e10 a _ _ _ _ v _ (wkz HW) HA0.out HA.out HF.out).mono ?_); rintro e_ w_ ⟨rfl, hw⟩; replace HW := Aside0.mk hw; clear hw z0 z1 z2 z3 z4 p0 p1 p2 p3 p4 p5 p6 p8; obtain ⟨z0, z1, z2, z3, z4⟩ := HW.out.cells; obtain ⟨p0, p1, p2, p3, p4, p5, p6, p8⟩ := HW.out.params) | (go_at_call 40; (with_reducible refine (bad_wk K s11 e11 _ v _ (wkz HW) HB0.out).mono ?_); rintro e_ w_ ⟨rfl, rfl⟩) | (go_at_call 34; (with_reducible refine (tab_wk K s11 e11 c (b / 65536) _ _ _ v _ (wkz HW) HA.out HBR.out HT.out).mono ?_); rintro e_ w_ ⟨rfl, hw⟩; replace HW := Aside0.mk hw; clear hw z0 z1 z2 z3 z4 p0 p1 p2 p3 p4 p5 p6 p8; obtain ⟨z0, z1, z2, z3, z4⟩ := HW.out.cells; obtain ⟨p0, p1, p2, p3, p4, p5, p6, p8⟩ := HW.out.params) | fail)
          go_ret
          exact ⟨rfl, HW.out⟩
        · have d1 : (p == 0) = false := beq_false_of_ne c1
          cases c2 : badS s1 e1
          · rw [if_neg (fun h => h.elim c1 (fun h => by rw [c2] at h; cases h))] at hr
            have HB1 := Aside0.mk c2
            rw [if_neg cz, if_neg (fun h => by cases h.1)] at hr
            simp only at hr
            obtain ⟨r, e3, hrd⟩ : ∃ r e3, readS K.bs s1 e1 (rd K.ps 6) 4 = (r, e3) := ⟨_, _, rfl⟩
            rw [hrd] at hr
            have HR := Aside0.mk hrd
            simp only at hr
            clear hrd
            by_cases c4 : r = c
            · rw [if_pos c4] at hr
              have d4 : (r != c) = false := by rw [c4]; exact bne_self_eq_false _
              rw [if_neg (show ¬ (0 : Int) % 2 = 1 by omega)] at hr
              simp only [Prod.mk.injEq] at hr
              obtain ⟨rfl, rfl, rfl⟩ := hr
              clear c1 c2 c4
              go_enter Try.func58, Try.ntmps58
              go_wp2_with (first | (go_at_call 54; (with_reducible refine (read_wk K s e _ 4 _ _ v _ (wkz HW) (m32 _) HC.out).mono ?_); rintro e_ w_ ⟨rfl, hw⟩; replace HW := Aside0.mk hw; clear hw z0 z1 z2 z3 z4 p0 p1 p2 p3 p4 p5 p6 p8; obtain ⟨z0, z1, z2, z3, z4⟩ := HW.out.cells; obtain ⟨p0, p1, p2, p3, p4, p5, p6, p8⟩ := HW.out.params) | (go_at_call 37; (with_reducible refine (of_wk K s e10 a _ _ _ _ v _ (wkz HW) HA0.out HA.out HF.out).mono ?_); rintro e_ w_ ⟨rfl, hw⟩; replace HW := Aside0.mk hw; clear hw z0 z1 z2 z3 z4 p0 p1 p2 p3 p4 p5 p6 p8; obtain ⟨z0, z1, z2, z3, z4⟩ := HW.out.cells; obtain ⟨p0, p1, p2, p3, p4, p5, p6, p8⟩ := HW.out.params) | (go_at_call 40; (with_reducible refine (bad_wk K s11 e11 _ v _ (wkz HW) HB0.out).mono ?_); rintro e_ w_ ⟨rfl, rfl⟩) | (go_at_call 34; (with_reducible refine (tab_wk K s11 e11 c (b / 65536) _ _ _ v _ (wkz HW) HA.out HBR.out HT.out).mono ?_); rintro e_ w_ ⟨rfl, hw⟩; replace HW := Aside0.mk hw; clear hw z0 z1 z2 z3 z4 p0 p1 p2 p3 p4 p5 p6 p8; obtain ⟨z0, z1, z2, z3, z4⟩ := HW.out.cells; obtain ⟨p0, p1, p2, p3, p4, p5, p6, p8⟩ := HW.out.params) | (go_at_call 40; (with_reducible refine (bad_wk K s1 e1 _ v _ (wkz HW) HB1.out).mono ?_); rintro e_ w_ ⟨rfl, rfl⟩) | (go_at_call 54; (with_reducible refine (read_wk K s1 e1 (rd K.ps 6) 4 _ _ v _ (wkz HW) HP6.out HR.out).mono ?_); rintro e_ w_ ⟨rfl, hw⟩; replace HW := Aside0.mk hw; clear hw z0 z1 z2 z3 z4 p0 p1 p2 p3 p4 p5 p6 p8; obtain ⟨z0, z1, z2, z3, z4⟩ := HW.out.cells; obtain ⟨p0, p1, p2, p3, p4, p5, p6, p8⟩ := HW.out.params) | fail)
              go_ret
              exact ⟨rfl, HW.out⟩
            · rw [if_neg c4] at hr
              have d4 : (r != c) = true := bne_iff_ne.2 c4
              obtain ⟨q, e4, hq⟩ : ∃ q e4, readS K.bs s1 e3 ((p + 9) % 4294967296) 1 = (q, e4) := ⟨_, _, rfl⟩
              rw [hq] at hr
              have HQ := Aside0.mk hq
              have hbit := bit1 q (readS_u32 HY.out hq)
              simp only at hr
              by_cases c5 : q % 2 = 1
              · rw [if_pos c5] at hr
                rw [decide_eq_true c5] at hbit
                simp only [Prod.mk.injEq] at hr
                obtain ⟨rfl, rfl, rfl⟩ := hr
                clear c1 c2 c4 c5 hq
                go_enter Try.func58, Try.ntmps58
                go_wp2_with (first | (go_at_call 54; (with_reducible refine (read_wk K s e _ 4 _ _ v _ (wkz HW) (m32 _) HC.out).mono ?_); rintro e_ w_ ⟨rfl, hw⟩; replace HW := Aside0.mk hw; clear hw z0 z1 z2 z3 z4 p0 p1 p2 p3 p4 p5 p6 p8; obtain ⟨z0, z1, z2, z3, z4⟩ := HW.out.cells; obtain ⟨p0, p1, p2, p3, p4, p5, p6, p8⟩ := HW.out.params) | (go_at_call 37; (with_reducible refine (of_wk K s e10 a _ _ _ _ v _ (wkz HW) HA0.out HA.out HF.out).mono ?_); rintro e_ w_ ⟨rfl, hw⟩; replace HW := Aside0.mk hw; clear hw z0 z1 z2 z3 z4 p0 p1 p2 p3 p4 p5 p6 p8; obtain ⟨z0, z1, z2, z3, z4⟩ := HW.out.cells; obtain ⟨p0, p1, p2, p3, p4, p5, p6, p8⟩ := HW.out.params) | (go_at_call 40; (with_reducible refine (bad_wk K s11 e11 _ v _ (wkz HW) HB0.out).mono ?_); rintro e_ w_ ⟨rfl, rfl⟩) | (go_at_call 34; (with_reducible refine (tab_wk K s11 e11 c (b / 65536) _ _ _ v _ (wkz HW) HA.out HBR.out HT.out).mono ?_); rintro e_ w_ ⟨rfl, hw⟩; replace HW := Aside0.mk hw; clear hw z0 z1 z2 z3 z4 p0 p1 p2 p3 p4 p5 p6 p8; obtain ⟨z0, z1, z2, z3, z4⟩ := HW.out.cells; obtain ⟨p0, p1, p2, p3, p4, p5, p6, p8⟩ := HW.out.params) | (go_at_call 40; (with_reducible refine (bad_wk K s1 e1 _ v _ (wkz HW) HB1.out).mono ?_); rintro e_ w_ ⟨rfl, rfl⟩) | (go_at_call 54; (with_reducible refine (read_wk K s1 e1 (rd K.ps 6) 4 _ _ v _ (wkz HW) HP6.out HR.out).mono ?_); rintro e_ w_ ⟨rfl, hw⟩; replace HW := Aside0.mk hw; clear hw z0 z1 z2 z3 z4 p0 p1 p2 p3 p4 p5 p6 p8; obtain ⟨z0, z1, z2, z3, z4⟩ := HW.out.cells; obtain ⟨p0, p1, p2, p3, p4, p5, p6, p8⟩ := HW.out.params) | (go_at_call 54; (with_reducible refine (read_wk K s1 e3 _ 1 _ _ v _ (wkz HW) (m32 _) HQ.out).mono ?_); rintro e_ w_ ⟨rfl, hw⟩; replace HW := Aside0.mk hw; clear hw z0 z1 z2 z3 z4 p0 p1 p2 p3 p4 p5 p6 p8; obtain ⟨z0, z1, z2, z3, z4⟩ := HW.out.cells; obtain ⟨p0, p1, p2, p3, p4, p5, p6, p8⟩ := HW.out.params) | fail)
                go_ret
                exact ⟨rfl, HW.out⟩
              · rw [if_neg c5] at hr
                rw [decide_eq_false c5] at hbit
                simp only [Prod.mk.injEq] at hr
                obtain ⟨rfl, rfl, rfl⟩ := hr
                clear c1 c2 c4 c5 hq
                go_enter Try.func58, Try.ntmps58
                go_wp2_with (first | (go_at_call 54; (with_reducible refine (read_wk K s e _ 4 _ _ v _ (wkz HW) (m32 _) HC.out).mono ?_); rintro e_ w_ ⟨rfl, hw⟩; replace HW := Aside0.mk hw; clear hw z0 z1 z2 z3 z4 p0 p1 p2 p3 p4 p5 p6 p8; obtain ⟨z0, z1, z2, z3, z4⟩ := HW.out.cells; obtain ⟨p0, p1, p2, p3, p4, p5, p6, p8⟩ := HW.out.params) | (go_at_call 37; (with_reducible refine (of_wk K s e10 a _ _ _ _ v _ (wkz HW) HA0.out HA.out HF.out).mono ?_); rintro e_ w_ ⟨rfl, hw⟩; replace HW := Aside0.mk hw; clear hw z0 z1 z2 z3 z4 p0 p1 p2 p3 p4 p5 p6 p8; obtain ⟨z0, z1, z2, z3, z4⟩ := HW.out.cells; obtain ⟨p0, p1, p2, p3, p4, p5, p6, p8⟩ := HW.out.params) | (go_at_call 40; (with_reducible refine (bad_wk K s11 e11 _ v _ (wkz HW) HB0.out).mono ?_); rintro e_ w_ ⟨rfl, rfl⟩) | (go_at_call 34; (with_reducible refine (tab_wk K s11 e11 c (b / 65536) _ _ _ v _ (wkz HW) HA.out HBR.out HT.out).mono ?_); rintro e_ w_ ⟨rfl, hw⟩; replace HW := Aside0.mk hw; clear hw z0 z1 z2 z3 z4 p0 p1 p2 p3 p4 p5 p6 p8; obtain ⟨z0, z1, z2, z3, z4⟩ := HW.out.cells; obtain ⟨p0, p1, p2, p3, p4, p5, p6, p8⟩ := HW.out.params) | (go_at_call 40; (with_reducible refine (bad_wk K s1 e1 _ v _ (wkz HW) HB1.out).mono ?_); rintro e_ w_ ⟨rfl, rfl⟩) | (go_at_call 54; (with_reducible refine (read_wk K s1 e1 (rd K.ps 6) 4 _ _ v _ (wkz HW) HP6.out HR.out).mono ?_); rintro e_ w_ ⟨rfl, hw⟩; replace HW := Aside0.mk hw; clear hw z0 z1 z2 z3 z4 p0 p1 p2 p3 p4 p5 p6 p8; obtain ⟨z0, z1, z2, z3, z4⟩ := HW.out.cells; obtain ⟨p0, p1, p2, p3, p4, p5, p6, p8⟩ := HW.out.params) | (go_at_call 54; (with_reducible refine (read_wk K s1 e3 _ 1 _ _ v _ (wkz HW) (m32 _) HQ.out).mono ?_); rintro e_ w_ ⟨rfl, hw⟩; replace HW := Aside0.mk hw; clear hw z0 z1 z2 z3 z4 p0 p1 p2 p3 p4 p5 p6 p8; obtain ⟨z0, z1, z2, z3, z4⟩ := HW.out.cells; obtain ⟨p0, p1, p2, p3, p4, p5, p6, p8⟩ := HW.out.params) | fail)
                go_ret
                exact ⟨rfl, HW.out⟩
          · rw [if_pos (Or.inr c2)] at hr
            have HB1 := Aside0.mk c2
            simp only [Prod.mk.injEq] at hr
            obtain ⟨rfl, rfl, rfl⟩ := hr
            clear c1 c2
            go_enter Try.func58, Try.ntmps58
            go_wp2_with (first | (go_at_call 54; (with_reducible refine (read_wk K s e _ 4 _ _ v _ (wkz HW) (m32 _) HC.out).mono ?_); rintro e_ w_ ⟨rfl, hw⟩; replace HW := Aside0.mk hw; clear hw z0 z1 z2 z3 z4 p0 p1 p2 p3 p4 p5 p6 p8; obtain ⟨z0, z1, z2, z3, z4⟩ := HW.out.cells; obtain ⟨p0, p1, p2, p3, p4, p5, p6, p8⟩ := HW.out.params) | (go_at_call 37; (with_reducible refine (of_wk K s e10 a _ _ _ _ v _ (wkz HW) HA0.out HA.out HF.out).mono ?_); rintro e_ w_ ⟨rfl, hw⟩; replace HW := Aside0.mk hw; clear hw z0 z1 z2 z3 z4 p0 p1 p2 p3 p4 p5 p6 p8; obtain ⟨z0, z1, z2, z3, z4⟩ := HW.out.cells; obtain ⟨p0, p1, p2, p3, p4, p5, p6, p8⟩ := HW.out.params) | (go_at_call 40; (with_reducible refine (bad_wk K s11 e11 _ v _ (wkz HW) HB0.out).mono ?_); rintro e_ w_ ⟨rfl, rfl⟩) | (go_at_call 34; (with_reducible refine (tab_wk K s11 e11 c (b / 65536) _ _ _ v _ (wkz HW) HA.out HBR.out HT.out).mono ?_); rintro e_ w_ ⟨rfl, hw⟩; replace HW := Aside0.mk hw; clear hw z0 z1 z2 z3 z4 p0 p1 p2 p3 p4 p5 p6 p8; obtain ⟨z0, z1, z2, z3, z4⟩ := HW.out.cells; obtain ⟨p0, p1, p2, p3, p4, p5, p6, p8⟩ := HW.out.params) | (go_at_call 40; (with_reducible refine (bad_wk K s1 e1 _ v _ (wkz HW) HB1.out).mono ?_); rintro e_ w_ ⟨rfl, rfl⟩) | fail)
            go_ret
            exact ⟨rfl, HW.out⟩
    · rw [if_pos (Or.inr c21)] at hr
      have HB0 := Aside0.mk c21
      simp only [Prod.mk.injEq] at hr
      obtain ⟨rfl, rfl, rfl⟩ := hr
      clear c20 c21
      go_enter Try.func58, Try.ntmps58
      go_wp2_with (first | (go_at_call 54; (with_reducible refine (read_wk K s e _ 4 _ _ v _ (wkz HW) (m32 _) HC.out).mono ?_); rintro e_ w_ ⟨rfl, hw⟩; replace HW := Aside0.mk hw; clear hw z0 z1 z2 z3 z4 p0 p1 p2 p3 p4 p5 p6 p8; obtain ⟨z0, z1, z2, z3, z4⟩ := HW.out.cells; obtain ⟨p0, p1, p2, p3, p4, p5, p6, p8⟩ := HW.out.params) | (go_at_call 37; (with_reducible refine (of_wk K s e10 a _ _ _ _ v _ (wkz HW) HA0.out HA.out HF.out).mono ?_); rintro e_ w_ ⟨rfl, hw⟩; replace HW := Aside0.mk hw; clear hw z0 z1 z2 z3 z4 p0 p1 p2 p3 p4 p5 p6 p8; obtain ⟨z0, z1, z2, z3, z4⟩ := HW.out.cells; obtain ⟨p0, p1, p2, p3, p4, p5, p6, p8⟩ := HW.out.params) | (go_at_call 40; (with_reducible refine (bad_wk K s11 e11 _ v _ (wkz HW) HB0.out).mono ?_); rintro e_ w_ ⟨rfl, rfl⟩) | fail)
      go_ret
      exact ⟨rfl, HW.out⟩
theorem prop_wk (K : KC) (s e a b x s' e' : Int) (v w : World) (h : WK v w K s e) (ha : 0 ≤ a ∧ a < 4294967296) (hb : 0 ≤ b ∧ b < 4294967296) (hr : propS K.bs K.ps K.attrs s e a b = (x, s', e')) :
    Calls Try.prog 58 #[.pointer (some ⟨K.g, 0, none⟩), .int .u32 a, .int .u32 b] w (WkTo v K (.int .u32 x) s' e') := by
  by_cases c : b < 65536
  · unfold propS at hr
    rw [if_pos c] at hr
    exact prop_low K s e a b x s' e' v w h ha ⟨hb.1, c⟩ hr
  · exact prop_high K s e a b x s' e' v w h ha ⟨by omega, hb.2⟩ hr
end Go.Proofs.Ytmpiifjckhcbmaa.PQ

/- accel: addr, length, value, has (numbers of seat r18). -/
namespace Go.Proofs.Ytmpiifjckhcbmaa.PQ
open Go.RowKit Go.Proofs.YtmpiifjckhcbmaaW.PrintWords Go.Proofs.YtmpiifjckhcbmaaW.PrintLast Go.Proofs.YtmpiifjckhcbmaaW.PrintMore Go.Proofs.Ytmpiifjckhcbmaa.Z Go.Proofs.Ytmpiifjckhcbmaa.Pure
set_option linter.unusedVariables false
set_option linter.unusedSimpArgs false

/-- where a property's numbers lie: the place, the slip, the error -/
def addrS (bs ps : List Int) (attrs slip e a b : Int) : Int × Int × Int :=
  let p := propS bs ps attrs slip e a b
  if p.1 ≠ 0 ∧ badS p.2.1 p.2.2 = false then ((readS bs p.2.1 p.2.2 ((p.1 + 4) % 4294967296) 4).1, p.2.1, (readS bs p.2.1 p.2.2 ((p.1 + 4) % 4294967296) 4).2)
  else (0, p.2.1, p.2.2)
/-- how many bytes a property has -/
def lenS (bs ps : List Int) (attrs slip e a b : Int) : Int × Int × Int :=
  let p := propS bs ps attrs slip e a b
  if p.1 ≠ 0 ∧ badS p.2.1 p.2.2 = false then (4 * (readS bs p.2.1 p.2.2 ((p.1 + 2) % 4294967296) 2).1 % 4294967296, p.2.1, (readS bs p.2.1 p.2.2 ((p.1 + 2) % 4294967296) 2).2)
  else (0, p.2.1, p.2.2)
/-- a property's first number -/
def valueS (bs ps : List Int) (attrs slip e a b : Int) : Int × Int × Int :=
  let x := addrS bs ps attrs slip e a b
  if badS x.2.1 x.2.2 = true then (0, x.2.1, x.2.2)
  else if x.1 ≠ 0 then ((readS bs x.2.1 x.2.2 x.1 4).1, x.2.1, (readS bs x.2.1 x.2.2 x.1 4).2)
  else if 0 < b ∧ b < rd ps 1 then ((readS bs x.2.1 x.2.2 ((rd ps 8 + 4 * b) % 4294967296) 4).1, x.2.1, (readS bs x.2.1 x.2.2 ((rd ps 8 + 4 * b) % 4294967296) 4).2)
  else (0, wrongS x.2.1 x.2.2 3, x.2.2)
/-- has it a property? -/
def hasS (bs ps : List Int) (attrs slip e a b : Int) : Int × Int × Int :=
  let k := regionS bs slip e a
  if k.1 = 3 then (oneS (b == (rd ps 1 + 6) % 4294967296 || b == (rd ps 1 + 7) % 4294967296), slip, k.2)
  else if k.1 = 2 then (oneS (b == (rd ps 1 + 5) % 4294967296), slip, k.2)
  else if k.1 = 0 then (0, slip, k.2)
  else
    let i := if ownS ps b = true then inS bs ps attrs slip k.2 a else (false, k.2)
    if i.1 = true then (1, slip, i.2)
    else
      let x := addrS bs ps attrs slip i.2 a b
      (oneS (x.1 != 0), x.2.1, x.2.2)
theorem addrS_u32 {bs ps : List Int} (hb : Byt bs) {attrs s e a b x s' e' : Int} (h : addrS bs ps attrs s e a b = (x, s', e')) : 0 ≤ x ∧ x < 4294967296 := by
  unfold addrS at h
  simp only at h
  split at h
  · simp only [Prod.mk.injEq] at h
    rw [← h.1]
    exact readS_u32 (e' := (readS bs (propS bs ps attrs s e a b).2.1 (propS bs ps attrs s e a b).2.2 (((propS bs ps attrs s e a b).1 + 4) % 4294967296) 4).2) hb rfl
  · simp only [Prod.mk.injEq] at h
    omega
set_option maxHeartbeats 8000000 in
set_option maxRecDepth 100000 in
theorem addr_wk (K : KC) (s e a b x s' e' : Int) (v w : World) (h : WK v w K s e) (ha : 0 ≤ a ∧ a < 4294967296) (hb : 0 ≤ b ∧ b < 4294967296) (hr : addrS K.bs K.ps K.attrs s e a b = (x, s', e')) :
    Calls Try.prog 35 #[.pointer (some ⟨K.g, 0, none⟩), .int .u32 a, .int .u32 b] w (WkTo v K (.int .u32 x) s' e') := by
  have HW := Aside0.mk h
  have HA := Aside0.mk ha
  have HB := Aside0.mk hb
  have HY := Aside0.mk h.mm.pw.byt
  obtain ⟨z0, z1, z2, z3, z4⟩ := h.cells
  obtain ⟨p0, p1, p2, p3, p4, p5, p6, p8⟩ := h.params
  clear h ha hb
  unfold addrS at hr
  obtain ⟨p, s1, e1, hp⟩ : ∃ p s1 e1, propS K.bs K.ps K.attrs s e a b = (p, s1, e1) := ⟨_, _, _, rfl⟩
  rw [hp] at hr
  have HP := Aside0.mk hp
  simp only at hr
  clear hp
  by_cases c1 : p = 0
  · rw [if_neg (fun h => h.1 c1)] at hr
    have d1 : (p != 0) = false := by rw [c1]; rfl
    simp only [Prod.mk.injEq] at hr
    obtain ⟨rfl, rfl, rfl⟩ := hr
    clear c1
    go_enter Try.func35, Try.ntmps35
    go_wp2_with (first | (go_at_call 58; (with_reducible refine (prop_wk K s e a b _ _ _ v _ (wkz HW) HA.out HB.out HP.out).mono ?_); rintro e_ w_ ⟨rfl, hw⟩; replace HW := Aside0.mk hw; clear hw z0 z1 z2 z3 z4 p0 p1 p2 p3 p4 p5 p6 p8; obtain ⟨z0, z1, z2, z3, z4⟩ := HW.out.cells; obtain ⟨p0, p1, p2, p3, p4, p5, p6, p8⟩ := HW.out.params) | fail)
    go_ret
    exact ⟨rfl, HW.out⟩
  · have d1 : (p != 0) = true := bne_iff_ne.2 c1
    cases c2 : badS s1 e1
    · rw [if_pos ⟨c1, c2⟩] at hr
      have HB1 := Aside0.mk c2
      obtain ⟨r, e2, hrd⟩ : ∃ r e2, readS K.bs s1 e1 ((p + 4) % 4294967296) 4 = (r, e2) := ⟨_, _, rfl⟩
      rw [hrd] at hr
      have HR := Aside0.mk hrd
      simp only at hr
      clear hrd
      simp only [Prod.mk.injEq] at hr
      obtain ⟨rfl, rfl, rfl⟩ := hr
      clear c1 c2
      go_enter Try.func35, Try.ntmps35
      go_wp2_with (first | (go_at_call 58; (with_reducible refine (prop_wk K s e a b _ _ _ v _ (wkz HW) HA.out HB.out HP.out).mono ?_); rintro e_ w_ ⟨rfl, hw⟩; replace HW := Aside0.mk hw; clear hw z0 z1 z2 z3 z4 p0 p1 p2 p3 p4 p5 p6 p8; obtain ⟨z0, z1, z2, z3, z4⟩ := HW.out.cells; obtain ⟨p0, p1, p2, p3, p4, p5, p6, p8⟩ := HW.out.params) | (go_at_call 40; (with_reducible refine (bad_wk K s1 e1 _ v _ (wkz HW) HB1.out).mono ?_); rintro e_ w_ ⟨rfl, rfl⟩) | (go_at_call 54; (with_reducible refine (read_wk K s1 e1 _ 4 _ _ v _ (wkz HW) (m32 _) HR.out).mono ?_); rintro e_ w_ ⟨rfl, hw⟩; replace HW := Aside0.mk hw; clear hw z0 z1 z2 z3 z4 p0 p1 p2 p3 p4 p5 p6 p8; obtain ⟨z0, z1, z2, z3, z4⟩ := HW.out.cells; obtain ⟨p0, p1, p2, p3, p4, p5, p6, p8⟩ := HW.out.params) | fail)
      go_ret
      exact ⟨rfl, HW.out⟩
    · rw [if_neg (fun h => by rw [c2] at h; cases h.2)] at hr
      have HB1 := Aside0.mk c2
      simp only [Prod.mk.injEq] at hr
      obtain ⟨rfl, rfl, rfl⟩ := hr
      clear c1 c2
      go_enter Try.func35, Try.ntmps35
      go_wp2_with (first | (go_at_call 58; (with_reducible refine (prop_wk K s e a b _ _ _ v _ (wkz HW) HA.out HB.out HP.out).mono ?_); rintro e_ w_ ⟨rfl, hw⟩; replace HW := Aside0.mk hw; clear hw z0 z1 z2 z3 z4 p0 p1 p2 p3 p4 p5 p6 p8; obtain ⟨z0, z1, z2, z3, z4⟩ := HW.out.cells; obtain ⟨p0, p1, p2, p3, p4, p5, p6, p8⟩ := HW.out.params) | (go_at_call 40; (with_reducible refine (bad_wk K s1 e1 _ v _ (wkz HW) HB1.out).mono ?_); rintro e_ w_ ⟨rfl, rfl⟩) | fail)
      go_ret
      exact ⟨rfl, HW.out⟩
set_option maxHeartbeats 8000000 in
set_option maxRecDepth 100000 in
theorem length_wk (K : KC) (s e a b x s' e' : Int) (v w : World) (h : WK v w K s e) (ha : 0 ≤ a ∧ a < 4294967296) (hb : 0 ≤ b ∧ b < 4294967296) (hr : lenS K.bs K.ps K.attrs s e a b = (x, s', e')) :
    Calls Try.prog 36 #[.pointer (some ⟨K.g, 0, none⟩), .int .u32 a, .int .u32 b] w (WkTo v K (.int .u32 x) s' e') := by
  have HW := Aside0.mk h
  have HA := Aside0.mk ha
  have HB := Aside0.mk hb
  have HY := Aside0.mk h.mm.pw.byt
  obtain ⟨z0, z1, z2, z3, z4⟩ := h.cells
  obtain ⟨p0, p1, p2, p3, p4, p5, p6, p8⟩ := h.params
  clear h ha hb
  unfold lenS at hr
  obtain ⟨p, s1, e1, hp⟩ : ∃ p s1 e1, propS K.bs K.ps K.attrs s e a b = (p, s1, e1) := ⟨_, _, _, rfl⟩
  rw [hp] at hr
  have HP := Aside0.mk hp
  simp only at hr
  clear hp
  by_cases c1 : p = 0
  · rw [if_neg (fun h => h.1 c1)] at hr
    have d1 : (p != 0) = false := by rw [c1]; rfl
    simp only [Prod.mk.injEq] at hr
    obtain ⟨rfl, rfl, rfl⟩ := hr
    clear c1
    go_enter Try.func36, Try.ntmps36
    go_wp2_with (first | (go_at_call 58; (with_reducible refine (prop_wk K s e a b _ _ _ v _ (wkz HW) HA.out HB.out HP.out).mono ?_); rintro e_ w_ ⟨rfl, hw⟩; replace HW := Aside0.mk hw; clear hw z0 z1 z2 z3 z4 p0 p1 p2 p3 p4 p5 p6 p8; obtain ⟨z0, z1, z2, z3, z4⟩ := HW.out.cells; obtain ⟨p0, p1, p2, p3, p4, p5, p6, p8⟩ := HW.out.params) | fail)
    go_ret
    exact ⟨rfl, HW.out⟩
  · have d1 : (p != 0) = true := bne_iff_ne.2 c1
    cases c2 : badS s1 e1
    · rw [if_pos ⟨c1, c2⟩] at hr
      have HB1 := Aside0.mk c2
      obtain ⟨r, e2, hrd⟩ : ∃ r e2, readS K.bs s1 e1 ((p + 2) % 4294967296) 2 = (r, e2) := ⟨_, _, rfl⟩
      rw [hrd] at hr
      have HR := Aside0.mk hrd
      simp only at hr
      clear hrd
      simp only [Prod.mk.injEq] at hr
      obtain ⟨rfl, rfl, rfl⟩ := hr
      clear c1 c2
      go_enter Try.func36, Try.ntmps36
      go_wp2_with (first | (go_at_call 58; (with_reducible refine (prop_wk K s e a b _ _ _ v _ (wkz HW) HA.out HB.out HP.out).mono ?_); rintro e_ w_ ⟨rfl, hw⟩; replace HW := Aside0.mk hw; clear hw z0 z1 z2 z3 z4 p0 p1 p2 p3 p4 p5 p6 p8; obtain ⟨z0, z1, z2, z3, z4⟩ := HW.out.cells; obtain ⟨p0, p1, p2, p3, p4, p5, p6, p8⟩ := HW.out.params) | (go_at_call 40; (with_reducible refine (bad_wk K s1 e1 _ v _ (wkz HW) HB1.out).mono ?_); rintro e_ w_ ⟨rfl, rfl⟩) | (go_at_call 54; (with_reducible refine (read_wk K s1 e1 _ 2 _ _ v _ (wkz HW) (m32 _) HR.out).mono ?_); rintro e_ w_ ⟨rfl, hw⟩; replace HW := Aside0.mk hw; clear hw z0 z1 z2 z3 z4 p0 p1 p2 p3 p4 p5 p6 p8; obtain ⟨z0, z1, z2, z3, z4⟩ := HW.out.cells; obtain ⟨p0, p1, p2, p3, p4, p5, p6, p8⟩ := HW.out.params) | fail)
      go_ret
      exact ⟨rfl, HW.out⟩
    · rw [if_neg (fun h => by rw [c2] at h; cases h.2)] at hr
      have HB1 := Aside0.mk c2
      simp only [Prod.mk.injEq] at hr
      obtain ⟨rfl, rfl, rfl⟩ := hr
      clear c1 c2
      go_enter Try.func36, Try.ntmps36
      go_wp2_with (first | (go_at_call 58; (with_reducible refine (prop_wk K s e a b _ _ _ v _ (wkz HW) HA.out HB.out HP.out).mono ?_); rintro e_ w_ ⟨rfl, hw⟩; replace HW := Aside0.mk hw; clear hw z0 z1 z2 z3 z4 p0 p1 p2 p3 p4 p5 p6 p8; obtain ⟨z0, z1, z2, z3, z4⟩ := HW.out.cells; obtain ⟨p0, p1, p2, p3, p4, p5, p6, p8⟩ := HW.out.params) | (go_at_call 40; (with_reducible refine (bad_wk K s1 e1 _ v _ (wkz HW) HB1.out).mono ?_); rintro e_ w_ ⟨rfl, rfl⟩) | fail)
      go_ret
      exact ⟨rfl, HW.out⟩
set_option maxHeartbeats 8000000 in
set_option maxRecDepth 100000 in
theorem value_wk (K : KC) (s e a b x s' e' : Int) (v w : World) (h : WK v w K s e) (ha : 0 ≤ a ∧ a < 4294967296) (hb : 0 ≤ b ∧ b < 4294967296) (hr : valueS K.bs K.ps K.attrs s e a b = (x, s', e')) :
    Calls Try.prog 38 #[.pointer (some ⟨K.g, 0, none⟩), .int .u32 a, .int .u32 b] w (WkTo v K (.int .u32 x) s' e') := by
  have HW := Aside0.mk h
  have HA := Aside0.mk ha
  have HB := Aside0.mk hb
  have HY := Aside0.mk h.mm.pw.byt
  obtain ⟨z0, z1, z2, z3, z4⟩ := h.cells
  obtain ⟨p0, p1, p2, p3, p4, p5, p6, p8⟩ := h.params
  clear h ha hb
  unfold valueS at hr
  obtain ⟨p, s1, e1, hp⟩ : ∃ p s1 e1, addrS K.bs K.ps K.attrs s e a b = (p, s1, e1) := ⟨_, _, _, rfl⟩
  rw [hp] at hr
  have HP := Aside0.mk hp
  have HX := Aside0.mk (addrS_u32 HY.out hp)
  simp only at hr
  clear hp
  cases c2 : badS s1 e1
  · rw [if_neg (fun h => by rw [c2] at h; cases h)] at hr
    have HB1 := Aside0.mk c2
    clear c2
    by_cases c1 : p = 0
    · rw [if_neg (fun h => h c1)] at hr
      have d1 : (p != 0) = false := by rw [c1]; rfl
      clear c1
      by_cases c3 : 0 < b
      · have d3 : decide (0 < b) = true := decide_eq_true c3
        by_cases c4 : b < rd K.ps 1
        · have d4 : decide (b < rd K.ps 1) = true := decide_eq_true c4
          rw [if_pos ⟨c3, c4⟩] at hr
          obtain ⟨r, e2, hrd⟩ : ∃ r e2, readS K.bs s1 e1 ((rd K.ps 8 + 4 * b) % 4294967296) 4 = (r, e2) := ⟨_, _, rfl⟩
          rw [hrd] at hr
          have HR := Aside0.mk hrd
          simp only at hr
          clear hrd
          simp only [Prod.mk.injEq] at hr
          obtain ⟨rfl, rfl, rfl⟩ := hr
          clear c3 c4
          go_enter Try.func38, Try.ntmps38
          go_wp2_with (first | (go_at_call 35; (with_reducible refine (addr_wk K s e a b _ _ _ v _ (wkz HW) HA.out HB.out HP.out).mono ?_); rintro e_ w_ ⟨rfl, hw⟩; replace HW := Aside0.mk hw; clear hw z0 z1 z2 z3 z4 p0 p1 p2 p3 p4 p5 p6 p8; obtain ⟨z0, z1, z2, z3, z4⟩ := HW.out.cells; obtain ⟨p0, p1, p2, p3, p4, p5, p6, p8⟩ := HW.out.params) | (go_at_call 40; (with_reducible refine (bad_wk K s1 e1 _ v _ (wkz HW) HB1.out).mono ?_); rintro e_ w_ ⟨rfl, rfl⟩) | (go_at_call 54; (with_reducible refine (read_wk K s1 e1 _ 4 _ _ v _ (wkz HW) (m32 _) HR.out).mono ?_); rintro e_ w_ ⟨rfl, hw⟩; replace HW := Aside0.mk hw; clear hw z0 z1 z2 z3 z4 p0 p1 p2 p3 p4 p5 p6 p8; obtain ⟨z0, z1, z2, z3, z4⟩ := HW.out.cells; obtain ⟨p0, p1, p2, p3, p4, p5, p6, p8⟩ := HW.out.params) | fail)
          go_ret
          exact ⟨rfl, HW.out⟩
        · have d4 : decide (b < rd K.ps 1) = false := decide_eq_false c4
          rw [if_neg (fun h => c4 h.2)] at hr
          simp only [Prod.mk.injEq] at hr
          obtain ⟨rfl, rfl, rfl⟩ := hr
          clear c3 c4
          go_enter Try.func38, Try.ntmps38
          go_wp2_with (first | (go_at_call 35; (with_reducible refine (addr_wk K s e a b _ _ _ v _ (wkz HW) HA.out HB.out HP.out).mono ?_); rintro e_ w_ ⟨rfl, hw⟩; replace HW := Aside0.mk hw; clear hw z0 z1 z2 z3 z4 p0 p1 p2 p3 p4 p5 p6 p8; obtain ⟨z0, z1, z2, z3, z4⟩ := HW.out.cells; obtain ⟨p0, p1, p2, p3, p4, p5, p6, p8⟩ := HW.out.params) | (go_at_call 40; (with_reducible refine (bad_wk K s1 e1 _ v _ (wkz HW) HB1.out).mono ?_); rintro e_ w_ ⟨rfl, rfl⟩) | (go_at_call 56; (with_reducible refine (wrong_wk K s1 e1 3 v _ (wkz HW)).mono ?_); rintro e_ w_ ⟨rfl, hw⟩; replace HW := Aside0.mk hw; clear hw z0 z1 z2 z3 z4 p0 p1 p2 p3 p4 p5 p6 p8; obtain ⟨z0, z1, z2, z3, z4⟩ := HW.out.cells; obtain ⟨p0, p1, p2, p3, p4, p5, p6, p8⟩ := HW.out.params) | fail)
          go_ret
          exact ⟨rfl, HW.out⟩
      · have d3 : decide (0 < b) = false := decide_eq_false c3
        rw [if_neg (fun h => c3 h.1)] at hr
        simp only [Prod.mk.injEq] at hr
        obtain ⟨rfl, rfl, rfl⟩ := hr
        clear c3
        go_enter Try.func38, Try.ntmps38
        go_wp2_with (first | (go_at_call 35; (with_reducible refine (addr_wk K s e a b _ _ _ v _ (wkz HW) HA.out HB.out HP.out).mono ?_); rintro e_ w_ ⟨rfl, hw⟩; replace HW := Aside0.mk hw; clear hw z0 z1 z2 z3 z4 p0 p1 p2 p3 p4 p5 p6 p8; obtain ⟨z0, z1, z2, z3, z4⟩ := HW.out.cells; obtain ⟨p0, p1, p2, p3, p4, p5, p6, p8⟩ := HW.out.params) | (go_at_call 40; (with_reducible refine (bad_wk K s1 e1 _ v _ (wkz HW) HB1.out).mono ?_); rintro e_ w_ ⟨rfl, rfl⟩) | (go_at_call 56; (with_reducible refine (wrong_wk K s1 e1 3 v _ (wkz HW)).mono ?_); rintro e_ w_ ⟨rfl, hw⟩; replace HW := Aside0.mk hw; clear hw z0 z1 z2 z3 z4 p0 p1 p2 p3 p4 p5 p6 p8; obtain ⟨z0, z1, z2, z3, z4⟩ := HW.out.cells; obtain ⟨p0, p1, p2, p3, p4, p5, p6, p8⟩ := HW.out.params) | fail)
        go_ret
        exact ⟨rfl, HW.out⟩
    · rw [if_pos c1] at hr
      have d1 : (p != 0) = true := bne_iff_ne.2 c1
      obtain ⟨r, e2, hrd⟩ : ∃ r e2, readS K.bs s1 e1 p 4 = (r, e2) := ⟨_, _, rfl⟩
      rw [hrd] at hr
      have HR := Aside0.mk hrd
      simp only at hr
      clear hrd
      simp only [Prod.mk.injEq] at hr
      obtain ⟨rfl, rfl, rfl⟩ := hr
      clear c1
      go_enter Try.func38, Try.ntmps38
      go_wp2_with (first | (go_at_call 35; (with_reducible refine (addr_wk K s e a b _ _ _ v _ (wkz HW) HA.out HB.out HP.out).mono ?_); rintro e_ w_ ⟨rfl, hw⟩; replace HW := Aside0.mk hw; clear hw z0 z1 z2 z3 z4 p0 p1 p2 p3 p4 p5 p6 p8; obtain ⟨z0, z1, z2, z3, z4⟩ := HW.out.cells; obtain ⟨p0, p1, p2, p3, p4, p5, p6, p8⟩ := HW.out.params) | (go_at_call 40; (with_reducible refine (bad_wk K s1 e1 _ v _ (wkz HW) HB1.out).mono ?_); rintro e_ w_ ⟨rfl, rfl⟩) | (go_at_call 54; (with_reducible refine (read_wk K s1 e1 p 4 _ _ v _ (wkz HW) HX.out HR.out).mono ?_); rintro e_ w_ ⟨rfl, hw⟩; replace HW := Aside0.mk hw; clear hw z0 z1 z2 z3 z4 p0 p1 p2 p3 p4 p5 p6 p8; obtain ⟨z0, z1, z2, z3, z4⟩ := HW.out.cells; obtain ⟨p0, p1, p2, p3, p4, p5, p6, p8⟩ := HW.out.params) | fail)
      go_ret
      exact ⟨rfl, HW.out⟩
  · rw [if_pos c2] at hr
    have HB1 := Aside0.mk c2
    simp only [Prod.mk.injEq] at hr
    obtain ⟨rfl, rfl, rfl⟩ := hr
    clear c2
    go_enter Try.func38, Try.ntmps38
    go_wp2_with (first | (go_at_call 35; (with_reducible refine (addr_wk K s e a b _ _ _ v _ (wkz HW) HA.out HB.out HP.out).mono ?_); rintro e_ w_ ⟨rfl, hw⟩; replace HW := Aside0.mk hw; clear hw z0 z1 z2 z3 z4 p0 p1 p2 p3 p4 p5 p6 p8; obtain ⟨z0, z1, z2, z3, z4⟩ := HW.out.cells; obtain ⟨p0, p1, p2, p3, p4, p5, p6, p8⟩ := HW.out.params) | (go_at_call 40; (with_reducible refine (bad_wk K s1 e1 _ v _ (wkz HW) HB1.out).mono ?_); rintro e_ w_ ⟨rfl, rfl⟩) | fail)
    go_ret
    exact ⟨rfl, HW.out⟩
set_option maxHeartbeats 8000000 in
set_option maxRecDepth 100000 in
theorem has_wk (K : KC) (s e a b x s' e' : Int) (v w : World) (h : WK v w K s e) (ha : 0 ≤ a ∧ a < 4294967296) (hb : 0 ≤ b ∧ b < 4294967296) (hr : hasS K.bs K.ps K.attrs s e a b = (x, s', e')) :
    Calls Try.prog 39 #[.pointer (some ⟨K.g, 0, none⟩), .int .u32 a, .int .u32 b] w (WkTo v K (.int .u32 x) s' e') := by
  have HW := Aside0.mk h
  have HA := Aside0.mk ha
  have HB := Aside0.mk hb
  have HY := Aside0.mk h.mm.pw.byt
  obtain ⟨z0, z1, z2, z3, z4⟩ := h.cells
  obtain ⟨p0, p1, p2, p3, p4, p5, p6, p8⟩ := h.params
  clear h ha hb
  unfold hasS at hr
  obtain ⟨k, e1, hk⟩ : ∃ k e1, regionS K.bs s e a = (k, e1) := ⟨_, _, rfl⟩
  rw [hk] at hr
  have HK := Aside0.mk hk
  simp only at hr
  clear hk
  by_cases c1 : k = 3
  · rw [if_pos c1] at hr
    subst c1
    cases d6 : b == (rd K.ps 1 + 6) % 4294967296
    all_goals
      rw [d6] at hr
      simp only [Prod.mk.injEq] at hr
      obtain ⟨rfl, rfl, rfl⟩ := hr
      go_enter Try.func39, Try.ntmps39
      go_wp2_with (first | (go_at_call 33; (with_reducible refine (region_wk K s e a _ _ v _ (wkz HW) HA.out HK.out).mono ?_); rintro e_ w_ ⟨rfl, hw⟩; replace HW := Aside0.mk hw; clear hw z0 z1 z2 z3 z4 p0 p1 p2 p3 p4 p5 p6 p8; obtain ⟨z0, z1, z2, z3, z4⟩ := HW.out.cells; obtain ⟨p0, p1, p2, p3, p4, p5, p6, p8⟩ := HW.out.params) | (go_at_call 59; (with_reducible refine (one_wk _ _).mono ?_); rintro e_ w_ ⟨rfl, hd⟩; replace HW := Aside0.mk (HW.out.below (by first | exact hd | exact hd.below)); clear hd z0 z1 z2 z3 z4 p0 p1 p2 p3 p4 p5 p6 p8; obtain ⟨z0, z1, z2, z3, z4⟩ := HW.out.cells; obtain ⟨p0, p1, p2, p3, p4, p5, p6, p8⟩ := HW.out.params) | fail)
      go_ret
      exact ⟨rfl, HW.out⟩
  · rw [if_neg c1] at hr
    have d1 : (k == 3) = false := beq_false_of_ne c1
    by_cases c2 : k = 2
    · rw [if_pos c2] at hr
      subst c2
      simp only [Prod.mk.injEq] at hr
      obtain ⟨rfl, rfl, rfl⟩ := hr
      clear c1 d1
      go_enter Try.func39, Try.ntmps39
      go_wp2_with (first | (go_at_call 33; (with_reducible refine (region_wk K s e a _ _ v _ (wkz HW) HA.out HK.out).mono ?_); rintro e_ w_ ⟨rfl, hw⟩; replace HW := Aside0.mk hw; clear hw z0 z1 z2 z3 z4 p0 p1 p2 p3 p4 p5 p6 p8; obtain ⟨z0, z1, z2, z3, z4⟩ := HW.out.cells; obtain ⟨p0, p1, p2, p3, p4, p5, p6, p8⟩ := HW.out.params) | (go_at_call 59; (with_reducible refine (one_wk _ _).mono ?_); rintro e_ w_ ⟨rfl, hd⟩; replace HW := Aside0.mk (HW.out.below (by first | exact hd | exact hd.below)); clear hd z0 z1 z2 z3 z4 p0 p1 p2 p3 p4 p5 p6 p8; obtain ⟨z0, z1, z2, z3, z4⟩ := HW.out.cells; obtain ⟨p0, p1, p2, p3, p4, p5, p6, p8⟩ := HW.out.params) | fail)
      go_ret
      exact ⟨rfl, HW.out⟩
    · rw [if_neg c2] at hr
      have d2 : (k == 2) = false := beq_false_of_ne c2
      by_cases c3 : k = 0
      · rw [if_pos c3] at hr
        subst c3
        simp only [Prod.mk.injEq] at hr
        obtain ⟨rfl, rfl, rfl⟩ := hr
        clear c1 d1 c2 d2
        go_enter Try.func39, Try.ntmps39
        go_wp2_with (first | (go_at_call 33; (with_reducible refine (region_wk K s e a _ _ v _ (wkz HW) HA.out HK.out).mono ?_); rintro e_ w_ ⟨rfl, hw⟩; replace HW := Aside0.mk hw; clear hw z0 z1 z2 z3 z4 p0 p1 p2 p3 p4 p5 p6 p8; obtain ⟨z0, z1, z2, z3, z4⟩ := HW.out.cells; obtain ⟨p0, p1, p2, p3, p4, p5, p6, p8⟩ := HW.out.params) | fail)
        go_ret
        exact ⟨rfl, HW.out⟩
      · rw [if_neg c3] at hr
        have d3 : (k == 0) = false := beq_false_of_ne c3
        clear c1 c2 c3
        cases c4 : ownS K.ps b
        · simp only [c4, Bool.false_eq_true, if_false] at hr
          have HOW := Aside0.mk c4
          clear c4
          obtain ⟨x', s1, e3, hx⟩ : ∃ x' s1 e3, addrS K.bs K.ps K.attrs s e1 a b = (x', s1, e3) := ⟨_, _, _, rfl⟩
          rw [hx] at hr
          have HP := Aside0.mk hx
          simp only at hr
          clear hx
          simp only [Prod.mk.injEq] at hr
          obtain ⟨rfl, rfl, rfl⟩ := hr
          go_enter Try.func39, Try.ntmps39
          go_wp2_with (first | (go_at_call 33; (with_reducible refine (region_wk K s e a _ _ v _ (wkz HW) HA.out HK.out).mono ?_); rintro e_ w_ ⟨rfl, hw⟩; replace HW := Aside0.mk hw; clear hw z0 z1 z2 z3 z4 p0 p1 p2 p3 p4 p5 p6 p8; obtain ⟨z0, z1, z2, z3, z4⟩ := HW.out.cells; obtain ⟨p0, p1, p2, p3, p4, p5, p6, p8⟩ := HW.out.params) | (go_at_call 62; (with_reducible refine (own_wk K s e1 b _ v _ (wkz HW) HOW.out).mono ?_); rintro e_ w_ ⟨rfl, rfl⟩) | (go_at_call 35; (with_reducible refine (addr_wk K s e1 a b _ _ _ v _ (wkz HW) HA.out HB.out HP.out).mono ?_); rintro e_ w_ ⟨rfl, hw⟩; replace HW := Aside0.mk hw; clear hw z0 z1 z2 z3 z4 p0 p1 p2 p3 p4 p5 p6 p8; obtain ⟨z0, z1, z2, z3, z4⟩ := HW.out.cells; obtain ⟨p0, p1, p2, p3, p4, p5, p6, p8⟩ := HW.out.params) | (go_at_call 59; (with_reducible refine (one_wk _ _).mono ?_); rintro e_ w_ ⟨rfl, hd⟩; replace HW := Aside0.mk (HW.out.below (by first | exact hd | exact hd.below)); clear hd z0 z1 z2 z3 z4 p0 p1 p2 p3 p4 p5 p6 p8; obtain ⟨z0, z1, z2, z3, z4⟩ := HW.out.cells; obtain ⟨p0, p1, p2, p3, p4, p5, p6, p8⟩ := HW.out.params) | fail)
          go_ret
          exact ⟨rfl, HW.out⟩
        · simp only [c4, if_true] at hr
          have HOW := Aside0.mk c4
          clear c4
          obtain ⟨i, e2, hi⟩ : ∃ i e2, inS K.bs K.ps K.attrs s e1 a = (i, e2) := ⟨_, _, rfl⟩
          rw [hi] at hr
          have HI := Aside0.mk hi
          clear hi
          cases i
          · simp only [Bool.false_eq_true, if_false] at hr
            obtain ⟨x', s1, e3, hx⟩ : ∃ x' s1 e3, addrS K.bs K.ps K.attrs s e2 a b = (x', s1, e3) := ⟨_, _, _, rfl⟩
            rw [hx] at hr
            have HP := Aside0.mk hx
            simp only at hr
            clear hx
            simp only [Prod.mk.injEq] at hr
            obtain ⟨rfl, rfl, rfl⟩ := hr
            go_enter Try.func39, Try.ntmps39
            go_wp2_with (first | (go_at_call 33; (with_reducible refine (region_wk K s e a _ _ v _ (wkz HW) HA.out HK.out).mono ?_); rintro e_ w_ ⟨rfl, hw⟩; replace HW := Aside0.mk hw; clear hw z0 z1 z2 z3 z4 p0 p1 p2 p3 p4 p5 p6 p8; obtain ⟨z0, z1, z2, z3, z4⟩ := HW.out.cells; obtain ⟨p0, p1, p2, p3, p4, p5, p6, p8⟩ := HW.out.params) | (go_at_call 62; (with_reducible refine (own_wk K s e1 b _ v _ (wkz HW) HOW.out).mono ?_); rintro e_ w_ ⟨rfl, rfl⟩) | (go_at_call 60; (with_reducible refine (inClass_wk K s e1 a _ _ v _ (wkz HW) HI.out).mono ?_); rintro e_ w_ ⟨rfl, hw⟩; replace HW := Aside0.mk hw; clear hw z0 z1 z2 z3 z4 p0 p1 p2 p3 p4 p5 p6 p8; obtain ⟨z0, z1, z2, z3, z4⟩ := HW.out.cells; obtain ⟨p0, p1, p2, p3, p4, p5, p6, p8⟩ := HW.out.params) | (go_at_call 35; (with_reducible refine (addr_wk K s e2 a b _ _ _ v _ (wkz HW) HA.out HB.out HP.out).mono ?_); rintro e_ w_ ⟨rfl, hw⟩; replace HW := Aside0.mk hw; clear hw z0 z1 z2 z3 z4 p0 p1 p2 p3 p4 p5 p6 p8; obtain ⟨z0, z1, z2, z3, z4⟩ := HW.out.cells; obtain ⟨p0, p1, p2, p3, p4, p5, p6, p8⟩ := HW.out.params) | (go_at_call 59; (with_reducible refine (one_wk _ _).mono ?_); rintro e_ w_ ⟨rfl, hd⟩; replace HW := Aside0.mk (HW.out.below (by first | exact hd | exact hd.below)); clear hd z0 z1 z2 z3 z4 p0 p1 p2 p3 p4 p5 p6 p8; obtain ⟨z0, z1, z2, z3, z4⟩ := HW.out.cells; obtain ⟨p0, p1, p2, p3, p4, p5, p6, p8⟩ := HW.out.params) | fail)
            go_ret
            exact ⟨rfl, HW.out⟩
          · simp only [if_true] at hr
            simp only [Prod.mk.injEq] at hr
            obtain ⟨rfl, rfl, rfl⟩ := hr
            go_enter Try.func39, Try.ntmps39
            go_wp2_with (first | (go_at_call 33; (with_reducible refine (region_wk K s e a _ _ v _ (wkz HW) HA.out HK.out).mono ?_); rintro e_ w_ ⟨rfl, hw⟩; replace HW := Aside0.mk hw; clear hw z0 z1 z2 z3 z4 p0 p1 p2 p3 p4 p5 p6 p8; obtain ⟨z0, z1, z2, z3, z4⟩ := HW.out.cells; obtain ⟨p0, p1, p2, p3, p4, p5, p6, p8⟩ := HW.out.params) | (go_at_call 62; (with_reducible refine (own_wk K s e1 b _ v _ (wkz HW) HOW.out).mono ?_); rintro e_ w_ ⟨rfl, rfl⟩) | (go_at_call 60; (with_reducible refine (inClass_wk K s e1 a _ _ v _ (wkz HW) HI.out).mono ?_); rintro e_ w_ ⟨rfl, hw⟩; replace HW := Aside0.mk hw; clear hw z0 z1 z2 z3 z4 p0 p1 p2 p3 p4 p5 p6 p8; obtain ⟨z0, z1, z2, z3, z4⟩ := HW.out.cells; obtain ⟨p0, p1, p2, p3, p4, p5, p6, p8⟩ := HW.out.params) | fail)
            go_ret
            exact ⟨rfl, HW.out⟩
end Go.Proofs.Ytmpiifjckhcbmaa.PQ

/- accel.Do (numbers of seat r18). -/
namespace Go.Proofs.Ytmpiifjckhcbmaa.PQ
open Go.RowKit Go.Proofs.YtmpiifjckhcbmaaW.PrintWords Go.Proofs.YtmpiifjckhcbmaaW.PrintLast Go.Proofs.YtmpiifjckhcbmaaW.PrintMore Go.Proofs.Ytmpiifjckhcbmaa.Z Go.Proofs.Ytmpiifjckhcbmaa.Pure
set_option linter.unusedVariables false
set_option linter.unusedSimpArgs false

/-- the function m of the seven -/
def doF (m : Int) (bs ps : List Int) (attrs a b : Int) : Int × Int × Int :=
  if m = 1 then ((regionS bs 0 0 a).1, 0, (regionS bs 0 0 a).2)
  else if m = 2 then tabS bs attrs 0 0 a b
  else if m = 3 then addrS bs ps attrs 0 0 a b
  else if m = 4 then lenS bs ps attrs 0 0 a b
  else if m = 5 then ofS bs ps attrs 0 0 a b
  else if m = 6 then valueS bs ps attrs 0 0 a b
  else hasS bs ps attrs 0 0 a b
def doE (r : Int × Int × Int) : Int × Int × Int := if badS r.2.1 r.2.2 = true then (0, r.2.1, r.2.2) else r
/-- what Do comes to: the number, the slip, the error -/
def doS (bs ps : List Int) (n a b : Int) : Int × Int × Int := if 8 ≤ n then doE (doF (n - 6) bs ps (rd ps 7) a b) else doE (doF n bs ps 7 a b)
theorem rd_rng {l : List Int} (h : ∀ x ∈ l, 0 ≤ x ∧ x < 4294967296) (i : Int) : 0 ≤ rd l i ∧ rd l i < 4294967296 := by
  unfold rd
  by_cases c : i.toNat < l.length
  · rw [List.getD_eq_getElem?_getD, List.getElem?_eq_getElem c]
    exact h _ (List.getElem_mem c)
  · rw [List.getD_eq_getElem?_getD, List.getElem?_eq_none (by omega)]
    decide
theorem rd_out {l : List Int} {i : Nat} (h : l.length ≤ i) : rd l (i : Int) = 0 := by
  unfold rd
  rw [List.getD_eq_getElem?_getD, List.getElem?_eq_none (by simpa using h)]
  rfl
theorem build86 (gm : Nat) (A : Option Addr) (np cp : Nat) (w : World) : (Instr.build 86 #[(0, .pointer (some ⟨gm, 0, none⟩)), (1, .slice A np cp), (2, .int .u32 7)]).run Try.prog w = .ok (.agg (wkC gm A np cp 7 0 0)) w := run_build w 86 _ _ (by kernel_rfl)
theorem WK.attrs {v w w' : World} {K : KC} {s e at' : Int} (h : WK v w K s e) (hr : 0 ≤ at' ∧ at' < 4294967296) (hk : w'.heap[K.g]? = some (.cells (wkC K.gm (some ⟨K.ga, 0, none⟩) 9 K.cp at' s e) 86 (0, 0))) (hg : w.grownBy w' (some K.g)) : WK v w' { K with attrs := at' } s e :=
  ⟨h.mm.grown h.kk hg, hk, h.pp.grown hg (h.pp.ne h.kk), ⟨h.ok.ln, h.ok.rg, hr, h.ok.gg, h.ok.cc⟩, grown_then h.gr hg⟩
theorem WK.ends {w w' : World} {K : KC} {s e : Int} (h : WK w w' K s e) (hg : w.heap.size ≤ K.g) : Below w.heap.size w w' :=
  (Below.refl _ _).grown h.gr (Nat.le_refl _) (fun k hk => by injection hk with hk; rw [← hk]; exact hg)
theorem PP.p7 {w : World} {ga : Nat} {ps : List Int} (h : PP w ga ps) (hl : ps.length = 9) : w.cell? ⟨ga, 7, none⟩ = some (.int .u32 (rd ps 7)) := h.at (i := 7) (by omega)
theorem info29q : (Try.prog.info? 29).map (fun i => (i.zero, i.size, i.bytes)) = some (some (.int .u32 0), 1, 4) := by kernel_rfl
set_option maxHeartbeats 8000000 in
set_option maxRecDepth 100000 in
theorem Do_is (base gm gb ga c cp ca : Nat) (bs ps al : List Int) (A : Option Addr) (n x s' e' : Int) (w : World) (hm : PH w base gm gb c bs) (hp : PP w ga ps) (hl : ps.length = 9) (hpr : ∀ x ∈ ps, 0 ≤ x ∧ x < 4294967296) (hcp : 9 ≤ cp) (hbs : base ≤ w.heap.size) (hn : 1 ≤ n ∧ n ≤ 13) (hx : Kd.C (Kd.int .u32) w A al.length al) (har : ∀ x ∈ al, 0 ≤ x ∧ x < 4294967296) (hr : doS bs ps n (rd al 0) (rd al 1) = (x, s', e')) :
    Calls Try.prog 14 #[.pointer (some ⟨gm, 0, none⟩), .slice (some ⟨ga, 0, none⟩) 9 cp, .int .u32 n, .slice A al.length ca] w fun r w' => r = .returned (.tuple #[.int .u32 x, .int .i64 s', .int .i64 e']) ∧ Below w.heap.size w w' := by
  have HM := Aside0.mk hm
  have HP := Aside0.mk hp
  have HL := Aside0.mk hl
  have HPR := Aside0.mk hpr
  have HCP := Aside0.mk hcp
  have HBS := Aside0.mk hbs
  have HX := Aside0.mk hx
  have HA := Aside0.mk (rd_rng har 0)
  have HB := Aside0.mk (rd_rng har 1)
  have HR7 := Aside0.mk (rd_rng hpr 7)
  have HN := Aside0.mk hn
  have dn1 : decide (n < 1) = false := decide_eq_false (by omega)
  have dn2 : decide (13 < n) = false := decide_eq_false (by omega)
  have hbu := fun w => build86 gm (some ⟨ga, 0, none⟩) 9 cp w
  obtain ⟨m, at', hm8⟩ : ∃ m at' : Int, (8 ≤ n ∧ m = n - 6 ∧ at' = rd ps 7) ∨ (¬ 8 ≤ n ∧ m = n ∧ at' = 7) := by
    by_cases c : 8 ≤ n
    · exact ⟨_, _, Or.inl ⟨c, rfl, rfl⟩⟩
    · exact ⟨_, _, Or.inr ⟨c, rfl, rfl⟩⟩
  have HR := Aside0.mk (show doE (doF m bs ps at' (rd al 0) (rd al 1)) = (x, s', e') by
    unfold doS at hr
    rcases hm8 with ⟨c, h1, h2⟩ | ⟨c, h1, h2⟩
    · rw [if_pos c] at hr
      rw [h1, h2]
      exact hr
    · rw [if_neg c] at hr
      rw [h1, h2]
      exact hr)
  have HM8 := Aside0.mk hm8
  have HMR := Aside0.mk (show 1 ≤ m ∧ m ≤ 7 by omega)
  clear hm hp hl hpr hcp hbs hx har hn hr hm8
  go_enter Try.func14, Try.ntmps14
  go_upto_region 7 with (fail)
  generalize hw7 : w.alloc _ = w7
  have hbox : w7.heap[w.heap.size]? = some (.cells (wkC gm (some ⟨ga, 0, none⟩) 9 cp 7 0 0) 86 (0, 0)) := by rw [← hw7]; exact blk_new w _
  have hb : Below w.heap.size w w7 := by rw [← hw7]; exact below_alloc (Below.refl _ _) _
  obtain ⟨gs, hgs⟩ : ∃ gs, w.heap.size = gs := ⟨_, rfl⟩
  rw [hgs]
  rw [hgs] at hbox
  have HGE := Aside0.mk (show w.heap.size ≤ gs by rw [hgs]; exact Nat.le_refl _)
  have HW := Aside0.mk (show WK w w7 (KC.mk base gs gm gb ga c cp bs ps 7) 0 0 from ⟨HM.out.below hb, hbox, HP.out.below hb, ⟨HL.out, HPR.out, (by omega : (0 : Int) ≤ 7 ∧ (7 : Int) < 4294967296), Nat.le_trans HBS.out HGE.out, HCP.out⟩, grown_of_below hb _⟩)
  replace HX := Aside0.mk (Kd.C_below HX.out hb)
  clear hbox hb hgs hw7
  clear HM HP HPR HCP HBS hbu dn1 dn2
  go_upto_if 33 with (fail)
  go_cut [12] (fun v12 wc => v12 = .int .u32 (rd al 0) ∧ Aside0 (WK w wc (KC.mk base gs gm gb ga c cp bs ps 7) 0 0) ∧ Aside0 (Kd.C (Kd.int .u32) wc A al.length al))
  case first =>
    by_cases q : 0 < (al.length : Int)
    · obtain ⟨ad, ea, hxx⟩ := Kd.at_int HX.out 0 (by omega) q
      subst ea
      have hxa : w7.cell? (ad.add 0) = some (.int .u32 (rd al 0)) := hxx
      have hxb : w7.cell? ad = some (.int .u32 (rd al 0)) := by have := hxa; rwa [Addr.add_zero'] at this
      have dq : decide (0 < (al.length : Int)) = true := decide_eq_true q
      have dq2 : decide (0 < al.length) = true := decide_eq_true (by omega)
      (first | rw [dq2] | rw [dq])
      go_wp2
      go_meet
      case rel => exact ⟨rfl, HW, HX⟩
    · have h0 := Aside0.mk (rd_out (l := al) (i := 0) (by omega))
      have dq : decide (0 < (al.length : Int)) = false := decide_eq_false q
      have dq2 : decide (0 < al.length) = false := decide_eq_false (by omega)
      (first | rw [dq2] | rw [dq])
      clear q
      go_wp2
      go_meet
      case rel => exact ⟨by rw [show rd al 0 = 0 from h0.out], HW, HX⟩
  case rest =>
    clear HW HX
    obtain ⟨rfl, HW, HX⟩ := hcut
    go_upto_if 39 with (fail)
    go_cut [13] (fun v13 wc => v13 = .int .u32 (rd al 1) ∧ Aside0 (WK w wc (KC.mk base gs gm gb ga c cp bs ps 7) 0 0))
    case first =>
      by_cases q : 1 < (al.length : Int)
      · obtain ⟨ad, ea, hxx⟩ := Kd.at_int HX.out 1 (by omega) q
        subst ea
        have hxa : wc.cell? (ad.add 1) = some (.int .u32 (rd al 1)) := hxx
        have hxc : wc.cell? ⟨ad.block, ad.off + 1, none⟩ = some (.int .u32 (rd al 1)) := by have := hxa; unfold Addr.add at this; simpa using this
        have dq : decide (1 < (al.length : Int)) = true := decide_eq_true q
        have dq2 : decide (1 < al.length) = true := decide_eq_true (by omega)
        (first | rw [dq2] | rw [dq])
        go_wp2
        go_meet
        case rel => exact ⟨rfl, HW⟩
      · have h0 := Aside0.mk (rd_out (l := al) (i := 1) (by omega))
        have dq : decide (1 < (al.length : Int)) = false := decide_eq_false q
        have dq2 : decide (1 < al.length) = false := decide_eq_false (by omega)
        (first | rw [dq2] | rw [dq])
        clear q
        go_wp2
        go_meet
        case rel => exact ⟨by rw [show rd al 1 = 0 from h0.out], HW⟩
    case rest =>
      clear HW HX
      obtain ⟨rfl, HW⟩ := hcut
      go_upto_if 44 with (fail)
      go_cut [2] (fun v2 wc => v2 = .int .u32 m ∧ Aside0 (WK w wc (KC.mk base gs gm gb ga c cp bs ps at') 0 0))
      case first =>
        rcases HM8.out with ⟨q, h1, h2⟩ | ⟨q, h1, h2⟩
        · subst h1 h2
          have dq : decide (8 ≤ n) = true := decide_eq_true q
          rw [dq]
          have hp7 := HW.out.pp.p7 HL.out
          have hsub : (n - 6) % 4294967296 = n - 6 := by have := HN.out; omega
          clear q HM8 HR HMR
          go_wp2_with (first | ((with_reducible refine gate_ (.store 29 (.tmp 50) (.tmp 48)) rfl ?_); refine store_cell (cs := wkC gm (some ⟨ga, 0, none⟩) 9 cp 7 0 0) rfl rfl 29 86 (.tmp 50) (.tmp 48) rfl (j := 2) rfl rfl ?hh ?hsz (infoW info29q) ?_; (case hh => exact HW.out.kk); (case hsz => exact (by decide : (2 : Nat) < 5)); intro w5 hh hgr; replace HW := Aside0.mk (HW.out.attrs HR7.out hh hgr); clear hh hgr) | fail)
          go_meet
          case rel => exact ⟨by first | rfl | rw [hsub], HW⟩
        · subst h1 h2
          have dq : decide (8 ≤ m) = false := decide_eq_false q
          rw [dq]
          clear q HM8 HR HMR
          go_wp2
          go_meet
          case rel => exact ⟨rfl, HW⟩
      case rest =>
        clear HW HM8 HN HR7 HL
        obtain ⟨rfl, HW⟩ := hcut
        have hm7 : m = 1 ∨ m = 2 ∨ m = 3 ∨ m = 4 ∨ m = 5 ∨ m = 6 ∨ m = 7 := by have := HMR.out; omega
        have hr := HR.out
        clear HR HMR
        rcases hm7 with rfl | rfl | rfl | rfl | rfl | rfl | rfl
        · replace hr : doE (((regionS bs 0 0 (rd al 0)).1, 0, (regionS bs 0 0 (rd al 0)).2)) = (x, s', e') := hr
          obtain ⟨y, e1, hy⟩ : ∃ y e1, regionS bs 0 0 (rd al 0) = (y, e1) := ⟨_, _, rfl⟩
          have HY := Aside0.mk hy
          rw [hy] at hr
          obtain ⟨s1, hs1⟩ : ∃ s1 : Int, s1 = 0 := ⟨0, rfl⟩
          clear hy
          unfold doE at hr
          simp only at hr
          cases c9 : badS 0 e1
          · rw [if_neg (fun h => by rw [c9] at h; cases h)] at hr
            have HB9 := Aside0.mk c9
            simp only [Prod.mk.injEq] at hr
            obtain ⟨rfl, rfl, rfl⟩ := hr
            clear c9
            go_wp2_with (first | (go_at_call 33; go_loud ((with_reducible refine (region_wk (KC.mk base gs gm gb ga c cp bs ps at') 0 0 (rd al 0) _ _ w _ (wkz HW) HA.out HY.out).mono ?_); rintro e_ w_ ⟨rfl, hw⟩; replace HW := Aside0.mk hw; clear hw; obtain ⟨z0, z1, z2, z3, z4⟩ := HW.out.cells)) | (go_at_call 40; (with_reducible refine (bad_wk (KC.mk base gs gm gb ga c cp bs ps at') 0 e1 _ w _ (wkz HW) HB9.out).mono ?_); rintro e_ w_ ⟨rfl, rfl⟩) | fail)
            go_quiet (fail)
            go_wp2
            go_ret3
            exact ⟨rfl, (HW.out.drewN _).ends HGE.out⟩
          · rw [if_pos (c9)] at hr
            have HB9 := Aside0.mk c9
            simp only [Prod.mk.injEq] at hr
            obtain ⟨rfl, rfl, rfl⟩ := hr
            clear c9
            go_wp2_with (first | (go_at_call 33; go_loud ((with_reducible refine (region_wk (KC.mk base gs gm gb ga c cp bs ps at') 0 0 (rd al 0) _ _ w _ (wkz HW) HA.out HY.out).mono ?_); rintro e_ w_ ⟨rfl, hw⟩; replace HW := Aside0.mk hw; clear hw; obtain ⟨z0, z1, z2, z3, z4⟩ := HW.out.cells)) | (go_at_call 40; (with_reducible refine (bad_wk (KC.mk base gs gm gb ga c cp bs ps at') 0 e1 _ w _ (wkz HW) HB9.out).mono ?_); rintro e_ w_ ⟨rfl, rfl⟩) | fail)
            go_quiet (fail)
            go_wp2
            go_ret3
            exact ⟨rfl, (HW.out.drewN _).ends HGE.out⟩
        · replace hr : doE (tabS bs at' 0 0 (rd al 0) (rd al 1)) = (x, s', e') := hr
          obtain ⟨y, s1, e1, hy⟩ : ∃ y s1 e1, tabS bs at' 0 0 (rd al 0) (rd al 1) = (y, s1, e1) := ⟨_, _, _, rfl⟩
          have HY := Aside0.mk hy
          rw [hy] at hr
          clear hy
          unfold doE at hr
          simp only at hr
          cases c9 : badS s1 e1
          · rw [if_neg (fun h => by rw [c9] at h; cases h)] at hr
            have HB9 := Aside0.mk c9
            simp only [Prod.mk.injEq] at hr
            obtain ⟨rfl, rfl, rfl⟩ := hr
            clear c9
            go_wp2_with (first | (go_at_call 34; go_loud ((with_reducible refine (tab_wk (KC.mk base gs gm gb ga c cp bs ps at') 0 0 (rd al 0) (rd al 1) _ _ _ w _ (wkz HW) HA.out HB.out HY.out).mono ?_); rintro e_ w_ ⟨rfl, hw⟩; replace HW := Aside0.mk hw; clear hw; obtain ⟨z0, z1, z2, z3, z4⟩ := HW.out.cells)) | (go_at_call 40; (with_reducible refine (bad_wk (KC.mk base gs gm gb ga c cp bs ps at') s1 e1 _ w _ (wkz HW) HB9.out).mono ?_); rintro e_ w_ ⟨rfl, rfl⟩) | fail)
            go_quiet (fail)
            go_wp2
            go_ret3
            exact ⟨rfl, (HW.out.drewN _).ends HGE.out⟩
          · rw [if_pos (c9)] at hr
            have HB9 := Aside0.mk c9
            simp only [Prod.mk.injEq] at hr
            obtain ⟨rfl, rfl, rfl⟩ := hr
            clear c9
            go_wp2_with (first | (go_at_call 34; go_loud ((with_reducible refine (tab_wk (KC.mk base gs gm gb ga c cp bs ps at') 0 0 (rd al 0) (rd al 1) _ _ _ w _ (wkz HW) HA.out HB.out HY.out).mono ?_); rintro e_ w_ ⟨rfl, hw⟩; replace HW := Aside0.mk hw; clear hw; obtain ⟨z0, z1, z2, z3, z4⟩ := HW.out.cells)) | (go_at_call 40; (with_reducible refine (bad_wk (KC.mk base gs gm gb ga c cp bs ps at') s1 e1 _ w _ (wkz HW) HB9.out).mono ?_); rintro e_ w_ ⟨rfl, rfl⟩) | fail)
            go_quiet (fail)
            go_wp2
            go_ret3
            exact ⟨rfl, (HW.out.drewN _).ends HGE.out⟩
        · replace hr : doE (addrS bs ps at' 0 0 (rd al 0) (rd al 1)) = (x, s', e') := hr
          obtain ⟨y, s1, e1, hy⟩ : ∃ y s1 e1, addrS bs ps at' 0 0 (rd al 0) (rd al 1) = (y, s1, e1) := ⟨_, _, _, rfl⟩
          have HY := Aside0.mk hy
          rw [hy] at hr
          clear hy
          unfold doE at hr
          simp only at hr
          cases c9 : badS s1 e1
          · rw [if_neg (fun h => by rw [c9] at h; cases h)] at hr
            have HB9 := Aside0.mk c9
            simp only [Prod.mk.injEq] at hr
            obtain ⟨rfl, rfl, rfl⟩ := hr
            clear c9
            go_wp2_with (first | (go_at_call 35; go_loud ((with_reducible refine (addr_wk (KC.mk base gs gm gb ga c cp bs ps at') 0 0 (rd al 0) (rd al 1) _ _ _ w _ (wkz HW) HA.out HB.out HY.out).mono ?_); rintro e_ w_ ⟨rfl, hw⟩; replace HW := Aside0.mk hw; clear hw; obtain ⟨z0, z1, z2, z3, z4⟩ := HW.out.cells)) | (go_at_call 40; (with_reducible refine (bad_wk (KC.mk base gs gm gb ga c cp bs ps at') s1 e1 _ w _ (wkz HW) HB9.out).mono ?_); rintro e_ w_ ⟨rfl, rfl⟩) | fail)
            go_quiet (fail)
            go_wp2
            go_ret3
            exact ⟨rfl, (HW.out.drewN _).ends HGE.out⟩
          · rw [if_pos (c9)] at hr
            have HB9 := Aside0.mk c9
            simp only [Prod.mk.injEq] at hr
            obtain ⟨rfl, rfl, rfl⟩ := hr
            clear c9
            go_wp2_with (first | (go_at_call 35; go_loud ((with_reducible refine (addr_wk (KC.mk base gs gm gb ga c cp bs ps at') 0 0 (rd al 0) (rd al 1) _ _ _ w _ (wkz HW) HA.out HB.out HY.out).mono ?_); rintro e_ w_ ⟨rfl, hw⟩; replace HW := Aside0.mk hw; clear hw; obtain ⟨z0, z1, z2, z3, z4⟩ := HW.out.cells)) | (go_at_call 40; (with_reducible refine (bad_wk (KC.mk base gs gm gb ga c cp bs ps at') s1 e1 _ w _ (wkz HW) HB9.out).mono ?_); rintro e_ w_ ⟨rfl, rfl⟩) | fail)
            go_quiet (fail)
            go_wp2
            go_ret3
            exact ⟨rfl, (HW.out.drewN _).ends HGE.out⟩
        · replace hr : doE (lenS bs ps at' 0 0 (rd al 0) (rd al 1)) = (x, s', e') := hr
          obtain ⟨y, s1, e1, hy⟩ : ∃ y s1 e1, lenS bs ps at' 0 0 (rd al 0) (rd al 1) = (y, s1, e1) := ⟨_, _, _, rfl⟩
          have HY := Aside0.mk hy
          rw [hy] at hr
          clear hy
          unfold doE at hr
          simp only at hr
          cases c9 : badS s1 e1
          · rw [if_neg (fun h => by rw [c9] at h; cases h)] at hr
            have HB9 := Aside0.mk c9
            simp only [Prod.mk.injEq] at hr
            obtain ⟨rfl, rfl, rfl⟩ := hr
            clear c9
            go_wp2_with (first | (go_at_call 36; go_loud ((with_reducible refine (length_wk (KC.mk base gs gm gb ga c cp bs ps at') 0 0 (rd al 0) (rd al 1) _ _ _ w _ (wkz HW) HA.out HB.out HY.out).mono ?_); rintro e_ w_ ⟨rfl, hw⟩; replace HW := Aside0.mk hw; clear hw; obtain ⟨z0, z1, z2, z3, z4⟩ := HW.out.cells)) | (go_at_call 40; (with_reducible refine (bad_wk (KC.mk base gs gm gb ga c cp bs ps at') s1 e1 _ w _ (wkz HW) HB9.out).mono ?_); rintro e_ w_ ⟨rfl, rfl⟩) | fail)
            go_quiet (fail)
            go_wp2
            go_ret3
            exact ⟨rfl, (HW.out.drewN _).ends HGE.out⟩
          · rw [if_pos (c9)] at hr
            have HB9 := Aside0.mk c9
            simp only [Prod.mk.injEq] at hr
            obtain ⟨rfl, rfl, rfl⟩ := hr
            clear c9
            go_wp2_with (first | (go_at_call 36; go_loud ((with_reducible refine (length_wk (KC.mk base gs gm gb ga c cp bs ps at') 0 0 (rd al 0) (rd al 1) _ _ _ w _ (wkz HW) HA.out HB.out HY.out).mono ?_); rintro e_ w_ ⟨rfl, hw⟩; replace HW := Aside0.mk hw; clear hw; obtain ⟨z0, z1, z2, z3, z4⟩ := HW.out.cells)) | (go_at_call 40; (with_reducible refine (bad_wk (KC.mk base gs gm gb ga c cp bs ps at') s1 e1 _ w _ (wkz HW) HB9.out).mono ?_); rintro e_ w_ ⟨rfl, rfl⟩) | fail)
            go_quiet (fail)
            go_wp2
            go_ret3
            exact ⟨rfl, (HW.out.drewN _).ends HGE.out⟩
        · replace hr : doE (ofS bs ps at' 0 0 (rd al 0) (rd al 1)) = (x, s', e') := hr
          obtain ⟨y, s1, e1, hy⟩ : ∃ y s1 e1, ofS bs ps at' 0 0 (rd al 0) (rd al 1) = (y, s1, e1) := ⟨_, _, _, rfl⟩
          have HY := Aside0.mk hy
          rw [hy] at hr
          clear hy
          unfold doE at hr
          simp only at hr
          cases c9 : badS s1 e1
          · rw [if_neg (fun h => by rw [c9] at h; cases h)] at hr
            have HB9 := Aside0.mk c9
            simp only [Prod.mk.injEq] at hr
            obtain ⟨rfl, rfl, rfl⟩ := hr
            clear c9
            go_wp2_with (first | (go_at_call 37; go_loud ((with_reducible refine (of_wk (KC.mk base gs gm gb ga c cp bs ps at') 0 0 (rd al 0) (rd al 1) _ _ _ w _ (wkz HW) HA.out HB.out HY.out).mono ?_); rintro e_ w_ ⟨rfl, hw⟩; replace HW := Aside0.mk hw; clear hw; obtain ⟨z0, z1, z2, z3, z4⟩ := HW.out.cells)) | (go_at_call 40; (with_reducible refine (bad_wk (KC.mk base gs gm gb ga c cp bs ps at') s1 e1 _ w _ (wkz HW) HB9.out).mono ?_); rintro e_ w_ ⟨rfl, rfl⟩) | fail)
            go_quiet (fail)
            go_wp2
            go_ret3
            exact ⟨rfl, (HW.out.drewN _).ends HGE.out⟩
          · rw [if_pos (c9)] at hr
            have HB9 := Aside0.mk c9
            simp only [Prod.mk.injEq] at hr
            obtain ⟨rfl, rfl, rfl⟩ := hr
            clear c9
            go_wp2_with (first | (go_at_call 37; go_loud ((with_reducible refine (of_wk (KC.mk base gs gm gb ga c cp bs ps at') 0 0 (rd al 0) (rd al 1) _ _ _ w _ (wkz HW) HA.out HB.out HY.out).mono ?_); rintro e_ w_ ⟨rfl, hw⟩; replace HW := Aside0.mk hw; clear hw; obtain ⟨z0, z1, z2, z3, z4⟩ := HW.out.cells)) | (go_at_call 40; (with_reducible refine (bad_wk (KC.mk base gs gm gb ga c cp bs ps at') s1 e1 _ w _ (wkz HW) HB9.out).mono ?_); rintro e_ w_ ⟨rfl, rfl⟩) | fail)
            go_quiet (fail)
            go_wp2
            go_ret3
            exact ⟨rfl, (HW.out.drewN _).ends HGE.out⟩
        · replace hr : doE (valueS bs ps at' 0 0 (rd al 0) (rd al 1)) = (x, s', e') := hr
          obtain ⟨y, s1, e1, hy⟩ : ∃ y s1 e1, valueS bs ps at' 0 0 (rd al 0) (rd al 1) = (y, s1, e1) := ⟨_, _, _, rfl⟩
          have HY := Aside0.mk hy
          rw [hy] at hr
          clear hy
          unfold doE at hr
          simp only at hr
          cases c9 : badS s1 e1
          · rw [if_neg (fun h => by rw [c9] at h; cases h)] at hr
            have HB9 := Aside0.mk c9
            simp only [Prod.mk.injEq] at hr
            obtain ⟨rfl, rfl, rfl⟩ := hr
            clear c9
            go_wp2_with (first | (go_at_call 38; go_loud ((with_reducible refine (value_wk (KC.mk base gs gm gb ga c cp bs ps at') 0 0 (rd al 0) (rd al 1) _ _ _ w _ (wkz HW) HA.out HB.out HY.out).mono ?_); rintro e_ w_ ⟨rfl, hw⟩; replace HW := Aside0.mk hw; clear hw; obtain ⟨z0, z1, z2, z3, z4⟩ := HW.out.cells)) | (go_at_call 40; (with_reducible refine (bad_wk (KC.mk base gs gm gb ga c cp bs ps at') s1 e1 _ w _ (wkz HW) HB9.out).mono ?_); rintro e_ w_ ⟨rfl, rfl⟩) | fail)
            go_quiet (fail)
            go_wp2
            go_ret3
            exact ⟨rfl, (HW.out.drewN _).ends HGE.out⟩
          · rw [if_pos (c9)] at hr
            have HB9 := Aside0.mk c9
            simp only [Prod.mk.injEq] at hr
            obtain ⟨rfl, rfl, rfl⟩ := hr
            clear c9
            go_wp2_with (first | (go_at_call 38; go_loud ((with_reducible refine (value_wk (KC.mk base gs gm gb ga c cp bs ps at') 0 0 (rd al 0) (rd al 1) _ _ _ w _ (wkz HW) HA.out HB.out HY.out).mono ?_); rintro e_ w_ ⟨rfl, hw⟩; replace HW := Aside0.mk hw; clear hw; obtain ⟨z0, z1, z2, z3, z4⟩ := HW.out.cells)) | (go_at_call 40; (with_reducible refine (bad_wk (KC.mk base gs gm gb ga c cp bs ps at') s1 e1 _ w _ (wkz HW) HB9.out).mono ?_); rintro e_ w_ ⟨rfl, rfl⟩) | fail)
            go_quiet (fail)
            go_wp2
            go_ret3
            exact ⟨rfl, (HW.out.drewN _).ends HGE.out⟩
        · replace hr : doE (hasS bs ps at' 0 0 (rd al 0) (rd al 1)) = (x, s', e') := hr
          obtain ⟨y, s1, e1, hy⟩ : ∃ y s1 e1, hasS bs ps at' 0 0 (rd al 0) (rd al 1) = (y, s1, e1) := ⟨_, _, _, rfl⟩
          have HY := Aside0.mk hy
          rw [hy] at hr
          clear hy
          unfold doE at hr
          simp only at hr
          cases c9 : badS s1 e1
          · rw [if_neg (fun h => by rw [c9] at h; cases h)] at hr
            have HB9 := Aside0.mk c9
            simp only [Prod.mk.injEq] at hr
            obtain ⟨rfl, rfl, rfl⟩ := hr
            clear c9
            go_wp2_with (first | (go_at_call 39; go_loud ((with_reducible refine (has_wk (KC.mk base gs gm gb ga c cp bs ps at') 0 0 (rd al 0) (rd al 1) _ _ _ w _ (wkz HW) HA.out HB.out HY.out).mono ?_); rintro e_ w_ ⟨rfl, hw⟩; replace HW := Aside0.mk hw; clear hw; obtain ⟨z0, z1, z2, z3, z4⟩ := HW.out.cells)) | (go_at_call 40; (with_reducible refine (bad_wk (KC.mk base gs gm gb ga c cp bs ps at') s1 e1 _ w _ (wkz HW) HB9.out).mono ?_); rintro e_ w_ ⟨rfl, rfl⟩) | fail)
            go_quiet (fail)
            go_wp2
            go_ret3
            exact ⟨rfl, (HW.out.drewN _).ends HGE.out⟩
          · rw [if_pos (c9)] at hr
            have HB9 := Aside0.mk c9
            simp only [Prod.mk.injEq] at hr
            obtain ⟨rfl, rfl, rfl⟩ := hr
            clear c9
            go_wp2_with (first | (go_at_call 39; go_loud ((with_reducible refine (has_wk (KC.mk base gs gm gb ga c cp bs ps at') 0 0 (rd al 0) (rd al 1) _ _ _ w _ (wkz HW) HA.out HB.out HY.out).mono ?_); rintro e_ w_ ⟨rfl, hw⟩; replace HW := Aside0.mk hw; clear hw; obtain ⟨z0, z1, z2, z3, z4⟩ := HW.out.cells)) | (go_at_call 40; (with_reducible refine (bad_wk (KC.mk base gs gm gb ga c cp bs ps at') s1 e1 _ w _ (wkz HW) HB9.out).mono ?_); rintro e_ w_ ⟨rfl, rfl⟩) | fail)
            go_quiet (fail)
            go_wp2
            go_ret3
            exact ⟨rfl, (HW.out.drewN _).ends HGE.out⟩
end Go.Proofs.Ytmpiifjckhcbmaa.PQ
