/- The law AccelTable (seat r18). -/
import Derived.Test.YtmpiifjckhcbmaaOPK
import Derived.StillTailTactics
namespace Go.Proofs.Ytmpiifjckhcbmaa.PQ
set_option linter.all false
open Go.RowKit Go.Proofs.YtmpiifjckhcbmaaW.PrintWords Go.Proofs.YtmpiifjckhcbmaaW.PrintLast Go.Proofs.YtmpiifjckhcbmaaW.PrintMore Go.Proofs.Ytmpiifjckhcbmaa.Z Go.Proofs.Ytmpiifjckhcbmaa.Pure
set_option linter.unusedVariables false
set_option linter.unusedSimpArgs false

/-- the params, the functions behind the first j acts -/
def psN (L : List Act3) : Nat → List Int
  | 0 => List.replicate 9 0
  | j + 1 => if (rdA L j).1 = 0 then parS (psN L j) (rdA L j).2.1 (rdA L j).2.2 else psN L j
def fN (L : List Act3) : Nat → Int → Int
  | 0 => fun _ => 0
  | j + 1 => if (rdA L j).1 = 1 then funS (fN L j) (rdA L j).2.2 (rdA L j).2.1 else fN L j
theorem psN_succ (L : List Act3) (j : Nat) {k a x : Int} (h : rdA L j = (k, a, x)) : psN L (j + 1) = if k = 0 then parS (psN L j) a x else psN L j := by
  rw [psN, h]
theorem fN_succ (L : List Act3) (j : Nat) {k a x : Int} (h : rdA L j = (k, a, x)) : fN L (j + 1) = if k = 1 then funS (fN L j) x a else fN L j := by
  rw [fN, h]
theorem parS_len (ps : List Int) (i x : Int) : (parS ps i x).length = ps.length := by
  unfold parS
  split
  · exact List.length_set
  · rfl
theorem psN_len (L : List Act3) : ∀ j, (psN L j).length = 9
  | 0 => by unfold psN; exact List.length_replicate
  | j + 1 => by
    unfold psN
    split
    · rw [parS_len]; exact psN_len L j
    · exact psN_len L j
theorem TB.mono {w : World} {base g bm n m : Nat} {ps : List Int} {f : Int → Int} (h : TB w base g bm n ps f) (hn : n ≤ m) : TB w base g bm m ps f := by
  obtain ⟨D, h1, h2⟩ := h.map
  exact ⟨h.blk, ⟨D, h1.mono hn, h2⟩, h.ln, h.b1, h.b2⟩
theorem TB.other {w w1 : World} {base g bm n : Nat} {ps : List Int} {f : Int → Int} {row : Option Nat} (h : TB w base g bm n ps f) (hg : w.grownBy w1 row) (h1 : some g ≠ row) (h2 : some bm ≠ row) : TB w1 base g bm n ps f := by
  obtain ⟨D, hd, hf⟩ := h.map
  exact ⟨blk_grown h.blk hg h1, ⟨D, hd.kept hg h2, hf⟩, h.ln, h.b1, h.b2⟩
theorem TB.nblk {w : World} {base g bm n gq t : Nat} {ps : List Int} {f : Int → Int} {cs : Array Value} (h : TB w base g bm n ps f) (hb : w.heap[gq]? = some (.cells cs t (0, 0))) (ht : 91 ≠ t) : some g ≠ some gq ∧ some bm ≠ some gq := by
  have a := blk_ne h.blk hb ht
  obtain ⟨D, ⟨es, cl, hm, _⟩, _⟩ := h.map
  refine ⟨by simpa using a, fun e => ?_⟩
  injection e with e
  subst e
  rw [hb] at hm
  cases hm
theorem TB.neRow {w : World} {base base' g bm n gw m cw : Nat} {ps xs : List Int} {f : Int → Int} (h : TB w base g bm n ps f) (hp : Kd.R (Kd.int .u32) 29 w base' (fun _ => True) (.slice (some ⟨gw, 0, none⟩) m cw) xs) : some g ≠ some gw ∧ some bm ≠ some gw := by
  have ho := Kd.own_of_R (enc := Value.int .u32) (h1 := fun _ => rfl) hp
  rcases ho.2 with ⟨h0, _⟩ | ⟨g', cap, cur, he, _, hh, _, _, _, ht⟩
  · cases h0
  · injection he with he
    injection he with he
    injection he with he
    subst he
    exact h.nblk hh (by decide)
abbrev actC (k a x : Int) : Array Value := #[.int .i64 k, .int .u32 a, .int .u32 x]
theorem actz {w : World} {g : Nat} {k a x : Int} (h : w.heap[g]? = some (.cells (actC k a x) 56 (0, 0))) : w.cell? ⟨g, 0, none⟩ = some (.int .i64 k) ∧ w.cell? ⟨g, 1, none⟩ = some (.int .u32 a) ∧ w.cell? ⟨g, 2, none⟩ = some (.int .u32 x) :=
  ⟨(blk_cell h 0).trans rfl, (blk_cell h 1).trans rfl, (blk_cell h 2).trans rfl⟩
theorem size56 : (Try.prog.info? 56).map (·.size) = some 3 := by kernel_rfl
/-- the params handed out, the first m made 99 -/
def p99 (ps : List Int) (m : Nat) : List Int := List.replicate m 99 ++ ps.drop m
theorem p99_len {ps : List Int} (h : ps.length = 9) {m : Nat} (hm : m ≤ 9) : (p99 ps m).length = 9 := by unfold p99; rw [List.length_append, List.length_replicate, List.length_drop]; omega
theorem p99_rd {ps : List Int} (h : ps.length = 9) {m : Nat} (hm : m < 9) : rd (p99 ps m) (m : Int) = rd ps (m : Int) := by
  unfold rd p99
  rw [List.getD_eq_getElem?_getD, List.getD_eq_getElem?_getD, Int.toNat_natCast, List.getElem?_append_right (by rw [List.length_replicate]; omega), List.length_replicate, Nat.sub_self, List.getElem?_drop, Nat.add_zero]
theorem p99_set {ps : List Int} (h : ps.length = 9) {m : Nat} (hm : m < 9) : (p99 ps m).set m 99 = p99 ps (m + 1) := by
  unfold p99
  rw [List.set_append_right _ _ (by rw [List.length_replicate]; omega), List.length_replicate, Nat.sub_self, List.drop_eq_getElem_cons (by omega : m < ps.length), List.set_cons_zero, List.replicate_succ', List.append_assoc]
  rfl
theorem R_at {w : World} {base g n c e : Nat} {xs : List Int} (h : Kd.R (Kd.int .u32) e w base (fun _ => True) (.slice (some ⟨g, 0, none⟩) n c) xs) {m : Nat} (hm : m < n) : w.cell? ⟨g, m, none⟩ = some (.int .u32 (rd xs (m : Int))) := by
  have hr := Kd.R_reads' h
  obtain ⟨ad, ea, hx⟩ := Kd.at_int hr.2.2 (m : Int) (by omega) (by omega)
  injection ea with ea
  subst ea
  rw [add_plain, Int.toNat_natCast] at hx
  exact hx
theorem rdA_ok {L : List Act3} (h : ∀ x ∈ L, okAct x) {i : Nat} (hi : i < L.length) : okAct (rdA L i) := by
  unfold rdA
  rw [List.getD_eq_getElem?_getD, List.getElem?_eq_getElem hi]
  exact h _ (List.getElem_mem hi)
set_option maxHeartbeats 8000000 in
set_option maxRecDepth 100000 in
theorem AccelTable.law (A0 : Option Addr) (c0 : Nat) (L : List Act3) (w : World) (hr0 : Kd.C kAct w A0 L.length L) (hc0 : L.length ≤ c0) (hm0 : L.length ≤ maxLen) (w0 : ∀ x ∈ L, okAct x) :
    Calls Try.prog 7 #[.slice A0 L.length c0] w fun e w' => e = .returned (.bool true) ∧ Below w.heap.size w w' := by
  have HR0 := Aside0.mk hr0
  have HW0 := Aside0.mk w0
  have HB := Aside0.mk (Below.refl w.heap.size w)
  clear hr0 hc0 hm0 w0
  by_cases q : 300 < (L.length : Int)
  · have d : decide (300 < (L.length : Int)) = true := decide_eq_true q
    have dn : decide (300 < L.length) = true := decide_eq_true (by omega)
    clear q
    go_enter Try.func7, Try.ntmps7
    go_wp2_with (first | (go_at_call 15; (with_reducible refine (live.is _).mono ?_); rintro e_ w_ ⟨rfl, hb⟩; replace HB := zbs HB hb; clear hb) | fail)
    go_ret
    exact ⟨rfl, zb HB⟩
  have HL := Aside0.mk (show L.length ≤ 300 by omega)
  have d : decide (300 < (L.length : Int)) = false := decide_eq_false q
  have dn : decide (300 < L.length) = false := decide_eq_false (by omega)
  clear q
  go_enter Try.func7, Try.ntmps7
  go_wp2_with (first | (go_at_call 18; (with_reducible refine (table_New.is _).mono ?_); rintro e_ w_ ⟨g, bm, rfl, ht, hb⟩; have HT := Aside0.mk (show TB w_ w.heap.size g bm 0 (List.replicate 9 0) (fun _ => 0) from ⟨ht.blk, ht.map, ht.ln, Nat.le_trans (below_size HB.out) ht.b1, Nat.le_trans (below_size HB.out) ht.b2⟩); replace HB := zbs HB hb; clear hb ht) | fail)
  go_loopg [4] (L.length + 1) (fun kq v4 w' => ∃ i : Nat, v4 = .int .i64 (i : Int) ∧ Aside0 (i ≤ L.length ∧ kq = L.length - i + 1) ∧ Aside0 (TB w' w.heap.size g bm i (psN L i) (fN L i)) ∧ Aside0 (Below w.heap.size w w'))
  case atStart => exact ⟨0, rfl, ⟨by omega⟩, HT, HB⟩
  case round =>
    clear HT HB
    obtain ⟨i, rfl, HI, HT, HB⟩ := hrel
    by_cases c : i < L.length
    · have c1 : decide ((i : Int) < (L.length : Int)) = true := decide_eq_true (by omega)
      have c1n : decide (i < L.length) = true := decide_eq_true c
      obtain ⟨ad, ea, hx0, hx1, hx2⟩ := at_act HR0.out i c
      subst ea
      have hok := rdA_ok HW0.out c
      obtain ⟨k, a, x, hka⟩ : ∃ k a x, rdA L i = (k, a, x) := ⟨_, _, _, rfl⟩
      rw [hka] at hx0 hx1 hx2 hok
      have HKA := Aside0.mk hka
      have HOK := Aside0.mk (show (Lit.int .i64 k).wf = true ∧ (Lit.int .u32 a).wf = true ∧ (Lit.int .u32 x).wf = true from hok)
      replace hx0 := pw_cell_below HB.out hx0
      replace hx1 := pw_cell_below HB.out hx1
      replace hx2 := pw_cell_below HB.out hx2
      dsimp only at hx0 hx1 hx2
      have p1 : (i : Int) < (L.length : Int) := by omega
      have p2 : (0 : Int) ≤ (i : Int) := by omega
      have HII := Aside0.mk (show i + 1 ≤ L.length ∧ L.length ≤ 300 by have := HL.out; omega)
      clear hka hok c
      go_upto_region 10 with (first | ((with_reducible refine gate_dst (N := 5) rfl ?_); refine zbox (N := 5) (cs := actC 0 0 0) (t := 56) ?_; intro gq hg w_ hbox hb; have BK := Aside0.mk hbox; have GE := Aside0.mk (show w.heap.size ≤ gq by rw [hg]; exact below_size HB.out); replace HT := Aside0.mk (HT.out.below hb); replace HB := zbs HB hb; clear hb hbox hg) | ((with_reducible refine gate_ (.store 56 (.tmp 5) (.tmp 27)) rfl ?_); go_loud (refine store_blk (cs := actC 0 0 0) (cs' := actC k a x) rfl rfl 56 (.tmp 5) (.tmp 27) rfl rfl rfl ?hh ?hsz size56 ?h1 ?_; (case hh => exact BK.out); (case hsz => rfl); (case h1 => intro q_ hq_; simp only [List.mem_cons, List.not_mem_nil, or_false] at hq_; rcases hq_ with rfl | rfl | rfl <;> rfl); intro w_ hh hgr; replace HT := Aside0.mk (HT.out.other hgr (HT.out.nblk BK.out (by decide)).1 (HT.out.nblk BK.out (by decide)).2); replace HB := Aside0.mk (HB.out.grown hgr (below_size HB.out) (fun k_ hk_ => by injection hk_ with hk_; subst hk_; exact GE.out)); clear BK; have BK := Aside0.mk hh; obtain ⟨z0, z1, z2⟩ := actz BK.out; clear hh hgr)) | fail)
      have HST := Aside0.mk (show psN L (i + 1) = (if k = 0 then parS (psN L i) a x else psN L i) ∧ fN L (i + 1) = (if k = 1 then funS (fN L i) x a else fN L i) from ⟨psN_succ L i HKA.out, fN_succ L i HKA.out⟩)
      clear hx0 hx1 hx2
      go_upto_block 2 with (fail)
      go_cut [] (fun wc => Aside0 (TB wc w.heap.size g bm (i + 1) (psN L (i + 1)) (fN L (i + 1))) ∧ Aside0 (wc.heap[gq]? = some (.cells (actC k a x) 56 (0, 0))) ∧ Aside0 (Below w.heap.size w wc))
      case first =>
        by_cases k0 : k = 0
        · subst k0
          have HS := Aside0.mk (show psN L (i + 1) = parS (psN L i) a x ∧ fN L (i + 1) = fN L i from ⟨by rw [HST.out.1, if_pos rfl], by rw [HST.out.2, if_neg (by omega)]⟩)
          go_wp2_with (first | (go_at_call 19; go_loud ((with_reducible refine (table_Param.is w.heap.size g bm i _ _ a x _ HT.out (wf_u32 HOK.out.2.1)).mono ?_); rintro e_ w_ ⟨rfl, ht, hg⟩; replace BK := Aside0.mk (blk_grown BK.out hg (fun e_ => (HT.out.nblk BK.out (by decide)).1 e_.symm)); replace HB := Aside0.mk (HB.out.grown hg (below_size HB.out) (fun k_ hk_ => by injection hk_ with hk_; subst hk_; exact HT.out.b1)); clear HT; have HT := Aside0.mk (ht.mono (Nat.le_succ i)); clear ht hg)) | fail)
          go_meet
          case rel => exact ⟨⟨by rw [HS.out.1, HS.out.2]; exact HT.out⟩, BK, HB⟩
        · by_cases k1 : k = 1
          · subst k1
            have HS := Aside0.mk (show psN L (i + 1) = psN L i ∧ fN L (i + 1) = funS (fN L i) x a from ⟨by rw [HST.out.1, if_neg (by omega)], by rw [HST.out.2, if_pos rfl]⟩)
            go_wp2_with (first | (go_at_call 20; go_loud ((with_reducible refine (table_Func.is w.heap.size g bm i _ _ x a _ HT.out (by have := HI.out; have := HL.out; omega) HOK.out.2.2 HOK.out.2.1).mono ?_); rintro e_ w_ ⟨rfl, ht, hg⟩; replace BK := Aside0.mk (blk_grown BK.out hg (fun e_ => (HT.out.nblk BK.out (by decide)).2 e_.symm)); replace HB := Aside0.mk (HB.out.grown hg (below_size HB.out) (fun k_ hk_ => by injection hk_ with hk_; subst hk_; exact HT.out.b2)); clear HT; have HT := Aside0.mk ht; clear ht hg)) | fail)
            go_meet
            case rel => exact ⟨⟨by rw [HS.out.1, HS.out.2]; exact HT.out⟩, BK, HB⟩
          · have HS := Aside0.mk (show psN L (i + 1) = psN L i ∧ fN L (i + 1) = fN L i from ⟨by rw [HST.out.1, if_neg k0], by rw [HST.out.2, if_neg k1]⟩)
            have d0 : (k == 0) = false := beq_false_of_ne k0
            have d1 : (k == 1) = false := beq_false_of_ne k1
            clear k0 k1
            go_wp2
            go_meet
            case rel => exact ⟨⟨by rw [HS.out.1, HS.out.2]; exact HT.out.mono (Nat.le_succ i)⟩, BK, HB⟩
      case rest =>
        clear HT BK HB z0 z1 z2 HST
        obtain ⟨HT, BK, HB⟩ := hcut
        obtain ⟨z0, z1, z2⟩ := actz BK.out
        go_wp2_with (first | ((with_reducible refine gate_dst (N := 46) rfl ?_); refine Kd.R_make (Kd.int .u32) _ 29 rfl (N := 46) rfl 27 _ _ rfl 9 rfl rfl Try.underlying27 (.int .u32 0) 4 info29 rfl (by decide) (by omega) 0 (ok := fun _ => True) (okp := fun _ => True) rfl (fun _ hk => hk) trivial (by omega) (by omega) (Below.refl _ _) (Nat.le_refl _) ?_; intro v1 w1 ho hb hg_ hnew_; clear hg_ hnew_; replace ho : Kd.R (Kd.int .u32) 29 w1 _ (fun _ => True) v1 (List.replicate 9 0) := ho; obtain ⟨gw, cw, he_, _⟩ := Kd.R_form ho (by rw [List.length_replicate]; omega); rw [List.length_replicate] at he_; subst he_; have HW := Aside0.mk (show Kd.R (Kd.int .u32) 29 w1 w.heap.size (fun _ => True) (.slice (some ⟨gw, 0, none⟩) 9 cw) (psN L 0) from Kd.R_lower ho (below_size HB.out)); replace HT := Aside0.mk (HT.out.below hb); replace BK := zkb BK hb; replace HB := zbs HB hb; clear hb ho) | fail)
        go_loopg [7, 8] (i + 2) (fun kq v7 v8 w' => ∃ j : Nat, v7 = .int .u32 (fN L j a) ∧ v8 = .int .i64 (j : Int) ∧ Aside0 (j ≤ i + 1 ∧ kq = i + 1 - j + 1) ∧ Aside0 (Kd.R (Kd.int .u32) 29 w' w.heap.size (fun _ => True) (.slice (some ⟨gw, 0, none⟩) 9 cw) (psN L j)) ∧ Aside0 (TB w' w.heap.size g bm (i + 1) (psN L (i + 1)) (fN L (i + 1))) ∧ Aside0 (w'.heap[gq]? = some (.cells (actC k a x) 56 (0, 0))) ∧ Aside0 (Below w.heap.size w w'))
        case atStart => exact ⟨0, rfl, rfl, ⟨by omega⟩, HW, HT, BK, HB⟩
        case round =>
          clear HW HT BK HB z0 z1 z2
          obtain ⟨j, rfl, rfl, HJ, HW, HT, BK, HB⟩ := hrel
          obtain ⟨z0, z1, z2⟩ := actz BK.out
          by_cases cj : j ≤ i
          · have c2 : decide ((j : Int) ≤ (i : Int)) = true := decide_eq_true (by omega)
            have c2n : decide (j ≤ i) = true := decide_eq_true cj
            have hjl : j < L.length := by omega
            obtain ⟨ad', ea, hx0, hx1, hx2⟩ := at_act HR0.out j hjl
            injection ea with ea
            subst ea
            have hok := rdA_ok HW0.out hjl
            obtain ⟨kj, aj, xj, hka⟩ : ∃ kj aj xj, rdA L j = (kj, aj, xj) := ⟨_, _, _, rfl⟩
            have hpj := psN_succ L j hka
            have hfj := fN_succ L j hka
            rw [hka] at hx0 hx1 hx2 hok
            replace hok : (Lit.int .i64 kj).wf = true ∧ (Lit.int .u32 aj).wf = true ∧ (Lit.int .u32 xj).wf = true := hok
            have haj := wf_u32 hok.2.1
            dsimp only at hx0 hx1 hx2
            have HX0 := Aside0.mk hx0
            replace hx0 := pw_cell_below HB.out hx0
            replace hx1 := pw_cell_below HB.out hx1
            replace hx2 := pw_cell_below HB.out hx2
            have p3 : (j : Int) < (L.length : Int) := by omega
            have p4 : (0 : Int) ≤ (j : Int) := by omega
            have HJ2 := Aside0.mk (show j + 1 ≤ i + 1 ∧ i + 1 - (j + 1) + 1 < gk by have := HJ.out; omega)
            clear hka hok hjl cj
            by_cases e0 : kj = 0
            · have d0 : (kj == 0) = true := beq_iff_eq.2 e0
              have d1 : (kj == 1) = false := beq_false_of_ne (by omega)
              have hf1 : fN L (j + 1) = fN L j := by rw [hfj, if_neg (by omega)]
              by_cases e1 : aj < 9
              · have d2 : decide (aj < 9) = true := decide_eq_true e1
                have HP := Aside0.mk (show psN L (j + 1) = (psN L j).set aj.toNat xj by rw [hpj, if_pos e0]; unfold parS; rw [if_pos e1])
                have HF := Aside0.mk (show fN L (j + 1) a = fN L j a by rw [hf1])
                clear hpj hfj
                have HAJ := Aside0.mk (show aj.toNat < 9 by omega)
                have q1 : (0 : Int) ≤ aj := haj.1
                have q2 : aj < 9 := e1
                subst e0
                clear e1 hf1 haj
                go_upto_region 21 with (fail)
                have hy1 : World.cell? { heap := wr.heap, tape := wr.tape, drawn := wr.drawn + 1, os := wr.os, output := wr.output } ⟨(ad.add (j * 3)).block, (ad.add (j * 3)).off + 1, none⟩ = some (.int .u32 aj) := hx1
                have hy2 : World.cell? { heap := wr.heap, tape := wr.tape, drawn := wr.drawn + 1, os := wr.os, output := wr.output } ⟨(ad.add (j * 3)).block, (ad.add (j * 3)).off + 2, none⟩ = some (.int .u32 xj) := hx2
                go_still_tail 12, (by kernel_rfl)
                change wpList _ _ _ _ _ wr.drew
                have hbd := below_drew1 (Below.refl wr.heap.size wr)
                replace HW := Aside0.mk (Kd.R_below HW.out hbd)
                replace HT := Aside0.mk (HT.out.below hbd)
                replace BK := Aside0.mk (blk_below BK.out hbd)
                replace HB := Aside0.mk (below_step HB.out hbd)
                replace hx0 := pw_cell_below hbd hx0
                clear hbd hy1 hy2 hx1 hx2 z0 z1 z2
                generalize wr.drew = wd at *
                obtain ⟨z0, z1, z2⟩ := actz BK.out
                go_wp2_with (first | ((with_reducible refine gate_ (.store 29 (.tmp 78) (.tmp 77)) rfl ?_); go_loud (refine store_row rfl rfl 29 29 (.tmp 78) (.tmp 77) rfl (j := aj.toNat) (g := gw) (k := .u32) (z := xj) rfl rfl HW.out HAJ.out (infoW info29) ?_; intro w2 ho hg hge; replace BK := Aside0.mk (blk_grown BK.out hg (by have := ne_of_R HW.out BK.out (by decide); simpa using this)); replace HT := Aside0.mk (HT.out.other hg (HT.out.neRow HW.out).1 (HT.out.neRow HW.out).2); have HB0 := HB; replace HB := Aside0.mk (HB.out.grown hg (below_size HB.out) (fun k_ hk_ => by injection hk_ with hk_; subst hk_; exact hge)); clear hx0; have hx0 := pw_cell_below HB.out HX0.out; clear HW; have HW := Aside0.mk ho; clear ho hg hge z0 z1 z2; obtain ⟨z0, z1, z2⟩ := actz BK.out)) | fail)
                go_quiet (fail)
                go_wp2
                go_roundg (i + 1 - (j + 1) + 1)
                case measure => exact HJ2.out.2
                case rel => exact ⟨j + 1, by rw [HF.out], by first | rfl | (rw [w64 (by omega) (by have := HJ2.out; have := HI.out; have := HL.out; omega)]; rfl), ⟨HJ2.out.1, rfl⟩, ⟨by rw [HP.out]; first | exact HW.out | exact Kd.R_below HW.out (pw_below_drewN (Below.refl _ _) _)⟩, ⟨by first | exact HT.out | exact HT.out.below (pw_below_drewN (Below.refl _ _) _)⟩, ⟨by first | exact BK.out | exact blk_below BK.out (pw_below_drewN (Below.refl _ _) _)⟩, ⟨zb HB⟩⟩
              · have d2 : decide (aj < 9) = false := decide_eq_false e1
                have HP := Aside0.mk (show psN L (j + 1) = psN L j by rw [hpj, if_pos e0]; unfold parS; rw [if_neg e1])
                have HF := Aside0.mk (show fN L (j + 1) a = fN L j a by rw [hf1])
                clear hpj hfj
                subst e0
                clear e1 hf1 haj
                go_wp2
                go_quiet (fail)
                go_wp2
                go_roundg (i + 1 - (j + 1) + 1)
                case measure => exact HJ2.out.2
                case rel => exact ⟨j + 1, by rw [HF.out], by first | rfl | (rw [w64 (by omega) (by have := HJ2.out; have := HI.out; have := HL.out; omega)]; rfl), ⟨HJ2.out.1, rfl⟩, ⟨by rw [HP.out]; first | exact HW.out | exact Kd.R_below HW.out (pw_below_drewN (Below.refl _ _) _)⟩, ⟨by first | exact HT.out | exact HT.out.below (pw_below_drewN (Below.refl _ _) _)⟩, ⟨by first | exact BK.out | exact blk_below BK.out (pw_below_drewN (Below.refl _ _) _)⟩, ⟨zb HB⟩⟩
            · have d0 : (kj == 0) = false := beq_false_of_ne e0
              have hp1 : psN L (j + 1) = psN L j := by rw [hpj, if_neg e0]
              by_cases e1 : kj = 1
              · have d1 : (kj == 1) = true := beq_iff_eq.2 e1
                have hf1 : fN L (j + 1) = funS (fN L j) xj aj := by rw [hfj, if_pos e1]
                by_cases e2 : aj = a
                · have d2 : (aj == a) = true := beq_iff_eq.2 e2
                  by_cases e3 : xj ≤ 13
                  · have d3 : decide (xj ≤ 13) = true := decide_eq_true e3
                    have HP := Aside0.mk (show psN L (j + 1) = psN L j by exact hp1)
                    have HF := Aside0.mk (show fN L (j + 1) a = xj by rw [hf1]; unfold funS; rw [if_neg (by omega), if_pos e2.symm])
                    clear hpj hfj
                    clear e0 e1 e2 e3 hf1 hp1 haj
                    go_wp2
                    go_quiet (fail)
                    go_wp2
                    go_roundg (i + 1 - (j + 1) + 1)
                    case measure => exact HJ2.out.2
                    case rel => exact ⟨j + 1, by rw [HF.out], by first | rfl | (rw [w64 (by omega) (by have := HJ2.out; have := HI.out; have := HL.out; omega)]; rfl), ⟨HJ2.out.1, rfl⟩, ⟨by rw [HP.out]; first | exact HW.out | exact Kd.R_below HW.out (pw_below_drewN (Below.refl _ _) _)⟩, ⟨by first | exact HT.out | exact HT.out.below (pw_below_drewN (Below.refl _ _) _)⟩, ⟨by first | exact BK.out | exact blk_below BK.out (pw_below_drewN (Below.refl _ _) _)⟩, ⟨zb HB⟩⟩
                  · have d3 : decide (xj ≤ 13) = false := decide_eq_false e3
                    have HP := Aside0.mk (show psN L (j + 1) = psN L j by exact hp1)
                    have HF := Aside0.mk (show fN L (j + 1) a = fN L j a by rw [hf1]; unfold funS; rw [if_pos (by omega)])
                    clear hpj hfj
                    clear e0 e1 e2 e3 hf1 hp1 haj
                    go_wp2
                    go_quiet (fail)
                    go_wp2
                    go_roundg (i + 1 - (j + 1) + 1)
                    case measure => exact HJ2.out.2
                    case rel => exact ⟨j + 1, by rw [HF.out], by first | rfl | (rw [w64 (by omega) (by have := HJ2.out; have := HI.out; have := HL.out; omega)]; rfl), ⟨HJ2.out.1, rfl⟩, ⟨by rw [HP.out]; first | exact HW.out | exact Kd.R_below HW.out (pw_below_drewN (Below.refl _ _) _)⟩, ⟨by first | exact HT.out | exact HT.out.below (pw_below_drewN (Below.refl _ _) _)⟩, ⟨by first | exact BK.out | exact blk_below BK.out (pw_below_drewN (Below.refl _ _) _)⟩, ⟨zb HB⟩⟩
                · have d2 : (aj == a) = false := beq_false_of_ne e2
                  have HP := Aside0.mk (show psN L (j + 1) = psN L j by exact hp1)
                  have HF := Aside0.mk (show fN L (j + 1) a = fN L j a by rw [hf1]; unfold funS; split <;> first | rfl | (show (if a = aj then xj else fN L j a) = fN L j a; rw [if_neg (fun h => e2 h.symm)]))
                  clear hpj hfj
                  clear e0 e1 e2 hf1 hp1 haj
                  go_wp2
                  go_quiet (fail)
                  go_wp2
                  go_roundg (i + 1 - (j + 1) + 1)
                  case measure => exact HJ2.out.2
                  case rel => exact ⟨j + 1, by rw [HF.out], by first | rfl | (rw [w64 (by omega) (by have := HJ2.out; have := HI.out; have := HL.out; omega)]; rfl), ⟨HJ2.out.1, rfl⟩, ⟨by rw [HP.out]; first | exact HW.out | exact Kd.R_below HW.out (pw_below_drewN (Below.refl _ _) _)⟩, ⟨by first | exact HT.out | exact HT.out.below (pw_below_drewN (Below.refl _ _) _)⟩, ⟨by first | exact BK.out | exact blk_below BK.out (pw_below_drewN (Below.refl _ _) _)⟩, ⟨zb HB⟩⟩
              · have d1 : (kj == 1) = false := beq_false_of_ne e1
                have HP := Aside0.mk (show psN L (j + 1) = psN L j by exact hp1)
                have HF := Aside0.mk (show fN L (j + 1) a = fN L j a by rw [hfj, if_neg e1])
                clear hpj hfj
                clear e0 e1 hp1 haj
                go_wp2
                go_quiet (fail)
                go_wp2
                go_roundg (i + 1 - (j + 1) + 1)
                case measure => exact HJ2.out.2
                case rel => exact ⟨j + 1, by rw [HF.out], by first | rfl | (rw [w64 (by omega) (by have := HJ2.out; have := HI.out; have := HL.out; omega)]; rfl), ⟨HJ2.out.1, rfl⟩, ⟨by rw [HP.out]; first | exact HW.out | exact Kd.R_below HW.out (pw_below_drewN (Below.refl _ _) _)⟩, ⟨by first | exact HT.out | exact HT.out.below (pw_below_drewN (Below.refl _ _) _)⟩, ⟨by first | exact BK.out | exact blk_below BK.out (pw_below_drewN (Below.refl _ _) _)⟩, ⟨zb HB⟩⟩
          · have c2 : decide ((j : Int) ≤ (i : Int)) = false := decide_eq_false (by omega)
            have c2n : decide (j ≤ i) = false := decide_eq_false cj
            have hji : j = i + 1 := by have := HJ.out; omega
            subst hji
            clear cj HJ
            go_wp2_with (first | (go_at_call 21; (with_reducible refine (table_Params.is w.heap.size g bm (i + 1) _ _ _ HT.out).mono ?_); rintro e_ w_ ⟨v, rfl, hv, hb⟩; obtain ⟨gp, cpp, he_, _⟩ := Kd.R_form hv (by rw [psN_len]; omega); rw [psN_len] at he_; subst he_; have HNE := Aside0.mk (show gw ≠ gp from Nat.ne_of_lt (Nat.lt_of_lt_of_le (own_lt (Kd.own_of_R (enc := Value.int .u32) (h1 := fun _ => rfl) HW.out) gw rfl) (own_base (Kd.own_of_R (enc := Value.int .u32) (h1 := fun _ => rfl) hv) gp rfl))); have HP0 := Aside0.mk (Kd.R_lower hv (below_size HB.out)); replace HW := Aside0.mk (Kd.R_below HW.out hb); replace HT := Aside0.mk (HT.out.below hb); replace BK := zkb BK hb; replace HB := zbs HB hb; clear hb hv) | fail)
            go_loopg [10] 10 (fun kq v10 w' => ∃ m : Nat, v10 = .int .i64 (m : Int) ∧ Aside0 (m ≤ 9 ∧ kq = 9 - m + 1) ∧ Aside0 (Kd.R (Kd.int .u32) 29 w' w.heap.size (fun _ => True) (.slice (some ⟨gp, 0, none⟩) 9 cpp) (p99 (psN L (i + 1)) m)) ∧ Aside0 (Kd.R (Kd.int .u32) 29 w' w.heap.size (fun _ => True) (.slice (some ⟨gw, 0, none⟩) 9 cw) (psN L (i + 1))) ∧ Aside0 (TB w' w.heap.size g bm (i + 1) (psN L (i + 1)) (fN L (i + 1))) ∧ Aside0 (w'.heap[gq]? = some (.cells (actC k a x) 56 (0, 0))) ∧ Aside0 (Below w.heap.size w w'))
            case atStart => exact ⟨0, rfl, ⟨by omega⟩, ⟨by unfold p99; exact HP0.out⟩, HW, HT, BK, HB⟩
            case round =>
              clear HP0 HW HT BK HB z0 z1 z2
              obtain ⟨m, rfl, HM, HP, HW, HT, BK, HB⟩ := hrel
              by_cases cm : m < 9
              · have c3 : decide ((m : Int) < 9) = true := decide_eq_true (by omega)
                have c3n : decide (m < 9) = true := decide_eq_true cm
                have hq1 := R_at HP.out cm
                have hq2 := R_at HW.out cm
                rw [p99_rd (psN_len L _) cm] at hq1
                have HSE := Aside0.mk (p99_set (psN_len L (i + 1)) cm)
                have HM2 := Aside0.mk (show m + 1 ≤ 9 ∧ 9 - (m + 1) + 1 < gk by have := HM.out; omega)
                have HMM := Aside0.mk cm
                have p5 : (0 : Int) ≤ (m : Int) := by omega
                have p6 : (m : Int) < 9 := by omega
                clear cm
                go_wp2
                go_quiet (fail)
                replace HP := Aside0.mk (Kd.R_drewN HP.out nq)
                replace HW := Aside0.mk (Kd.R_drewN HW.out nq)
                replace HT := Aside0.mk (HT.out.below (pw_below_drewN (Below.refl _ _) nq))
                replace BK := Aside0.mk (blk_below BK.out (pw_below_drewN (Below.refl _ _) nq))
                replace HB := Aside0.mk (below_step HB.out (pw_below_drewN (Below.refl _ _) nq))
                go_wp2_with (first | ((with_reducible refine gate_ (.store 29 (.tmp 130) (.const (.int .u32 99))) rfl ?_); go_loud (refine store_row rfl rfl 29 29 (.tmp 130) (.const (.int .u32 99)) rfl (j := m) (g := gp) (k := .u32) (z := 99) rfl rfl HP.out HMM.out (infoW info29) ?_; intro w2 ho hg hge; rw [HSE.out] at ho; replace BK := Aside0.mk (blk_grown BK.out hg (by have := ne_of_R HP.out BK.out (by decide); simpa using this)); replace HT := Aside0.mk (HT.out.other hg (HT.out.neRow HP.out).1 (HT.out.neRow HP.out).2); replace HW := Aside0.mk (row_grown HW.out hg (by simp; exact HNE.out)); replace HB := Aside0.mk (HB.out.grown hg (below_size HB.out) (fun k_ hk_ => by injection hk_ with hk_; subst hk_; exact hge)); clear HP; have HP := Aside0.mk ho; clear ho hg hge)) | fail)
                go_roundg (9 - (m + 1) + 1)
                case measure => exact HM2.out.2
                case rel => exact ⟨m + 1, by first | rfl | (rw [w64 (by omega) (by have := HM2.out; omega)]; rfl), ⟨HM2.out.1, rfl⟩, HP, HW, HT, BK, HB⟩
              · have c3 : decide ((m : Int) < 9) = false := decide_eq_false (by omega)
                have c3n : decide (m < 9) = false := decide_eq_false cm
                clear cm HM HP HW
                obtain ⟨z0, z1, z2⟩ := actz BK.out
                have HI2 := Aside0.mk (show i + 1 ≤ L.length ∧ L.length - (i + 1) + 1 < L.length - i + 1 by have := HII.out; omega)
                go_wp2_with (first | (go_at_call 22; (with_reducible refine (table_At.is w.heap.size g bm (i + 1) _ _ a _ HT.out HOK.out.2.1).mono ?_); rintro e_ w_ ⟨rfl, rfl⟩) | fail)
                go_roundg (L.length - (i + 1) + 1)
                case measure => have := HI2.out; have := HI.out; omega
                case rel => exact ⟨i + 1, by first | rfl | (rw [w64 (by omega) (by have := HI2.out; have := HL.out; omega)]; rfl), ⟨HI2.out.1, rfl⟩, HT, HB⟩
    · have c1 : decide ((i : Int) < (L.length : Int)) = false := decide_eq_false (by omega)
      have c1n : decide (i < L.length) = false := decide_eq_false c
      clear c
      go_wp2_with (first | (go_at_call 15; (with_reducible refine (live.is _).mono ?_); rintro e_ w_ ⟨rfl, hb⟩; replace HB := zbs HB hb; clear hb) | fail)
      go_ret
      exact ⟨rfl, zb HB⟩
end Go.Proofs.Ytmpiifjckhcbmaa.PQ
