/- params; the law AccelOld (seat r18). -/
import Derived.Test.YtmpiifjckhcbmaaGE
import Derived.Test.YtmpiifjckhcbmaaPQx3
namespace Go.Proofs.Ytmpiifjckhcbmaa.PQ
set_option linter.all false
open Go.RowKit Go.Proofs.YtmpiifjckhcbmaaW.PrintWords Go.Proofs.YtmpiifjckhcbmaaW.PrintLast Go.Proofs.YtmpiifjckhcbmaaW.PrintMore Go.Proofs.Ytmpiifjckhcbmaa.Z Go.Proofs.Ytmpiifjckhcbmaa.Pure
set_option linter.unusedVariables false
set_option linter.unusedSimpArgs false

/-- the nine params out of a list -/
def parL (l : List Int) : List Int := l.take 9 ++ List.replicate (9 - l.length) 0
def parI (l : List Int) (i : Nat) : List Int := l.take i ++ List.replicate (9 - i) 0
theorem params_l0 (l : List Int) : ∀ (d i k : Nat), i + d = 9 → i ≤ l.length → d < k → grottolaw18_params.l0 k l (parI l i) (i : Int) = some (parL l)
  | d, i, 0, h, hi, hk => by omega
  | 0, i, k + 1, h, hi, hk => by
    simp only [grottolaw18_params.l0]
    have e : i = 9 := by omega
    subst e
    have hp : parI l 9 = parL l := by
      unfold parI parL
      rw [show 9 - l.length = 9 - 9 by omega]
    rw [hp]
    by_cases c : ((9 : Nat) : Int) < (l.length : Int)
    · rw [if_pos c, if_neg (by omega)]
    · rw [if_neg c]
  | d + 1, i, k + 1, h, hi, hk => by
    simp only [grottolaw18_params.l0]
    have hl : (parI l i).length = 9 := by unfold parI; rw [List.length_append, List.length_take, List.length_replicate]; omega
    by_cases c : (i : Int) < (l.length : Int)
    · rw [if_pos c, if_pos (by omega), if_pos (by omega), if_pos (by rw [hl]; omega)]
      have hs : (parI l i).set ((i : Int)).toNat (rd l (i : Int)) = parI l (i + 1) := by
        unfold parI
        have hlt : (l.take i).length = i := by rw [List.length_take]; omega
        rw [Int.toNat_natCast, List.set_append_right _ _ (by omega), hlt, Nat.sub_self, show 9 - i = (9 - (i + 1)) + 1 by omega, List.replicate_succ, List.set_cons_zero, List.take_succ_eq_append_getElem (by omega), rd_nat (by omega), List.append_assoc]
        rfl
      rw [hs, w64 (by omega) (by omega)]
      exact params_l0 l d (i + 1) k (by omega) (by omega) (by omega)
    · rw [if_neg c]
      congr 1
      unfold parI parL
      have : i = l.length := by omega
      subst this
      rw [List.take_of_length_le (by omega : l.length ≤ 9), List.take_of_length_le (Nat.le_refl _)]
theorem params_f (l : List Int) : grottolaw18_params.f 12 l = some (parL l) := by
  unfold grottolaw18_params.f
  rw [if_pos (by omega)]
  exact params_l0 l 9 0 12 (by omega) (by omega) (by omega)
theorem parL_len (l : List Int) : (parL l).length = 9 := by unfold parL; rw [List.length_append, List.length_take, List.length_replicate]; omega
theorem parL_rng {l : List Int} (h : ∀ x ∈ l, 0 ≤ x ∧ x < 4294967296) : ∀ x ∈ parL l, 0 ≤ x ∧ x < 4294967296 := by
  intro x hx
  unfold parL at hx
  rcases List.mem_append.1 hx with h1 | h1
  · exact h x (List.mem_of_mem_take h1)
  · rw [List.mem_replicate] at h1
    omega
theorem set_rng {l : List Int} (h : ∀ x ∈ l, 0 ≤ x ∧ x < 4294967296) (i : Nat) {v : Int} (hv : 0 ≤ v ∧ v < 4294967296) : ∀ x ∈ l.set i v, 0 ≤ x ∧ x < 4294967296 := by
  intro x hx
  rcases List.mem_or_eq_of_mem_set hx with h1 | h1
  · exact h x h1
  · rw [h1]; exact hv
theorem params_law (l : List Int) (A : Option Addr) (c : Nat) (w : World) (hr : Kd.C (Kd.int .u32) w A l.length l) (hc : l.length ≤ c) :
    Calls Try.prog 10 #[.slice A l.length c] w fun e w' => ∃ ga cp : Nat, e = .returned (.slice (some ⟨ga, 0, none⟩) 9 cp) ∧ Kd.R (Kd.int .u32) 29 w' w.heap.size (fun _ => True) (.slice (some ⟨ga, 0, none⟩) 9 cp) (parL l) ∧ Below w.heap.size w w' := by
  refine (grottolaw18_params.calls 12 A c l (parL l) w hr hc (params_f l)).mono ?_
  rintro _ w' ⟨v, rfl, hv, hb⟩
  obtain ⟨ga, cp, he, _⟩ := Kd.R_form hv (by rw [parL_len]; omega)
  rw [parL_len] at he
  subst he
  exact ⟨ga, cp, rfl, hv, hb⟩
theorem rng_of {l : List Int} (h : ∀ x ∈ l, (Lit.int .u32 x).wf = true) : ∀ x ∈ l, 0 ≤ x ∧ x < 4294967296 := fun x hx => wf_u32 (h x hx)
theorem byt_of {l : List Int} (h : ∀ x ∈ l, (Lit.int .u8 x).wf = true) : Byt l := fun x hx => wf_u8 (h x hx)
abbrev askC (n : Int) (A1 A2 : Option Addr) (n1 c1 n2 c2 : Nat) : Array Value := #[.int .u32 n, .slice A1 n1 c1, .slice A2 n2 c2]
theorem ask3 {w : World} {g : Nat} {n : Int} {A1 A2 : Option Addr} {n1 c1 n2 c2 : Nat} (h : w.heap[g]? = some (.cells (askC n A1 A2 n1 c1 n2 c2) 50 (0, 0))) : w.cell? ⟨g, 0, none⟩ = some (.int .u32 n) ∧ w.cell? ⟨g, 1, none⟩ = some (.slice A1 n1 c1) ∧ w.cell? ⟨g, 2, none⟩ = some (.slice A2 n2 c2) :=
  ⟨(blk_cell h 0).trans rfl, (blk_cell h 1).trans rfl, (blk_cell h 2).trans rfl⟩
theorem old_same (bs ps : List Int) (n a b : Int) (h7 : rd ps 7 = 7) (hn : 2 ≤ n ∧ n ≤ 7) : doS bs ps (n + 6) a b = doS bs ps n a b := by
  unfold doS
  rw [if_pos (by omega), if_neg (by omega), h7, show n + 6 - 6 = n by omega]
set_option maxHeartbeats 8000000 in
set_option maxRecDepth 100000 in
theorem AccelOld.law (A0 : Option Addr) (c0 : Nat) (l0 : List Int) (n : Int) (A1 : Option Addr) (c1 : Nat) (l1 : List Int) (A2 : Option Addr) (c2 : Nat) (l2 : List Int) (w : World) (hr0 : Kd.C (Kd.int .u8) w A0 l0.length l0) (hc0 : l0.length ≤ c0) (hm0 : l0.length ≤ maxLen) (y0 : l0.length * 1 ≤ 140737488351232) (w0 : ∀ x ∈ l0, (Lit.int .u8 x).wf = true) (wn : (Lit.int .u32 n).wf = true) (hr1 : Kd.C (Kd.int .u32) w A1 l1.length l1) (hc1 : l1.length ≤ c1) (w1 : ∀ x ∈ l1, (Lit.int .u32 x).wf = true) (hr2 : Kd.C (Kd.int .u32) w A2 l2.length l2) (hc2 : l2.length ≤ c2) (w2 : ∀ x ∈ l2, (Lit.int .u32 x).wf = true) :
    Calls Try.prog 6 #[.slice A0 l0.length c0, .agg #[.int .u32 n, .slice A1 l1.length c1, .slice A2 l2.length c2]] w fun e w' => e = .returned (.bool true) ∧ Below w.heap.size w w' := by
  have HR0 := Aside0.mk hr0
  have HR1 := Aside0.mk hr1
  have HR2 := Aside0.mk hr2
  have HC2 := Aside0.mk hc2
  have HY := Aside0.mk (byt_of w0)
  have HG1 := Aside0.mk (rng_of w1)
  have HG2 := Aside0.mk (rng_of w2)
  have HN := Aside0.mk (wf_u32 wn)
  have HB := Aside0.mk (Below.refl w.heap.size w)
  clear hr0 hc0 hm0 y0 w0 wn hr1 hc1 w1 hr2 hc2 w2
  by_cases q0 : 4096 < (l0.length : Int)
  · have d0 : decide (4096 < (l0.length : Int)) = true := decide_eq_true q0
    have d0n : decide (4096 < l0.length) = true := decide_eq_true (by omega)
    clear q0
    go_enter Try.func6, Try.ntmps6
    go_wp2_with (first | ((with_reducible refine gate_dst (N := 3) rfl ?_); refine zbox (N := 3) (cs := askC n A1 A2 l1.length c1 l2.length c2) (t := 50) ?_; intro gk hg w_ hbox hb; have BK := Aside0.mk hbox; replace HB := zbs HB hb; obtain ⟨z0, z1, z2⟩ := ask3 BK.out; clear hb hbox hg) | (go_at_call 15; (with_reducible refine (live.is _).mono ?_); rintro e_ w_ ⟨rfl, hb⟩; replace HB := zbs HB hb; clear hb) | fail)
    go_ret
    exact ⟨rfl, zb HB⟩
  have HL0 := Aside0.mk (show l0.length ≤ 1048576 by omega)
  have d0 : decide (4096 < (l0.length : Int)) = false := decide_eq_false q0
  have d0n : decide (4096 < l0.length) = false := decide_eq_false (by omega)
  clear q0
  by_cases q1 : 20 < (l1.length : Int)
  · have d1 : decide (20 < (l1.length : Int)) = true := decide_eq_true q1
    have d1n : decide (20 < l1.length) = true := decide_eq_true (by omega)
    clear q1
    go_enter Try.func6, Try.ntmps6
    go_wp2_with (first | ((with_reducible refine gate_dst (N := 3) rfl ?_); refine zbox (N := 3) (cs := askC n A1 A2 l1.length c1 l2.length c2) (t := 50) ?_; intro gk hg w_ hbox hb; have BK := Aside0.mk hbox; replace HB := zbs HB hb; obtain ⟨z0, z1, z2⟩ := ask3 BK.out; clear hb hbox hg) | (go_at_call 15; (with_reducible refine (live.is _).mono ?_); rintro e_ w_ ⟨rfl, hb⟩; replace HB := zbs HB hb; clear hb) | fail)
    go_ret
    exact ⟨rfl, zb HB⟩
  have d1 : decide (20 < (l1.length : Int)) = false := decide_eq_false q1
  have d1n : decide (20 < l1.length) = false := decide_eq_false (by omega)
  clear q1
  by_cases q2 : n < 2
  · have d2 : decide (n < 2) = true := decide_eq_true q2
    clear q2
    go_enter Try.func6, Try.ntmps6
    go_wp2_with (first | ((with_reducible refine gate_dst (N := 3) rfl ?_); refine zbox (N := 3) (cs := askC n A1 A2 l1.length c1 l2.length c2) (t := 50) ?_; intro gk hg w_ hbox hb; have BK := Aside0.mk hbox; replace HB := zbs HB hb; obtain ⟨z0, z1, z2⟩ := ask3 BK.out; clear hb hbox hg) | (go_at_call 15; (with_reducible refine (live.is _).mono ?_); rintro e_ w_ ⟨rfl, hb⟩; replace HB := zbs HB hb; clear hb) | fail)
    go_ret
    exact ⟨rfl, zb HB⟩
  have d2 : decide (n < 2) = false := decide_eq_false q2
  by_cases q3 : 7 < n
  · have d3 : decide (7 < n) = true := decide_eq_true q3
    clear q2 q3
    go_enter Try.func6, Try.ntmps6
    go_wp2_with (first | ((with_reducible refine gate_dst (N := 3) rfl ?_); refine zbox (N := 3) (cs := askC n A1 A2 l1.length c1 l2.length c2) (t := 50) ?_; intro gk hg w_ hbox hb; have BK := Aside0.mk hbox; replace HB := zbs HB hb; obtain ⟨z0, z1, z2⟩ := ask3 BK.out; clear hb hbox hg) | (go_at_call 15; (with_reducible refine (live.is _).mono ?_); rintro e_ w_ ⟨rfl, hb⟩; replace HB := zbs HB hb; clear hb) | fail)
    go_ret
    exact ⟨rfl, zb HB⟩
  have d3 : decide (7 < n) = false := decide_eq_false q3
  have HQ := Aside0.mk (show 2 ≤ n ∧ n ≤ 7 by omega)
  have hn6 : (n + 6) % 4294967296 = n + 6 := by omega
  clear q2 q3
  obtain ⟨bs, hbs⟩ : ∃ bs, bs = laidB l0 (min l0.length 1792) := ⟨_, rfl⟩
  obtain ⟨ps, hps⟩ : ∃ ps, ps = (parL l2).set 7 7 := ⟨_, rfl⟩
  have h7 : rd ps 7 = 7 := by rw [hps]; show ((parL l2).set 7 7).getD 7 0 = 7; simp [List.getD_eq_getElem?_getD, parL_len]
  have HPR := Aside0.mk (show ∀ x ∈ ps, 0 ≤ x ∧ x < 4294967296 by rw [hps]; exact set_rng (parL_rng HG2.out) 7 (by omega))
  obtain ⟨x, s, e, hd⟩ : ∃ x s e, doS bs ps n (rd l1 0) (rd l1 1) = (x, s, e) := ⟨_, _, _, rfl⟩
  have HD1 := Aside0.mk hd
  have HD2 := Aside0.mk ((old_same bs ps n (rd l1 0) (rd l1 1) h7 HQ.out).trans hd)
  have HBS := Aside0.mk hbs
  have HPS := Aside0.mk hps
  clear hbs hps h7 hd
  go_enter Try.func6, Try.ntmps6
  go_upto_region 6 with (first | ((with_reducible refine gate_dst (N := 3) rfl ?_); refine zbox (N := 3) (cs := askC n A1 A2 l1.length c1 l2.length c2) (t := 50) ?_; intro gk hg w_ hbox hb; have BK := Aside0.mk hbox; replace HB := zbs HB hb; obtain ⟨z0, z1, z2⟩ := ask3 BK.out; clear hb hbox hg) | (go_at_call 9; (with_reducible refine (laid.is A0 c0 l0 _ (Kd.C_below HR0.out (zb HB)) HY.out HL0.out).mono ?_); rintro e_ w_ ⟨g, gb, c, h, hb', d, rfl, hm, _, _, _, _, hb⟩; rw [← HBS.out] at hm; have HM := Aside0.mk (show PH w_ w.heap.size g gb c bs from hm.lower (below_size HB.out)); replace BK := zkb BK hb; replace HB := zbs HB hb; clear hb hm z0 z1 z2; obtain ⟨z0, z1, z2⟩ := ask3 BK.out) | fail)
  go_upto_region 7 with (first | (go_at_call 10; go_loud ((with_reducible refine (params_law l2 A2 c2 _ (Kd.C_below HR2.out (zb HB)) HC2.out).mono ?_); rintro e_ w_ ⟨ga, cp, rfl, hp, hb⟩; have HP0 := Aside0.mk (Kd.R_lower hp (below_size HB.out)); replace HM := Aside0.mk (HM.out.below hb); replace BK := zkb BK hb; replace HB := zbs HB hb; clear hb hp z0 z1 z2; obtain ⟨z0, z1, z2⟩ := ask3 BK.out)) | fail)
  go_upto_region 8 with (first | ((with_reducible refine gate_ (.store 29 (.tmp 45) (.const (.int .u32 7))) rfl ?_); refine store_row rfl rfl 29 29 (.tmp 45) (.const (.int .u32 7)) rfl (j := 7) rfl rfl HP0.out (by omega) (infoW info29) ?_; intro w2 ho hg hge; rw [← HPS.out] at ho; have HP := Aside0.mk ho; replace HM := Aside0.mk (HM.out.other hg (HM.out.neRow HP0.out).1 (HM.out.neRow HP0.out).2); replace BK := Aside0.mk (blk_grown BK.out hg (by have := ne_of_R HP0.out BK.out (by decide); simpa using this)); replace HB := Aside0.mk (HB.out.grown hg (below_size HB.out) (fun k_ hk_ => by injection hk_ with hk_; subst hk_; exact hge)); clear ho hg hge HP0 z0 z1 z2; obtain ⟨z0, z1, z2⟩ := ask3 BK.out) | fail)
  go_upto_region 9 with (first | (go_at_call 14; (with_reducible refine (Do_law w g gb ga c cp c1 bs ps l1 A1 n x s e _ HB.out HM.out HP.out HPR.out (by have := HQ.out; omega) (Kd.C_below HR1.out (zb HB)) HG1.out HD1.out).mono ?_); rintro e_ w_ ⟨rfl, hb⟩; replace HM := Aside0.mk (HM.out.below hb); replace HP := Aside0.mk (Kd.R_below HP.out hb); replace BK := zkb BK hb; replace HB := zbs HB hb; clear hb z0 z1 z2; obtain ⟨z0, z1, z2⟩ := ask3 BK.out) | fail)
  go_upto_region 10 with (first | (go_at_call 14; (with_reducible refine (Do_law w g gb ga c cp c1 bs ps l1 A1 (n + 6) x s e _ HB.out HM.out HP.out HPR.out (by have := HQ.out; omega) (Kd.C_below HR1.out (zb HB)) HG1.out HD2.out).mono ?_); rintro e_ w_ ⟨rfl, hb⟩; replace HM := Aside0.mk (HM.out.below hb); replace HP := Aside0.mk (Kd.R_below HP.out hb); replace BK := zkb BK hb; replace HB := zbs HB hb; clear hb z0 z1 z2; obtain ⟨z0, z1, z2⟩ := ask3 BK.out) | fail)
  clear HM HP HR1 BK z0 z1 z2 HD1 HD2
  go_wp2_with (first | (go_at_call 13; (with_reducible refine (num_be e _).mono ?_); rintro e_ w_ ⟨rfl, hb⟩; replace HB := zbs HB hb; clear hb) | (go_at_call 15; (with_reducible refine (live.is _).mono ?_); rintro e_ w_ ⟨rfl, hb⟩; replace HB := zbs HB hb; clear hb) | fail)
  go_ret
  exact ⟨rfl, zb HB⟩
end Go.Proofs.Ytmpiifjckhcbmaa.PQ
