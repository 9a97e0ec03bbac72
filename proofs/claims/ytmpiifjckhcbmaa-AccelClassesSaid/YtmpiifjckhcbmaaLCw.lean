/- The law AccelClasses (seat r18). -/
import Derived.Test.YtmpiifjckhcbmaaLCp
import Derived.Test.YtmpiifjckhcbmaaLC
namespace Go.Proofs.Ytmpiifjckhcbmaa.PQ
set_option linter.all false
open Go.RowKit Go.Proofs.YtmpiifjckhcbmaaW.PrintWords Go.Proofs.YtmpiifjckhcbmaaW.PrintLast Go.Proofs.YtmpiifjckhcbmaaW.PrintMore Go.Proofs.Ytmpiifjckhcbmaa.Z Go.Proofs.Ytmpiifjckhcbmaa.Pure
set_option linter.unusedVariables false
set_option linter.unusedSimpArgs false

theorem put_I {l : List Int} {a n x : Int} {o m : Nat} (hm : n = (m : Int)) (hn : m = 2 ∨ m = 4) (hx : 0 ≤ x ∧ x < 4294967296) (ha : a = ((o + 256 : Nat) : Int)) (ho : o + m ≤ l.length) (hl : l.length ≤ 10000) (hb : Byt l) :
    ∃ l', grottolaw18_put.f 300 l a n x = some l' ∧ l'.length = l.length ∧ Byt l' ∧ Same l l' o m ∧ HasB l' o (byts x.toNat m) := by
  obtain ⟨l', h1, h2⟩ := put_fact (l := l) (a := o + 256) (o := o) (x := x.toNat) (n := m) hn (by omega) rfl ho hl hb
  refine ⟨l', ?_, h2⟩
  rw [hm, ha, show x = ((x.toNat : Nat) : Int) by omega]
  exact h1
theorem put_eq (v w : World) (l r : List Int) (u : Value) (a n x a' x' : Int) (hb : Below v.heap.size v w) (ho : Kd.R (Kd.int .u8) 5 w v.heap.size (fun _ => True) u l) (h : grottolaw18_put.f 300 l a n x = some r) (ha : a' = a) (hx : x' = x) :
    Calls Try.prog 17 #[u, .int .i64 a', .int .i64 n, .int .u32 x'] w fun e w' => e = .returned (.tuple #[]) ∧ Kd.R (Kd.int .u8) 5 w' v.heap.size (fun _ => True) u r ∧ Below v.heap.size v w' ∧ Kept w w' (fun _ => True) := by
  subst ha hx
  exact put_law v w l r u a' n x' hb ho h
theorem byt_set {l : List Int} (h : Byt l) (i : Nat) {v : Int} (hv : 0 ≤ v ∧ v < 256) : Byt (l.set i v) := by
  intro x hx
  rcases List.mem_or_eq_of_mem_set hx with h1 | h1
  · exact h x h1
  · rw [h1]; exact hv
/-- the bytes while the classes are laid -/
structure CB1 (b : List Int) (i : Nat) : Prop where
  ln : b.length = 1792
  by' : Byt b
  c1 : ∀ k : Nat, k < i → HasB b (256 + 64 * k) (byts 112 1)
  c2 : ∀ k : Nat, k < i → HasB b (276 + 64 * k) (byts 2000 4)
  o7 : HasB b 857 (byts 0 1)
  o8 : HasB b 788 (byts 0 4)
  o9 : HasB b 4 (byts 0 4)
theorem CB1.zero : CB1 (List.replicate 1792 0) 0 := ⟨List.length_replicate, by intro x hx; rw [List.mem_replicate] at hx; omega, fun k h => by omega, fun k h => by omega, zero_has _ _ _ (by omega), zero_has _ _ _ (by omega), zero_has _ _ _ (by omega)⟩
theorem CB1.turn {b b' : List Int} {i o m : Nat} (h : CB1 b i) (hs : Same b b' o m) (hl : b'.length = b.length) (hb : Byt b') (ho : 256 + 64 * i ≤ o ∧ (o + m ≤ 788 ∨ 792 ≤ o) ∧ (o + m ≤ 857 ∨ 858 ≤ o)) : CB1 b' i :=
  ⟨hl.trans h.ln, hb, fun k hk => (h.c1 k hk).keep hs (by rw [byts_len]; omega), fun k hk => (h.c2 k hk).keep hs (by rw [byts_len]; omega), h.o7.keep hs (by rw [byts_len]; omega), h.o8.keep hs (by rw [byts_len]; omega), h.o9.keep hs (by rw [byts_len]; omega)⟩
theorem CB1.step {b : List Int} {i : Nat} (h : CB1 b i) (hi : i < 8) : ∃ b', grottolaw18_put.f 300 (b.set (256 + 64 * i) 112) (512 + 64 * (i : Int) + 20) 4 2000 = some b' ∧ CB1 b' (i + 1) := by
  have hs := set_has (l := b) (o := 256 + 64 * i) (x := 112) (by rw [h.ln]; omega) (by omega)
  have h1 : CB1 (b.set (256 + 64 * i) 112) i := h.turn hs.2 List.length_set (byt_set h.by' _ (by omega)) (by omega)
  obtain ⟨b', e, l1, b1, s1, f1⟩ := put_I (l := b.set (256 + 64 * i) 112) (a := 512 + 64 * (i : Int) + 20) (n := 4) (x := 2000) (o := 276 + 64 * i) (m := 4) rfl (Or.inr rfl) (by omega) (by omega) (by rw [h1.ln]; omega) (by rw [h1.ln]; omega) h1.by'
  have h2 : CB1 b' i := h1.turn s1 l1 b1 (by omega)
  refine ⟨b', e, h2.ln, h2.by', fun k hk => ?_, fun k hk => ?_, h2.o7, h2.o8, h2.o9⟩
  · by_cases c : k < i
    · exact h2.c1 k c
    · have : k = i := by omega
      subst this
      exact hs.1.keep s1 (by rw [byts_len]; omega)
  · by_cases c : k < i
    · exact h2.c2 k c
    · have : k = i := by omega
      subst this
      exact f1
/-- the bytes behind the object -/
structure CB2 (b L : List Int) (i : Nat) : Prop where
  ln : b.length = 1792
  by' : Byt b
  c1 : ∀ k : Nat, k < 8 → HasB b (256 + 64 * k) (byts 112 1)
  c2 : ∀ k : Nat, k < 8 → HasB b (276 + 64 * k) (byts 2000 4)
  o1 : HasB b 768 (byts 112 1)
  o2 : HasB b 784 (byts 1100 4)
  o3 : HasB b 844 (byts 1 4)
  o4 : HasB b 848 (byts 2 2)
  o5 : HasB b 850 (byts L.length 2)
  o6 : HasB b 852 (byts 1200 4)
  o7 : HasB b 857 (byts 0 1)
  o8 : HasB b 788 (byts 0 4)
  o9 : HasB b 4 (byts 0 4)
  l1 : ∀ j : Nat, j < i → HasB b (944 + 4 * j) (byts (512 + 64 * ((rd L (j : Int)).toNat % 8)) 4)
theorem CB1.obj {b : List Int} (h : CB1 b 8) (L : List Int) (hL : L.length ≤ 60) : ∃ b1 b2 b3 b4 b5, grottolaw18_put.f 300 (b.set 768 112) 1040 4 1100 = some b1 ∧ grottolaw18_put.f 300 b1 1100 4 1 = some b2 ∧ grottolaw18_put.f 300 b2 1104 2 2 = some b3 ∧ grottolaw18_put.f 300 b3 1106 2 (L.length : Int) = some b4 ∧ grottolaw18_put.f 300 b4 1108 4 1200 = some b5 ∧ CB2 b5 L 0 := by
  have hs := set_has (l := b) (o := 768) (x := 112) (by rw [h.ln]; omega) (by omega)
  have h0 : CB1 (b.set 768 112) 8 := h.turn hs.2 List.length_set (byt_set h.by' _ (by omega)) (by omega)
  obtain ⟨b1, e1, l1, y1, s1, f1⟩ := put_I (l := b.set 768 112) (a := 1040) (n := 4) (x := 1100) (o := 784) (m := 4) rfl (Or.inr rfl) (by omega) (by omega) (by rw [h0.ln]; omega) (by rw [h0.ln]; omega) h0.by'
  have h1 : CB1 b1 8 := h0.turn s1 l1 y1 (by omega)
  obtain ⟨b2, e2, l2, y2, s2, f2⟩ := put_I (l := b1) (a := 1100) (n := 4) (x := 1) (o := 844) (m := 4) rfl (Or.inr rfl) (by omega) (by omega) (by rw [h1.ln]; omega) (by rw [h1.ln]; omega) h1.by'
  have h2 : CB1 b2 8 := h1.turn s2 l2 y2 (by omega)
  obtain ⟨b3, e3, l3, y3, s3, f3⟩ := put_I (l := b2) (a := 1104) (n := 2) (x := 2) (o := 848) (m := 2) rfl (Or.inl rfl) (by omega) (by omega) (by rw [h2.ln]; omega) (by rw [h2.ln]; omega) h2.by'
  have h3 : CB1 b3 8 := h2.turn s3 l3 y3 (by omega)
  obtain ⟨b4, e4, l4, y4, s4, f4⟩ := put_I (l := b3) (a := 1106) (n := 2) (x := (L.length : Int)) (o := 850) (m := 2) rfl (Or.inl rfl) (by omega) (by omega) (by rw [h3.ln]; omega) (by rw [h3.ln]; omega) h3.by'
  have h4 : CB1 b4 8 := h3.turn s4 l4 y4 (by omega)
  obtain ⟨b5, e5, l5, y5, s5, f5⟩ := put_I (l := b4) (a := 1108) (n := 4) (x := 1200) (o := 852) (m := 4) rfl (Or.inr rfl) (by omega) (by omega) (by rw [h4.ln]; omega) (by rw [h4.ln]; omega) h4.by'
  have h5 : CB1 b5 8 := h4.turn s5 l5 y5 (by omega)
  refine ⟨b1, b2, b3, b4, b5, e1, e2, e3, e4, e5, h5.ln, h5.by', h5.c1, h5.c2, ?_, ?_, ?_, ?_, ?_, f5, h5.o7, h5.o8, h5.o9, fun j hj => by omega⟩
  · exact ((((hs.1.keep s1 (by rw [byts_len]; omega)).keep s2 (by rw [byts_len]; omega)).keep s3 (by rw [byts_len]; omega)).keep s4 (by rw [byts_len]; omega)).keep s5 (by rw [byts_len]; omega)
  · exact (((f1.keep s2 (by rw [byts_len]; omega)).keep s3 (by rw [byts_len]; omega)).keep s4 (by rw [byts_len]; omega)).keep s5 (by rw [byts_len]; omega)
  · exact ((f2.keep s3 (by rw [byts_len]; omega)).keep s4 (by rw [byts_len]; omega)).keep s5 (by rw [byts_len]; omega)
  · exact (f3.keep s4 (by rw [byts_len]; omega)).keep s5 (by rw [byts_len]; omega)
  · have := f4.keep s5 (by rw [byts_len]; omega)
    rwa [Int.toNat_natCast] at this
theorem CB2.step {b L : List Int} {i : Nat} (h : CB2 b L i) (hL : L.length ≤ 60) (hi : i < L.length) (hb : Byt L) : ∃ b', grottolaw18_put.f 300 b (1200 + 4 * (i : Int)) 4 (512 + 64 * (rd L (i : Int) % 8)) = some b' ∧ CB2 b' L (i + 1) := by
  have hv := hb.at hi
  obtain ⟨b', e, l1, b1, s1, f1⟩ := put_I (l := b) (a := 1200 + 4 * (i : Int)) (n := 4) (x := 512 + 64 * (rd L (i : Int) % 8)) (o := 944 + 4 * i) (m := 4) rfl (Or.inr rfl) (by omega) (by omega) (by rw [h.ln]; omega) (by rw [h.ln]; omega) h.by'
  refine ⟨b', e, l1.trans h.ln, b1, fun k hk => (h.c1 k hk).keep s1 (by rw [byts_len]; omega), fun k hk => (h.c2 k hk).keep s1 (by rw [byts_len]; omega), h.o1.keep s1 (by rw [byts_len]; omega), h.o2.keep s1 (by rw [byts_len]; omega), h.o3.keep s1 (by rw [byts_len]; omega), h.o4.keep s1 (by rw [byts_len]; omega), h.o5.keep s1 (by rw [byts_len]; omega), h.o6.keep s1 (by rw [byts_len]; omega), h.o7.keep s1 (by rw [byts_len]; omega), h.o8.keep s1 (by rw [byts_len]; omega), h.o9.keep s1 (by rw [byts_len]; omega), fun j hj => ?_⟩
  by_cases c : j < i
  · exact (h.l1 j c).keep s1 (by rw [byts_len]; omega)
  · have : j = i := by omega
    subst this
    rw [show (512 + 64 * (rd L (j : Int) % 8)).toNat = 512 + 64 * ((rd L (j : Int)).toNat % 8) by omega] at f1
    exact f1
theorem CB2.cls {b L : List Int} (h : CB2 b L L.length) (hL : L.length ≤ 60) (hb : Byt L) : ClsB b L := ⟨h.ln, h.c1, h.c2, h.o1, h.o2, h.o3, h.o4, h.o5, h.o6, h.o7, h.o8, h.o9, h.l1, hL, hb⟩
/-- is the class named by one of the first i? -/
def inK (L : List Int) (k : Nat) (i : Nat) : Bool := (L.take i).any (fun v => v.toNat % 8 == k)
theorem cls_x (v : Int) (h : 0 ≤ v ∧ v < 256) : wrap64 (512 + wrap64 (64 * (wrap64 v).tmod 8)) % 4294967296 = 512 + 64 * (v % 8) := by
  rw [w64 (n := v) (by omega) (by omega), Int.tmod_eq_emod_of_nonneg h.1, w64 (n := 64 * (v % 8)) (by omega) (by omega), w64 (by omega) (by omega)]
  omega
theorem cls_q (v : Int) (h : 0 ≤ v ∧ v < 256) (k : Nat) : ((wrap64 v).tmod 8 == (k : Int)) = (v.toNat % 8 == k) := by
  rw [w64 (n := v) (by omega) (by omega), Int.tmod_eq_emod_of_nonneg h.1]
  by_cases e : v.toNat % 8 = k
  · rw [e, beq_self_eq_true]
    exact beq_iff_eq.2 (by omega)
  · rw [beq_false_of_ne e]
    exact beq_false_of_ne (by omega)
theorem inK_step {L : List Int} {k i : Nat} (h : i < L.length) : inK L k (i + 1) = (inK L k i || (rd L (i : Int)).toNat % 8 == k) := by
  unfold inK
  rw [List.take_succ_eq_append_getElem h, List.any_append, rd_nat h]
  simp
theorem laid_b {b : List Int} (A : Option Addr) (c0 : Nat) (w : World) (hr : Kd.C (Kd.int .u8) w A 1792 b) (hl : b.length = 1792) (hb : Byt b) :
    Calls Try.prog 9 #[.slice A 1792 c0] w fun e w' => ∃ g gb c h hb d : Nat, e = .returned (.tuple #[.pointer (some ⟨g, 0, none⟩), .pointer (some ⟨h, 0, none⟩)]) ∧ PH w' w.heap.size g gb c (memB b) ∧ Below w.heap.size w w' := by
  have h := laid.is A c0 b w (by rw [hl]; exact hr) hb (by rw [hl]; omega)
  rw [hl] at h
  refine h.mono ?_
  rintro e w' ⟨g, gb, c, h, hb', d, rfl, hm, _, _, _, _, hbl⟩
  exact ⟨g, gb, c, h, hb', d, rfl, by unfold memB; rw [hl]; exact hm, hbl⟩
theorem params_nine (l : List Int) (hl : l.length = 9) (A : Option Addr) (c : Nat) (w : World) (hr : Kd.C (Kd.int .u32) w A 9 l) (hc : 9 ≤ c) :
    Calls Try.prog 10 #[.slice A 9 c] w fun e w' => ∃ ga cp : Nat, e = .returned (.slice (some ⟨ga, 0, none⟩) 9 cp) ∧ Kd.R (Kd.int .u32) 29 w' w.heap.size (fun _ => True) (.slice (some ⟨ga, 0, none⟩) 9 cp) l ∧ Below w.heap.size w w' := by
  have h := params_law l A c w (by rw [hl]; exact hr) (by rw [hl]; exact hc)
  rw [hl, show parL l = l by unfold parL; rw [List.take_of_length_le (by omega), hl]; simp] at h
  exact h
set_option maxHeartbeats 8000000 in
set_option maxRecDepth 100000 in
theorem AccelClasses.law (A0 : Option Addr) (c0 : Nat) (L : List Int) (k0 : Int) (w : World) (hr0 : Kd.C (Kd.int .u8) w A0 L.length L) (hc0 : L.length ≤ c0) (hm0 : L.length ≤ maxLen) (y0 : L.length * 1 ≤ 140737488351232) (w0 : ∀ x ∈ L, (Lit.int .u8 x).wf = true) (w1 : (Lit.int .u8 k0).wf = true) :
    Calls Try.prog 5 #[.slice A0 L.length c0, .int .u8 k0] w fun e w' => e = .returned (.bool true) ∧ Below w.heap.size w w' := by
  have HR0 := Aside0.mk hr0
  have HY := Aside0.mk (byt_of w0)
  have hk0 := wf_u8 w1
  have HB := Aside0.mk (Below.refl w.heap.size w)
  clear hr0 hc0 hm0 y0 w0 w1
  by_cases q : 60 < (L.length : Int)
  · have d : decide (60 < (L.length : Int)) = true := decide_eq_true q
    have dn : decide (60 < L.length) = true := decide_eq_true (by omega)
    clear q
    go_enter Try.func5, Try.ntmps5
    go_wp2_with (first | (go_at_call 15; (with_reducible refine (live.is _).mono ?_); rintro e_ w_ ⟨rfl, hb⟩; replace HB := zbs HB hb; clear hb) | fail)
    go_ret
    exact ⟨rfl, zb HB⟩
  have HL := Aside0.mk (show L.length ≤ 60 by omega)
  have d : decide (60 < (L.length : Int)) = false := decide_eq_false q
  have dn : decide (60 < L.length) = false := decide_eq_false (by omega)
  obtain ⟨k, hk⟩ : ∃ k : Nat, k0 % 8 = (k : Int) := ⟨(k0 % 8).toNat, by omega⟩
  have HK := Aside0.mk (show k < 8 by omega)
  have HCX := Aside0.mk (show wrap64 (512 + wrap64 (64 * (wrap64 k0).tmod 8)) % 4294967296 = 512 + 64 * (k : Int) by rw [cls_x k0 (by omega), hk])
  have HE1 := Aside0.mk (show wrap64 (64 * (k : Int)) = 64 * (k : Int) from w64 (by omega) (by omega))
  have HE2 := Aside0.mk (show wrap64 (512 + 64 * (k : Int)) = 512 + 64 * (k : Int) from w64 (by omega) (by omega))
  have e3 : (512 + 64 * (k : Int)) % 4294967296 = 512 + 64 * (k : Int) := by omega
  have HE4 := Aside0.mk (show (wrap64 k0).tmod 8 = (k : Int) by rw [w64 (by omega) (by omega), Int.tmod_eq_emod_of_nonneg (by omega)]; exact hk)
  clear q hk0
  go_enter Try.func5, Try.ntmps5
  go_wp2_with (first | ((with_reducible refine gate_dst (N := 34) rfl ?_); refine Kd.R_make (Kd.int .u8) _ 5 rfl (N := 34) rfl 41 _ _ rfl 1792 rfl rfl Try.underlying41 (.int .u8 0) 1 info5 rfl (by decide) (by omega) 0 (ok := fun _ => True) (okp := fun _ => True) rfl (fun _ hk => hk) trivial (by omega) (by omega) (Below.refl _ _) (Nat.le_refl _) ?_; intro v1 w1 ho hb hg_ hnew_; clear hg_ hnew_; replace ho : Kd.R (Kd.int .u8) 5 w1 _ (fun _ => True) v1 (List.replicate 1792 0) := ho; obtain ⟨gl, cl, he_, _⟩ := Kd.R_form ho (by rw [List.length_replicate]; omega); rw [List.length_replicate] at he_; subst he_; have HO := Aside0.mk (Kd.R_lower ho (below_size HB.out)); replace HB := zbs HB hb; clear hb ho) | fail)
  go_loopg [6] 9 (fun kq v6 w' => ∃ (i : Nat) (b : List Int), v6 = .int .i64 (i : Int) ∧ Aside0 (i ≤ 8 ∧ kq = 8 - i + 1) ∧ Aside0 (CB1 b i) ∧ Aside0 (Kd.R (Kd.int .u8) 5 w' w.heap.size (fun _ => True) (.slice (some ⟨gl, 0, none⟩) 1792 cl) b) ∧ Aside0 (Below w.heap.size w w'))
  case atStart => exact ⟨0, _, rfl, ⟨by omega⟩, ⟨CB1.zero⟩, HO, HB⟩
  case round =>
    clear HO HB
    obtain ⟨i, b, rfl, HI, HC, HO, HB⟩ := hrel
    by_cases c : i < 8
    · have c1 : decide ((i : Int) < 8) = true := decide_eq_true (by omega)
      have c1n : decide (i < 8) = true := decide_eq_true c
      have p1 : 0 ≤ 512 + 64 * (i : Int) - 256 := by omega
      have p2 : 512 + 64 * (i : Int) - 256 < 1792 := by omega
      have HJ := Aside0.mk (show 512 + 64 * i - 256 < 1792 by omega)
      have HJE := Aside0.mk (show 512 + 64 * i - 256 = 256 + 64 * i by omega)
      obtain ⟨b', hp, hc'⟩ := HC.out.step c
      have HP := Aside0.mk hp
      have HC2 := Aside0.mk hc'
      have HI2 := Aside0.mk (show i + 1 ≤ 8 ∧ 8 - (i + 1) + 1 = 8 - (i + 1) + 1 ∧ 8 - (i + 1) + 1 < gk by have := HI.out; omega)
      clear c hp hc'
      go_wp2_with (first | ((with_reducible refine gate_ (.store 5 (.tmp 44) (.const (.int .u8 112))) rfl ?_); go_loud (refine store_row rfl rfl 5 5 (.tmp 44) (.const (.int .u8 112)) rfl (j := 512 + 64 * i - 256) (g := gl) (k := .u8) (z := 112) rfl rfl HO.out HJ.out (infoW info5) ?_; intro w2 ho hg hge; rw [HJE.out] at ho; have HO1 := Aside0.mk ho; replace HB := Aside0.mk (HB.out.grown hg (below_size HB.out) (fun k_ hk_ => by injection hk_ with hk_; subst hk_; exact hge)); clear ho hg hge HO)) | (go_at_call 17; go_loud ((with_reducible refine (put_eq w _ _ b' _ (512 + 64 * (i : Int) + 20) 4 2000 _ _ HB.out HO1.out HP.out ?ha rfl).mono ?_); (case ha => first | rfl | omega | (trace_state; fail)); rintro e_ w_ ⟨rfl, ho, hb, _⟩; have HO2 := Aside0.mk ho; replace HB := Aside0.mk hb; clear ho hb HO1)) | fail)
      go_roundg (8 - (i + 1) + 1)
      case measure => exact HI2.out.2.2
      case rel => exact ⟨i + 1, b', by first | rfl | (rw [w64 (by have := HI2.out; omega) (by have := HI2.out; omega)]; rfl), ⟨HI2.out.1, rfl⟩, HC2, HO2, HB⟩
    · have c1 : decide ((i : Int) < 8) = false := decide_eq_false (by omega)
      have c1n : decide (i < 8) = false := decide_eq_false c
      have hi8 : i = 8 := by have := HI.out; omega
      subst hi8
      obtain ⟨b1, b2, b3, b4, b5, h1, h2, h3, h4, h5, hc⟩ := HC.out.obj L HL.out
      have HP1 := Aside0.mk h1
      have HP2 := Aside0.mk h2
      have HP3 := Aside0.mk h3
      have HP4 := Aside0.mk h4
      have HP5 := Aside0.mk h5
      have HC2 := Aside0.mk hc
      have hll : (L.length : Int) % 4294967296 = (L.length : Int) := by have := HL.out; omega
      clear c h1 h2 h3 h4 h5 hc HC HI
      go_upto_region 10 with (first | ((with_reducible refine gate_ (.store 5 (.tmp 52) (.const (.int .u8 112))) rfl ?_); go_loud (refine store_row rfl rfl 5 5 (.tmp 52) (.const (.int .u8 112)) rfl (j := 768) (g := gl) (k := .u8) (z := 112) rfl rfl HO.out (by omega) (infoW info5) ?_; intro w2 ho hg hge; have HO0 := Aside0.mk ho; replace HB := Aside0.mk (HB.out.grown hg (below_size HB.out) (fun k_ hk_ => by injection hk_ with hk_; subst hk_; exact hge)); clear ho hg hge HO)) | fail)
      go_upto_region 11 with (first | (go_at_call 17; (with_reducible refine (put_law w _ _ b1 _ 1040 4 1100 HB.out HO0.out HP1.out).mono ?_); rintro e_ w_ ⟨rfl, ho, hb, _⟩; have HO1 := Aside0.mk ho; replace HB := Aside0.mk hb; clear ho hb HO0) | fail)
      go_upto_region 12 with (first | (go_at_call 17; (with_reducible refine (put_law w _ _ b2 _ 1100 4 1 HB.out HO1.out HP2.out).mono ?_); rintro e_ w_ ⟨rfl, ho, hb, _⟩; have HO2 := Aside0.mk ho; replace HB := Aside0.mk hb; clear ho hb HO1) | fail)
      go_upto_region 13 with (first | (go_at_call 17; (with_reducible refine (put_law w _ _ b3 _ 1104 2 2 HB.out HO2.out HP3.out).mono ?_); rintro e_ w_ ⟨rfl, ho, hb, _⟩; have HO3 := Aside0.mk ho; replace HB := Aside0.mk hb; clear ho hb HO2) | fail)
      go_upto_region 14 with (first | (go_at_call 17; (with_reducible refine (put_law w _ _ b4 _ 1106 2 (L.length : Int) HB.out HO3.out HP4.out).mono ?_); rintro e_ w_ ⟨rfl, ho, hb, _⟩; have HO4 := Aside0.mk ho; replace HB := Aside0.mk hb; clear ho hb HO3) | fail)
      go_wp2_with (first | (go_at_call 17; (with_reducible refine (put_law w _ _ b5 _ 1108 4 1200 HB.out HO4.out HP5.out).mono ?_); rintro e_ w_ ⟨rfl, ho, hb, _⟩; have HO5 := Aside0.mk ho; replace HB := Aside0.mk hb; clear ho hb HO4) | fail)
      go_loopg [7, 9] (L.length + 1) (fun kq v7 v9 w' => ∃ (i : Nat) (b : List Int), v7 = .bool (inK L k i) ∧ v9 = .int .i64 (i : Int) ∧ Aside0 (i ≤ L.length ∧ kq = L.length - i + 1) ∧ Aside0 (CB2 b L i) ∧ Aside0 (Kd.R (Kd.int .u8) 5 w' w.heap.size (fun _ => True) (.slice (some ⟨gl, 0, none⟩) 1792 cl) b) ∧ Aside0 (Below w.heap.size w w'))
      case atStart => exact ⟨0, _, rfl, rfl, ⟨by omega⟩, HC2, HO5, HB⟩
      case round =>
        clear HO5 HB HC2 HP1 HP2 HP3 HP4 HP5
        obtain ⟨i, b, rfl, rfl, HI, HC, HO, HB⟩ := hrel
        by_cases c : i < L.length
        · have c1 : decide ((i : Int) < (L.length : Int)) = true := decide_eq_true (by omega)
          have c1n : decide (i < L.length) = true := decide_eq_true c
          have hv := HY.out.at c
          obtain ⟨v, hvv⟩ : ∃ v, rd L (i : Int) = v := ⟨_, rfl⟩
          obtain ⟨b', hp, hc'⟩ := HC.out.step HL.out c HY.out
          have hin := inK_step (k := k) c
          rw [hvv] at hv hp hin
          obtain ⟨ad, ea, hx⟩ := Kd.at_int HR0.out (i : Int) (by omega) (by omega)
          subst ea
          rw [hvv, Int.toNat_natCast] at hx
          have hx2 := pw_cell_below HB.out hx
          have hv8 : 0 ≤ v % 8 ∧ v % 8 < 8 := by omega
          have p1 : (i : Int) < (L.length : Int) := by omega
          have p2 : (0 : Int) ≤ (i : Int) := by omega
          have HVX := Aside0.mk (cls_x v hv)
          have hq := cls_q v hv k
          rw [← HE4.out] at hq
          rw [← hq] at hin
          have HIN := Aside0.mk hin
          have HP := Aside0.mk hp
          have HC2 := Aside0.mk hc'
          have HI2 := Aside0.mk (show i + 1 ≤ L.length ∧ L.length - (i + 1) + 1 < gk by have := HI.out; omega)
          have HXX := Aside0.mk hx
          clear c hp hc' hv hvv hin hq hx
          cases hj : inK L k i <;> cases hq : (wrap64 v).tmod 8 == (wrap64 k0).tmod 8
          all_goals
            have HIN2 := Aside0.mk HIN.out
            rw [hj, hq] at HIN2
            clear HIN
            go_wp2_with (first | (go_at_call 17; go_loud ((with_reducible refine (put_eq w _ _ b' _ (1200 + 4 * (i : Int)) 4 (512 + 64 * (v % 8)) _ _ HB.out HO.out HP.out ?ha ?hx).mono ?_); (case ha => first | rfl | omega | (trace_state; fail)); (case hx => exact HVX.out); rintro e_ w_ ⟨rfl, ho, hb, _⟩; have HO2 := Aside0.mk ho; replace HB := Aside0.mk hb; have hx3 := pw_cell_below HB.out HXX.out; clear ho hb HO hx2)) | fail)
            go_roundg (L.length - (i + 1) + 1)
            case measure => exact HI2.out.2
            case rel => exact ⟨i + 1, b', by rw [HIN2.out]; rfl, by first | rfl | (rw [w64 (by have := HI2.out; have := HL.out; omega) (by have := HI2.out; have := HL.out; omega)]; rfl), ⟨HI2.out.1, rfl⟩, HC2, HO2, HB⟩
        · have c1 : decide ((i : Int) < (L.length : Int)) = false := decide_eq_false (by omega)
          have c1n : decide (i < L.length) = false := decide_eq_false c
          have hi8 : i = L.length := by have := HI.out; omega
          subst hi8
          have HCL := Aside0.mk (HC.out.cls HL.out HY.out)
          have hin : inK L k L.length = L.any (fun v => v.toNat % 8 == k) := by unfold inK; rw [List.take_of_length_le (Nat.le_refl _)]
          obtain ⟨t, ht⟩ : ∃ t, inK L k L.length = t := ⟨_, rfl⟩
          rw [ht]
          have hkk : ((512 + 64 * k : Nat) : Int) = 512 + 64 * (k : Int) := by omega
          have dx := do5 (HCL.out.x HK.out) (fun h => by cases h)
          have dy := do5 (HCL.out.y HK.out) (fun h => by cases h)
          have dz := do5 HCL.out.z (fun h => by cases h)
          have du := do5 (HCL.out.u HK.out) (fun h => by cases h)
          have dt := do5 HCL.out.t (fun _ => rfl)
          rw [← hin, ht, hkk] at dx
          rw [hkk] at dy du
          have Dx := Aside0.mk dx
          have Dy := Aside0.mk dy
          have Dz := Aside0.mk dz
          have Du := Aside0.mk du
          have Dt := Aside0.mk dt
          have HLN := Aside0.mk HCL.out.ln
          have HBY := Aside0.mk HC.out.by'
          have HCR := Aside0.mk (show 0 ≤ 512 + 64 * (k : Int) ∧ 512 + 64 * (k : Int) < 4294967296 by have := HK.out; omega)
          clear dx dy dz du dt hin ht hkk HC HCL c HI
          go_upto_region 25 with (first | (go_at_call 9; (with_reducible refine (laid_b _ _ _ ((Kd.R_reads' HO.out).1 ▸ (Kd.R_reads' HO.out).2.2) HLN.out HBY.out).mono ?_); rintro e_ w_ ⟨g, gb, c, h, hb', d', rfl, hm, hb⟩; have HM := Aside0.mk (show PH w_ w.heap.size g gb c (memB b) from hm.lower (below_size HB.out)); replace HB := zbs HB hb; clear hb hm) | fail)
          clear HO
          go_upto_region 26 with (first | ((with_reducible refine gate_dst (N := 107) rfl ?_); refine Kd.R_lit (Kd.int .u32) _ 29 ?hg (N := 107) ?hd (xs := clP) (inner := [.int .u32 0, .int .u32 256, .int .u32 2000, .int .u32 2004, .int .u32 2008, .int .u32 2012, .int .u32 260, .int .u32 7, .int .u32 300]) (ok := fun _ => True) (okp := fun _ => True) ?hr ?hp (fun _ hk => hk) trivial (Below.refl _ _) (Nat.le_refl _) (by simp) ?_; (case hd => rfl); (case hg => rfl); (case hr => first | (go_simp; done) | (go_simp; rfl)); (case hp => exact Kd.reps_scalar (enc := Value.int .u32) clP); intro v3 w3 ho hb hg_ hnew_; clear hg_ hnew_; obtain ⟨A3, c3, he3, hc3, hr3⟩ := Kd.R_reads ho; replace he3 : v3 = .slice A3 9 c3 := he3; subst he3; have HX := Aside0.mk (show Kd.C (Kd.int .u32) w3 A3 9 clP from hr3); have HXC := Aside0.mk (show 9 ≤ c3 from hc3); replace HM := Aside0.mk (HM.out.below hb); replace HB := zbs HB hb; clear hb ho hr3 hc3) | (go_at_call 10; (with_reducible refine (params_nine clP rfl _ _ _ HX.out HXC.out).mono ?_); rintro e_ w_ ⟨ga, cp, rfl, hp, hb⟩; have HP := Aside0.mk (Kd.R_lower hp (below_size HB.out)); replace HM := Aside0.mk (HM.out.below hb); replace HB := zbs HB hb; clear hb hp HX HXC) | fail)
          go_upto_region 27 with (fail)
          rw [HCX.out]
          go_upto_region 28 with (first | ((with_reducible refine gate_dst (N := 117) rfl ?_); refine Kd.R_lit (Kd.int .u32) _ 29 ?hg (N := 117) ?hd (xs := ([1024, 512 + 64 * (k : Int)] : List Int)) (inner := [.int .u32 (1024), .int .u32 (512 + 64 * (k : Int))]) (ok := fun _ => True) (okp := fun _ => True) ?hr ?hp (fun _ hk => hk) trivial (Below.refl _ _) (Nat.le_refl _) (by simp) ?_; (case hd => rfl); (case hg => rfl); (case hr => first | (go_simp; done) | (go_simp; rfl)); (case hp => exact Kd.reps_scalar (enc := Value.int .u32) ([1024, 512 + 64 * (k : Int)] : List Int)); intro v3 w3 ho hb hg_ hnew_; clear hg_ hnew_; obtain ⟨A3, c3, he3, hc3, hr3⟩ := Kd.R_reads ho; replace he3 : v3 = .slice A3 2 c3 := he3; subst he3; have HX := Aside0.mk (show Kd.C (Kd.int .u32) w3 A3 2 [1024, 512 + 64 * (k : Int)] from hr3); clear ho hr3 hc3; replace HM := Aside0.mk (HM.out.below hb); replace HP := Aside0.mk (Kd.R_below HP.out hb); replace HB := zbs HB hb; clear hb) | (go_at_call 14; go_loud ((with_reducible refine (Do_two w g gb ga c cp _ (memB b) clP (1024) (512 + 64 * (k : Int)) A3 5 _ _ _ _ HB.out HM.out HP.out (by decide) (by omega) HX.out (by omega) HCR.out Dx.out).mono ?_); rintro e_ w_ ⟨rfl, hb⟩; clear HX; replace HM := Aside0.mk (HM.out.below hb); replace HP := Aside0.mk (Kd.R_below HP.out hb); replace HB := zbs HB hb; clear hb)) | fail)
          go_upto_region 29 with (first | ((with_reducible refine gate_dst (N := 126) rfl ?_); refine Kd.R_lit (Kd.int .u32) _ 29 ?hg (N := 126) ?hd (xs := ([512 + 64 * (k : Int), 2000] : List Int)) (inner := [.int .u32 (512 + 64 * (k : Int)), .int .u32 (2000)]) (ok := fun _ => True) (okp := fun _ => True) ?hr ?hp (fun _ hk => hk) trivial (Below.refl _ _) (Nat.le_refl _) (by simp) ?_; (case hd => rfl); (case hg => rfl); (case hr => first | (go_simp; done) | (go_simp; rfl)); (case hp => exact Kd.reps_scalar (enc := Value.int .u32) ([512 + 64 * (k : Int), 2000] : List Int)); intro v3 w3 ho hb hg_ hnew_; clear hg_ hnew_; obtain ⟨A3, c3, he3, hc3, hr3⟩ := Kd.R_reads ho; replace he3 : v3 = .slice A3 2 c3 := he3; subst he3; have HX := Aside0.mk (show Kd.C (Kd.int .u32) w3 A3 2 [512 + 64 * (k : Int), 2000] from hr3); clear ho hr3 hc3; replace HM := Aside0.mk (HM.out.below hb); replace HP := Aside0.mk (Kd.R_below HP.out hb); replace HB := zbs HB hb; clear hb) | (go_at_call 14; go_loud ((with_reducible refine (Do_two w g gb ga c cp _ (memB b) clP (512 + 64 * (k : Int)) (2000) A3 5 _ _ _ _ HB.out HM.out HP.out (by decide) (by omega) HX.out HCR.out (by omega) Dy.out).mono ?_); rintro e_ w_ ⟨rfl, hb⟩; clear HX; replace HM := Aside0.mk (HM.out.below hb); replace HP := Aside0.mk (Kd.R_below HP.out hb); replace HB := zbs HB hb; clear hb)) | fail)
          go_upto_region 30 with (first | ((with_reducible refine gate_dst (N := 134) rfl ?_); refine Kd.R_lit (Kd.int .u32) _ 29 ?hg (N := 134) ?hd (xs := ([1024, 2004] : List Int)) (inner := [.int .u32 (1024), .int .u32 (2004)]) (ok := fun _ => True) (okp := fun _ => True) ?hr ?hp (fun _ hk => hk) trivial (Below.refl _ _) (Nat.le_refl _) (by simp) ?_; (case hd => rfl); (case hg => rfl); (case hr => first | (go_simp; done) | (go_simp; rfl)); (case hp => exact Kd.reps_scalar (enc := Value.int .u32) ([1024, 2004] : List Int)); intro v3 w3 ho hb hg_ hnew_; clear hg_ hnew_; obtain ⟨A3, c3, he3, hc3, hr3⟩ := Kd.R_reads ho; replace he3 : v3 = .slice A3 2 c3 := he3; subst he3; have HX := Aside0.mk (show Kd.C (Kd.int .u32) w3 A3 2 [1024, 2004] from hr3); clear ho hr3 hc3; replace HM := Aside0.mk (HM.out.below hb); replace HP := Aside0.mk (Kd.R_below HP.out hb); replace HB := zbs HB hb; clear hb) | (go_at_call 14; go_loud ((with_reducible refine (Do_two w g gb ga c cp _ (memB b) clP (1024) (2004) A3 5 _ _ _ _ HB.out HM.out HP.out (by decide) (by omega) HX.out (by omega) (by omega) Dz.out).mono ?_); rintro e_ w_ ⟨rfl, hb⟩; clear HX; replace HM := Aside0.mk (HM.out.below hb); replace HP := Aside0.mk (Kd.R_below HP.out hb); replace HB := zbs HB hb; clear hb)) | fail)
          go_upto_region 31 with (first | ((with_reducible refine gate_dst (N := 143) rfl ?_); refine Kd.R_lit (Kd.int .u32) _ 29 ?hg (N := 143) ?hd (xs := ([512 + 64 * (k : Int), 2004] : List Int)) (inner := [.int .u32 (512 + 64 * (k : Int)), .int .u32 (2004)]) (ok := fun _ => True) (okp := fun _ => True) ?hr ?hp (fun _ hk => hk) trivial (Below.refl _ _) (Nat.le_refl _) (by simp) ?_; (case hd => rfl); (case hg => rfl); (case hr => first | (go_simp; done) | (go_simp; rfl)); (case hp => exact Kd.reps_scalar (enc := Value.int .u32) ([512 + 64 * (k : Int), 2004] : List Int)); intro v3 w3 ho hb hg_ hnew_; clear hg_ hnew_; obtain ⟨A3, c3, he3, hc3, hr3⟩ := Kd.R_reads ho; replace he3 : v3 = .slice A3 2 c3 := he3; subst he3; have HX := Aside0.mk (show Kd.C (Kd.int .u32) w3 A3 2 [512 + 64 * (k : Int), 2004] from hr3); clear ho hr3 hc3; replace HM := Aside0.mk (HM.out.below hb); replace HP := Aside0.mk (Kd.R_below HP.out hb); replace HB := zbs HB hb; clear hb) | (go_at_call 14; go_loud ((with_reducible refine (Do_two w g gb ga c cp _ (memB b) clP (512 + 64 * (k : Int)) (2004) A3 5 _ _ _ _ HB.out HM.out HP.out (by decide) (by omega) HX.out HCR.out (by omega) Du.out).mono ?_); rintro e_ w_ ⟨rfl, hb⟩; clear HX; replace HM := Aside0.mk (HM.out.below hb); replace HP := Aside0.mk (Kd.R_below HP.out hb); replace HB := zbs HB hb; clear hb)) | fail)
          go_upto_region 32 with (first | ((with_reducible refine gate_dst (N := 151) rfl ?_); refine Kd.R_lit (Kd.int .u32) _ 29 ?hg (N := 151) ?hd (xs := ([1024, 1024] : List Int)) (inner := [.int .u32 (1024), .int .u32 (1024)]) (ok := fun _ => True) (okp := fun _ => True) ?hr ?hp (fun _ hk => hk) trivial (Below.refl _ _) (Nat.le_refl _) (by simp) ?_; (case hd => rfl); (case hg => rfl); (case hr => first | (go_simp; done) | (go_simp; rfl)); (case hp => exact Kd.reps_scalar (enc := Value.int .u32) ([1024, 1024] : List Int)); intro v3 w3 ho hb hg_ hnew_; clear hg_ hnew_; obtain ⟨A3, c3, he3, hc3, hr3⟩ := Kd.R_reads ho; replace he3 : v3 = .slice A3 2 c3 := he3; subst he3; have HX := Aside0.mk (show Kd.C (Kd.int .u32) w3 A3 2 [1024, 1024] from hr3); clear ho hr3 hc3; replace HM := Aside0.mk (HM.out.below hb); replace HP := Aside0.mk (Kd.R_below HP.out hb); replace HB := zbs HB hb; clear hb) | (go_at_call 14; go_loud ((with_reducible refine (Do_two w g gb ga c cp _ (memB b) clP (1024) (1024) A3 5 _ _ _ _ HB.out HM.out HP.out (by decide) (by omega) HX.out (by omega) (by omega) Dt.out).mono ?_); rintro e_ w_ ⟨rfl, hb⟩; clear HX; replace HM := Aside0.mk (HM.out.below hb); replace HP := Aside0.mk (Kd.R_below HP.out hb); replace HB := zbs HB hb; clear hb)) | fail)
          clear HM HP Dx Dy Dz Du Dt
          cases t
          all_goals
            go_wp2_with (first | (go_at_call 13; (with_reducible refine (num_be 0 _).mono ?_); rintro e_ w_ ⟨rfl, hb⟩; replace HB := zbs HB hb; clear hb) | (go_at_call 15; (with_reducible refine (live.is _).mono ?_); rintro e_ w_ ⟨rfl, hb⟩; replace HB := zbs HB hb; clear hb) | fail)
            go_ret
            exact ⟨rfl, zb HB⟩
end Go.Proofs.Ytmpiifjckhcbmaa.PQ
