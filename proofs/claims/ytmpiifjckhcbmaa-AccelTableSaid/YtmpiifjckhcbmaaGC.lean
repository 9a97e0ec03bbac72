/- Texts AC1 AC2 AC3 AC4 AC5 AC6 AC7 in one. -/
import Derived.Test.YtmpiifjckhcbmaaGB
import Derived.Test.YtmpiifjckhcbmaaHR
import Derived.Test.YtmpiifjckhcbmaaPQx7
/- accel: the state of one work; read, wrong, bad (numbers of seat r18). -/
namespace Go.Proofs.Ytmpiifjckhcbmaa.PQ
set_option linter.all false
open Go.RowKit Go.Proofs.YtmpiifjckhcbmaaW.PrintWords Go.Proofs.YtmpiifjckhcbmaaW.PrintLast Go.Proofs.YtmpiifjckhcbmaaW.PrintMore Go.Proofs.Ytmpiifjckhcbmaa.Z Go.Proofs.Ytmpiifjckhcbmaa.Pure
set_option linter.unusedVariables false
set_option linter.unusedSimpArgs false
theorem PW.neW {w : World} {base g gb c gs : Nat} {bs : List Int} {cs : Array Value} (h : PW w base g gb c bs) (hb : w.heap[gs]? = some (.cells cs 86 (0, 0))) : some g ≠ some gs ∧ some gb ≠ some gs := by
  obtain ⟨x, k1, _⟩ := h.blk
  have a := blk_ne k1 hb (by decide)
  have b := ne_of_R h.row hb (by decide)
  exact ⟨by simpa using a, by simpa using fun e => b e.symm⟩
theorem infoW {P : Program} {e : TypeId} {z : Option Value} {s b : Nat} (h : (P.info? e).map (fun i => (i.zero, i.size, i.bytes)) = some (z, s, b)) : (P.info? e).map (·.size) = some s := by
  obtain ⟨i, hi, hz⟩ := Option.map_eq_some_iff.1 h
  simp only [Prod.mk.injEq] at hz
  rw [hi, Option.map_some, hz.2.1]
theorem info30q : (Try.prog.info? 30).map (fun i => (i.zero, i.size, i.bytes)) = some (some (.int .i64 0), 1, 8) := by kernel_rfl
/-- the cells of a work -/
abbrev wkC (gm : Nat) (A : Option Addr) (np cp : Nat) (attrs slip e : Int) : Array Value := #[.pointer (some ⟨gm, 0, none⟩), .slice A np cp, .int .u32 attrs, .int .i64 slip, .int .i64 e]
theorem wk5 {w : World} {g gm np cp : Nat} {A : Option Addr} {attrs slip e : Int} (h : w.heap[g]? = some (.cells (wkC gm A np cp attrs slip e) 86 (0, 0))) : w.cell? ⟨g, 0, none⟩ = some (.pointer (some ⟨gm, 0, none⟩)) ∧ w.cell? ⟨g, 1, none⟩ = some (.slice A np cp) ∧ w.cell? ⟨g, 2, none⟩ = some (.int .u32 attrs) ∧ w.cell? ⟨g, 3, none⟩ = some (.int .i64 slip) ∧ w.cell? ⟨g, 4, none⟩ = some (.int .i64 e) :=
  ⟨(blk_cell h 0).trans rfl, (blk_cell h 1).trans rfl, (blk_cell h 2).trans rfl, (blk_cell h 3).trans rfl, (blk_cell h 4).trans rfl⟩
/-- the number, the error behind it -/
def readS (bs : List Int) (slip e a n : Int) : Int × Int := if e ≠ 0 ∨ slip ≠ 0 then (0, e) else rdS bs a n
theorem rdS_zero {bs : List Int} {a n : Int} (h : (rdS bs a n).2 ≠ 0) : (rdS bs a n).1 = 0 := by
  unfold rdS at h ⊢
  split
  · rename_i h1
    rw [if_pos h1] at h
    split
    · rename_i h2; rw [if_pos h2] at h; exact absurd rfl h
    · rfl
  · rfl
set_option maxHeartbeats 4000000 in
set_option maxRecDepth 100000 in
theorem accel_read.is (base g gm gb c np cp : Nat) (A : Option Addr) (bs : List Int) (attrs slip e a n : Int) (w : World) (hm : PW w base gm gb c bs) (hk : w.heap[g]? = some (.cells (wkC gm A np cp attrs slip e) 86 (0, 0))) (h0 : 0 ≤ a ∧ a < 4294967296) :
    Calls Try.prog 54 #[.pointer (some ⟨g, 0, none⟩), .int .u32 a, .int .i64 n] w fun r w' => r = .returned (.int .u32 (readS bs slip e a n).1) ∧ w'.heap[g]? = some (.cells (wkC gm A np cp attrs slip (readS bs slip e a n).2) 86 (0, 0)) ∧ PW w' base gm gb c bs ∧ w.grownBy w' (some g) := by
  have HM := Aside0.mk hm
  have BK := Aside0.mk hk
  have H0 := Aside0.mk h0
  obtain ⟨z0, z1, z2, z3, z4⟩ := wk5 hk
  clear hm hk h0
  unfold readS
  by_cases c1 : e = 0
  · by_cases c2 : slip = 0
    · rw [if_neg (by omega)]
      have b1 : (e == 0) = true := beq_iff_eq.2 c1
      have b2 : (slip == 0) = true := beq_iff_eq.2 c2
      obtain ⟨q1, q2, hq⟩ : ∃ q1 q2, rdS bs a n = (q1, q2) := ⟨_, _, rfl⟩
      have hz := rdS_zero (bs := bs) (a := a) (n := n)
      rw [hq] at hz ⊢
      simp only at hz ⊢
      subst c1 c2
      have HQ := Aside0.mk hq
      have HZ := Aside0.mk hz
      have hc : ((q2 == 0) = true ∧ q2 = 0) ∨ ((q2 == 0) = false ∧ q1 = 0) := by
        by_cases c : q2 = 0
        · exact Or.inl ⟨beq_iff_eq.2 c, c⟩
        · exact Or.inr ⟨beq_false_of_ne c, hz c⟩
      clear hq hz
      rcases hc with ⟨d1, rfl⟩ | ⟨d1, rfl⟩
      all_goals
        go_enter Try.func54, Try.ntmps54
        go_wp2_with (first | (go_at_call 12; (with_reducible refine (memory_Read.be gm bs a n _ _ _ HM.out.pm H0.out HQ.out).mono ?_); rintro e_ w_ ⟨rfl, hb⟩; replace BK := Aside0.mk (blk_below BK.out hb); replace HM := Aside0.mk (HM.out.below hb); have HB := Aside0.mk hb; obtain ⟨z0, z1, z2, z3, z4⟩ := wk5 BK.out; clear hb) | ((with_reducible refine gate_ (.store 30 (.tmp 34) (.tmp 32)) rfl ?_); refine store_cell (cs := wkC gm A np cp attrs 0 0) rfl rfl 30 86 (.tmp 34) (.tmp 32) rfl (j := 4) rfl rfl ?hh ?hsz (infoW info30q) ?_; (case hh => exact BK.out); (case hsz => exact (by decide : (4 : Nat) < 5)); intro w5 hh hgr; have HH := Aside0.mk (show w5.heap[g]? = some (.cells (wkC gm A np cp attrs 0 _) 86 (0, 0)) from hh); have HG := Aside0.mk hgr; clear hh hgr) | fail)
        go_ret
        exact ⟨rfl, HH.out, HM.out.grown HG.out (HM.out.neW BK.out).1 (HM.out.neW BK.out).2, grown_trans (grown_of_below HB.out _) HG.out⟩
    · rw [if_pos (Or.inr c2)]
      have b1 : (e == 0) = true := beq_iff_eq.2 c1
      have b2 : (slip == 0) = false := beq_false_of_ne c2
      go_enter Try.func54, Try.ntmps54
      go_wp2
      go_ret
      exact ⟨rfl, BK.out, HM.out, grown_of_below (Below.refl _ _) _⟩
  · rw [if_pos (Or.inl c1)]
    have b1 : (e == 0) = false := beq_false_of_ne c1
    go_enter Try.func54, Try.ntmps54
    go_wp2
    go_ret
    exact ⟨rfl, BK.out, HM.out, grown_of_below (Below.refl _ _) _⟩
end Go.Proofs.Ytmpiifjckhcbmaa.PQ

/- accel: wrong, bad, Size (numbers of seat r18). -/
namespace Go.Proofs.Ytmpiifjckhcbmaa.PQ
open Go.RowKit Go.Proofs.YtmpiifjckhcbmaaW.PrintWords Go.Proofs.YtmpiifjckhcbmaaW.PrintLast Go.Proofs.YtmpiifjckhcbmaaW.PrintMore Go.Proofs.Ytmpiifjckhcbmaa.Z Go.Proofs.Ytmpiifjckhcbmaa.Pure
set_option linter.unusedVariables false
set_option linter.unusedSimpArgs false
theorem info3q : (Try.prog.info? 3).map (fun i => (i.zero, i.size, i.bytes)) = some (some (.int .i64 0), 1, 8) := by kernel_rfl
/-- is anything wrong? -/
def badS (slip e : Int) : Bool := e != 0 || slip != 0
theorem wk_two (slip e : Int) : ((e == 0) = true ∧ (slip == 0) = true ∧ e = 0 ∧ slip = 0) ∨ ((e == 0) = true ∧ (slip == 0) = false ∧ badS slip e = true ∧ (slip != 0) = true ∧ e = 0) ∨ ((e == 0) = false ∧ badS slip e = true ∧ (e != 0) = true) := by
  unfold badS
  by_cases c1 : e = 0 <;> by_cases c2 : slip = 0 <;> simp [c1, c2]
set_option maxHeartbeats 4000000 in
theorem accel_bad.is (g gm np cp : Nat) (A : Option Addr) (attrs slip e : Int) (w : World) (hk : w.heap[g]? = some (.cells (wkC gm A np cp attrs slip e) 86 (0, 0))) :
    Calls Try.prog 40 #[.pointer (some ⟨g, 0, none⟩)] w fun r w' => r = .returned (.bool (badS slip e)) ∧ w = w' := by
  obtain ⟨z0, z1, z2, z3, z4⟩ := wk5 hk
  clear hk
  rcases wk_two slip e with ⟨b1, b2, rfl, rfl⟩ | ⟨b1, b2, b3, b4, rfl⟩ | ⟨b1, b3, b4⟩
  · go_enter Try.func40, Try.ntmps40
    go_wp2
    go_ret
    exact ⟨rfl, rfl⟩
  · rw [b3]
    go_enter Try.func40, Try.ntmps40
    go_wp2
    go_ret
    exact ⟨by first | rfl | rw [b4] | simp [b4], rfl⟩
  · rw [b3]
    go_enter Try.func40, Try.ntmps40
    go_wp2
    go_ret
    exact ⟨by first | rfl | rw [b4] | simp [b4], rfl⟩
/-- the slip behind wrong -/
def wrongS (slip e k : Int) : Int := if badS slip e = true then slip else k
set_option maxHeartbeats 4000000 in
theorem accel_wrong.is (base g gm gb c np cp : Nat) (A : Option Addr) (bs : List Int) (attrs slip e k : Int) (w : World) (hm : PW w base gm gb c bs) (hk : w.heap[g]? = some (.cells (wkC gm A np cp attrs slip e) 86 (0, 0))) :
    Calls Try.prog 56 #[.pointer (some ⟨g, 0, none⟩), .int .i64 k] w fun r w' => r = .returned (.int .u32 0) ∧ w'.heap[g]? = some (.cells (wkC gm A np cp attrs (wrongS slip e k) e) 86 (0, 0)) ∧ PW w' base gm gb c bs ∧ w.grownBy w' (some g) := by
  have HM := Aside0.mk hm
  have BK := Aside0.mk hk
  obtain ⟨z0, z1, z2, z3, z4⟩ := wk5 hk
  clear hm hk
  unfold wrongS
  rcases wk_two slip e with ⟨b1, b2, rfl, rfl⟩ | ⟨b1, b2, b3, b4, rfl⟩ | ⟨b1, b3, b4⟩
  · rw [if_neg (by decide)]
    go_enter Try.func56, Try.ntmps56
    go_wp2_with (first | ((with_reducible refine gate_ (.store 3 (.tmp 20) (.tmp 18)) rfl ?_); refine store_cell (cs := wkC gm A np cp attrs 0 0) rfl rfl 3 86 (.tmp 20) (.tmp 18) rfl (j := 3) rfl rfl ?hh ?hsz (infoW info3q) ?_; (case hh => exact BK.out); (case hsz => exact (by decide : (3 : Nat) < 5)); intro w5 hh hgr; have HH := Aside0.mk (show w5.heap[g]? = some (.cells (wkC gm A np cp attrs k 0) 86 (0, 0)) from hh); have HG := Aside0.mk hgr; clear hh hgr) | fail)
    go_ret
    exact ⟨rfl, HH.out, HM.out.grown HG.out (HM.out.neW BK.out).1 (HM.out.neW BK.out).2, HG.out⟩
  · rw [if_pos b3]
    go_enter Try.func56, Try.ntmps56
    go_wp2
    go_ret
    exact ⟨rfl, BK.out, HM.out, grown_of_below (Below.refl _ _) _⟩
  · rw [if_pos b3]
    go_enter Try.func56, Try.ntmps56
    go_wp2
    go_ret
    exact ⟨rfl, BK.out, HM.out, grown_of_below (Below.refl _ _) _⟩
set_option maxHeartbeats 4000000 in
theorem memory_Size.is (base gm gb c : Nat) (bs : List Int) (w : World) (hm : PW w base gm gb c bs) :
    Calls Try.prog 53 #[.pointer (some ⟨gm, 0, none⟩)] w fun r w' => r = .returned (.int .u32 (bs.length : Int)) ∧ w = w' := by
  obtain ⟨cs, k1, k2, k3⟩ := hm.blk
  have z11 : w.cell? ⟨gm, 11, none⟩ = some (.slice (some ⟨gb, 0, none⟩) bs.length c) := (blk_cell k1 11).trans k2
  have hl := hm.len
  have u0 : (bs.length : Int) % 4294967296 = (bs.length : Int) := by omega
  clear hm k1 k2 k3 hl
  go_enter Try.func53, Try.ntmps53
  go_wp2
  go_ret
  exact ⟨by first | rfl | rw [u0], rfl⟩
end Go.Proofs.Ytmpiifjckhcbmaa.PQ

/- accel: own (numbers of seat r18). -/
namespace Go.Proofs.Ytmpiifjckhcbmaa.PQ
open Go.RowKit Go.Proofs.YtmpiifjckhcbmaaW.PrintWords Go.Proofs.YtmpiifjckhcbmaaW.PrintLast Go.Proofs.YtmpiifjckhcbmaaW.PrintMore Go.Proofs.Ytmpiifjckhcbmaa.Z Go.Proofs.Ytmpiifjckhcbmaa.Pure
set_option linter.unusedVariables false
set_option linter.unusedSimpArgs false
/-- is it a property that classes have, too? -/
def ownS (ps : List Int) (b : Int) : Bool := decide (rd ps 1 ≤ b) && decide (b < (rd ps 1 + 8) % 4294967296)
set_option maxHeartbeats 4000000 in
theorem accel_own.is (g gm ga cp : Nat) (ps : List Int) (attrs slip e b : Int) (w : World) (hk : w.heap[g]? = some (.cells (wkC gm (some ⟨ga, 0, none⟩) 9 cp attrs slip e) 86 (0, 0))) (hp : Kd.C (Kd.int .u32) w (some ⟨ga, 0, none⟩) 9 ps) :
    Calls Try.prog 62 #[.pointer (some ⟨g, 0, none⟩), .int .u32 b] w fun r w' => r = .returned (.bool (ownS ps b)) ∧ w = w' := by
  obtain ⟨z0, z1, z2, z3, z4⟩ := wk5 hk
  obtain ⟨ad, ea, hx⟩ := Kd.at_int hp 1 (by omega) (by omega)
  injection ea with ea
  subst ea
  rw [add_plain] at hx
  replace hx : w.cell? ⟨ga, 1, none⟩ = some (.int .u32 (rd ps 1)) := hx
  clear hk hp
  unfold ownS
  cases d1 : decide (rd ps 1 ≤ b) <;> cases d2 : decide (b < (rd ps 1 + 8) % 4294967296)
  all_goals
    go_enter Try.func62, Try.ntmps62
    go_wp2
    go_ret
    exact ⟨by first | rfl | simp [d1, d2], rfl⟩
end Go.Proofs.Ytmpiifjckhcbmaa.PQ

/- accel: memory.Header (numbers of seat r18). -/
namespace Go.Proofs.Ytmpiifjckhcbmaa.PQ
open Go.RowKit Go.Proofs.YtmpiifjckhcbmaaW.PrintWords Go.Proofs.YtmpiifjckhcbmaaW.PrintLast Go.Proofs.YtmpiifjckhcbmaaW.PrintMore Go.Proofs.Ytmpiifjckhcbmaa.Z Go.Proofs.Ytmpiifjckhcbmaa.Pure
set_option linter.unusedVariables false
set_option linter.unusedSimpArgs false
theorem h8at {w : World} {g : Nat} {h0 h1 h2 h3 h4 h5 h6 h7 : Int} {a b c : Value} (h : w.heap[g]? = some (.cells (mcells h0 h1 h2 h3 h4 h5 h6 h7 a b c) 81 (0, 0))) : w.cell? ⟨g, 2, none⟩ = some (.int .u32 h0) ∧ w.cell? ⟨g, 3, none⟩ = some (.int .u32 h1) ∧ w.cell? ⟨g, 4, none⟩ = some (.int .u32 h2) ∧ w.cell? ⟨g, 5, none⟩ = some (.int .u32 h3) ∧ w.cell? ⟨g, 6, none⟩ = some (.int .u32 h4) ∧ w.cell? ⟨g, 7, none⟩ = some (.int .u32 h5) ∧ w.cell? ⟨g, 8, none⟩ = some (.int .u32 h6) ∧ w.cell? ⟨g, 9, none⟩ = some (.int .u32 h7) :=
  ⟨(blk_cell h 2).trans rfl, (blk_cell h 3).trans rfl, (blk_cell h 4).trans rfl, (blk_cell h 5).trans rfl, (blk_cell h 6).trans rfl, (blk_cell h 7).trans rfl, (blk_cell h 8).trans rfl, (blk_cell h 9).trans rfl⟩
theorem size66 : (Try.prog.info? 66).map (·.size) = some 8 := by kernel_rfl
abbrev hz8 (h0 h1 h2 h3 h4 h5 h6 h7 : Int) : Array Value := #[.int .u32 h0, .int .u32 h1, .int .u32 h2, .int .u32 h3, .int .u32 h4, .int .u32 h5, .int .u32 h6, .int .u32 h7]
theorem hz8at {w : World} {g t : Nat} {h0 h1 h2 h3 h4 h5 h6 h7 : Int} (h : w.heap[g]? = some (.cells (hz8 h0 h1 h2 h3 h4 h5 h6 h7) t (0, 0))) : w.cell? ⟨g, 0, none⟩ = some (.int .u32 h0) ∧ w.cell? ⟨g, 1, none⟩ = some (.int .u32 h1) ∧ w.cell? ⟨g, 2, none⟩ = some (.int .u32 h2) ∧ w.cell? ⟨g, 3, none⟩ = some (.int .u32 h3) ∧ w.cell? ⟨g, 4, none⟩ = some (.int .u32 h4) ∧ w.cell? ⟨g, 5, none⟩ = some (.int .u32 h5) ∧ w.cell? ⟨g, 6, none⟩ = some (.int .u32 h6) ∧ w.cell? ⟨g, 7, none⟩ = some (.int .u32 h7) :=
  ⟨(blk_cell h 0).trans rfl, (blk_cell h 1).trans rfl, (blk_cell h 2).trans rfl, (blk_cell h 3).trans rfl, (blk_cell h 4).trans rfl, (blk_cell h 5).trans rfl, (blk_cell h 6).trans rfl, (blk_cell h 7).trans rfl⟩
set_option maxHeartbeats 4000000 in
set_option maxRecDepth 100000 in
theorem memory_Header.is (g : Nat) (h0 h1 h2 h3 h4 h5 h6 h7 : Int) (a b c : Value) (w : World) (hk : w.heap[g]? = some (.cells (mcells h0 h1 h2 h3 h4 h5 h6 h7 a b c) 81 (0, 0))) :
    Calls Try.prog 55 #[.pointer (some ⟨g, 0, none⟩)] w fun r w' => r = .returned (.agg (hz8 h0 h1 h2 h3 h4 h5 h6 h7)) ∧ Below w.heap.size w w' := by
  have BH := Aside0.mk hk
  have HB := Aside0.mk (Below.refl w.heap.size w)
  clear hk
  go_enter Try.func55, Try.ntmps55
  go_wp2_with (first | ((with_reducible refine gate_dst (N := 2) rfl ?_); refine zbox (N := 2) (cs := hz8 0 0 0 0 0 0 0 0) (t := 66) ?_; intro gs hg w_ hbox hb; have BK := Aside0.mk hbox; have GE := Aside0.mk (show w.heap.size ≤ gs by rw [hg]; exact below_size HB.out); replace BH := Aside0.mk (blk_below BH.out hb); replace HB := zbs HB hb; obtain ⟨z0, z1, z2, z3, z4, z5, z6, z7⟩ := h8at BH.out; clear hb hbox hg) | ((with_reducible refine gate_ (.store 66 (.tmp 2) (.tmp 10)) rfl ?_); refine store_blk (cs := hz8 0 0 0 0 0 0 0 0) (cs' := hz8 h0 h1 h2 h3 h4 h5 h6 h7) rfl rfl 66 (.tmp 2) (.tmp 10) rfl rfl rfl ?hh ?hsz size66 ?h1 ?_; (case hh => exact BK.out); (case hsz => rfl); (case h1 => intro q_ hq_; simp only [List.mem_cons, List.not_mem_nil, or_false] at hq_; rcases hq_ with rfl | rfl | rfl | rfl | rfl | rfl | rfl | rfl <;> rfl); intro w_ hh hgr; replace HB := Aside0.mk (HB.out.grown hgr (below_size HB.out) (fun k_ hk_ => by injection hk_ with hk_; subst hk_; exact GE.out)); clear BK; have BK := Aside0.mk hh; clear z0 z1 z2 z3 z4 z5 z6 z7; obtain ⟨z0, z1, z2, z3, z4, z5, z6, z7⟩ := hz8at BK.out; clear hh hgr) | fail)
  refine bodyPost_ret (results_cell_row rfl _ _ gs 66 (hz8 h0 h1 h2 h3 h4 h5 h6 h7) (0, 0) _ rfl (zkp BK) Try.underlying66 rfl (by kernel_rfl)) rfl ?_
  exact ⟨rfl, zb HB⟩
end Go.Proofs.Ytmpiifjckhcbmaa.PQ

/- accel: region (numbers of seat r18). -/
namespace Go.Proofs.Ytmpiifjckhcbmaa.PQ
open Go.RowKit Go.Proofs.YtmpiifjckhcbmaaW.PrintWords Go.Proofs.YtmpiifjckhcbmaaW.PrintLast Go.Proofs.YtmpiifjckhcbmaaW.PrintMore Go.Proofs.Ytmpiifjckhcbmaa.Z Go.Proofs.Ytmpiifjckhcbmaa.Pure
set_option linter.unusedVariables false
set_option linter.unusedSimpArgs false
set_option maxRecDepth 100000 in
theorem fld66 (a0 a1 a2 a3 a4 a5 a6 a7 : Int) (w : World) : (Instr.field 66 (.agg #[.int .u32 a0, .int .u32 a1, .int .u32 a2, .int .u32 a3, .int .u32 a4, .int .u32 a5, .int .u32 a6, .int .u32 a7]) 1).run Try.prog w = .ok (.int .u32 a1) w := by kernel_rfl
/-- the memory with its header -/
structure PH (w : World) (base gm gb c : Nat) (bs : List Int) : Prop where
  pw : PW w base gm gb c bs
  hd : ∃ (h0 h2 h3 h4 h5 h6 h7 : Int) (x y z : Value), w.heap[gm]? = some (.cells (mcells h0 256 h2 h3 h4 h5 h6 h7 x y z) 81 (0, 0))
theorem PH.below {w w1 : World} {base gm gb c : Nat} {bs : List Int} (h : PH w base gm gb c bs) (hb : Below w.heap.size w w1) : PH w1 base gm gb c bs := by
  obtain ⟨h0, h2, h3, h4, h5, h6, h7, x, y, z, hd⟩ := h.hd
  exact ⟨h.pw.below hb, _, _, _, _, _, _, _, _, _, _, blk_below hd hb⟩
theorem PH.grown {w w1 : World} {base gm gb c gs : Nat} {bs : List Int} {cs : Array Value} (h : PH w base gm gb c bs) (hb : w.heap[gs]? = some (.cells cs 86 (0, 0))) (hg : w.grownBy w1 (some gs)) : PH w1 base gm gb c bs := by
  obtain ⟨h0, h2, h3, h4, h5, h6, h7, x, y, z, hd⟩ := h.hd
  exact ⟨h.pw.grown hg (h.pw.neW hb).1 (h.pw.neW hb).2, _, _, _, _, _, _, _, _, _, _, blk_grown hd hg (h.pw.neW hb).1⟩
/-- what a byte says of an address -/
def kindS (b a : Int) : Int := if 224 ≤ b then 3 else if 192 ≤ b then 2 else if 112 ≤ b ∧ b ≤ 127 ∧ 256 ≤ a then 1 else 0
/-- what lies there, the error behind it -/
def regionS (bs : List Int) (slip e a : Int) : Int × Int := if a < 36 ∨ (bs.length : Int) ≤ a then (0, e) else (kindS (readS bs slip e a 1).1 a, (readS bs slip e a 1).2)
theorem kind_ways (b a : Int) : (decide (224 ≤ b) = true ∧ kindS b a = 3) ∨ (decide (224 ≤ b) = false ∧ decide (192 ≤ b) = true ∧ kindS b a = 2) ∨ (decide (224 ≤ b) = false ∧ decide (192 ≤ b) = false ∧ decide (112 ≤ b) = false ∧ kindS b a = 0) ∨ (decide (224 ≤ b) = false ∧ decide (192 ≤ b) = false ∧ decide (112 ≤ b) = true ∧ decide (b ≤ 127) = false ∧ kindS b a = 0) ∨ (decide (224 ≤ b) = false ∧ decide (192 ≤ b) = false ∧ decide (112 ≤ b) = true ∧ decide (b ≤ 127) = true ∧ decide (256 ≤ a) = false ∧ kindS b a = 0) ∨ (decide (224 ≤ b) = false ∧ decide (192 ≤ b) = false ∧ decide (112 ≤ b) = true ∧ decide (b ≤ 127) = true ∧ decide (256 ≤ a) = true ∧ kindS b a = 1) := by
  unfold kindS
  by_cases c1 : 224 ≤ b
  · exact Or.inl ⟨decide_eq_true c1, if_pos c1⟩
  · by_cases c2 : 192 ≤ b
    · exact Or.inr (Or.inl ⟨decide_eq_false c1, decide_eq_true c2, by rw [if_neg c1, if_pos c2]⟩)
    · rw [if_neg c1, if_neg c2]
      by_cases c3 : 112 ≤ b
      · by_cases c4 : b ≤ 127
        · by_cases c5 : 256 ≤ a
          · exact Or.inr (Or.inr (Or.inr (Or.inr (Or.inr ⟨decide_eq_false c1, decide_eq_false c2, decide_eq_true c3, decide_eq_true c4, decide_eq_true c5, if_pos ⟨c3, c4, c5⟩⟩))))
          · exact Or.inr (Or.inr (Or.inr (Or.inr (Or.inl ⟨decide_eq_false c1, decide_eq_false c2, decide_eq_true c3, decide_eq_true c4, decide_eq_false c5, if_neg (fun h => c5 h.2.2)⟩))))
        · exact Or.inr (Or.inr (Or.inr (Or.inl ⟨decide_eq_false c1, decide_eq_false c2, decide_eq_true c3, decide_eq_false c4, if_neg (fun h => c4 h.2.1)⟩)))
      · exact Or.inr (Or.inr (Or.inl ⟨decide_eq_false c1, decide_eq_false c2, decide_eq_false c3, if_neg (fun h => c3 h.1)⟩))
set_option maxHeartbeats 8000000 in
set_option maxRecDepth 100000 in
theorem accel_region.is (base g gm gb c np cp : Nat) (A : Option Addr) (bs : List Int) (attrs slip e a : Int) (w : World) (hm : PH w base gm gb c bs) (hk : w.heap[g]? = some (.cells (wkC gm A np cp attrs slip e) 86 (0, 0))) (h0 : 0 ≤ a ∧ a < 4294967296) (hgb : base ≤ g) :
    Calls Try.prog 33 #[.pointer (some ⟨g, 0, none⟩), .int .u32 a] w fun r w' => r = .returned (.int .u32 (regionS bs slip e a).1) ∧ w'.heap[g]? = some (.cells (wkC gm A np cp attrs slip (regionS bs slip e a).2) 86 (0, 0)) ∧ PH w' base gm gb c bs ∧ w.grownBy w' (some g) := by
  have HM := Aside0.mk hm
  have BK := Aside0.mk hk
  have H0 := Aside0.mk h0
  have hf := fld66
  obtain ⟨z0, z1, z2, z3, z4⟩ := wk5 hk
  clear hm hk h0
  unfold regionS
  by_cases q1 : a < 36
  · rw [if_pos (Or.inl q1)]
    have d1 : decide (a < 36) = true := decide_eq_true q1
    clear q1
    go_enter Try.func33, Try.ntmps33
    go_wp2
    go_ret
    exact ⟨rfl, BK.out, HM.out, grown_of_below (Below.refl _ _) _⟩
  · have d1 : decide (a < 36) = false := decide_eq_false q1
    by_cases q2 : (bs.length : Int) ≤ a
    · rw [if_pos (Or.inr q2)]
      have d2 : decide ((bs.length : Int) ≤ a) = true := decide_eq_true q2
      clear q1 q2
      go_enter Try.func33, Try.ntmps33
      go_wp2_with (first | (go_at_call 53; (with_reducible refine (memory_Size.is base gm gb c bs _ HM.out.pw).mono ?_); rintro e_ w_ ⟨rfl, rfl⟩) | fail)
      go_ret
      exact ⟨rfl, BK.out, HM.out, grown_of_below (Below.refl _ _) _⟩
    · rw [if_neg (fun h => h.elim q1 q2)]
      have d2 : decide ((bs.length : Int) ≤ a) = false := decide_eq_false q2
      obtain ⟨b, e', hr⟩ : ∃ b e', readS bs slip e a 1 = (b, e') := ⟨_, _, rfl⟩
      rw [hr]
      have HRD := Aside0.mk hr
      clear q1 q2 hr
      rcases kind_ways b a with ⟨k1, k5⟩ | ⟨k1, k2, k5⟩ | ⟨k1, k2, k3, k5⟩ | ⟨k1, k2, k3, k4, k5⟩ | ⟨k1, k2, k3, k4, k6, k5⟩ | ⟨k1, k2, k3, k4, k6, k5⟩
      all_goals
        rw [k5]
        go_enter Try.func33, Try.ntmps33
        go_wp2_with (first | (go_at_call 53; (with_reducible refine (memory_Size.is base gm gb c bs _ HM.out.pw).mono ?_); rintro e_ w_ ⟨rfl, rfl⟩) | (go_at_call 54; (with_reducible refine (accel_read.is base g gm gb c np cp A bs attrs slip e a 1 _ HM.out.pw BK.out H0.out).mono ?_); rintro e_ w_ ⟨rfl, hh, hm, hg⟩; rw [HRD.out] at hh ⊢; have HM2 := Aside0.mk (HM.out.grown BK.out hg); have BK2 := Aside0.mk hh; have HG := Aside0.mk hg; obtain ⟨z0, z1, z2, z3, z4⟩ := wk5 hh; clear hh hm hg) | (go_at_call 55; obtain ⟨h0_, h2_, h3_, h4_, h5_, h6_, h7_, x_, y_, z_, hd_⟩ := HM2.out.hd; (with_reducible refine (memory_Header.is gm h0_ 256 h2_ h3_ h4_ h5_ h6_ h7_ x_ y_ z_ _ hd_).mono ?_); rintro e_ w2_ ⟨rfl, hb⟩; replace HG := Aside0.mk (grown_then HG.out (grown_of_below hb _)); replace BK2 := Aside0.mk (blk_below BK2.out hb); replace HM2 := Aside0.mk (HM2.out.below hb); (try simp only [hz8]); clear hb hd_) | fail)
        go_ret
        exact ⟨rfl, BK2.out, HM2.out, HG.out⟩
end Go.Proofs.Ytmpiifjckhcbmaa.PQ

/- accel: inClass (numbers of seat r18). -/
namespace Go.Proofs.Ytmpiifjckhcbmaa.PQ
open Go.RowKit Go.Proofs.YtmpiifjckhcbmaaW.PrintWords Go.Proofs.YtmpiifjckhcbmaaW.PrintLast Go.Proofs.YtmpiifjckhcbmaaW.PrintMore Go.Proofs.Ytmpiifjckhcbmaa.Z Go.Proofs.Ytmpiifjckhcbmaa.Pure
set_option linter.unusedVariables false
set_option linter.unusedSimpArgs false
/-- the params' row -/
structure PP (w : World) (ga : Nat) (ps : List Int) : Prop where
  ex : ∃ cs : Array Value, w.heap[ga]? = some (.cells cs 29 (0, 0)) ∧ cs.toList.take ps.length = ps.map (Value.int .u32)
theorem PP.at {w : World} {ga : Nat} {ps : List Int} (h : PP w ga ps) {i : Nat} (hi : i < ps.length) : w.cell? ⟨ga, i, none⟩ = some (.int .u32 (rd ps (i : Int))) := by
  obtain ⟨cs, h1, h2⟩ := h.ex
  rw [blk_cell h1 i, rd_nat hi]
  have e : (cs.toList.take ps.length)[i]? = some (.int .u32 ps[i]) := by rw [h2]; simp [hi]
  rw [List.getElem?_take, if_pos hi] at e
  simpa using e
theorem PP.ne {w : World} {ga g : Nat} {ps : List Int} {cs : Array Value} (h : PP w ga ps) (hk : w.heap[g]? = some (.cells cs 86 (0, 0))) : some ga ≠ some g := by
  obtain ⟨x, h1, _⟩ := h.ex
  have := blk_ne h1 hk (by decide)
  simpa using this
theorem PP.below {w w1 : World} {ga : Nat} {ps : List Int} (h : PP w ga ps) (hb : Below w.heap.size w w1) : PP w1 ga ps := by
  obtain ⟨x, h1, h2⟩ := h.ex
  exact ⟨x, blk_below h1 hb, h2⟩
theorem PP.grown {w w1 : World} {ga : Nat} {row : Option Nat} {ps : List Int} (h : PP w ga ps) (hg : w.grownBy w1 row) (hn : some ga ≠ row) : PP w1 ga ps := by
  obtain ⟨x, h1, h2⟩ := h.ex
  exact ⟨x, blk_grown h1 hg hn, h2⟩
theorem PP_of_R {w : World} {base g n c : Nat} {ok : Nat → Prop} {ps : List Int} (h : Kd.R (Kd.int .u32) 29 w base ok (.slice (some ⟨g, 0, none⟩) n c) ps) : PP w g ps := by
  have ho := Kd.own_of_R (enc := Value.int .u32) (h1 := fun _ => rfl) h
  rcases ho.2 with ⟨h0, _⟩ | ⟨g', cap, cur, he, _, hh, _, _, _, ht⟩
  · cases h0
  · injection he with he
    injection he with he
    injection he with he
    subst he
    refine ⟨cur, hh, ?_⟩
    rw [Nat.mul_one] at ht
    exact ht
/-- where an object's class is told -/
def classA (o attrs : Int) : Int := IntKind.u32.wrap (IntKind.u32.wrap (o + 13) + attrs)
theorem classA_rng (o attrs : Int) : 0 ≤ classA o attrs ∧ classA o attrs < 4294967296 := by
  unfold classA
  rw [IntKind.wrap_u32 (IntKind.u32.wrap (o + 13) + attrs)]
  omega
set_option maxHeartbeats 8000000 in
set_option maxRecDepth 100000 in
theorem accel_inClass.is (base g gm gb ga c cp : Nat) (bs ps : List Int) (attrs slip e o : Int) (w : World) (hm : PH w base gm gb c bs) (hk : w.heap[g]? = some (.cells (wkC gm (some ⟨ga, 0, none⟩) 9 cp attrs slip e) 86 (0, 0))) (hp : PP w ga ps) (hl : ps.length = 9) :
    Calls Try.prog 60 #[.pointer (some ⟨g, 0, none⟩), .int .u32 o] w fun r w' => r = .returned (.bool ((readS bs slip e (classA o attrs) 4).1 == rd ps 2)) ∧ w'.heap[g]? = some (.cells (wkC gm (some ⟨ga, 0, none⟩) 9 cp attrs slip (readS bs slip e (classA o attrs) 4).2) 86 (0, 0)) ∧ PH w' base gm gb c bs ∧ PP w' ga ps ∧ w.grownBy w' (some g) := by
  have HM := Aside0.mk hm
  have BK := Aside0.mk hk
  have HP := Aside0.mk hp
  have HR := Aside0.mk (classA_rng o attrs)
  have HL := Aside0.mk (show 2 < ps.length by omega)
  obtain ⟨z0, z1, z2, z3, z4⟩ := wk5 hk
  have zp : w.cell? ⟨ga, 2, none⟩ = some (.int .u32 (rd ps 2)) := hp.at HL.out
  have hB : Below w.heap.size w w := Below.refl _ _
  have HG := Aside0.mk (grown_of_below hB (some g))
  clear hm hk hp hl hB
  go_enter Try.func60, Try.ntmps60
  go_wp2
  go_region_held3 (fun w' => w'.cell? ⟨g, 1, none⟩ = some (.slice (some ⟨ga, 0, none⟩) 9 cp) ∧ w'.cell? ⟨g, 2, none⟩ = some (.int .u32 attrs) ∧ w'.cell? ⟨ga, 2, none⟩ = some (.int .u32 (rd ps 2))) (first | exact ⟨z1, z2, zp⟩ | exact ⟨pw_cell_below (below_drew1 (Below.refl _ _)) z1, pw_cell_below (below_drew1 (Below.refl _ _)) z2, pw_cell_below (below_drew1 (Below.refl _ _)) zp⟩ | go_keep) (first | (go_at_call 54; (refine (accel_read.is base g gm gb c 9 cp (some ⟨ga, 0, none⟩) bs attrs slip e (classA o attrs) 4 _ (HM.out.below (below_drew1 (Below.refl _ _))).pw (blk_below BK.out (below_drew1 (Below.refl _ _))) HR.out).mono ?_); rintro e_ w_ ⟨rfl, hh, hm, hg⟩; replace HM := Aside0.mk ((HM.out.below (below_drew1 (Below.refl _ _))).grown (blk_below BK.out (below_drew1 (Below.refl _ _))) hg); replace HP := Aside0.mk ((HP.out.below (below_drew1 (Below.refl _ _))).grown hg (HP.out.ne BK.out)); have BK2 := Aside0.mk hh; replace HG := Aside0.mk (grown_then (grown_of_below (below_drew1 (Below.refl _ _)) (some g)) hg); clear z0 z1 z2 z3 z4 zp; obtain ⟨z0, z1, z2, z3, z4⟩ := wk5 hh; have zp := PP.at HP.out HL.out; clear hh hm hg) | fail)
  go_wp2
  go_ret
  exact ⟨rfl, BK2.out, HM.out, HP.out, HG.out⟩
end Go.Proofs.Ytmpiifjckhcbmaa.PQ

/- accel: a work in a memory with its params, as one predicate; read, wrong, bad, region, inClass, own, high told so (numbers of seat r18). -/
namespace Go.Proofs.Ytmpiifjckhcbmaa.PQ
open Go.RowKit Go.Proofs.YtmpiifjckhcbmaaW.PrintWords Go.Proofs.YtmpiifjckhcbmaaW.PrintLast Go.Proofs.YtmpiifjckhcbmaaW.PrintMore Go.Proofs.Ytmpiifjckhcbmaa.Z Go.Proofs.Ytmpiifjckhcbmaa.Pure
set_option linter.unusedVariables false
set_option linter.unusedSimpArgs false
/-- what a work stands over: its places, the memory's bytes, the params, the attributes' bytes -/
structure KC where
  base : Nat
  g : Nat
  gm : Nat
  gb : Nat
  ga : Nat
  c : Nat
  cp : Nat
  bs : List Int
  ps : List Int
  attrs : Int
structure KC.Ok (K : KC) : Prop where
  ln : K.ps.length = 9
  rg : ∀ x ∈ K.ps, 0 ≤ x ∧ x < 4294967296
  at' : 0 ≤ K.attrs ∧ K.attrs < 4294967296
  gg : K.base ≤ K.g
  cc : 9 ≤ K.cp
structure WK (v w : World) (K : KC) (slip e : Int) : Prop where
  mm : PH w K.base K.gm K.gb K.c K.bs
  kk : w.heap[K.g]? = some (.cells (wkC K.gm (some ⟨K.ga, 0, none⟩) 9 K.cp K.attrs slip e) 86 (0, 0))
  pp : PP w K.ga K.ps
  ok : K.Ok
  gr : v.grownBy w (some K.g)
theorem WK.below {v w w1 : World} {K : KC} {s e : Int} (h : WK v w K s e) (hb : Below w.heap.size w w1) : WK v w1 K s e := ⟨h.mm.below hb, blk_below h.kk hb, h.pp.below hb, h.ok, grown_then h.gr (grown_of_below hb _)⟩
theorem WK.drew {v w : World} {K : KC} {s e : Int} (h : WK v w K s e) : WK v w.drew K s e := h.below (below_drew1 (Below.refl _ _))
theorem WK.drewN {v w : World} {K : KC} {s e : Int} (h : WK v w K s e) (n : Nat) : WK v (w.drewN n) K s e := h.below (pw_below_drewN (Below.refl _ _) n)
theorem WK.alloc {v w : World} {K : KC} {s e : Int} (h : WK v w K s e) (o : Obj) : WK v (w.alloc o) K s e := h.below (below_alloc (Below.refl _ _) o)
theorem wkz {v W0 W : World} {K : KC} {s e : Int} (h : Aside0 (WK v W0 K s e)) (t : WK v W0 K s e → WK v W K s e := by intro h; repeat (first | (with_reducible first | exact h | apply WK.drewN | apply WK.drew | apply WK.alloc) | exact h)) : WK v W K s e := t h.out
theorem WK.cells {v w : World} {K : KC} {s e : Int} (h : WK v w K s e) : w.cell? ⟨K.g, 0, none⟩ = some (.pointer (some ⟨K.gm, 0, none⟩)) ∧ w.cell? ⟨K.g, 1, none⟩ = some (.slice (some ⟨K.ga, 0, none⟩) 9 K.cp) ∧ w.cell? ⟨K.g, 2, none⟩ = some (.int .u32 K.attrs) ∧ w.cell? ⟨K.g, 3, none⟩ = some (.int .i64 s) ∧ w.cell? ⟨K.g, 4, none⟩ = some (.int .i64 e) := wk5 h.kk
theorem WK.ps {v w : World} {K : KC} {s e : Int} (h : WK v w K s e) {i : Nat} (hi : i < 9) : w.cell? ⟨K.ga, i, none⟩ = some (.int .u32 (rd K.ps (i : Int))) := h.pp.at (by rw [h.ok.ln]; exact hi)
theorem WK.params {v w : World} {K : KC} {s e : Int} (h : WK v w K s e) : w.cell? ⟨K.ga, 0, none⟩ = some (.int .u32 (rd K.ps 0)) ∧ w.cell? ⟨K.ga, 1, none⟩ = some (.int .u32 (rd K.ps 1)) ∧ w.cell? ⟨K.ga, 2, none⟩ = some (.int .u32 (rd K.ps 2)) ∧ w.cell? ⟨K.ga, 3, none⟩ = some (.int .u32 (rd K.ps 3)) ∧ w.cell? ⟨K.ga, 4, none⟩ = some (.int .u32 (rd K.ps 4)) ∧ w.cell? ⟨K.ga, 5, none⟩ = some (.int .u32 (rd K.ps 5)) ∧ w.cell? ⟨K.ga, 6, none⟩ = some (.int .u32 (rd K.ps 6)) ∧ w.cell? ⟨K.ga, 8, none⟩ = some (.int .u32 (rd K.ps 8)) :=
  ⟨h.ps (by omega), h.ps (by omega), h.ps (by omega), h.ps (by omega), h.ps (by omega), h.ps (by omega), h.ps (by omega), h.ps (by omega)⟩
theorem KC.Ok.rd {K : KC} (h : K.Ok) {i : Nat} (hi : i < 9) : 0 ≤ rd K.ps (i : Int) ∧ rd K.ps (i : Int) < 4294967296 := by
  rw [rd_nat (by rw [h.ln]; exact hi)]
  exact h.rg _ (List.getElem_mem _)
/-- a call's end: the answer, the work behind it -/
abbrev WkTo (v : World) (K : KC) (r : Value) (s e : Int) : Ending → World → Prop := fun x w' => x = .returned r ∧ WK v w' K s e
theorem WK.step {v w w' : World} {K : KC} {s e s' e' : Int} (h : WK v w K s e) (hm : PH w' K.base K.gm K.gb K.c K.bs) (hk : w'.heap[K.g]? = some (.cells (wkC K.gm (some ⟨K.ga, 0, none⟩) 9 K.cp K.attrs s' e') 86 (0, 0))) (hg : w.grownBy w' (some K.g)) : WK v w' K s' e' :=
  ⟨hm, hk, h.pp.grown hg (h.pp.ne h.kk), h.ok, grown_then h.gr hg⟩
theorem read_wk (K : KC) (s e a n x e' : Int) (v w : World) (h : WK v w K s e) (h0 : 0 ≤ a ∧ a < 4294967296) (hr : readS K.bs s e a n = (x, e')) :
    Calls Try.prog 54 #[.pointer (some ⟨K.g, 0, none⟩), .int .u32 a, .int .i64 n] w (WkTo v K (.int .u32 x) s e') := by
  refine (accel_read.is K.base K.g K.gm K.gb K.c 9 K.cp _ K.bs K.attrs s e a n w h.mm.pw h.kk h0).mono ?_
  rintro _ w' ⟨rfl, hk, hm, hg⟩
  rw [hr] at hk ⊢
  exact ⟨rfl, h.step (h.mm.grown h.kk hg) hk hg⟩
theorem wrong_wk (K : KC) (s e k : Int) (v w : World) (h : WK v w K s e) :
    Calls Try.prog 56 #[.pointer (some ⟨K.g, 0, none⟩), .int .i64 k] w (WkTo v K (.int .u32 0) (wrongS s e k) e) := by
  refine (accel_wrong.is K.base K.g K.gm K.gb K.c 9 K.cp _ K.bs K.attrs s e k w h.mm.pw h.kk).mono ?_
  rintro _ w' ⟨rfl, hk, hm, hg⟩
  exact ⟨rfl, h.step (h.mm.grown h.kk hg) hk hg⟩
theorem bad_wk (K : KC) (s e : Int) (b : Bool) (v w : World) (h : WK v w K s e) (hb : badS s e = b) :
    Calls Try.prog 40 #[.pointer (some ⟨K.g, 0, none⟩)] w fun x w' => x = .returned (.bool b) ∧ w = w' := by
  rw [← hb]
  exact accel_bad.is K.g K.gm 9 K.cp _ K.attrs s e w h.kk
theorem region_wk (K : KC) (s e a x e' : Int) (v w : World) (h : WK v w K s e) (h0 : 0 ≤ a ∧ a < 4294967296) (hr : regionS K.bs s e a = (x, e')) :
    Calls Try.prog 33 #[.pointer (some ⟨K.g, 0, none⟩), .int .u32 a] w (WkTo v K (.int .u32 x) s e') := by
  refine (accel_region.is K.base K.g K.gm K.gb K.c 9 K.cp _ K.bs K.attrs s e a w h.mm h.kk h0 h.ok.gg).mono ?_
  rintro _ w' ⟨rfl, hk, hm, hg⟩
  rw [hr] at hk ⊢
  exact ⟨rfl, h.step hm hk hg⟩
/-- is it a class? the error behind it -/
def inS (bs ps : List Int) (attrs slip e o : Int) : Bool × Int := ((readS bs slip e (classA o attrs) 4).1 == rd ps 2, (readS bs slip e (classA o attrs) 4).2)
theorem inClass_wk (K : KC) (s e o : Int) (x : Bool) (e' : Int) (v w : World) (h : WK v w K s e) (hr : inS K.bs K.ps K.attrs s e o = (x, e')) :
    Calls Try.prog 60 #[.pointer (some ⟨K.g, 0, none⟩), .int .u32 o] w (WkTo v K (.bool x) s e') := by
  refine (accel_inClass.is K.base K.g K.gm K.gb K.ga K.c K.cp K.bs K.ps K.attrs s e o w h.mm h.kk h.pp h.ok.ln).mono ?_
  rintro _ w' ⟨rfl, hk, hm, hp, hg⟩
  unfold inS at hr
  injection hr with h1 h2
  rw [h2] at hk
  rw [h1]
  exact ⟨rfl, h.step hm hk hg⟩
theorem PP.C {w : World} {ga lo hi : Nat} {ps : List Int} (h : PP w ga ps) (h1 : lo ≤ hi) (h2 : hi ≤ ps.length) (hl : ps.length ≤ 1000) : Kd.C (Kd.int .u32) w (some ⟨ga, lo, none⟩) ((ps.take hi).drop lo).length ((ps.take hi).drop lo) := by
  refine ⟨rfl, by rw [List.length_drop, List.length_take]; omega, fun _ => ⟨_, rfl, fun j p hj => ⟨[.int .u32 p], rfl, rfl, fun i u hu => ?_⟩⟩⟩
  have hi0 : i = 0 := by
    rcases i with _ | i
    · rfl
    · simp at hu
  subst hi0
  simp only [List.getElem?_cons_zero, Option.some.injEq] at hu
  subst hu
  have ha : (⟨ga, lo, none⟩ : Addr).add (j * (Kd.int .u32).sz + 0) = ⟨ga, lo + j, none⟩ := by
    have : (Kd.int .u32).sz = 1 := rfl
    rw [this, Nat.mul_one, Nat.add_zero]
    unfold Addr.add
    split <;> simp_all
  rw [List.getElem?_drop, List.getElem?_take] at hj
  split at hj
  · rename_i hlt
    have hlt' : lo + j < ps.length := by omega
    rw [ha, h.at hlt', rd_nat hlt']
    rw [List.getElem?_eq_getElem hlt'] at hj
    injection hj with hj
    rw [hj]
  · cases hj
theorem own_wk (K : KC) (s e b : Int) (x : Bool) (v w : World) (h : WK v w K s e) (hx : ownS K.ps b = x) :
    Calls Try.prog 62 #[.pointer (some ⟨K.g, 0, none⟩), .int .u32 b] w fun r w' => r = .returned (.bool x) ∧ w = w' := by
  rw [← hx]
  have hc := PP.C (lo := 0) (hi := 9) h.pp (by omega) (by rw [h.ok.ln]; omega) (by rw [h.ok.ln]; omega)
  rw [List.drop_zero, List.take_of_length_le (by rw [h.ok.ln]; omega), h.ok.ln] at hc
  exact accel_own.is K.g K.gm K.ga K.cp K.ps K.attrs s e b w h.kk hc
/-- is it one of the four? -/
def highS (ps : List Int) (a : Int) : Bool := a == rd ps 2 || a == rd ps 3 || a == rd ps 4 || a == rd ps 5
theorem high_f {ps : List Int} (hl : ps.length = 9) (a : Int) : slices_Contains_uint32_uint32.f 6 ((ps.take 6).drop 2) a = some (highS ps a) := by
  match ps, hl with
  | [p0, p1, p2, p3, p4, p5, p6, p7, p8], _ =>
    unfold slices_Contains_uint32_uint32.f slices_Index_uint32_uint32.f highS
    simp only [List.take_succ_cons, List.take_zero, List.drop_succ_cons, List.drop_zero, List.length_cons, List.length_nil]
    have r0 : rd [p2, p3, p4, p5] 0 = p2 := rfl
    have r1 : rd [p2, p3, p4, p5] 1 = p3 := rfl
    have r2 : rd [p2, p3, p4, p5] 2 = p4 := rfl
    have r3 : rd [p2, p3, p4, p5] 3 = p5 := rfl
    have q2 : rd [p0, p1, p2, p3, p4, p5, p6, p7, p8] 2 = p2 := rfl
    have q3 : rd [p0, p1, p2, p3, p4, p5, p6, p7, p8] 3 = p3 := rfl
    have q4 : rd [p0, p1, p2, p3, p4, p5, p6, p7, p8] 4 = p4 := rfl
    have q5 : rd [p0, p1, p2, p3, p4, p5, p6, p7, p8] 5 = p5 := rfl
    have w0 : wrap64 1 = 1 := w64 (by omega) (by omega)
    have w1 : wrap64 2 = 2 := w64 (by omega) (by omega)
    have w2 : wrap64 3 = 3 := w64 (by omega) (by omega)
    have w3 : wrap64 4 = 4 := w64 (by omega) (by omega)
    rw [q2, q3, q4, q5]
    by_cases c2 : a = p2
    · simp [slices_Index_uint32_uint32.l0, r0, c2]
    · by_cases c3 : a = p3
      · simp [slices_Index_uint32_uint32.l0, r0, r1, w0, c3, show ¬ p3 = p2 from c3 ▸ c2]
      · by_cases c4 : a = p4
        · simp [slices_Index_uint32_uint32.l0, r0, r1, r2, w0, w1, c4, show ¬ p4 = p2 from c4 ▸ c2, show ¬ p4 = p3 from c4 ▸ c3]
        · by_cases c5 : a = p5
          · simp [slices_Index_uint32_uint32.l0, r0, r1, r2, r3, w0, w1, w2, c5, show ¬ p5 = p2 from c5 ▸ c2, show ¬ p5 = p3 from c5 ▸ c3, show ¬ p5 = p4 from c5 ▸ c4]
          · simp [slices_Index_uint32_uint32.l0, r0, r1, r2, r3, w0, w1, w2, w3, c2, c3, c4, c5]
theorem contains4 {A : Option Addr} {c : Nat} {l : List Int} {a : Int} {r : Bool} {w : World} (h : Kd.C (Kd.int .u32) w A 4 l) (hl : l.length = 4) (hc : 4 ≤ c) (hf : slices_Contains_uint32_uint32.f 6 l a = some r) : Calls Try.prog 70 #[.slice A 4 c, .int .u32 a] w fun e w' => e = .returned (.bool r) ∧ Drawn0 w w' := by
  rw [← hl] at h hc
  have := slices_Contains_uint32_uint32.calls 6 A c l a r w h hc hf
  rwa [hl] at this
set_option maxHeartbeats 8000000 in
set_option maxRecDepth 100000 in
theorem high_wk (K : KC) (s e a : Int) (x : Bool) (v w : World) (h : WK v w K s e) (hx : highS K.ps a = x) :
    Calls Try.prog 61 #[.pointer (some ⟨K.g, 0, none⟩), .int .u32 a] w fun r w' => r = .returned (.bool x) ∧ Drawn0 w w' := by
  obtain ⟨z0, z1, z2, z3, z4⟩ := h.cells
  have HC := Aside0.mk (PP.C (lo := 2) (hi := 6) h.pp (by omega) (by rw [h.ok.ln]; omega) (by rw [h.ok.ln]; omega))
  have HF := Aside0.mk (high_f h.ok.ln a)
  rw [hx] at HF
  have hle : ((K.ps.take 6).drop 2).length = 4 := by rw [List.length_drop, List.length_take, h.ok.ln]; omega
  have HL := Aside0.mk hle
  rw [hle] at HC
  have h9 := h.ok.cc
  have hsl : ∀ W : World, (Instr.slice 27 (.slice (some ⟨K.ga, 0, none⟩) 9 K.cp) (some (.int .i64 2)) (some (.int .i64 6)) none).run Try.prog W = .ok (.slice (some ⟨K.ga, 2, none⟩) 4 (K.cp - 2)) W := by
    intro W
    rw [cut_mid (P := Try.prog) 27 29 .i64 .i64 Try.underlying27 (i := _) (hi := rfl) 1 rfl (some ⟨K.ga, 0, none⟩) 9 K.cp 2 6 (by omega) (by omega) (by omega) h9 W]
    rw [if_neg (by omega)]
    rfl
  have HN := Aside0.mk (show 4 ≤ K.cp - 2 by omega)
  clear h hx hle h9
  go_enter Try.func61, Try.ntmps61
  go_wp2_with (first | (go_at_call 70; (with_reducible refine (contains4 HC.out HL.out HN.out HF.out).mono ?_); rintro e_ w_ ⟨rfl, hd⟩) | fail)
  go_ret
  exact ⟨rfl, hd⟩
end Go.Proofs.Ytmpiifjckhcbmaa.PQ
