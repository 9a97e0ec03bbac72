/- Texts M8 R1 R2 R3 R4f R5 R6r R6 in one. -/
import Derived.Test.YtohmipmioaceeaaFA
import Derived.Test.YtohmipmioaceeaaPQx6
/- find.by with each of its ways; find.Linear, find.Binary, find.Linked. -/
namespace Go.Proofs.Ytohmipmioaceeaa.PQ
set_option linter.all false
open Go.RowKit Go.Proofs.YtohmipmioaceeaaW.PrintWords Go.Proofs.YtohmipmioaceeaaW.PrintLast Go.Proofs.YtohmipmioaceeaaW.PrintMore Go.Proofs.Ytohmipmioaceeaa.Z Go.Proofs.Ytohmipmioaceeaa.Pure
set_option linter.unusedVariables false
set_option linter.unusedSimpArgs false
theorem all8m {w : World} {gb : Nat} {s : Sr} (h : w.heap[gb]? = some (.cells s.eight 32 (0, 0))) : w.cell? ⟨gb, 0, none⟩ = some (.int .u32 s.key) ∧ w.cell? ⟨gb, 1, none⟩ = some (.int .u32 s.ksz) ∧ w.cell? ⟨gb, 2, none⟩ = some (.int .u32 s.start) ∧ w.cell? ⟨gb, 3, none⟩ = some (.int .u32 s.size) ∧ w.cell? ⟨gb, 4, none⟩ = some (.int .u32 s.count) ∧ w.cell? ⟨gb, 5, none⟩ = some (.int .u32 s.off) ∧ w.cell? ⟨gb, 6, none⟩ = some (.int .u32 s.next) ∧ w.cell? ⟨gb, 7, none⟩ = some (.int .u32 s.opts) :=
  ⟨(blk_cell h 0).trans rfl, (blk_cell h 1).trans rfl, (blk_cell h 2).trans rfl, (blk_cell h 3).trans rfl, (blk_cell h 4).trans rfl, (blk_cell h 5).trans rfl, (blk_cell h 6).trans rfl, (blk_cell h 7).trans rfl⟩
theorem keyS_bytm {bs : List Int} (hb : Byt bs) (s : Sr) : Byt (keyS bs s).1 := by
  unfold keyS
  split
  · intro x hx; cases hx
  · split
    · exact spanS_byt (er := (spanS bs s.key s.ksz).2) hb rfl
    · exact byts_byt _ _
theorem keyS_er (bs : List Int) (s : Sr) : (keyS bs s).2 = 0 ∨ (keyS bs s).2 = 130 ∨ (keyS bs s).2 = 90 := by
  unfold keyS
  split
  · exact Or.inr (Or.inl rfl)
  · split
    · unfold spanS
      split
      · exact Or.inl rfl
      · exact Or.inr (Or.inr rfl)
    · exact Or.inl rfl
theorem keyS_kszm {bs : List Int} {s : Sr} (h : (keyS bs s).2 = 0) : s.ksz ≤ 256 := by
  unfold keyS at h
  split at h
  · cases h
  · rename_i hk
    exact (keyBad_ok (Bool.eq_false_iff.mpr hk)).1
/-- what Linear comes to -/
def LinearS (bs : List Int) (s : Sr) (k : Nat) : Option (Int × Int) := if (keyS bs s).2 = 0 then rowS bs s (keyS bs s).1 k 0 else some (0, (keyS bs s).2)
set_option maxHeartbeats 1000000 in
theorem cloLinear.is (gs : Nat) (w : World) : Calls Try.prog 38 #[.pointer (some ⟨gs, 0, none⟩)] w fun e w' => e = .returned (.func (.func 39) #[.pointer (some ⟨gs, 0, none⟩)] #[]) ∧ w = w' := by
  have hmf : ∀ (fn : Fn) (first cap : Array Value) (w : World), (Instr.makeFunc fn first cap).run Try.prog w = .ok (.func fn first cap) w := fun _ _ _ _ => rfl
  go_enter Try.func38, Try.ntmps38
  go_wp2
  go_ret
  exact ⟨rfl, rfl⟩
set_option maxHeartbeats 4000000 in
set_option maxRecDepth 100000 in
theorem byLinear.is (k g : Nat) (s : Sr) (bs : List Int) (r1 r2 : Int) (w : World) (ho : s.Ok) (hm : PM w g bs) (h : LinearS bs s k = some (r1, r2)) :
    Calls Try.prog 37 #[.pointer (some ⟨g, 0, none⟩), s.agg, .func (.func 38) #[] #[]] w fun e w' => e = .returned (.tuple #[.int .u32 r1, .int .i64 r2]) ∧ Below w.heap.size w w' := by
  have HB := Aside0.mk (Below.refl w.heap.size w)
  have HO := Aside0.mk ho
  have HM := Aside0.mk hm
  have hmf : ∀ (fn : Fn) (first cap : Array Value) (w : World), (Instr.makeFunc fn first cap).run Try.prog w = .ok (.func fn first cap) w := fun _ _ _ _ => rfl
  unfold LinearS at h
  obtain ⟨L, er, hk⟩ : ∃ L er, keyS bs s = (L, er) := ⟨_, _, rfl⟩
  have hby := keyS_bytm hm.byt s
  have hks := keyS_kszm (bs := bs) (s := s)
  rw [hk] at h hby hks
  have HY := Aside0.mk hby
  clear ho hm hby
  by_cases he : er = 0
  · subst he
    rw [if_pos rfl] at h
    have H := Aside0.mk h
    have HK := Aside0.mk (hks rfl)
    have Hk := Aside0.mk hk
    clear h hks hk
    go_enter Try.func37, Try.ntmps37
    go_wp2_with (first | ((with_reducible refine gate_dst (N := 4) rfl ?_); refine zbox (N := 4) (cs := s.eight) (t := 32) ?_; intro gb hg w2 hbox hb; have BK := Aside0.mk hbox; replace HB := zbs HB hb; replace HM := Aside0.mk (HM.out.below hb); obtain ⟨z0, z1, z2, z3, z4, z5, z6, z7⟩ := all8m BK.out; clear hb hbox hg) | (go_at_call 22; (with_reducible refine (find_Key.is g s bs _ HO.out HM.out).mono ?_); rintro e w3 ⟨v3, he_, hv, hb⟩; rw [Hk.out] at he_ hv; subst he_; obtain ⟨A3, c3, rfl⟩ := Kd.R_slice hv; have HV := Aside0.mk (Kd.R_reads' hv).2.2; replace BK := zkb BK hb; replace HB := zbs HB hb; replace HM := Aside0.mk (HM.out.below hb); clear z0 z1 z2 z3 z4 z5 z6 z7 hv hb; obtain ⟨z0, z1, z2, z3, z4, z5, z6, z7⟩ := all8m BK.out; skip) | ((with_reducible refine gate_dst (N := 24) rfl ?_); refine zbox (N := 24) (cs := s.cells g (.slice A3 L.length c3)) (t := 105) ?_; intro gs hg w4 hbox hb; have BS := Aside0.mk hbox; replace HB := zbs HB hb; replace HM := Aside0.mk (HM.out.below hb); replace HV := Aside0.mk (Kd.C_below HV.out hb); clear hb hbox hg z0 z1 z2 z3 z4 z5 z6 z7) | (go_at_call 38; (with_reducible refine (cloLinear.is gs _).mono ?_); rintro e w' ⟨rfl, rfl⟩) | (go_at_call 39; (with_reducible refine (find_row.is k gs g s A3 c3 L bs r1 r2 _ BS.out HO.out HK.out HM.out HV.out HY.out H.out).mono ?_); rintro e w5 ⟨rfl, hb⟩; replace HB := zbs HB hb; clear hb))
    go_ret2
    exact ⟨rfl, zb HB⟩
  · rw [if_neg he] at h
    simp only [Option.some.injEq, Prod.mk.injEq] at h
    obtain ⟨rfl, rfl⟩ := h
    have hne : (er != 0) = true := bne_iff_ne.mpr he
    have Hk := Aside0.mk hk
    clear hks hk he
    go_enter Try.func37, Try.ntmps37
    go_wp2_with (first | ((with_reducible refine gate_dst (N := 4) rfl ?_); refine zbox (N := 4) (cs := s.eight) (t := 32) ?_; intro gb hg w2 hbox hb; have BK := Aside0.mk hbox; replace HB := zbs HB hb; replace HM := Aside0.mk (HM.out.below hb); obtain ⟨z0, z1, z2, z3, z4, z5, z6, z7⟩ := all8m BK.out; clear hb hbox hg) | (go_at_call 22; (with_reducible refine (find_Key.is g s bs _ HO.out HM.out).mono ?_); rintro e w3 ⟨v3, he_, hv, hb⟩; rw [Hk.out] at he_ hv; subst he_; replace HB := zbs HB hb; clear hv hb))
    go_ret2
    exact ⟨rfl, zb HB⟩
set_option maxHeartbeats 4000000 in
set_option maxRecDepth 100000 in
theorem find_Linear.is (k g : Nat) (s : Sr) (bs : List Int) (r1 r2 : Int) (w : World) (ho : s.Ok) (hm : PM w g bs) (h : LinearS bs s k = some (r1, r2)) :
    Calls Try.prog 17 #[.pointer (some ⟨g, 0, none⟩), s.agg] w fun e w' => e = .returned (.tuple #[.int .u32 r1, .int .i64 r2]) ∧ Below w.heap.size w w' := by
  have HB := Aside0.mk (Below.refl w.heap.size w)
  have HO := Aside0.mk ho
  have HM := Aside0.mk hm
  have H := Aside0.mk h
  clear ho hm h
  go_enter Try.func17, Try.ntmps17
  go_wp2_with (first | ((with_reducible refine gate_dst (N := 3) rfl ?_); refine zbox (N := 3) (cs := s.eight) (t := 32) ?_; intro gb hg w2 hbox hb; have BK := Aside0.mk hbox; replace HB := zbs HB hb; replace HM := Aside0.mk (HM.out.below hb); obtain ⟨z0, z1, z2, z3, z4, z5, z6, z7⟩ := all8m BK.out; clear hb hbox hg) | (go_at_call 37; (with_reducible refine (byLinear.is k g s bs r1 r2 _ HO.out HM.out H.out).mono ?_); rintro e w3 ⟨rfl, hb⟩; replace HB := zbs HB hb; clear hb))
  go_ret2
  exact ⟨rfl, zb HB⟩
set_option maxHeartbeats 4000000 in
set_option maxRecDepth 100000 in
theorem find_Linear.nil (s : Sr) (w : World) (ho : s.Ok) :
    Calls Try.prog 17 #[.pointer none, s.agg] w fun e w' => e = .returned (.tuple #[.int .u32 0, .int .i64 8]) ∧ Below w.heap.size w w' := by
  have HO := Aside0.mk ho
  clear ho
  have key : ∀ w : World, Calls Try.prog 37 #[.pointer none, s.agg, .func (.func 38) #[] #[]] w fun e w' => e = .returned (.tuple #[.int .u32 0, .int .i64 8]) ∧ Below w.heap.size w w' := by
    intro w
    have HB := Aside0.mk (Below.refl w.heap.size w)
    go_enter Try.func37, Try.ntmps37
    go_wp2_with (first | ((with_reducible refine gate_dst (N := 4) rfl ?_); refine zbox (N := 4) (cs := s.eight) (t := 32) ?_; intro gb hg w2 hbox hb; have BK := Aside0.mk hbox; replace HB := zbs HB hb; obtain ⟨z0, z1, z2, z3, z4, z5, z6, z7⟩ := all8m BK.out; clear hb hbox hg) | (go_at_call 22; (with_reducible refine (find_Key.nil s _ HO.out).mono ?_); rintro e w3 ⟨rfl, hb⟩; replace HB := zbs HB hb; clear hb))
    go_ret2
    exact ⟨rfl, zb HB⟩
  have KEY := Aside0.mk key
  have HB := Aside0.mk (Below.refl w.heap.size w)
  clear key
  go_enter Try.func17, Try.ntmps17
  go_wp2_with (first | ((with_reducible refine gate_dst (N := 3) rfl ?_); refine zbox (N := 3) (cs := s.eight) (t := 32) ?_; intro gb hg w2 hbox hb; have BK := Aside0.mk hbox; replace HB := zbs HB hb; obtain ⟨z0, z1, z2, z3, z4, z5, z6, z7⟩ := all8m BK.out; clear hb hbox hg) | (go_at_call 37; (with_reducible refine (KEY.out _).mono ?_); rintro e w3 ⟨rfl, hb⟩; replace HB := zbs HB hb; clear hb))
  go_ret2
  exact ⟨rfl, zb HB⟩
/-- what Binary comes to -/
def BinaryS (bs : List Int) (s : Sr) (k : Nat) : Option (Int × Int) := if (keyS bs s).2 = 0 then sortS bs s (keyS bs s).1 k 0 s.count else some (0, (keyS bs s).2)
set_option maxHeartbeats 1000000 in
theorem cloBinary.is (gs : Nat) (w : World) : Calls Try.prog 40 #[.pointer (some ⟨gs, 0, none⟩)] w fun e w' => e = .returned (.func (.func 41) #[.pointer (some ⟨gs, 0, none⟩)] #[]) ∧ w = w' := by
  have hmf : ∀ (fn : Fn) (first cap : Array Value) (w : World), (Instr.makeFunc fn first cap).run Try.prog w = .ok (.func fn first cap) w := fun _ _ _ _ => rfl
  go_enter Try.func40, Try.ntmps40
  go_wp2
  go_ret
  exact ⟨rfl, rfl⟩
set_option maxHeartbeats 4000000 in
set_option maxRecDepth 100000 in
theorem byBinary.is (k g : Nat) (s : Sr) (bs : List Int) (r1 r2 : Int) (w : World) (ho : s.Ok) (hm : PM w g bs) (h : BinaryS bs s k = some (r1, r2)) :
    Calls Try.prog 37 #[.pointer (some ⟨g, 0, none⟩), s.agg, .func (.func 40) #[] #[]] w fun e w' => e = .returned (.tuple #[.int .u32 r1, .int .i64 r2]) ∧ Below w.heap.size w w' := by
  have HB := Aside0.mk (Below.refl w.heap.size w)
  have HO := Aside0.mk ho
  have HM := Aside0.mk hm
  have hmf : ∀ (fn : Fn) (first cap : Array Value) (w : World), (Instr.makeFunc fn first cap).run Try.prog w = .ok (.func fn first cap) w := fun _ _ _ _ => rfl
  unfold BinaryS at h
  obtain ⟨L, er, hk⟩ : ∃ L er, keyS bs s = (L, er) := ⟨_, _, rfl⟩
  have hby := keyS_bytm hm.byt s
  have hks := keyS_kszm (bs := bs) (s := s)
  rw [hk] at h hby hks
  have HY := Aside0.mk hby
  clear ho hm hby
  by_cases he : er = 0
  · subst he
    rw [if_pos rfl] at h
    have H := Aside0.mk h
    have HK := Aside0.mk (hks rfl)
    have Hk := Aside0.mk hk
    clear h hks hk
    go_enter Try.func37, Try.ntmps37
    go_wp2_with (first | ((with_reducible refine gate_dst (N := 4) rfl ?_); refine zbox (N := 4) (cs := s.eight) (t := 32) ?_; intro gb hg w2 hbox hb; have BK := Aside0.mk hbox; replace HB := zbs HB hb; replace HM := Aside0.mk (HM.out.below hb); obtain ⟨z0, z1, z2, z3, z4, z5, z6, z7⟩ := all8m BK.out; clear hb hbox hg) | (go_at_call 22; (with_reducible refine (find_Key.is g s bs _ HO.out HM.out).mono ?_); rintro e w3 ⟨v3, he_, hv, hb⟩; rw [Hk.out] at he_ hv; subst he_; obtain ⟨A3, c3, rfl⟩ := Kd.R_slice hv; have HV := Aside0.mk (Kd.R_reads' hv).2.2; replace BK := zkb BK hb; replace HB := zbs HB hb; replace HM := Aside0.mk (HM.out.below hb); clear z0 z1 z2 z3 z4 z5 z6 z7 hv hb; obtain ⟨z0, z1, z2, z3, z4, z5, z6, z7⟩ := all8m BK.out; skip) | ((with_reducible refine gate_dst (N := 24) rfl ?_); refine zbox (N := 24) (cs := s.cells g (.slice A3 L.length c3)) (t := 105) ?_; intro gs hg w4 hbox hb; have BS := Aside0.mk hbox; replace HB := zbs HB hb; replace HM := Aside0.mk (HM.out.below hb); replace HV := Aside0.mk (Kd.C_below HV.out hb); clear hb hbox hg z0 z1 z2 z3 z4 z5 z6 z7) | (go_at_call 40; (with_reducible refine (cloBinary.is gs _).mono ?_); rintro e w' ⟨rfl, rfl⟩) | (go_at_call 41; (with_reducible refine (find_sorted.is k gs g s A3 c3 L bs r1 r2 _ BS.out HO.out HK.out HM.out HV.out HY.out H.out).mono ?_); rintro e w5 ⟨rfl, hb⟩; replace HB := zbs HB hb; clear hb))
    go_ret2
    exact ⟨rfl, zb HB⟩
  · rw [if_neg he] at h
    simp only [Option.some.injEq, Prod.mk.injEq] at h
    obtain ⟨rfl, rfl⟩ := h
    have hne : (er != 0) = true := bne_iff_ne.mpr he
    have Hk := Aside0.mk hk
    clear hks hk he
    go_enter Try.func37, Try.ntmps37
    go_wp2_with (first | ((with_reducible refine gate_dst (N := 4) rfl ?_); refine zbox (N := 4) (cs := s.eight) (t := 32) ?_; intro gb hg w2 hbox hb; have BK := Aside0.mk hbox; replace HB := zbs HB hb; replace HM := Aside0.mk (HM.out.below hb); obtain ⟨z0, z1, z2, z3, z4, z5, z6, z7⟩ := all8m BK.out; clear hb hbox hg) | (go_at_call 22; (with_reducible refine (find_Key.is g s bs _ HO.out HM.out).mono ?_); rintro e w3 ⟨v3, he_, hv, hb⟩; rw [Hk.out] at he_ hv; subst he_; replace HB := zbs HB hb; clear hv hb))
    go_ret2
    exact ⟨rfl, zb HB⟩
set_option maxHeartbeats 4000000 in
set_option maxRecDepth 100000 in
theorem find_Binary.is (k g : Nat) (s : Sr) (bs : List Int) (r1 r2 : Int) (w : World) (ho : s.Ok) (hm : PM w g bs) (h : BinaryS bs s k = some (r1, r2)) :
    Calls Try.prog 19 #[.pointer (some ⟨g, 0, none⟩), s.agg] w fun e w' => e = .returned (.tuple #[.int .u32 r1, .int .i64 r2]) ∧ Below w.heap.size w w' := by
  have HB := Aside0.mk (Below.refl w.heap.size w)
  have HO := Aside0.mk ho
  have HM := Aside0.mk hm
  have H := Aside0.mk h
  clear ho hm h
  go_enter Try.func19, Try.ntmps19
  go_wp2_with (first | ((with_reducible refine gate_dst (N := 3) rfl ?_); refine zbox (N := 3) (cs := s.eight) (t := 32) ?_; intro gb hg w2 hbox hb; have BK := Aside0.mk hbox; replace HB := zbs HB hb; replace HM := Aside0.mk (HM.out.below hb); obtain ⟨z0, z1, z2, z3, z4, z5, z6, z7⟩ := all8m BK.out; clear hb hbox hg) | (go_at_call 37; (with_reducible refine (byBinary.is k g s bs r1 r2 _ HO.out HM.out H.out).mono ?_); rintro e w3 ⟨rfl, hb⟩; replace HB := zbs HB hb; clear hb))
  go_ret2
  exact ⟨rfl, zb HB⟩
set_option maxHeartbeats 4000000 in
set_option maxRecDepth 100000 in
theorem find_Binary.nil (s : Sr) (w : World) (ho : s.Ok) :
    Calls Try.prog 19 #[.pointer none, s.agg] w fun e w' => e = .returned (.tuple #[.int .u32 0, .int .i64 8]) ∧ Below w.heap.size w w' := by
  have HO := Aside0.mk ho
  clear ho
  have key : ∀ w : World, Calls Try.prog 37 #[.pointer none, s.agg, .func (.func 40) #[] #[]] w fun e w' => e = .returned (.tuple #[.int .u32 0, .int .i64 8]) ∧ Below w.heap.size w w' := by
    intro w
    have HB := Aside0.mk (Below.refl w.heap.size w)
    go_enter Try.func37, Try.ntmps37
    go_wp2_with (first | ((with_reducible refine gate_dst (N := 4) rfl ?_); refine zbox (N := 4) (cs := s.eight) (t := 32) ?_; intro gb hg w2 hbox hb; have BK := Aside0.mk hbox; replace HB := zbs HB hb; obtain ⟨z0, z1, z2, z3, z4, z5, z6, z7⟩ := all8m BK.out; clear hb hbox hg) | (go_at_call 22; (with_reducible refine (find_Key.nil s _ HO.out).mono ?_); rintro e w3 ⟨rfl, hb⟩; replace HB := zbs HB hb; clear hb))
    go_ret2
    exact ⟨rfl, zb HB⟩
  have KEY := Aside0.mk key
  have HB := Aside0.mk (Below.refl w.heap.size w)
  clear key
  go_enter Try.func19, Try.ntmps19
  go_wp2_with (first | ((with_reducible refine gate_dst (N := 3) rfl ?_); refine zbox (N := 3) (cs := s.eight) (t := 32) ?_; intro gb hg w2 hbox hb; have BK := Aside0.mk hbox; replace HB := zbs HB hb; obtain ⟨z0, z1, z2, z3, z4, z5, z6, z7⟩ := all8m BK.out; clear hb hbox hg) | (go_at_call 37; (with_reducible refine (KEY.out _).mono ?_); rintro e w3 ⟨rfl, hb⟩; replace HB := zbs HB hb; clear hb))
  go_ret2
  exact ⟨rfl, zb HB⟩
/-- what Linked comes to -/
def LinkedS (bs : List Int) (s : Sr) (k : Nat) : Option (Int × Int) := if (keyS bs s).2 = 0 then chainS bs s (keyS bs s).1 k s.start 0 else some (0, (keyS bs s).2)
set_option maxHeartbeats 1000000 in
theorem cloLinked.is (gs : Nat) (w : World) : Calls Try.prog 42 #[.pointer (some ⟨gs, 0, none⟩)] w fun e w' => e = .returned (.func (.func 43) #[.pointer (some ⟨gs, 0, none⟩)] #[]) ∧ w = w' := by
  have hmf : ∀ (fn : Fn) (first cap : Array Value) (w : World), (Instr.makeFunc fn first cap).run Try.prog w = .ok (.func fn first cap) w := fun _ _ _ _ => rfl
  go_enter Try.func42, Try.ntmps42
  go_wp2
  go_ret
  exact ⟨rfl, rfl⟩
set_option maxHeartbeats 4000000 in
set_option maxRecDepth 100000 in
theorem byLinked.is (k g : Nat) (s : Sr) (bs : List Int) (r1 r2 : Int) (w : World) (ho : s.Ok) (hm : PM w g bs) (h : LinkedS bs s k = some (r1, r2)) :
    Calls Try.prog 37 #[.pointer (some ⟨g, 0, none⟩), s.agg, .func (.func 42) #[] #[]] w fun e w' => e = .returned (.tuple #[.int .u32 r1, .int .i64 r2]) ∧ Below w.heap.size w w' := by
  have HB := Aside0.mk (Below.refl w.heap.size w)
  have HO := Aside0.mk ho
  have HM := Aside0.mk hm
  have hmf : ∀ (fn : Fn) (first cap : Array Value) (w : World), (Instr.makeFunc fn first cap).run Try.prog w = .ok (.func fn first cap) w := fun _ _ _ _ => rfl
  unfold LinkedS at h
  obtain ⟨L, er, hk⟩ : ∃ L er, keyS bs s = (L, er) := ⟨_, _, rfl⟩
  have hby := keyS_bytm hm.byt s
  have hks := keyS_kszm (bs := bs) (s := s)
  rw [hk] at h hby hks
  have HY := Aside0.mk hby
  clear ho hm hby
  by_cases he : er = 0
  · subst he
    rw [if_pos rfl] at h
    have H := Aside0.mk h
    have HK := Aside0.mk (hks rfl)
    have Hk := Aside0.mk hk
    clear h hks hk
    go_enter Try.func37, Try.ntmps37
    go_wp2_with (first | ((with_reducible refine gate_dst (N := 4) rfl ?_); refine zbox (N := 4) (cs := s.eight) (t := 32) ?_; intro gb hg w2 hbox hb; have BK := Aside0.mk hbox; replace HB := zbs HB hb; replace HM := Aside0.mk (HM.out.below hb); obtain ⟨z0, z1, z2, z3, z4, z5, z6, z7⟩ := all8m BK.out; clear hb hbox hg) | (go_at_call 22; (with_reducible refine (find_Key.is g s bs _ HO.out HM.out).mono ?_); rintro e w3 ⟨v3, he_, hv, hb⟩; rw [Hk.out] at he_ hv; subst he_; obtain ⟨A3, c3, rfl⟩ := Kd.R_slice hv; have HV := Aside0.mk (Kd.R_reads' hv).2.2; replace BK := zkb BK hb; replace HB := zbs HB hb; replace HM := Aside0.mk (HM.out.below hb); clear z0 z1 z2 z3 z4 z5 z6 z7 hv hb; obtain ⟨z0, z1, z2, z3, z4, z5, z6, z7⟩ := all8m BK.out; skip) | ((with_reducible refine gate_dst (N := 24) rfl ?_); refine zbox (N := 24) (cs := s.cells g (.slice A3 L.length c3)) (t := 105) ?_; intro gs hg w4 hbox hb; have BS := Aside0.mk hbox; replace HB := zbs HB hb; replace HM := Aside0.mk (HM.out.below hb); replace HV := Aside0.mk (Kd.C_below HV.out hb); clear hb hbox hg z0 z1 z2 z3 z4 z5 z6 z7) | (go_at_call 42; (with_reducible refine (cloLinked.is gs _).mono ?_); rintro e w' ⟨rfl, rfl⟩) | (go_at_call 43; (with_reducible refine (find_chain.is k gs g s A3 c3 L bs r1 r2 _ BS.out HO.out HK.out HM.out HV.out HY.out H.out).mono ?_); rintro e w5 ⟨rfl, hb⟩; replace HB := zbs HB hb; clear hb))
    go_ret2
    exact ⟨rfl, zb HB⟩
  · rw [if_neg he] at h
    simp only [Option.some.injEq, Prod.mk.injEq] at h
    obtain ⟨rfl, rfl⟩ := h
    have hne : (er != 0) = true := bne_iff_ne.mpr he
    have Hk := Aside0.mk hk
    clear hks hk he
    go_enter Try.func37, Try.ntmps37
    go_wp2_with (first | ((with_reducible refine gate_dst (N := 4) rfl ?_); refine zbox (N := 4) (cs := s.eight) (t := 32) ?_; intro gb hg w2 hbox hb; have BK := Aside0.mk hbox; replace HB := zbs HB hb; replace HM := Aside0.mk (HM.out.below hb); obtain ⟨z0, z1, z2, z3, z4, z5, z6, z7⟩ := all8m BK.out; clear hb hbox hg) | (go_at_call 22; (with_reducible refine (find_Key.is g s bs _ HO.out HM.out).mono ?_); rintro e w3 ⟨v3, he_, hv, hb⟩; rw [Hk.out] at he_ hv; subst he_; replace HB := zbs HB hb; clear hv hb))
    go_ret2
    exact ⟨rfl, zb HB⟩
set_option maxHeartbeats 4000000 in
set_option maxRecDepth 100000 in
theorem find_Linked.is (k g : Nat) (s : Sr) (bs : List Int) (r1 r2 : Int) (w : World) (ho : s.Ok) (hm : PM w g bs) (h : LinkedS bs s k = some (r1, r2)) :
    Calls Try.prog 21 #[.pointer (some ⟨g, 0, none⟩), s.agg] w fun e w' => e = .returned (.tuple #[.int .u32 r1, .int .i64 r2]) ∧ Below w.heap.size w w' := by
  have HB := Aside0.mk (Below.refl w.heap.size w)
  have HO := Aside0.mk ho
  have HM := Aside0.mk hm
  have H := Aside0.mk h
  clear ho hm h
  go_enter Try.func21, Try.ntmps21
  go_wp2_with (first | ((with_reducible refine gate_dst (N := 3) rfl ?_); refine zbox (N := 3) (cs := s.eight) (t := 32) ?_; intro gb hg w2 hbox hb; have BK := Aside0.mk hbox; replace HB := zbs HB hb; replace HM := Aside0.mk (HM.out.below hb); obtain ⟨z0, z1, z2, z3, z4, z5, z6, z7⟩ := all8m BK.out; clear hb hbox hg) | (go_at_call 37; (with_reducible refine (byLinked.is k g s bs r1 r2 _ HO.out HM.out H.out).mono ?_); rintro e w3 ⟨rfl, hb⟩; replace HB := zbs HB hb; clear hb))
  go_ret2
  exact ⟨rfl, zb HB⟩
set_option maxHeartbeats 4000000 in
set_option maxRecDepth 100000 in
theorem find_Linked.nil (s : Sr) (w : World) (ho : s.Ok) :
    Calls Try.prog 21 #[.pointer none, s.agg] w fun e w' => e = .returned (.tuple #[.int .u32 0, .int .i64 8]) ∧ Below w.heap.size w w' := by
  have HO := Aside0.mk ho
  clear ho
  have key : ∀ w : World, Calls Try.prog 37 #[.pointer none, s.agg, .func (.func 42) #[] #[]] w fun e w' => e = .returned (.tuple #[.int .u32 0, .int .i64 8]) ∧ Below w.heap.size w w' := by
    intro w
    have HB := Aside0.mk (Below.refl w.heap.size w)
    go_enter Try.func37, Try.ntmps37
    go_wp2_with (first | ((with_reducible refine gate_dst (N := 4) rfl ?_); refine zbox (N := 4) (cs := s.eight) (t := 32) ?_; intro gb hg w2 hbox hb; have BK := Aside0.mk hbox; replace HB := zbs HB hb; obtain ⟨z0, z1, z2, z3, z4, z5, z6, z7⟩ := all8m BK.out; clear hb hbox hg) | (go_at_call 22; (with_reducible refine (find_Key.nil s _ HO.out).mono ?_); rintro e w3 ⟨rfl, hb⟩; replace HB := zbs HB hb; clear hb))
    go_ret2
    exact ⟨rfl, zb HB⟩
  have KEY := Aside0.mk key
  have HB := Aside0.mk (Below.refl w.heap.size w)
  clear key
  go_enter Try.func21, Try.ntmps21
  go_wp2_with (first | ((with_reducible refine gate_dst (N := 3) rfl ?_); refine zbox (N := 3) (cs := s.eight) (t := 32) ?_; intro gb hg w2 hbox hb; have BK := Aside0.mk hbox; replace HB := zbs HB hb; obtain ⟨z0, z1, z2, z3, z4, z5, z6, z7⟩ := all8m BK.out; clear hb hbox hg) | (go_at_call 37; (with_reducible refine (KEY.out _).mono ?_); rintro e w3 ⟨rfl, hb⟩; replace HB := zbs HB hb; clear hb))
  go_ret2
  exact ⟨rfl, zb HB⟩
end Go.Proofs.Ytohmipmioaceeaa.PQ

/- The document's memory, as it is read; Span. -/
namespace Go.Proofs.Ytohmipmioaceeaa.PQ
open Go.RowKit Go.Proofs.YtohmipmioaceeaaW.PrintWords Go.Proofs.YtohmipmioaceeaaW.PrintLast Go.Proofs.YtohmipmioaceeaaW.PrintMore Go.Proofs.Ytohmipmioaceeaa.Z Go.Proofs.Ytohmipmioaceeaa.Pure
set_option linter.unusedVariables false
set_option linter.unusedSimpArgs false
/-- the document's memory, as it is read: its bytes -/
structure RM (w : World) (g : Nat) (bs : List Int) : Prop where
  ex : ∃ gb c, w.cell? ⟨g, 0, none⟩ = some (.slice (some ⟨gb, 0, none⟩) bs.length c) ∧ bs.length ≤ c ∧ Kd.C (Kd.int .u8) w (some ⟨gb, 0, none⟩) bs.length bs
  len : bs.length ≤ 1048576
  byt : Byt bs
theorem RM.below {w w1 : World} {g : Nat} {bs : List Int} (h : RM w g bs) (hb : Below w.heap.size w w1) : RM w1 g bs := by
  obtain ⟨⟨gb, c, h1, h2, h3⟩, h4, h5⟩ := h
  exact ⟨⟨gb, c, pw_cell_below hb h1, h2, Kd.C_below h3 hb⟩, h4, h5⟩
set_option maxHeartbeats 4000000 in
set_option maxRecDepth 100000 in
theorem ref_Span.is (g : Nat) (bs : List Int) (a n : Int) (w : World) (hm : RM w g bs) (h0 : 0 ≤ a ∧ a < 4294967296) (hn : 0 ≤ n ∧ n < 4294967296) :
    Calls Try.prog 23 #[.pointer (some ⟨g, 0, none⟩), .int .u32 a, .int .u32 n] w fun e w' => ∃ v : Value, e = .returned (.tuple #[v, .bool ((spanS bs a n).2 == 0)]) ∧ Kd.R (Kd.int .u8) 5 w' w.heap.size (fun _ => True) v (spanS bs a n).1 ∧ Below w.heap.size w w' := by
  have HM := Aside0.mk hm
  have H0 := Aside0.mk h0
  have HN := Aside0.mk hn
  have HB := Aside0.mk (Below.refl w.heap.size w)
  obtain ⟨⟨gb, cb, z0, hcb, hrb⟩, hl, hby⟩ := hm
  have HZ := Aside0.mk z0
  have HR := Aside0.mk hrb
  have HL := Aside0.mk hl
  have HY := Aside0.mk hby
  have e1 : wrap64 (wrap64 a + wrap64 n) = a + n := by rw [w64 (n := a) (by omega) (by omega), w64 (n := n) (by omega) (by omega), w64 (by omega) (by omega)]
  have e2 : wrap64 n = n := w64 (by omega) (by omega)
  have E1 := Aside0.mk e1
  have E2 := Aside0.mk e2
  clear hcb hrb hl hby e1 e2
  by_cases c : n = 0 ∨ a + n ≤ (bs.length : Int)
  · have Hok := Aside0.mk (spanS_ok c)
    have HC := Aside0.mk c
    have b0 : decide (wrap64 (wrap64 a + wrap64 n) > (bs.length : Int)) = false ∨ (decide ((bs.length : Int) < wrap64 (wrap64 a + wrap64 n)) = true ∧ decide (0 < n) = false) := by
      rw [E1.out]
      by_cases c2 : (bs.length : Int) < a + n
      · exact Or.inr ⟨decide_eq_true c2, decide_eq_false (by omega)⟩
      · exact Or.inl (decide_eq_false c2)
    clear c h0 hn
    rcases b0 with b0 | ⟨b0, b1⟩
    all_goals
      (try have b2 : decide ((bs.length : Int) < wrap64 (wrap64 a + wrap64 n)) = false := b0)
      go_enter Try.func23, Try.ntmps23
      go_wp2
      go_loopg [8, 9] (n.toNat + 1) (fun kq v8 v9 w' => ∃ i : Int, v9 = .int .i64 i ∧ Aside0 (0 ≤ i ∧ i ≤ n ∧ kq = (n - i).toNat + 1) ∧ Aside0 (Kd.R (Kd.int .u8) 5 w' w.heap.size (fun _ => True) v8 ((bs.drop a.toNat).take i.toNat)) ∧ Aside0 (Below w.heap.size w w'))
      case atStart => exact ⟨0, rfl, ⟨by have := HN.out; omega⟩, ⟨Kd.R_nil _ _ _ _ _⟩, ⟨zb HB⟩⟩
      case round =>
        (try clear b0)
        (try clear b1)
        (try clear b2)
        clear z0
        obtain ⟨i, rfl, HI, HO, HB⟩ := hrel
        have z0 := pw_cell_below HB.out HZ.out
        by_cases c1 : i < n
        · have c1b : decide (i < wrap64 n) = true := by rw [E2.out]; exact decide_eq_true c1
          have e3 : wrap64 (wrap64 a + i) = a + i := by have := HI.out; have := HN.out; have := H0.out; rw [w64 (n := a) (by omega) (by omega), w64 (by omega) (by omega)]
          have hlt : a + i < (bs.length : Int) := by have := HI.out; have := HC.out; omega
          have h00 : 0 ≤ a + i := by have := HI.out; have := H0.out; omega
          have hsn : ((bs.drop a.toNat).take i.toNat) ++ [rd bs (a + i)] = (bs.drop a.toNat).take (i + 1).toNat := by
            have hi := HI.out
            have h0 := H0.out
            rw [show (i + 1).toNat = i.toNat + 1 by omega, take_snoc' (by omega)]
            rw [show ((a.toNat + i.toNat : Nat) : Int) = a + i by omega]
          have hlen : ((bs.drop a.toNat).take i.toNat).length ≤ 1048576 := by
            have := HL.out
            exact Nat.le_trans (List.length_take_le' _ _) (by rw [List.length_drop]; omega)
          have hnx : wrap64 (i + 1) = i + 1 := by have := HI.out; have := HN.out; exact w64 (by omega) (by omega)
          obtain ⟨ad, ea, hx⟩ := Kd.at_int HR.out (a + i) h00 hlt
          injection ea with ea
          subst ea
          rw [add_plain] at hx
          replace hx := pw_cell_below HB.out hx
          obtain ⟨q, hq⟩ : ∃ q : Int, wrap64 (wrap64 a + i) = q := ⟨_, rfl⟩
          have hqe : q = a + i := by rw [← hq, e3]
          have Hqe := Aside0.mk hqe
          rw [← hqe] at hx hlt h00
          have Hsn := Aside0.mk hsn
          have Hlen := Aside0.mk hlen
          have Hnx := Aside0.mk hnx
          have Hc1 := Aside0.mk c1
          clear e3 hsn hlen hnx hqe c1
          replace hlt := eq_true hlt
          replace h00 := eq_true h00
          go_wp2_with (first | ((with_reducible refine gate_builtin (b := .append) (xs := #[.tmp 31, .tmp 42]) rfl ?_); at_builtin; refine Kd.R_append (Kd.int .u8) (w0 := w) w.heap.size rfl (.tmp 31) (.tmp 42) 29 5 (.int .u8 0) 1 rfl Try.underlying29 info5 rfl (by decide) (by omega) u8 ((bs.drop a.toNat).take i.toNat) (rd bs q) [.int .u8 (rd bs q)] (fun _ => True) (fun _ => False) rfl rfl ?aP (fun _ hk => hk.elim) ?aF ?aO ?aB ?aS ?aL ?_; (case aP => exact rfl); (case aB => exact (zb HB)); (case aF => exact (fun _ _ => trivial)); (case aO => exact (by (with_reducible repeat (first | apply Kd.R_alloc | apply Kd.R_drewN | apply Kd.R_drew)); exact HO.out)); (case aS => exact (below_size (zb HB))); (case aL => have := Hlen.out; omega); intro v2 w5 ho hb hg hat; rw [Hqe.out, Hsn.out] at ho; have HO2 := Aside0.mk (ho); replace HB := Aside0.mk (hb); clear HO; clear ho hb hg hat))
          go_roundg ((n - (i + 1)).toNat + 1)
          case measure => have := HI.out; have := Hc1.out; omega
          case rel => exact ⟨i + 1, by rw [Hnx.out], ⟨by have := HI.out; have := Hc1.out; omega⟩, ⟨HO2.out⟩, ⟨zb HB⟩⟩
        · have c1b : decide (i < wrap64 n) = false := by rw [E2.out]; exact decide_eq_false c1
          have Hin := Aside0.mk (show i = n by have := HI.out; omega)
          clear c1
          go_wp2
          go_ret2
          rw [Hok.out]
          exact ⟨_, rfl, by rw [← Hin.out]; exact HO.out, zb HB⟩
  · have Hno := Aside0.mk (spanS_no c)
    have b0 : decide ((bs.length : Int) < wrap64 (wrap64 a + wrap64 n)) = true := by rw [E1.out]; exact decide_eq_true (by omega)
    have b1 : decide (0 < n) = true := decide_eq_true (by omega)
    clear c h0 hn
    go_enter Try.func23, Try.ntmps23
    go_wp2
    go_ret2
    rw [Hno.out]
    exact ⟨_, rfl, Kd.R_nil _ _ _ _ _, zb HB⟩
end Go.Proofs.Ytohmipmioaceeaa.PQ

/- The document's small functions about a search. -/
namespace Go.Proofs.Ytohmipmioaceeaa.PQ
open Go.RowKit Go.Proofs.YtohmipmioaceeaaW.PrintWords Go.Proofs.YtohmipmioaceeaaW.PrintLast Go.Proofs.YtohmipmioaceeaaW.PrintMore Go.Proofs.Ytohmipmioaceeaa.Z Go.Proofs.Ytohmipmioaceeaa.Pure
set_option linter.unusedVariables false
set_option linter.unusedSimpArgs false
theorem cmpI_eq : ∀ (a b : List Int), cmpI a b = 0 ↔ a = b
  | [], [] => by simp [cmpI]
  | [], _ :: _ => by simp [cmpI]
  | _ :: _, [] => by simp [cmpI]
  | x :: a, y :: b => by
    have ih := cmpI_eq a b
    unfold cmpI
    by_cases h1 : x < y
    · rw [if_pos h1]
      exact ⟨(fun h => by cases h), (fun h => by injection h with h _; omega)⟩
    · rw [if_neg h1]
      by_cases h2 : y < x
      · rw [if_pos h2]
        exact ⟨(fun h => by cases h), (fun h => by injection h with h _; omega)⟩
      · rw [if_neg h2, ih]
        have : x = y := by omega
        subst this
        exact ⟨(fun h => by rw [h]), (fun h => by injection h)⟩
theorem has_is (s : Sr) (b : Int) (w : World) (ho : s.Ok) (hb : b = 1 ∨ b = 2 ∨ b = 4) :
    Calls Try.prog 48 #[s.agg, .int .u32 b] w fun e w' => e = .returned (.bool (hasB s.opts b)) ∧ Below w.heap.size w w' := by
  refine grottoref13_has.calls _ _ _ _ _ _ _ _ b _ w ?_
  unfold grottoref13_has.f hasB
  have h := ho.opts
  rw [if_neg (by omega), Int.tdiv_eq_ediv_of_nonneg h.1]
  rcases hb with rfl | rfl | rfl
  · rw [Int.emod_eq_of_lt (b := 4294967296) (by omega) (by omega)]
  · rw [Int.emod_eq_of_lt (b := 4294967296) (by omega) (by omega)]
  · rw [Int.emod_eq_of_lt (b := 4294967296) (by omega) (by omega)]
theorem has_f (s : Sr) (b : Int) (ho : s.Ok) (hb : b = 1 ∨ b = 2 ∨ b = 4) : grottoref13_has.f s.key s.ksz s.start s.size s.count s.off s.next s.opts b = some (hasB s.opts b) := by
  unfold grottoref13_has.f hasB
  have h := ho.opts
  rw [if_neg (by omega), Int.tdiv_eq_ediv_of_nonneg h.1]
  rcases hb with rfl | rfl | rfl
  · rw [Int.emod_eq_of_lt (b := 4294967296) (by omega) (by omega)]
  · rw [Int.emod_eq_of_lt (b := 4294967296) (by omega) (by omega)]
  · rw [Int.emod_eq_of_lt (b := 4294967296) (by omega) (by omega)]
theorem told_is (s : Sr) (i : Int) (w : World) (ho : s.Ok) (hi : 0 ≤ i) :
    Calls Try.prog 50 #[s.agg, .int .i64 i] w fun e w' => e = .returned (.int .u32 (toldS s (i % 4294967296))) ∧ Below w.heap.size w w' := by
  refine grottoref13_told.calls _ _ _ _ _ _ _ _ i _ w ?_
  unfold grottoref13_told.f toldS
  rw [has_f s 4 ho (by omega), Option.bind_some]
  cases hasB s.opts 4
  · rw [if_neg (by decide), if_neg (by omega), if_neg (by decide)]
  · rw [if_pos rfl, if_pos rfl]
theorem none_is (s : Sr) (w : World) (ho : s.Ok) :
    Calls Try.prog 50 #[s.agg, .int .i64 (-1)] w fun e w' => e = .returned (.int .u32 (noneS s)) ∧ Below w.heap.size w w' := by
  refine grottoref13_told.calls _ _ _ _ _ _ _ _ (-1) _ w ?_
  unfold grottoref13_told.f noneS
  rw [has_f s 4 ho (by omega), Option.bind_some]
  cases hasB s.opts 4
  · rw [if_neg (by decide), if_pos (by decide), if_neg (by decide)]
  · rw [if_pos rfl, if_pos rfl]; rfl
theorem allz_drop {l : List Int} {i : Nat} (h : i < l.length) : allz (l.drop i) = ((rd l (i : Int) == 0) && allz (l.drop (i + 1))) := by
  rw [drop_at h]; rfl
theorem noughts_l0 (l : List Int) (hl : l.length ≤ 1000000) : ∀ (d i k : Nat), i + d = l.length → d < k → grottoref13_noughts.l0 k l (i : Int) = some (allz (l.drop i)) := by
  intro d
  induction d with
  | zero =>
    intro i k hi hk
    obtain ⟨k, rfl⟩ : ∃ j, k = j + 1 := ⟨k - 1, by omega⟩
    rw [grottoref13_noughts.l0.eq_2, if_neg (by omega), List.drop_of_length_le (by omega)]; rfl
  | succ d ih =>
    intro i k hi hk
    obtain ⟨k, rfl⟩ : ∃ j, k = j + 1 := ⟨k - 1, by omega⟩
    rw [grottoref13_noughts.l0.eq_2, if_pos (by omega), if_pos (by omega), allz_drop (by omega), w64 (by omega) (by omega), show (i : Int) + 1 = ((i + 1 : Nat) : Int) by omega, ih (i + 1) k (by omega) (by omega)]
    by_cases c : rd l (i : Int) = 0
    · rw [if_pos c, c]; rfl
    · rw [if_neg c, beq_eq_false_iff_ne.mpr c]; rfl
theorem noughts_is (l : List Int) (A : Option Addr) (c : Nat) (w : World) (hr : Kd.C (Kd.int .u8) w A l.length l) (hc : l.length ≤ c) (hl : l.length ≤ 1000000) :
    Calls Try.prog 51 #[.slice A l.length c] w fun e w' => e = .returned (.bool (allz l)) ∧ Drawn0 w w' :=
  grottoref13_noughts.calls (l.length + 1) A c l _ w hr hc (by
    have := noughts_l0 l hl l.length 0 (l.length + 1) (by omega) (by omega)
    rw [List.drop_zero] at this
    exact this)
theorem cmpI_drop {a b : List Int} {i : Nat} (ha : i < a.length) (hb : i < b.length) : cmpI (a.drop i) (b.drop i) = if rd a (i : Int) < rd b (i : Int) then -1 else if rd b (i : Int) < rd a (i : Int) then 1 else cmpI (a.drop (i + 1)) (b.drop (i + 1)) := by
  rw [drop_at ha, drop_at hb]; rfl
theorem below_l0 (a b : List Int) (hl : a.length ≤ 1000000) (he : a.length = b.length) : ∀ (d i k : Nat), i + d = a.length → d < k → grottoref13_below.l0 k a b (i : Int) = some (decide (cmpI (a.drop i) (b.drop i) < 0)) := by
  intro d
  induction d with
  | zero =>
    intro i k hi hk
    obtain ⟨k, rfl⟩ : ∃ j, k = j + 1 := ⟨k - 1, by omega⟩
    rw [grottoref13_below.l0.eq_2, if_neg (by omega), List.drop_of_length_le (by omega), List.drop_of_length_le (by omega)]; rfl
  | succ d ih =>
    intro i k hi hk
    obtain ⟨k, rfl⟩ : ∃ j, k = j + 1 := ⟨k - 1, by omega⟩
    have h1 := ih (i + 1) k (by omega) (by omega)
    have hc := cmpI_drop (a := a) (b := b) (i := i) (by omega) (by omega)
    rw [hc, grottoref13_below.l0.eq_2, if_pos (by omega), if_pos (by omega), if_pos (by omega), w64 (by omega) (by omega), show (i : Int) + 1 = ((i + 1 : Nat) : Int) by omega, h1]
    by_cases c : rd a (i : Int) = rd b (i : Int)
    · rw [if_pos c, if_neg (by omega), if_neg (by omega)]
    · rw [if_neg c]
      by_cases c1 : rd a (i : Int) < rd b (i : Int)
      · rw [if_pos c1, decide_eq_true c1]; rfl
      · rw [if_neg c1, if_pos (by omega), decide_eq_false c1]; rfl
theorem below_is (a b : List Int) (A B : Option Addr) (c d : Nat) (w : World) (hr : Kd.C (Kd.int .u8) w A a.length a) (hc : a.length ≤ c) (hs : Kd.C (Kd.int .u8) w B b.length b) (hd : b.length ≤ d) (hl : a.length ≤ 1000000) (he : a.length = b.length) :
    Calls Try.prog 52 #[.slice A a.length c, .slice B b.length d] w fun e w' => e = .returned (.bool (decide (cmpI a b < 0))) ∧ Drawn0 w w' :=
  grottoref13_below.calls (a.length + 1) A c a B d b _ w hr hc hs hd (by
    have := below_l0 a b hl he a.length 0 (a.length + 1) (by omega) (by omega)
    rw [List.drop_zero, List.drop_zero] at this
    exact this)
theorem bytes_inj {a b : List Int} (ha : Byt a) (hb : Byt b) (h : (strOfNums a).toList = (strOfNums b).toList) : a = b := by
  rw [Go.Lib.strOfNums_toList, Go.Lib.strOfNums_toList] at h
  unfold Go.Lib.bytesOf at h
  apply List.ext_getElem?
  intro i
  have h2 := congrArg (fun l => l[i]?) h
  simp only [List.getElem?_map] at h2
  cases h3 : a[i]? with
  | none =>
    rw [h3] at h2
    cases h4 : b[i]? with
    | none => rfl
    | some y => rw [h4] at h2; simp at h2
  | some x =>
    rw [h3] at h2
    cases h4 : b[i]? with
    | none => rw [h4] at h2; simp at h2
    | some y =>
      rw [h4] at h2
      simp only [Option.map_some, Option.some.injEq] at h2
      have hx := ha x (List.mem_of_getElem? h3)
      have hy := hb y (List.mem_of_getElem? h4)
      have h5 := congrArg UInt8.toNat h2
      rw [UInt8.toNat_ofNat', UInt8.toNat_ofNat', Nat.mod_eq_of_lt (by omega), Nat.mod_eq_of_lt (by omega)] at h5
      congr 1
      omega
end Go.Proofs.Ytohmipmioaceeaa.PQ

/- The document's Key. -/
namespace Go.Proofs.Ytohmipmioaceeaa.PQ
open Go.RowKit Go.Proofs.YtohmipmioaceeaaW.PrintWords Go.Proofs.YtohmipmioaceeaaW.PrintLast Go.Proofs.YtohmipmioaceeaaW.PrintMore Go.Proofs.Ytohmipmioaceeaa.Z Go.Proofs.Ytohmipmioaceeaa.Pure
set_option linter.unusedVariables false
set_option linter.unusedSimpArgs false
theorem ref_Span.to (g : Nat) (bs L : List Int) (a n er : Int) (w : World) (hm : RM w g bs) (h0 : 0 ≤ a ∧ a < 4294967296) (hn : 0 ≤ n ∧ n < 4294967296) (h : spanS bs a n = (L, er)) :
    Calls Try.prog 23 #[.pointer (some ⟨g, 0, none⟩), .int .u32 a, .int .u32 n] w fun e w' => ∃ (A : Option Addr) (c : Nat), e = .returned (.tuple #[.slice A L.length c, .bool (er == 0)]) ∧ Kd.R (Kd.int .u8) 5 w' w.heap.size (fun _ => True) (.slice A L.length c) L ∧ Below w.heap.size w w' :=
  (ref_Span.is g bs a n w hm h0 hn).mono fun e w' hh => by
    obtain ⟨v, he, hv, hb⟩ := hh
    rw [h] at he hv
    obtain ⟨A, c, rfl⟩ := Kd.R_slice hv
    exact ⟨A, c, he, hv, hb⟩
theorem all8 {w : World} {gb : Nat} {s : Sr} (h : w.heap[gb]? = some (.cells s.eight 32 (0, 0))) : w.cell? ⟨gb, 0, none⟩ = some (.int .u32 s.key) ∧ w.cell? ⟨gb, 1, none⟩ = some (.int .u32 s.ksz) ∧ w.cell? ⟨gb, 2, none⟩ = some (.int .u32 s.start) ∧ w.cell? ⟨gb, 3, none⟩ = some (.int .u32 s.size) ∧ w.cell? ⟨gb, 4, none⟩ = some (.int .u32 s.count) ∧ w.cell? ⟨gb, 5, none⟩ = some (.int .u32 s.off) ∧ w.cell? ⟨gb, 6, none⟩ = some (.int .u32 s.next) ∧ w.cell? ⟨gb, 7, none⟩ = some (.int .u32 s.opts) :=
  ⟨(blk_cell h 0).trans rfl, (blk_cell h 1).trans rfl, (blk_cell h 2).trans rfl, (blk_cell h 3).trans rfl, (blk_cell h 4).trans rfl, (blk_cell h 5).trans rfl, (blk_cell h 6).trans rfl, (blk_cell h 7).trans rfl⟩
set_option maxHeartbeats 4000000 in
set_option maxRecDepth 100000 in
theorem ref_Key.bad (g : Nat) (s : Sr) (w : World) (ho : s.Ok) (hk : keyBad s = true) :
    Calls Try.prog 27 #[.pointer (some ⟨g, 0, none⟩), s.agg] w fun e w' => e = .returned (.tuple #[.slice none 0 0, .int .i64 130]) ∧ Below w.heap.size w w' := by
  have HB := Aside0.mk (Below.refl w.heap.size w)
  have HO := Aside0.mk ho
  unfold keyBad at hk
  have hk1 : decide (256 < s.ksz) = true ∨ (decide (256 < s.ksz) = false ∧ hasB s.opts 1 = false ∧ (s.ksz != 1) = true ∧ (s.ksz != 2) = true ∧ (s.ksz != 4) = true) := by
    cases h1 : decide (s.ksz > 256)
    · rw [h1] at hk
      simp only [Bool.false_or, Bool.and_eq_true, Bool.not_eq_true'] at hk
      exact Or.inr ⟨rfl, hk.1.1.1, hk.1.1.2, hk.1.2, hk.2⟩
    · exact Or.inl rfl
  clear hk ho
  rcases hk1 with hk1 | ⟨hk1, hk2, hk3, hk4, hk5⟩
  · go_enter Try.func27, Try.ntmps27
    go_wp2_with (first | ((with_reducible refine gate_dst (N := 3) rfl ?_); refine zbox (N := 3) (cs := s.eight) (t := 32) ?_; intro gb hg w2 hbox hb; have BK := Aside0.mk hbox; replace HB := zbs HB hb; obtain ⟨z0, z1, z2, z3, z4, z5, z6, z7⟩ := all8 BK.out; clear hb hbox hg))
    go_ret2
    exact ⟨rfl, zb HB⟩
  · have Hk2 := Aside0.mk hk2
    clear hk2
    go_enter Try.func27, Try.ntmps27
    go_wp2_with (first | ((with_reducible refine gate_dst (N := 3) rfl ?_); refine zbox (N := 3) (cs := s.eight) (t := 32) ?_; intro gb hg w2 hbox hb; have BK := Aside0.mk hbox; replace HB := zbs HB hb; obtain ⟨z0, z1, z2, z3, z4, z5, z6, z7⟩ := all8 BK.out; clear hb hbox hg) | (go_at_call 48; (with_reducible refine (has_is s 1 _ HO.out (by omega)).mono ?_); rintro e w3 ⟨rfl, hb⟩; rw [Hk2.out]; replace BK := zkb BK hb; replace HB := zbs HB hb; clear hb z0 z1 z2 z3 z4 z5 z6 z7; obtain ⟨z0, z1, z2, z3, z4, z5, z6, z7⟩ := all8 BK.out))
    go_ret2
    exact ⟨rfl, zb HB⟩
set_option maxHeartbeats 4000000 in
set_option maxRecDepth 100000 in
theorem ref_Key.ind (g : Nat) (s : Sr) (bs : List Int) (w : World) (ho : s.Ok) (hm : RM w g bs) (hk0 : s.ksz ≤ 256) (hk1 : hasB s.opts 1 = true) :
    Calls Try.prog 27 #[.pointer (some ⟨g, 0, none⟩), s.agg] w fun e w' => ∃ v : Value, e = .returned (.tuple #[v, .int .i64 (spanS bs s.key s.ksz).2]) ∧ Kd.R (Kd.int .u8) 5 w' w.heap.size (fun _ => True) v (spanS bs s.key s.ksz).1 ∧ Below w.heap.size w w' := by
  have HB := Aside0.mk (Below.refl w.heap.size w)
  have HO := Aside0.mk ho
  have HM := Aside0.mk hm
  have Hk1 := Aside0.mk hk1
  have hk2 : decide (256 < s.ksz) = false := decide_eq_false (by omega)
  obtain ⟨L, er, hsp, her⟩ := spanS_er bs s.key s.ksz
  have HP := Aside0.mk hsp
  clear ho hm hk0 hk1 hsp
  rcases her with rfl | ⟨rfl, rfl⟩
  all_goals
    go_enter Try.func27, Try.ntmps27
    go_wp2_with (first | ((with_reducible refine gate_dst (N := 3) rfl ?_); refine zbox (N := 3) (cs := s.eight) (t := 32) ?_; intro gb hg w2 hbox hb; have BK := Aside0.mk hbox; replace HB := zbs HB hb; replace HM := Aside0.mk (HM.out.below hb); obtain ⟨z0, z1, z2, z3, z4, z5, z6, z7⟩ := all8 BK.out; clear hb hbox hg) | (go_at_call 48; (with_reducible refine (has_is s 1 _ HO.out (by omega)).mono ?_); rintro e w3 ⟨rfl, hb⟩; rw [Hk1.out]; replace BK := zkb BK hb; replace HM := Aside0.mk (HM.out.below hb); replace HB := zbs HB hb; clear hb z0 z1 z2 z3 z4 z5 z6 z7; obtain ⟨z0, z1, z2, z3, z4, z5, z6, z7⟩ := all8 BK.out) | (go_at_call 23; (with_reducible refine (ref_Span.to g bs _ s.key s.ksz _ _ HM.out HO.out.key HO.out.ksz HP.out).mono ?_); rintro e w4 ⟨A1, c1, rfl, hv, hb⟩; have HV := Aside0.mk (Kd.R_lower hv (below_size HB.out)); replace HB := zbs HB hb; clear hb hv z0 z1 z2 z3 z4 z5 z6 z7))
    go_ret2
    rw [HP.out]
    exact ⟨_, rfl, (by first | exact HV.out | exact Kd.R_nil _ _ _ _ _), zb HB⟩
theorem eo88 {w : World} {gb x n : Nat} {a b c' d e o : Int} (h : w.heap[gb]? = some (.cells (E8 x n a b c' d e o) 32 (0, 0))) : w.cell? ⟨gb, 0, none⟩ = some (.int .u32 x) ∧ w.cell? ⟨gb, 1, none⟩ = some (.int .u32 n) ∧ w.cell? ⟨gb, 2, none⟩ = some (.int .u32 a) ∧ w.cell? ⟨gb, 3, none⟩ = some (.int .u32 b) ∧ w.cell? ⟨gb, 4, none⟩ = some (.int .u32 c') ∧ w.cell? ⟨gb, 5, none⟩ = some (.int .u32 d) ∧ w.cell? ⟨gb, 6, none⟩ = some (.int .u32 e) ∧ w.cell? ⟨gb, 7, none⟩ = some (.int .u32 o) :=
  ⟨(blk_cell h 0).trans rfl, (blk_cell h 1).trans rfl, (blk_cell h 2).trans rfl, (blk_cell h 3).trans rfl, (blk_cell h 4).trans rfl, (blk_cell h 5).trans rfl, (blk_cell h 6).trans rfl, (blk_cell h 7).trans rfl⟩
theorem set_nought (m : Nat) (tl : List Int) (x : Int) : (List.replicate (m + 1) 0 ++ tl).set m x = List.replicate m 0 ++ (x :: tl) := by
  rw [List.replicate_succ', List.append_assoc, List.set_append_right _ _ (by simp)]
  simp
set_option maxHeartbeats 4000000 in
set_option maxRecDepth 100000 in
theorem ref_Key.put (g x n : Nat) (a b c' d e o : Int) (w : World) (ho : (Sr.mk x n a b c' d e o).Ok) (hn : n = 1 ∨ n = 2 ∨ n = 4) (hb : hasB o 1 = false) :
    Calls Try.prog 27 #[.pointer (some ⟨g, 0, none⟩), .agg #[.int .u32 x, .int .u32 n, .int .u32 a, .int .u32 b, .int .u32 c', .int .u32 d, .int .u32 e, .int .u32 o]] w fun e w' => ∃ v : Value, e = .returned (.tuple #[v, .int .i64 0]) ∧ Kd.R (Kd.int .u8) 5 w' w.heap.size (fun _ => True) v (byts x n) ∧ Below w.heap.size w w' := by
  have HB := Aside0.mk (Below.refl w.heap.size w)
  have HO := Aside0.mk ho
  have Hn := Aside0.mk hn
  have Hb := Aside0.mk hb
  have hk2 : decide (256 < (n : Int)) = false := decide_eq_false (by omega)
  have hk4 : ((n : Int) != 1) = false ∨ (((n : Int) != 1) = true ∧ ((n : Int) != 2) = false) ∨ (((n : Int) != 1) = true ∧ ((n : Int) != 2) = true ∧ ((n : Int) != 4) = false) := by
    rcases hn with rfl | rfl | rfl <;> decide
  have hw : wrap64 (n : Int) = n := w64 (by omega) (by omega)
  have Hw := Aside0.mk hw
  have hw1 : wrap64 ((n : Int) - 1) = ((n : Nat) : Int) - 1 := w64 (by omega) (by omega)
  have Hw1 := Aside0.mk hw1
  clear hn ho hb hw hw1
  rcases hk4 with hk4 | ⟨hk4, hk5⟩ | ⟨hk4, hk5, hk6⟩
  all_goals
    go_enter Try.func27, Try.ntmps27
    go_wp2_with (first | ((with_reducible refine gate_dst (N := 3) rfl ?_); refine zbox (N := 3) (cs := E8 x n a b c' d e o) (t := 32) ?_; intro gb hg w2 hbox hb; have BK := Aside0.mk hbox; replace HB := zbs HB hb; obtain ⟨z0, z1, z2, z3, z4, z5, z6, z7⟩ := eo88 BK.out; clear hb hbox hg) | (go_at_call 48; (with_reducible refine (has_is (Sr.mk x n a b c' d e o) 1 _ HO.out (by omega)).mono ?_); rintro e w3 ⟨rfl, hb⟩; rw [show hasB (Sr.mk x n a b c' d e o).opts 1 = false from Hb.out]; replace BK := zkb BK hb; replace HB := zbs HB hb; clear hb z0 z1 z2 z3 z4 z5 z6 z7; obtain ⟨z0, z1, z2, z3, z4, z5, z6, z7⟩ := eo88 BK.out) | ((with_reducible refine gate_dst (N := 51) rfl ?_); refine mk_cap (w0 := w) 29 5 .u8 1 rfl (N := 51) rfl _ _ rfl .i64 .i64 (wrap64 n) (wrap64 n) rfl rfl (by rw [Hw.out]; omega) (by omega) Try.underlying29 info5 (by rw [Hw.out]; have := Hn.out; omega) (by rw [Hw.out]; have := Hn.out; omega) HB.out ?_; intro v1 w1 ho hb hq; replace HB := Aside0.mk hb; rw [Hw.out, Int.toNat_natCast] at ho; obtain ⟨gv, c1, he, hge, hlt, _⟩ := Kd.R_form ho (by rw [List.length_replicate]; have := Hn.out; omega); rw [List.length_replicate] at he; subst he; have HV := Aside0.mk ho; have GK := Aside0.mk hge; replace BK := zkb BK hq; clear hb ho hge hlt hq z0 z1 z2 z3 z4 z5 z6 z7; obtain ⟨z0, z1, z2, z3, z4, z5, z6, z7⟩ := eo88 BK.out))
    go_loopg [9, 10] (n + 1) (fun kq v9 v10 w' => ∃ (m x' : Nat) (tl : List Int), v9 = .int .u32 x' ∧ v10 = .int .i64 ((m : Int) - 1) ∧ Aside0 (m + tl.length = n ∧ kq = m + 1 ∧ byts x' m ++ tl = byts x n ∧ x' ≤ x) ∧ Aside0 (Kd.R (Kd.int .u8) 5 w' w.heap.size (fun _ => True) (.slice (some ⟨gv, 0, none⟩) n c1) (List.replicate m 0 ++ tl)) ∧ Aside0 (Below w.heap.size w w'))
    case atStart => exact ⟨n, x, [], rfl, by rw [Hw1.out], ⟨by simp, rfl, List.append_nil _, Nat.le_refl _⟩, ⟨by rw [List.append_nil]; exact HV.out⟩, ⟨zb HB⟩⟩
    case round =>
      clear HV BK z0 z1 z2 z3 z4 z5 z6 z7
      obtain ⟨m, x', tl, rfl, rfl, HI, HV, HB⟩ := hrel
      rcases m with _ | m
      · have Hc := Aside0.mk (show tl = byts x n from HI.out.2.2.1)
        have c1 : decide (0 ≤ ((0 : Nat) : Int) - 1) = false := decide_eq_false (by omega)
        go_wp2
        go_ret2
        exact ⟨_, rfl, by rw [← Hc.out]; exact HV.out, zb HB⟩
      · have hl : (List.replicate (m + 1) 0 ++ tl).length = n := by
          rw [List.length_append, List.length_replicate]; exact HI.out.1
        have em : ((m + 1 : Nat) : Int) - 1 = (m : Int) := by omega
        rw [em]
        have hx := Kd.R_celln 0 HV.out (m : Int) (by omega) (by rw [List.length_append, List.length_replicate] at hl; omega)
        rw [Int.toNat_natCast] at hx
        obtain ⟨hx0, hx1⟩ := hx
        have hmn : m < n := by rw [List.length_append, List.length_replicate] at hl; omega
        have HP := Kd.R_putg HV.out (m : Int) ((x' : Int) % 256)
        rw [Int.toNat_natCast, set_nought] at HP
        have HPP := Aside0.mk HP
        have hI2 : byts (x' / 256) m ++ (((x' : Int) % 256) :: tl) = byts x n := by
          have h2 := HI.out.2.2.1
          rw [byts, List.append_assoc] at h2
          rw [← h2]; rfl
        have HI2 := Aside0.mk hI2
        have hwm : wrap64 ((m : Int) - 1) = (m : Int) - 1 := w64 (by omega) (by have := Hn.out; omega)
        have Hwm := Aside0.mk hwm
        have hd : (x' : Int) / 256 % 4294967296 = ((x' / 256 : Nat) : Int) := by have := HI.out.2.2.2; have h9 := HO.out.key; dsimp only at h9; omega
        have Hd := Aside0.mk hd
        have HL := Aside0.mk (show m + 1 + tl.length = n ∧ m + 1 < gk ∧ x' / 256 ≤ x by have := HI.out; omega)
        clear HP hl em hI2 hwm hd HI
        go_wp2_with (first | ((with_reducible refine gate_store (t := 5) (p := 66) rfl ?_); refine store_event (t := 5) (p := 66) (v := ?vo) (w1 := (wr.setCell ⟨gv, m, none⟩ (.int .u8 ((x' : Int) % 256)))) ?hg ?ho ?hn ?hr ?_; (case ho => rfl); (case hg => rfl); (case hn => rfl); (case hr => first | (go_simp; done) | (go_simp; rfl)); intro w14 hw; replace HV := Aside0.mk (show Kd.R (Kd.int .u8) 5 w14 w.heap.size (fun _ => True) _ _ by rw [hw]; exact HPP.out.1); replace HB := Aside0.mk ((by rw [hw]; exact below_set HB.out GK.out : Below w.heap.size w w14)); clear hw HPP))
        go_roundg (m + 1)
        case measure => have := HL.out; omega
        case rel => exact ⟨m, x' / 256, _, by rw [Hd.out], by rw [Hwm.out], ⟨by rw [List.length_cons]; have := HL.out; omega, rfl, HI2.out, HL.out.2.2⟩, ⟨HV.out⟩, ⟨HB.out⟩⟩
theorem ref_Key.is (g : Nat) (s : Sr) (bs : List Int) (w : World) (ho : s.Ok) (hm : RM w g bs) :
    Calls Try.prog 27 #[.pointer (some ⟨g, 0, none⟩), s.agg] w fun e w' => ∃ v : Value, e = .returned (.tuple #[v, .int .i64 (keyS bs s).2]) ∧ Kd.R (Kd.int .u8) 5 w' w.heap.size (fun _ => True) v (keyS bs s).1 ∧ Below w.heap.size w w' := by
  cases hk : keyBad s
  · obtain ⟨hk0, hk1⟩ := keyBad_ok hk
    rcases hk1 with hk1 | ⟨hk1, hk3⟩
    · have h := ref_Key.ind g s bs w ho hm hk0 hk1
      rw [show keyS bs s = spanS bs s.key s.ksz from (if_neg (by rw [hk]; decide)).trans (if_pos hk1)]
      exact h
    · rw [show keyS bs s = (byts s.key.toNat s.ksz.toNat, 0) from (if_neg (by rw [hk]; decide)).trans (if_neg (by rw [hk1]; decide))]
      have e1 : ((s.key.toNat : Nat) : Int) = s.key := Int.toNat_of_nonneg ho.key.1
      have e2 : ((s.ksz.toNat : Nat) : Int) = s.ksz := Int.toNat_of_nonneg ho.ksz.1
      have h2 := ref_Key.put g s.key.toNat s.ksz.toNat s.start s.size s.count s.off s.next s.opts w (by rw [e1, e2]; exact ho) (by omega) hk1
      rw [e1, e2] at h2
      exact h2
  · rw [show keyS bs s = ([], 130) from if_pos hk]
    exact (ref_Key.bad g s w ho hk).mono fun e w' hh => ⟨_, hh.1, Kd.R_nil _ _ _ _ _, hh.2⟩
end Go.Proofs.Ytohmipmioaceeaa.PQ

/- The document's Linear. -/
namespace Go.Proofs.Ytohmipmioaceeaa.PQ
open Go.RowKit Go.Proofs.YtohmipmioaceeaaW.PrintWords Go.Proofs.YtohmipmioaceeaaW.PrintLast Go.Proofs.YtohmipmioaceeaaW.PrintMore Go.Proofs.Ytohmipmioaceeaa.Z Go.Proofs.Ytohmipmioaceeaa.Pure
set_option linter.unusedVariables false
set_option linter.unusedSimpArgs false
theorem str_eq {a b : List Int} (ha : Byt a) (hb : Byt b) : ((strOfNums a).toList == (strOfNums b).toList) = decide (cmpI a b = 0) := by
  by_cases h : a = b
  · subst h
    rw [decide_eq_true ((cmpI_eq a a).2 rfl)]
    exact beq_self_eq_true _
  · rw [decide_eq_false (fun e => h ((cmpI_eq a b).1 e))]
    exact beq_eq_false_iff_ne.mpr (fun e => h (bytes_inj ha hb e))
theorem keyS_byt' {bs : List Int} (hb : Byt bs) (s : Sr) : Byt (keyS bs s).1 := by
  unfold keyS
  split
  · intro x hx; cases hx
  · split
    · exact spanS_byt (er := (spanS bs s.key s.ksz).2) hb rfl
    · exact byts_byt _ _
theorem keyS_ksz' {bs key : List Int} {s : Sr} (h : keyS bs s = (key, 0)) : s.ksz ≤ 256 := by
  unfold keyS at h
  split at h
  · injection h with h1 h2; cases h2
  · rename_i hk
    exact (keyBad_ok (Bool.eq_false_iff.mpr hk)).1
theorem ref_addr (a b c d : Int) : ((a + b * c % 4294967296) % 4294967296 + d) % 4294967296 = (a + b * c + d) % 4294967296 := by
  generalize b * c = p
  omega
/-- one by one, as the document says it -/
def refRowS (bs : List Int) (s : Sr) (key : List Int) : Nat → Int → Option (Int × Int)
  | 0, _ => none
  | k + 1, i =>
    if i < s.count ∨ s.count = 4294967295 then
      let r := atS bs s key ((s.start + (i % 4294967296) * s.size % 4294967296) % 4294967296)
      if r.2.2 ≠ 0 then some (0, r.2.2)
      else if r.1 = 0 then some (toldS s (i % 4294967296), 0)
      else if (r.2.1 && hasB s.opts 2) = true ∨ s.size = 0 then some (noneS s, 0)
      else refRowS bs s key k (i + 1)
    else some (noneS s, 0)
set_option maxHeartbeats 4000000 in
set_option maxRecDepth 100000 in
theorem ref_Linear.no (g : Nat) (s : Sr) (bs key : List Int) (er : Int) (w : World) (ho : s.Ok) (hm : RM w g bs) (hk : keyS bs s = (key, er)) (he : er ≠ 0) :
    Calls Try.prog 30 #[.pointer (some ⟨g, 0, none⟩), s.agg] w fun e w' => e = .returned (.tuple #[.int .u32 0, .int .i64 er]) ∧ Below w.heap.size w w' := by
  have HB := Aside0.mk (Below.refl w.heap.size w)
  have HO := Aside0.mk ho
  have HM := Aside0.mk hm
  have HK := Aside0.mk hk
  have hne : (er != 0) = true := bne_iff_ne.mpr he
  clear ho hm hk he
  go_enter Try.func30, Try.ntmps30
  go_wp2_with (first | ((with_reducible refine gate_dst (N := 3) rfl ?_); refine zbox (N := 3) (cs := s.eight) (t := 32) ?_; intro gb hg w2 hbox hb; have BK := Aside0.mk hbox; replace HB := zbs HB hb; replace HM := Aside0.mk (HM.out.below hb); obtain ⟨z0, z1, z2, z3, z4, z5, z6, z7⟩ := all8 BK.out; clear hb hbox hg) | (go_at_call 27; (with_reducible refine (ref_Key.is g s bs _ HO.out HM.out).mono ?_); rintro e w3 ⟨v3, he_, hv, hb⟩; rw [HK.out] at he_ hv; subst he_; obtain ⟨A3, c3, rfl⟩ := Kd.R_slice hv; have HV := Aside0.mk (Kd.R_reads' hv).2.2; have HVC := Aside0.mk (Kd.R_reads' hv).2.1; replace BK := zkb BK hb; replace HB := zbs HB hb; replace HM := Aside0.mk (HM.out.below hb); clear z0 z1 z2 z3 z4 z5 z6 z7 hv hb; obtain ⟨z0, z1, z2, z3, z4, z5, z6, z7⟩ := all8 BK.out))
  go_ret2
  exact ⟨rfl, zb HB⟩
set_option maxHeartbeats 8000000 in
set_option maxRecDepth 100000 in
theorem ref_Linear.ok (k g : Nat) (s : Sr) (bs key : List Int) (r1 r2 : Int) (w : World) (ho : s.Ok) (hm : RM w g bs) (hk : keyS bs s = (key, 0)) (hkk : k ≤ 4294967296) (h : refRowS bs s key k 0 = some (r1, r2)) :
    Calls Try.prog 30 #[.pointer (some ⟨g, 0, none⟩), s.agg] w fun e w' => e = .returned (.tuple #[.int .u32 r1, .int .i64 r2]) ∧ Below w.heap.size w w' := by
  have HB := Aside0.mk (Below.refl w.heap.size w)
  have HO := Aside0.mk ho
  have HM := Aside0.mk hm
  have HK := Aside0.mk hk
  have H := Aside0.mk h
  have HKB := Aside0.mk (show Byt key by have := keyS_byt' hm.byt s; rw [hk] at this; exact this)
  have HKS := Aside0.mk (keyS_ksz' hk)
  have HKK := Aside0.mk hkk
  clear ho hm hk h hkk
  go_enter Try.func30, Try.ntmps30
  go_wp2_with (first | ((with_reducible refine gate_dst (N := 3) rfl ?_); refine zbox (N := 3) (cs := s.eight) (t := 32) ?_; intro gb hg w2 hbox hb; have BK := Aside0.mk hbox; replace HB := zbs HB hb; replace HM := Aside0.mk (HM.out.below hb); obtain ⟨z0, z1, z2, z3, z4, z5, z6, z7⟩ := all8 BK.out; clear hb hbox hg) | (go_at_call 27; (with_reducible refine (ref_Key.is g s bs _ HO.out HM.out).mono ?_); rintro e w3 ⟨v3, he_, hv, hb⟩; rw [HK.out] at he_ hv; subst he_; obtain ⟨A3, c3, rfl⟩ := Kd.R_slice hv; have HV := Aside0.mk (Kd.R_reads' hv).2.2; have HVC := Aside0.mk (Kd.R_reads' hv).2.1; replace BK := zkb BK hb; replace HB := zbs HB hb; replace HM := Aside0.mk (HM.out.below hb); clear z0 z1 z2 z3 z4 z5 z6 z7 hv hb; obtain ⟨z0, z1, z2, z3, z4, z5, z6, z7⟩ := all8 BK.out))
  go_loopg [8] k (fun kq v8 w' => ∃ i : Int, v8 = .int .i64 i ∧ Aside0 (refRowS bs s key kq i = some (r1, r2)) ∧ Aside0 (0 ≤ i ∧ i + kq ≤ 4294967296) ∧ Aside0 (w'.heap[gb]? = some (.cells s.eight 32 (0, 0))) ∧ Aside0 (RM w' g bs) ∧ Aside0 (Kd.C (Kd.int .u8) w' A3 key.length key) ∧ Aside0 (Below w.heap.size w w'))
  case atStart => exact ⟨0, rfl, H, ⟨by have := HKK.out; omega⟩, ⟨zkp BK⟩, HM, HV, ⟨zb HB⟩⟩
  case round =>
    clear H BK HM HV z0 z1 z2 z3 z4 z5 z6 z7
    obtain ⟨i, rfl, HA, HI, BK, HM, HV, HB⟩ := hrel
    cases gk with
    | zero => exact absurd HA.out (by simp [refRowS])
    | succ k1 =>
      have h := HA.out
      clear HA
      unfold refRowS at h
      obtain ⟨z0, z1, z2, z3, z4, z5, z6, z7⟩ := all8 BK.out
      have hkc : wrap64 s.count = s.count := w64 (by have := HO.out.count; omega) (by have := HO.out.count; omega)
      have hnx : wrap64 (i + 1) = i + 1 := w64 (by have := HI.out; omega) (by have := HI.out; omega)
      have Hkc := Aside0.mk hkc
      have Hnx := Aside0.mk hnx
      clear hkc hnx
      by_cases hc : i < s.count ∨ s.count = 4294967295
      · rw [if_pos hc] at h
        obtain ⟨L, er, hsp, her⟩ := spanS_er bs (((s.start + (i % 4294967296) * s.size % 4294967296) % 4294967296 + s.off) % 4294967296) s.ksz
        have b0 : decide (i < wrap64 s.count) = true ∨ (decide (i < wrap64 s.count) = false ∧ (s.count == 4294967295) = true) := by
          rw [Hkc.out]
          by_cases hc1 : i < s.count
          · exact Or.inl (decide_eq_true hc1)
          · exact Or.inr ⟨decide_eq_false hc1, beq_iff_eq.mpr (hc.resolve_left hc1)⟩
        have hsp2 := hsp
        rw [ref_addr] at hsp2
        have HP := Aside0.mk hsp2
        clear hsp2
        rcases her with rfl | ⟨rfl, rfl⟩
        · have hat := atS_ok (key := key) hsp
          have hLB := spanS_byt HM.out.byt hsp
          have hLL := spanS_len HO.out.ksz.1 (by omega) hsp
          rw [hat] at h
          try dsimp only at h
          rw [if_neg (by simp)] at h
          have HLL := Aside0.mk (show L.length ≤ 1000000 by have := HKS.out; omega)
          have hstr := str_eq hLB HKB.out
          clear hsp hat hc hLB hLL
          by_cases d2 : cmpI L key = 0
          · rw [if_pos d2] at h
            simp only [Option.some.injEq, Prod.mk.injEq] at h
            obtain ⟨rfl, rfl⟩ := h
            rw [decide_eq_true d2] at hstr
            clear d2
            rcases b0 with b0 | ⟨b0, b1⟩
            all_goals
              go_wp2_with (first | (go_at_call 23; (with_reducible refine (ref_Span.to g bs L _ s.ksz 0 _ HM.out (by omega) HO.out.ksz HP.out).mono ?_); rintro e w4 ⟨A1, c1, rfl, hv, hb⟩; have HL := Aside0.mk (Kd.R_reads' hv).2.2; have HLC := Aside0.mk (Kd.R_reads' hv).2.1; clear hv; replace BK := zkb BK hb; replace HM := Aside0.mk (HM.out.below hb); replace HV := Aside0.mk (Kd.C_below HV.out hb); replace HB := zbs HB hb; clear hb z0 z1 z2 z3 z4 z5 z6 z7; obtain ⟨z0, z1, z2, z3, z4, z5, z6, z7⟩ := all8 BK.out; have hcv := Kd.C_string (P := Try.prog) (A := A1) (c := c1) Try.underlying29 Try.underlying5 Try.underlying9 HL.out; have hcw := Kd.C_string (P := Try.prog) (A := A3) (c := c3) Try.underlying29 Try.underlying5 Try.underlying9 HV.out) | (go_at_call 50; (with_reducible refine (told_is s i _ HO.out (by have := HI.out; omega)).mono ?_); rintro e w7 ⟨rfl, hb⟩; replace HB := zbs HB hb; clear hb))
              go_ret2
              exact ⟨rfl, zb HB⟩
          · rw [if_neg d2] at h
            rw [decide_eq_false d2] at hstr
            clear d2
            obtain ⟨q, hq⟩ : ∃ q : Bool, hasB s.opts 2 = q := ⟨_, rfl⟩
            obtain ⟨z, hz⟩ : ∃ z : Bool, allz L = z := ⟨_, rfl⟩
            rw [hq, hz] at h
            have Hq := Aside0.mk hq
            have Hz := Aside0.mk hz
            clear hq hz
            by_cases d3 : (z && q) = true ∨ s.size = 0
            · rw [if_pos d3] at h
              simp only [Option.some.injEq, Prod.mk.injEq] at h
              obtain ⟨rfl, rfl⟩ := h
              have d4 : (z = true ∧ q = true) ∨ ((z && q) = false ∧ (s.size == 0) = true) := by
                cases hzq : (z && q)
                · exact Or.inr ⟨rfl, beq_iff_eq.mpr (d3.resolve_left (by rw [hzq]; decide))⟩
                · exact Or.inl ((Bool.and_eq_true z q).mp hzq)
              clear d3
              rcases d4 with ⟨rfl, rfl⟩ | ⟨d4, d5⟩
              · rcases b0 with b0 | ⟨b0, b1⟩
                all_goals
                  go_wp2_with (first | (go_at_call 23; (with_reducible refine (ref_Span.to g bs L _ s.ksz 0 _ HM.out (by omega) HO.out.ksz HP.out).mono ?_); rintro e w4 ⟨A1, c1, rfl, hv, hb⟩; have HL := Aside0.mk (Kd.R_reads' hv).2.2; have HLC := Aside0.mk (Kd.R_reads' hv).2.1; clear hv; replace BK := zkb BK hb; replace HM := Aside0.mk (HM.out.below hb); replace HV := Aside0.mk (Kd.C_below HV.out hb); replace HB := zbs HB hb; clear hb z0 z1 z2 z3 z4 z5 z6 z7; obtain ⟨z0, z1, z2, z3, z4, z5, z6, z7⟩ := all8 BK.out; have hcv := Kd.C_string (P := Try.prog) (A := A1) (c := c1) Try.underlying29 Try.underlying5 Try.underlying9 HL.out; have hcw := Kd.C_string (P := Try.prog) (A := A3) (c := c3) Try.underlying29 Try.underlying5 Try.underlying9 HV.out) | (go_at_call 48; (with_reducible refine (has_is s 2 _ HO.out (by omega)).mono ?_); rintro e w5 ⟨rfl, hb⟩; rw [Hq.out]; replace HL := Aside0.mk (Kd.C_below HL.out hb); replace BK := zkb BK hb; replace HM := Aside0.mk (HM.out.below hb); replace HV := Aside0.mk (Kd.C_below HV.out hb); replace HB := zbs HB hb; clear hb z0 z1 z2 z3 z4 z5 z6 z7; obtain ⟨z0, z1, z2, z3, z4, z5, z6, z7⟩ := all8 BK.out; clear hcv hcw) | (go_at_call 51; (with_reducible refine (noughts_is L A1 c1 _ HL.out HLC.out HLL.out).mono ?_); rintro e w6 ⟨rfl, ⟨nd, rfl⟩⟩; rw [Hz.out]) | (go_at_call 50; (with_reducible refine (none_is s _ HO.out).mono ?_); rintro e w7 ⟨rfl, hb⟩; replace HB := zbs HB hb; clear hb))
                  go_ret2
                  exact ⟨rfl, zb HB⟩
              · cases q
                · rcases b0 with b0 | ⟨b0, b1⟩
                  all_goals
                    go_wp2_with (first | (go_at_call 23; (with_reducible refine (ref_Span.to g bs L _ s.ksz 0 _ HM.out (by omega) HO.out.ksz HP.out).mono ?_); rintro e w4 ⟨A1, c1, rfl, hv, hb⟩; have HL := Aside0.mk (Kd.R_reads' hv).2.2; have HLC := Aside0.mk (Kd.R_reads' hv).2.1; clear hv; replace BK := zkb BK hb; replace HM := Aside0.mk (HM.out.below hb); replace HV := Aside0.mk (Kd.C_below HV.out hb); replace HB := zbs HB hb; clear hb z0 z1 z2 z3 z4 z5 z6 z7; obtain ⟨z0, z1, z2, z3, z4, z5, z6, z7⟩ := all8 BK.out; have hcv := Kd.C_string (P := Try.prog) (A := A1) (c := c1) Try.underlying29 Try.underlying5 Try.underlying9 HL.out; have hcw := Kd.C_string (P := Try.prog) (A := A3) (c := c3) Try.underlying29 Try.underlying5 Try.underlying9 HV.out) | (go_at_call 48; (with_reducible refine (has_is s 2 _ HO.out (by omega)).mono ?_); rintro e w5 ⟨rfl, hb⟩; rw [Hq.out]; replace HL := Aside0.mk (Kd.C_below HL.out hb); replace BK := zkb BK hb; replace HM := Aside0.mk (HM.out.below hb); replace HV := Aside0.mk (Kd.C_below HV.out hb); replace HB := zbs HB hb; clear hb z0 z1 z2 z3 z4 z5 z6 z7; obtain ⟨z0, z1, z2, z3, z4, z5, z6, z7⟩ := all8 BK.out; clear hcv hcw) | (go_at_call 51; (with_reducible refine (noughts_is L A1 c1 _ HL.out HLC.out HLL.out).mono ?_); rintro e w6 ⟨rfl, ⟨nd, rfl⟩⟩; rw [Hz.out]) | (go_at_call 50; (with_reducible refine (none_is s _ HO.out).mono ?_); rintro e w7 ⟨rfl, hb⟩; replace HB := zbs HB hb; clear hb))
                    go_ret2
                    exact ⟨rfl, zb HB⟩
                · rw [Bool.and_true] at d4
                  subst d4
                  rcases b0 with b0 | ⟨b0, b1⟩
                  all_goals
                    go_wp2_with (first | (go_at_call 23; (with_reducible refine (ref_Span.to g bs L _ s.ksz 0 _ HM.out (by omega) HO.out.ksz HP.out).mono ?_); rintro e w4 ⟨A1, c1, rfl, hv, hb⟩; have HL := Aside0.mk (Kd.R_reads' hv).2.2; have HLC := Aside0.mk (Kd.R_reads' hv).2.1; clear hv; replace BK := zkb BK hb; replace HM := Aside0.mk (HM.out.below hb); replace HV := Aside0.mk (Kd.C_below HV.out hb); replace HB := zbs HB hb; clear hb z0 z1 z2 z3 z4 z5 z6 z7; obtain ⟨z0, z1, z2, z3, z4, z5, z6, z7⟩ := all8 BK.out; have hcv := Kd.C_string (P := Try.prog) (A := A1) (c := c1) Try.underlying29 Try.underlying5 Try.underlying9 HL.out; have hcw := Kd.C_string (P := Try.prog) (A := A3) (c := c3) Try.underlying29 Try.underlying5 Try.underlying9 HV.out) | (go_at_call 48; (with_reducible refine (has_is s 2 _ HO.out (by omega)).mono ?_); rintro e w5 ⟨rfl, hb⟩; rw [Hq.out]; replace HL := Aside0.mk (Kd.C_below HL.out hb); replace BK := zkb BK hb; replace HM := Aside0.mk (HM.out.below hb); replace HV := Aside0.mk (Kd.C_below HV.out hb); replace HB := zbs HB hb; clear hb z0 z1 z2 z3 z4 z5 z6 z7; obtain ⟨z0, z1, z2, z3, z4, z5, z6, z7⟩ := all8 BK.out; clear hcv hcw) | (go_at_call 51; (with_reducible refine (noughts_is L A1 c1 _ HL.out HLC.out HLL.out).mono ?_); rintro e w6 ⟨rfl, ⟨nd, rfl⟩⟩; rw [Hz.out]) | (go_at_call 50; (with_reducible refine (none_is s _ HO.out).mono ?_); rintro e w7 ⟨rfl, hb⟩; replace HB := zbs HB hb; clear hb))
                    go_ret2
                    exact ⟨rfl, zb HB⟩
            · rw [if_neg d3] at h
              have d5 : (s.size == 0) = false := beq_eq_false_iff_ne.mpr (fun e => d3 (Or.inr e))
              have d4 : (z && q) = false := Bool.eq_false_iff.mpr (fun e => d3 (Or.inl e))
              have H := Aside0.mk h
              clear d3 h
              cases q
              · rcases b0 with b0 | ⟨b0, b1⟩
                all_goals
                  go_wp2_with (first | (go_at_call 23; (with_reducible refine (ref_Span.to g bs L _ s.ksz 0 _ HM.out (by omega) HO.out.ksz HP.out).mono ?_); rintro e w4 ⟨A1, c1, rfl, hv, hb⟩; have HL := Aside0.mk (Kd.R_reads' hv).2.2; have HLC := Aside0.mk (Kd.R_reads' hv).2.1; clear hv; replace BK := zkb BK hb; replace HM := Aside0.mk (HM.out.below hb); replace HV := Aside0.mk (Kd.C_below HV.out hb); replace HB := zbs HB hb; clear hb z0 z1 z2 z3 z4 z5 z6 z7; obtain ⟨z0, z1, z2, z3, z4, z5, z6, z7⟩ := all8 BK.out; have hcv := Kd.C_string (P := Try.prog) (A := A1) (c := c1) Try.underlying29 Try.underlying5 Try.underlying9 HL.out; have hcw := Kd.C_string (P := Try.prog) (A := A3) (c := c3) Try.underlying29 Try.underlying5 Try.underlying9 HV.out) | (go_at_call 48; (with_reducible refine (has_is s 2 _ HO.out (by omega)).mono ?_); rintro e w5 ⟨rfl, hb⟩; rw [Hq.out]; replace HL := Aside0.mk (Kd.C_below HL.out hb); replace BK := zkb BK hb; replace HM := Aside0.mk (HM.out.below hb); replace HV := Aside0.mk (Kd.C_below HV.out hb); replace HB := zbs HB hb; clear hb z0 z1 z2 z3 z4 z5 z6 z7; obtain ⟨z0, z1, z2, z3, z4, z5, z6, z7⟩ := all8 BK.out; clear hcv hcw) | (go_at_call 51; (with_reducible refine (noughts_is L A1 c1 _ HL.out HLC.out HLL.out).mono ?_); rintro e w6 ⟨rfl, ⟨nd, rfl⟩⟩; rw [Hz.out]))
                  go_roundg k1
                  case measure => omega
                  case rel => exact ⟨i + 1, by rw [Hnx.out], H, ⟨by have := HI.out; omega⟩, ⟨by first | exact BK.out | exact zkp BK⟩, ⟨by first | exact HM.out | exact HM.out.below (pw_below_drewN (Below.refl _ _) _)⟩, ⟨by first | exact HV.out | exact Kd.C_drewN HV.out _⟩, ⟨zb HB⟩⟩
              · rw [Bool.and_true] at d4
                subst d4
                rcases b0 with b0 | ⟨b0, b1⟩
                all_goals
                  go_wp2_with (first | (go_at_call 23; (with_reducible refine (ref_Span.to g bs L _ s.ksz 0 _ HM.out (by omega) HO.out.ksz HP.out).mono ?_); rintro e w4 ⟨A1, c1, rfl, hv, hb⟩; have HL := Aside0.mk (Kd.R_reads' hv).2.2; have HLC := Aside0.mk (Kd.R_reads' hv).2.1; clear hv; replace BK := zkb BK hb; replace HM := Aside0.mk (HM.out.below hb); replace HV := Aside0.mk (Kd.C_below HV.out hb); replace HB := zbs HB hb; clear hb z0 z1 z2 z3 z4 z5 z6 z7; obtain ⟨z0, z1, z2, z3, z4, z5, z6, z7⟩ := all8 BK.out; have hcv := Kd.C_string (P := Try.prog) (A := A1) (c := c1) Try.underlying29 Try.underlying5 Try.underlying9 HL.out; have hcw := Kd.C_string (P := Try.prog) (A := A3) (c := c3) Try.underlying29 Try.underlying5 Try.underlying9 HV.out) | (go_at_call 48; (with_reducible refine (has_is s 2 _ HO.out (by omega)).mono ?_); rintro e w5 ⟨rfl, hb⟩; rw [Hq.out]; replace HL := Aside0.mk (Kd.C_below HL.out hb); replace BK := zkb BK hb; replace HM := Aside0.mk (HM.out.below hb); replace HV := Aside0.mk (Kd.C_below HV.out hb); replace HB := zbs HB hb; clear hb z0 z1 z2 z3 z4 z5 z6 z7; obtain ⟨z0, z1, z2, z3, z4, z5, z6, z7⟩ := all8 BK.out; clear hcv hcw) | (go_at_call 51; (with_reducible refine (noughts_is L A1 c1 _ HL.out HLC.out HLL.out).mono ?_); rintro e w6 ⟨rfl, ⟨nd, rfl⟩⟩; rw [Hz.out]))
                  go_roundg k1
                  case measure => omega
                  case rel => exact ⟨i + 1, by rw [Hnx.out], H, ⟨by have := HI.out; omega⟩, ⟨by first | exact BK.out | exact zkp BK⟩, ⟨by first | exact HM.out | exact HM.out.below (pw_below_drewN (Below.refl _ _) _)⟩, ⟨by first | exact HV.out | exact Kd.C_drewN HV.out _⟩, ⟨zb HB⟩⟩
        · have hat := atS_no (key := key) hsp (by decide)
          rw [hat] at h
          try dsimp only at h
          rw [if_pos (by decide)] at h
          simp only [Option.some.injEq, Prod.mk.injEq] at h
          obtain ⟨rfl, rfl⟩ := h
          clear hsp hat hc
          rcases b0 with b0 | ⟨b0, b1⟩
          all_goals
            go_wp2_with (first | (go_at_call 23; (with_reducible refine (ref_Span.to g bs [] _ s.ksz 90 _ HM.out (by omega) HO.out.ksz HP.out).mono ?_); rintro e w4 ⟨A1, c1, rfl, hv, hb⟩; have HL := Aside0.mk (Kd.R_reads' hv).2.2; have HLC := Aside0.mk (Kd.R_reads' hv).2.1; clear hv; replace BK := zkb BK hb; replace HM := Aside0.mk (HM.out.below hb); replace HV := Aside0.mk (Kd.C_below HV.out hb); replace HB := zbs HB hb; clear hb z0 z1 z2 z3 z4 z5 z6 z7; obtain ⟨z0, z1, z2, z3, z4, z5, z6, z7⟩ := all8 BK.out))
            go_ret2
            exact ⟨rfl, zb HB⟩
      · rw [if_neg hc] at h
        simp only [Option.some.injEq, Prod.mk.injEq] at h
        obtain ⟨rfl, rfl⟩ := h
        have b0 : decide (i < wrap64 s.count) = false := by rw [Hkc.out]; exact decide_eq_false (fun e => hc (Or.inl e))
        have b1 : (s.count == 4294967295) = false := beq_eq_false_iff_ne.mpr (fun e => hc (Or.inr e))
        clear hc
        go_wp2_with (first | (go_at_call 50; (with_reducible refine (none_is s _ HO.out).mono ?_); rintro e w7 ⟨rfl, hb⟩; replace HB := zbs HB hb; clear hb))
        go_ret2
        exact ⟨rfl, zb HB⟩
end Go.Proofs.Ytohmipmioaceeaa.PQ

/- The document's Binary. -/
namespace Go.Proofs.Ytohmipmioaceeaa.PQ
open Go.RowKit Go.Proofs.YtohmipmioaceeaaW.PrintWords Go.Proofs.YtohmipmioaceeaaW.PrintLast Go.Proofs.YtohmipmioaceeaaW.PrintMore Go.Proofs.Ytohmipmioaceeaa.Z Go.Proofs.Ytohmipmioaceeaa.Pure
set_option linter.unusedVariables false
set_option linter.unusedSimpArgs false
theorem half_i {a b : Int} (h0 : 0 ≤ a ∧ a ≤ 4294967296) (h1 : 0 ≤ b ∧ b ≤ 4294967296) : wrap64 ((wrap64 (a + b)).tdiv 2) = (a + b) / 2 := by
  rw [w64 (n := a + b) (by omega) (by omega), Int.tdiv_eq_ediv_of_nonneg (by omega), w64 (by omega) (by omega)]
theorem keyS_len {bs key : List Int} {s : Sr} (ho : s.Ok) (h : keyS bs s = (key, 0)) : (key.length : Int) = s.ksz := by
  unfold keyS at h
  split at h
  · injection h with h1 h2; cases h2
  · split at h
    · exact spanS_len ho.ksz.1 ho.key.1 h
    · injection h with h1 h2
      rw [← h1, byts_len]
      have := ho.ksz.1
      omega
set_option maxHeartbeats 4000000 in
set_option maxRecDepth 100000 in
theorem ref_Binary.no (g : Nat) (s : Sr) (bs key : List Int) (er : Int) (w : World) (ho : s.Ok) (hm : RM w g bs) (hk : keyS bs s = (key, er)) (he : er ≠ 0) :
    Calls Try.prog 31 #[.pointer (some ⟨g, 0, none⟩), s.agg] w fun e w' => e = .returned (.tuple #[.int .u32 0, .int .i64 er]) ∧ Below w.heap.size w w' := by
  have HB := Aside0.mk (Below.refl w.heap.size w)
  have HO := Aside0.mk ho
  have HM := Aside0.mk hm
  have HK := Aside0.mk hk
  have hne : (er != 0) = true := bne_iff_ne.mpr he
  clear ho hm hk he
  go_enter Try.func31, Try.ntmps31
  go_wp2_with (first | ((with_reducible refine gate_dst (N := 3) rfl ?_); refine zbox (N := 3) (cs := s.eight) (t := 32) ?_; intro gb hg w2 hbox hb; have BK := Aside0.mk hbox; replace HB := zbs HB hb; replace HM := Aside0.mk (HM.out.below hb); obtain ⟨z0, z1, z2, z3, z4, z5, z6, z7⟩ := all8 BK.out; clear hb hbox hg) | (go_at_call 27; (with_reducible refine (ref_Key.is g s bs _ HO.out HM.out).mono ?_); rintro e w3 ⟨v3, he_, hv, hb⟩; rw [HK.out] at he_ hv; subst he_; obtain ⟨A3, c3, rfl⟩ := Kd.R_slice hv; have HV := Aside0.mk (Kd.R_reads' hv).2.2; have HVC := Aside0.mk (Kd.R_reads' hv).2.1; replace BK := zkb BK hb; replace HB := zbs HB hb; replace HM := Aside0.mk (HM.out.below hb); clear z0 z1 z2 z3 z4 z5 z6 z7 hv hb; obtain ⟨z0, z1, z2, z3, z4, z5, z6, z7⟩ := all8 BK.out))
  go_ret2
  exact ⟨rfl, zb HB⟩
set_option maxHeartbeats 8000000 in
set_option maxRecDepth 100000 in
theorem ref_Binary.ok (k g : Nat) (s : Sr) (bs key : List Int) (r1 r2 : Int) (w : World) (ho : s.Ok) (hm : RM w g bs) (hk : keyS bs s = (key, 0)) (h : sortS bs s key k 0 s.count = some (r1, r2)) :
    Calls Try.prog 31 #[.pointer (some ⟨g, 0, none⟩), s.agg] w fun e w' => e = .returned (.tuple #[.int .u32 r1, .int .i64 r2]) ∧ Below w.heap.size w w' := by
  have HB := Aside0.mk (Below.refl w.heap.size w)
  have HO := Aside0.mk ho
  have HM := Aside0.mk hm
  have HK := Aside0.mk hk
  have H := Aside0.mk h
  have HKB := Aside0.mk (show Byt key by have := keyS_byt' hm.byt s; rw [hk] at this; exact this)
  have HKS := Aside0.mk (keyS_ksz' hk)
  have HKL := Aside0.mk (keyS_len ho hk)
  have hkc : wrap64 s.count = s.count := w64 (by have := ho.count; omega) (by have := ho.count; omega)
  have Hkc := Aside0.mk hkc
  clear ho hm hk h hkc
  go_enter Try.func31, Try.ntmps31
  go_wp2_with (first | ((with_reducible refine gate_dst (N := 3) rfl ?_); refine zbox (N := 3) (cs := s.eight) (t := 32) ?_; intro gb hg w2 hbox hb; have BK := Aside0.mk hbox; replace HB := zbs HB hb; replace HM := Aside0.mk (HM.out.below hb); obtain ⟨z0, z1, z2, z3, z4, z5, z6, z7⟩ := all8 BK.out; clear hb hbox hg) | (go_at_call 27; (with_reducible refine (ref_Key.is g s bs _ HO.out HM.out).mono ?_); rintro e w3 ⟨v3, he_, hv, hb⟩; rw [HK.out] at he_ hv; subst he_; obtain ⟨A3, c3, rfl⟩ := Kd.R_slice hv; have HV := Aside0.mk (Kd.R_reads' hv).2.2; have HVC := Aside0.mk (Kd.R_reads' hv).2.1; replace BK := zkb BK hb; replace HB := zbs HB hb; replace HM := Aside0.mk (HM.out.below hb); clear z0 z1 z2 z3 z4 z5 z6 z7 hv hb; obtain ⟨z0, z1, z2, z3, z4, z5, z6, z7⟩ := all8 BK.out))
  repeat (go_quiet (fail); try go_wp2)
  go_loopg [8, 9] k (fun kq v8 v9 w' => ∃ low high : Int, v8 = .int .i64 low ∧ v9 = .int .i64 high ∧ Aside0 (sortS bs s key kq low high = some (r1, r2)) ∧ Aside0 (0 ≤ low ∧ low ≤ 4294967296 ∧ 0 ≤ high ∧ high ≤ 4294967296) ∧ Aside0 (w'.heap[gb]? = some (.cells s.eight 32 (0, 0))) ∧ Aside0 (RM w' g bs) ∧ Aside0 (Kd.C (Kd.int .u8) w' A3 key.length key) ∧ Aside0 (Below w.heap.size w w'))
  case atStart => exact ⟨0, s.count, rfl, by rw [Hkc.out], H, ⟨by have := HO.out.count; omega⟩, ⟨by first | exact BK.out | exact zkp BK⟩, ⟨by first | exact HM.out | exact HM.out.below (pw_below_drewN (Below.refl _ _) _)⟩, ⟨by first | exact HV.out | exact Kd.C_drewN HV.out _⟩, ⟨zb HB⟩⟩
  case round =>
    clear H BK HM HV z0 z1 z2 z3 z4 z5 z6 z7
    obtain ⟨low, high, rfl, rfl, HA, HI, BK, HM, HV, HB⟩ := hrel
    cases gk with
    | zero => exact absurd HA.out (by simp [sortS])
    | succ k1 =>
      have h := HA.out
      clear HA
      unfold sortS at h
      obtain ⟨z0, z1, z2, z3, z4, z5, z6, z7⟩ := all8 BK.out
      by_cases hc : low < high
      · rw [if_pos hc] at h
        obtain ⟨i, hi⟩ : ∃ i, (low + high) / 2 = i := ⟨_, rfl⟩
        rw [hi] at h
        have hii : 0 ≤ i ∧ i < 4294967296 := by have := HI.out; omega
        have hw : wrap64 ((wrap64 (low + high)).tdiv 2) = i := (half_i ⟨HI.out.1, HI.out.2.1⟩ ⟨HI.out.2.2.1, HI.out.2.2.2⟩).trans hi
        have hnx : wrap64 (i + 1) = i + 1 := w64 (by omega) (by omega)
        have Hii := Aside0.mk hii
        have Hw := Aside0.mk hw
        have Hnx := Aside0.mk hnx
        have b0 : decide (low < high) = true := decide_eq_true hc
        obtain ⟨L, er, hsp, her⟩ := spanS_er bs (((s.start + (i % 4294967296) * s.size % 4294967296) % 4294967296 + s.off) % 4294967296) s.ksz
        dsimp only at h
        have hsp2 := hsp
        rw [ref_addr] at hsp2
        have HP := Aside0.mk hsp2
        clear hsp2 hw hnx hi hc hii
        rcases her with rfl | ⟨rfl, rfl⟩
        · have hat := atS_ok (key := key) hsp
          have hLB := spanS_byt HM.out.byt hsp
          have hLL := spanS_len HO.out.ksz.1 (by omega) hsp
          rw [hat] at h
          try dsimp only at h
          rw [if_neg (by simp)] at h
          have HLL := Aside0.mk (show L.length ≤ 1000000 by have := HKS.out; omega)
          have HLE := Aside0.mk (show L.length = key.length by have := HKL.out; omega)
          have hstr := str_eq hLB HKB.out
          clear hsp hat hLB hLL
          by_cases d2 : cmpI L key = 0
          · rw [if_pos d2] at h
            simp only [Option.some.injEq, Prod.mk.injEq] at h
            obtain ⟨rfl, rfl⟩ := h
            rw [decide_eq_true d2] at hstr
            clear d2
            go_upto_region 7 with (fail)
            rw [Hw.out]
            go_wp2_with (first | (go_at_call 23; (with_reducible refine (ref_Span.to g bs L _ s.ksz 0 _ HM.out (by omega) HO.out.ksz HP.out).mono ?_); rintro e w4 ⟨A1, c1, rfl, hv, hb⟩; have HL := Aside0.mk (Kd.R_reads' hv).2.2; have HLC := Aside0.mk (Kd.R_reads' hv).2.1; clear hv; replace BK := zkb BK hb; replace HM := Aside0.mk (HM.out.below hb); replace HV := Aside0.mk (Kd.C_below HV.out hb); replace HB := zbs HB hb; clear hb z0 z1 z2 z3 z4 z5 z6 z7; obtain ⟨z0, z1, z2, z3, z4, z5, z6, z7⟩ := all8 BK.out; have hcv := Kd.C_string (P := Try.prog) (A := A1) (c := c1) Try.underlying29 Try.underlying5 Try.underlying9 HL.out; have hcw := Kd.C_string (P := Try.prog) (A := A3) (c := c3) Try.underlying29 Try.underlying5 Try.underlying9 HV.out) | (go_at_call 50; (with_reducible refine (told_is s i _ HO.out (by have := Hii.out; omega)).mono ?_); rintro e w7 ⟨rfl, hb⟩; replace HB := zbs HB hb; clear hb))
            go_ret2
            exact ⟨rfl, zb HB⟩
          · rw [if_neg d2] at h
            rw [decide_eq_false d2] at hstr
            clear d2
            by_cases d3 : cmpI L key < 0
            · rw [if_pos d3] at h
              have H := Aside0.mk h
              have d4 := decide_eq_true d3
              clear h d3
              go_upto_region 7 with (fail)
              rw [Hw.out]
              go_wp2_with (first | (go_at_call 23; (with_reducible refine (ref_Span.to g bs L _ s.ksz 0 _ HM.out (by omega) HO.out.ksz HP.out).mono ?_); rintro e w4 ⟨A1, c1, rfl, hv, hb⟩; have HL := Aside0.mk (Kd.R_reads' hv).2.2; have HLC := Aside0.mk (Kd.R_reads' hv).2.1; clear hv; replace BK := zkb BK hb; replace HM := Aside0.mk (HM.out.below hb); replace HV := Aside0.mk (Kd.C_below HV.out hb); replace HB := zbs HB hb; clear hb z0 z1 z2 z3 z4 z5 z6 z7; obtain ⟨z0, z1, z2, z3, z4, z5, z6, z7⟩ := all8 BK.out; have hcv := Kd.C_string (P := Try.prog) (A := A1) (c := c1) Try.underlying29 Try.underlying5 Try.underlying9 HL.out; have hcw := Kd.C_string (P := Try.prog) (A := A3) (c := c3) Try.underlying29 Try.underlying5 Try.underlying9 HV.out) | (go_at_call 52; (with_reducible refine (below_is L key A1 A3 c1 c3 _ HL.out HLC.out HV.out HVC.out HLL.out HLE.out).mono ?_); rintro e w6 ⟨rfl, ⟨nd, rfl⟩⟩))
              go_roundg k1
              case measure => omega
              case rel => exact ⟨i + 1, high, by rw [Hnx.out], rfl, H, ⟨by have := HI.out; have := Hii.out; omega⟩, ⟨by first | exact BK.out | exact zkp BK⟩, ⟨by first | exact HM.out | exact HM.out.below (pw_below_drewN (Below.refl _ _) _)⟩, ⟨by first | exact HV.out | exact Kd.C_drewN HV.out _⟩, ⟨zb HB⟩⟩
            · rw [if_neg d3] at h
              have H := Aside0.mk h
              have d4 := decide_eq_false d3
              clear h d3
              go_upto_region 7 with (fail)
              rw [Hw.out]
              go_wp2_with (first | (go_at_call 23; (with_reducible refine (ref_Span.to g bs L _ s.ksz 0 _ HM.out (by omega) HO.out.ksz HP.out).mono ?_); rintro e w4 ⟨A1, c1, rfl, hv, hb⟩; have HL := Aside0.mk (Kd.R_reads' hv).2.2; have HLC := Aside0.mk (Kd.R_reads' hv).2.1; clear hv; replace BK := zkb BK hb; replace HM := Aside0.mk (HM.out.below hb); replace HV := Aside0.mk (Kd.C_below HV.out hb); replace HB := zbs HB hb; clear hb z0 z1 z2 z3 z4 z5 z6 z7; obtain ⟨z0, z1, z2, z3, z4, z5, z6, z7⟩ := all8 BK.out; have hcv := Kd.C_string (P := Try.prog) (A := A1) (c := c1) Try.underlying29 Try.underlying5 Try.underlying9 HL.out; have hcw := Kd.C_string (P := Try.prog) (A := A3) (c := c3) Try.underlying29 Try.underlying5 Try.underlying9 HV.out) | (go_at_call 52; (with_reducible refine (below_is L key A1 A3 c1 c3 _ HL.out HLC.out HV.out HVC.out HLL.out HLE.out).mono ?_); rintro e w6 ⟨rfl, ⟨nd, rfl⟩⟩))
              go_roundg k1
              case measure => omega
              case rel => exact ⟨low, i, rfl, rfl, H, ⟨by have := HI.out; have := Hii.out; omega⟩, ⟨by first | exact BK.out | exact zkp BK⟩, ⟨by first | exact HM.out | exact HM.out.below (pw_below_drewN (Below.refl _ _) _)⟩, ⟨by first | exact HV.out | exact Kd.C_drewN HV.out _⟩, ⟨zb HB⟩⟩
        · have hat := atS_no (key := key) hsp (by decide)
          rw [hat] at h
          try dsimp only at h
          rw [if_pos (by decide)] at h
          simp only [Option.some.injEq, Prod.mk.injEq] at h
          obtain ⟨rfl, rfl⟩ := h
          clear hsp hat
          go_upto_region 7 with (fail)
          rw [Hw.out]
          go_wp2_with (first | (go_at_call 23; (with_reducible refine (ref_Span.to g bs [] _ s.ksz 90 _ HM.out (by omega) HO.out.ksz HP.out).mono ?_); rintro e w4 ⟨A1, c1, rfl, hv, hb⟩; have HL := Aside0.mk (Kd.R_reads' hv).2.2; have HLC := Aside0.mk (Kd.R_reads' hv).2.1; clear hv; replace BK := zkb BK hb; replace HM := Aside0.mk (HM.out.below hb); replace HV := Aside0.mk (Kd.C_below HV.out hb); replace HB := zbs HB hb; clear hb z0 z1 z2 z3 z4 z5 z6 z7; obtain ⟨z0, z1, z2, z3, z4, z5, z6, z7⟩ := all8 BK.out))
          go_ret2
          exact ⟨rfl, zb HB⟩
      · rw [if_neg hc] at h
        simp only [Option.some.injEq, Prod.mk.injEq] at h
        obtain ⟨rfl, rfl⟩ := h
        have b0 : decide (low < high) = false := decide_eq_false hc
        clear hc
        go_wp2_with (first | (go_at_call 50; (with_reducible refine (none_is s _ HO.out).mono ?_); rintro e w7 ⟨rfl, hb⟩; replace HB := zbs HB hb; clear hb))
        go_ret2
        exact ⟨rfl, zb HB⟩
end Go.Proofs.Ytohmipmioaceeaa.PQ

/- The document's Read. -/
namespace Go.Proofs.Ytohmipmioaceeaa.PQ
open Go.RowKit Go.Proofs.YtohmipmioaceeaaW.PrintWords Go.Proofs.YtohmipmioaceeaaW.PrintLast Go.Proofs.YtohmipmioaceeaaW.PrintMore Go.Proofs.Ytohmipmioaceeaa.Z Go.Proofs.Ytohmipmioaceeaa.Pure
set_option linter.unusedVariables false
set_option linter.unusedSimpArgs false
theorem beN_succ {l : List Int} {a i : Nat} (h : a + i < l.length) : beN l a (i + 1) = beN l a i * 256 + bn l (a + i) := by
  unfold beN
  have e1 : (l.take (a + (i + 1))).drop a = (l.take (a + i)).drop a ++ [rd l ((a + i : Nat) : Int)] := by
    rw [List.drop_take, List.drop_take, show a + (i + 1) - a = i + 1 by omega, show a + i - a = i by omega]
    exact take_snoc' h
  rw [e1, bev_app]
  rfl
theorem beN_zero (l : List Int) (a : Nat) : beN l a 0 = 0 := by
  unfold beN
  rw [Nat.add_zero, List.drop_of_length_le (List.length_take_le _ _)]
  rfl
theorem read_step {bs : List Int} {a : Int} {i n : Nat} (hy : Byt bs) (h0 : 0 ≤ a ∧ a < 4294967296) (hn : n = 1 ∨ n = 2 ∨ n = 4) (hi : i < n) (h : a + i < (bs.length : Int)) : wrap64 (wrap64 (((beN bs a.toNat i : Nat) : Int) * 256) + wrap64 (rd bs (a + i))) = ((beN bs a.toNat (i + 1) : Nat) : Int) := by
  have hs1 := beN_succ (l := bs) (a := a.toNat) (i := i) (by omega)
  have hb1 := rd_bn hy (a.toNat + i)
  rw [show ((a.toNat + i : Nat) : Int) = a + i by omega] at hb1
  have hbl := bn_lt hy (a.toNat + i)
  have hbe := beN_lt hy a.toNat i
  have hp : 256 ^ i ≤ 256 ^ 3 := Nat.pow_le_pow_right (by omega) (by omega)
  have p3 : 256 ^ 3 = 16777216 := by decide
  rw [hb1, hs1]
  generalize beN bs a.toNat i = p at hbe ⊢
  generalize bn bs (a.toNat + i) = r at hbl ⊢
  have hp2 : p < 16777216 := by omega
  clear hbe hp p3 hs1 hb1 h hi hn h0
  rw [w64 (n := (p : Int) * 256) (by omega) (by omega), w64 (n := (r : Int)) (by omega) (by omega), w64 (by omega) (by omega)]
  omega
theorem addr_w {a : Int} {i n : Nat} (h0 : 0 ≤ a ∧ a < 4294967296) (hn : n = 1 ∨ n = 2 ∨ n = 4) (hi : i < n) : wrap64 (wrap64 a + (i : Int)) = a + i := by
  rw [w64 (n := a) (by omega) (by omega), w64 (by omega) (by omega)]
theorem next_w {i n : Nat} (hn : n = 1 ∨ n = 2 ∨ n = 4) (hi : i < n) : wrap64 ((i : Int) + 1) = ((i + 1 : Nat) : Int) := by rw [w64 (by omega) (by omega)]; omega
set_option maxHeartbeats 4000000 in
set_option maxRecDepth 100000 in
theorem ref_Read.sz (g : Nat) (bs : List Int) (a : Int) (n : Nat) (w : World) (hm : RM w g bs) (h0 : 0 ≤ a ∧ a < 4294967296) (hn : n = 1 ∨ n = 2 ∨ n = 4) :
    Calls Try.prog 53 #[.pointer (some ⟨g, 0, none⟩), .int .u32 a, .int .i64 n] w fun e w' => e = .returned (.tuple #[.int .u32 (rdS bs a n).1, .int .i64 (rdS bs a n).2]) ∧ Drawn0 w w' := by
  have HM := Aside0.mk hm
  have H0 := Aside0.mk h0
  have HN := Aside0.mk hn
  obtain ⟨⟨gb, cb, z0, hcb, hrb⟩, hl, hby⟩ := hm
  have HZ := Aside0.mk z0
  have HR := Aside0.mk hrb
  have HL := Aside0.mk hl
  have HY := Aside0.mk hby
  have hs : grottoref09_sized.f (n : Int) = some true := by rcases hn with rfl | rfl | rfl <;> rfl
  have HS := Aside0.mk hs
  have ha : wrap64 a = a := w64 (by omega) (by omega)
  have Ha := Aside0.mk ha
  clear hcb hrb hl hby hn h0 hs ha z0
  go_enter Try.func53, Try.ntmps53
  go_wp2_with (first | ((with_reducible refine gate_callee (f := 60) rfl ?_); refine zgo (some 11) Try.func60 #[.int .i64 n] ?_; (with_reducible refine (grottoref09_sized.calls (n : Int) true _ HS.out).mono ?_); rintro e w' ⟨rfl, ⟨nd, rfl⟩⟩; refine ⟨_, rfl, ?_⟩))
  go_loopg [8, 9] (n + 1) (fun kq v8 v9 w' => ∃ i : Nat, v9 = .int .i64 i ∧ v8 = .int .i64 (beN bs a.toNat i : Nat) ∧ Aside0 (i ≤ n ∧ kq = n - i + 1 ∧ (i = 0 ∨ a + i ≤ (bs.length : Int))) ∧ Aside0 (Drawn0 w w'))
  case atStart => exact ⟨0, rfl, by rw [beN_zero]; rfl, ⟨by omega, by omega, Or.inl rfl⟩, ⟨by repeat (first | exact Drawn0.refl _ | exact ⟨_, rfl⟩ | apply Drawn0.step)⟩⟩
  case round =>
    obtain ⟨i, rfl, rfl, HI, ⟨⟨nd, rfl⟩⟩⟩ := hrel
    have z0 : (w.drewN nd).cell? ⟨g, 0, none⟩ = some (.slice (some ⟨gb, 0, none⟩) bs.length cb) := HZ.out
    by_cases c1 : i < n
    · have E1 := Aside0.mk (addr_w H0.out HN.out c1)
      by_cases c2 : a + i < (bs.length : Int)
      · have HQ := Aside0.mk (read_step HY.out H0.out HN.out c1 c2)
        have Hci := Aside0.mk (next_w HN.out c1)
        have HL2 := Aside0.mk (show i + 1 ≤ n ∧ n - (i + 1) + 1 < gk ∧ a + ((i + 1 : Nat) : Int) ≤ (bs.length : Int) by have := HI.out; omega)
        have h00 : 0 ≤ a + i := by have := H0.out; omega
        have b1 : decide ((bs.length : Int) ≤ a + i) = false := decide_eq_false (by omega)
        obtain ⟨ad, ea, hx⟩ := Kd.at_int HR.out (a + i) h00 c2
        injection ea with ea
        subst ea
        rw [add_plain] at hx
        replace hx : (w.drewN nd).cell? ⟨gb, (a + i).toNat, none⟩ = _ := hx
        rw [← E1.out] at hx h00 c2 b1 HQ
        replace h00 := eq_true h00
        replace c2 := eq_true c2
        go_wp2
        go_roundg (n - (i + 1) + 1)
        case measure => exact HL2.out.2.1
        case rel => exact ⟨i + 1, by rw [Hci.out], by rw [← HQ.out], ⟨HL2.out.1, rfl, Or.inr HL2.out.2.2⟩, ⟨by repeat (first | exact Drawn0.refl _ | exact ⟨_, rfl⟩ | apply Drawn0.step)⟩⟩
      · have hr : rdS bs a n = (0, 90) := by
          unfold rdS
          rw [if_pos (by have := HN.out; omega), if_neg (by omega)]
        have Hr := Aside0.mk hr
        have b1 : decide ((bs.length : Int) ≤ a + i) = true := decide_eq_true (by omega)
        rw [← E1.out] at b1
        clear c2 hr
        go_wp2
        go_ret2
        rw [Hr.out]
        exact ⟨rfl, by repeat (first | exact Drawn0.refl _ | exact ⟨_, rfl⟩ | apply Drawn0.step)⟩
    · have hin : i = n := by have := HI.out; omega
      have hr : rdS bs a n = (((beN bs a.toNat n : Nat) : Int), 0) := by
        unfold rdS
        rw [if_pos (by have := HN.out; omega), if_pos (by have := HI.out; have := HN.out; omega)]
        rfl
      have Hr := Aside0.mk hr
      have hlt := beN_lt4 HY.out (i := a.toNat) (n := n) HN.out
      have hmod : ((beN bs a.toNat n : Nat) : Int) % 4294967296 = ((beN bs a.toNat n : Nat) : Int) := by omega
      have Hmod := Aside0.mk hmod
      subst hin
      clear hr hlt hmod
      go_wp2
      go_ret2
      rw [Hr.out]
      exact ⟨congrArg (fun z => Ending.returned (.tuple #[.int .u32 z, .int .i64 0])) Hmod.out, by repeat (first | exact Drawn0.refl _ | exact ⟨_, rfl⟩ | apply Drawn0.step)⟩
theorem ref_Read.is (g : Nat) (bs : List Int) (a : Int) (n : Nat) (w : World) (hm : RM w g bs) (h0 : 0 ≤ a ∧ a < 4294967296) (hn : n = 1 ∨ n = 2 ∨ n = 4 := by omega) :
    Calls Try.prog 53 #[.pointer (some ⟨g, 0, none⟩), .int .u32 a, .int .i64 n] w fun e w' => e = .returned (.tuple #[.int .u32 (rdS bs a n).1, .int .i64 (rdS bs a n).2]) ∧ Below w.heap.size w w' :=
  (ref_Read.sz g bs a n w hm h0 hn).mono fun _ _ h => ⟨h.1, h.2.below⟩
theorem ref_Read.to (g : Nat) (bs : List Int) (a n q1 q2 : Int) (w : World) (hm : RM w g bs) (h0 : 0 ≤ a ∧ a < 4294967296) (hn : n = 1 ∨ n = 2 ∨ n = 4) (h : rdS bs a n = (q1, q2)) :
    Calls Try.prog 53 #[.pointer (some ⟨g, 0, none⟩), .int .u32 a, .int .i64 n] w fun e w' => e = .returned (.tuple #[.int .u32 q1, .int .i64 q2]) ∧ Below w.heap.size w w' := by
  have h1 := ref_Read.is g bs a n.toNat w hm h0 (by omega)
  rw [show ((n.toNat : Nat) : Int) = n by omega, h] at h1
  exact h1
end Go.Proofs.Ytohmipmioaceeaa.PQ

/- The document's Linked. -/
namespace Go.Proofs.Ytohmipmioaceeaa.PQ
open Go.RowKit Go.Proofs.YtohmipmioaceeaaW.PrintWords Go.Proofs.YtohmipmioaceeaaW.PrintLast Go.Proofs.YtohmipmioaceeaaW.PrintMore Go.Proofs.Ytohmipmioaceeaa.Z Go.Proofs.Ytohmipmioaceeaa.Pure
set_option linter.unusedVariables false
set_option linter.unusedSimpArgs false
set_option maxHeartbeats 4000000 in
set_option maxRecDepth 100000 in
theorem ref_Linked.no (g : Nat) (s : Sr) (bs key : List Int) (er : Int) (w : World) (ho : s.Ok) (hm : RM w g bs) (hk : keyS bs s = (key, er)) (he : er ≠ 0) :
    Calls Try.prog 32 #[.pointer (some ⟨g, 0, none⟩), s.agg] w fun e w' => e = .returned (.tuple #[.int .u32 0, .int .i64 er]) ∧ Below w.heap.size w w' := by
  have HB := Aside0.mk (Below.refl w.heap.size w)
  have HO := Aside0.mk ho
  have HM := Aside0.mk hm
  have HK := Aside0.mk hk
  have hne : (er != 0) = true := bne_iff_ne.mpr he
  clear ho hm hk he
  go_enter Try.func32, Try.ntmps32
  go_wp2_with (first | ((with_reducible refine gate_dst (N := 3) rfl ?_); refine zbox (N := 3) (cs := s.eight) (t := 32) ?_; intro gb hg w2 hbox hb; have BK := Aside0.mk hbox; replace HB := zbs HB hb; replace HM := Aside0.mk (HM.out.below hb); obtain ⟨z0, z1, z2, z3, z4, z5, z6, z7⟩ := all8 BK.out; clear hb hbox hg) | (go_at_call 27; (with_reducible refine (ref_Key.is g s bs _ HO.out HM.out).mono ?_); rintro e w3 ⟨v3, he_, hv, hb⟩; rw [HK.out] at he_ hv; subst he_; obtain ⟨A3, c3, rfl⟩ := Kd.R_slice hv; have HV := Aside0.mk (Kd.R_reads' hv).2.2; have HVC := Aside0.mk (Kd.R_reads' hv).2.1; replace BK := zkb BK hb; replace HB := zbs HB hb; replace HM := Aside0.mk (HM.out.below hb); clear z0 z1 z2 z3 z4 z5 z6 z7 hv hb; obtain ⟨z0, z1, z2, z3, z4, z5, z6, z7⟩ := all8 BK.out))
  go_ret2
  exact ⟨rfl, zb HB⟩
set_option maxHeartbeats 8000000 in
set_option maxRecDepth 100000 in
theorem ref_Linked.ok (k g : Nat) (s : Sr) (bs key : List Int) (r1 r2 : Int) (w : World) (ho : s.Ok) (hm : RM w g bs) (hk : keyS bs s = (key, 0)) (h : chainS bs s key k s.start 0 = some (r1, r2)) :
    Calls Try.prog 32 #[.pointer (some ⟨g, 0, none⟩), s.agg] w fun e w' => e = .returned (.tuple #[.int .u32 r1, .int .i64 r2]) ∧ Below w.heap.size w w' := by
  have HB := Aside0.mk (Below.refl w.heap.size w)
  have HO := Aside0.mk ho
  have HM := Aside0.mk hm
  have HK := Aside0.mk hk
  have H := Aside0.mk h
  have HKB := Aside0.mk (show Byt key by have := keyS_byt' hm.byt s; rw [hk] at this; exact this)
  have HKS := Aside0.mk (keyS_ksz' hk)
  clear ho hm hk h
  go_enter Try.func32, Try.ntmps32
  go_wp2_with (first | ((with_reducible refine gate_dst (N := 3) rfl ?_); refine zbox (N := 3) (cs := s.eight) (t := 32) ?_; intro gb hg w2 hbox hb; have BK := Aside0.mk hbox; replace HB := zbs HB hb; replace HM := Aside0.mk (HM.out.below hb); obtain ⟨z0, z1, z2, z3, z4, z5, z6, z7⟩ := all8 BK.out; clear hb hbox hg) | (go_at_call 27; (with_reducible refine (ref_Key.is g s bs _ HO.out HM.out).mono ?_); rintro e w3 ⟨v3, he_, hv, hb⟩; rw [HK.out] at he_ hv; subst he_; obtain ⟨A3, c3, rfl⟩ := Kd.R_slice hv; have HV := Aside0.mk (Kd.R_reads' hv).2.2; have HVC := Aside0.mk (Kd.R_reads' hv).2.1; replace BK := zkb BK hb; replace HB := zbs HB hb; replace HM := Aside0.mk (HM.out.below hb); clear z0 z1 z2 z3 z4 z5 z6 z7 hv hb; obtain ⟨z0, z1, z2, z3, z4, z5, z6, z7⟩ := all8 BK.out))
  go_loopg [8, 9] k (fun kq v8 v9 w' => ∃ a n : Int, v8 = .int .u32 a ∧ v9 = .int .i64 n ∧ Aside0 (chainS bs s key kq a n = some (r1, r2)) ∧ Aside0 ((0 ≤ a ∧ a < 4294967296) ∧ 0 ≤ n ∧ n ≤ 65536) ∧ Aside0 (w'.heap[gb]? = some (.cells s.eight 32 (0, 0))) ∧ Aside0 (RM w' g bs) ∧ Aside0 (Kd.C (Kd.int .u8) w' A3 key.length key) ∧ Aside0 (Below w.heap.size w w'))
  case atStart => exact ⟨s.start, 0, rfl, rfl, H, ⟨HO.out.start, by omega, by omega⟩, ⟨by first | exact BK.out | exact zkp BK⟩, ⟨by first | exact HM.out | exact HM.out.below (pw_below_drewN (Below.refl _ _) _)⟩, ⟨by first | exact HV.out | exact Kd.C_drewN HV.out _⟩, ⟨zb HB⟩⟩
  case round =>
    clear H BK HM HV z0 z1 z2 z3 z4 z5 z6 z7
    obtain ⟨a, n, rfl, rfl, HA, HI, BK, HM, HV, HB⟩ := hrel
    cases gk with
    | zero => exact absurd HA.out (by simp [chainS])
    | succ k1 =>
      have h := HA.out
      clear HA
      unfold chainS at h
      obtain ⟨z0, z1, z2, z3, z4, z5, z6, z7⟩ := all8 BK.out
      by_cases ha : a = 0
      · rw [if_pos ha] at h
        simp only [Option.some.injEq, Prod.mk.injEq] at h
        obtain ⟨rfl, rfl⟩ := h
        subst ha
        go_wp2
        go_ret2
        exact ⟨rfl, zb HB⟩
      · rw [if_neg ha] at h
        have a0 : (a != 0) = true := bne_iff_ne.mpr ha
        clear ha
        by_cases hn : n = 65536
        · rw [if_pos hn] at h
          simp only [Option.some.injEq, Prod.mk.injEq] at h
          obtain ⟨rfl, rfl⟩ := h
          subst hn
          go_wp2
          go_ret2
          exact ⟨rfl, zb HB⟩
        · rw [if_neg hn] at h
          have n0 : (n == 65536) = false := beq_eq_false_iff_ne.mpr hn
          have hw : wrap64 (n + 1) = n + 1 := by have := HI.out; exact w64 (by omega) (by omega)
          have Hnx := Aside0.mk hw
          replace HI := Aside0.mk (show (0 ≤ a ∧ a < 4294967296) ∧ 0 ≤ n ∧ n < 65536 by have := HI.out; omega)
          obtain ⟨q1, q2, hq⟩ : ∃ q1 q2, rdS bs ((a + s.next) % 4294967296) 4 = (q1, q2) := ⟨_, _, rfl⟩
          have hq1 := rdS_u32 HM.out.byt ((a + s.next) % 4294967296) 4
          rw [hq] at hq1
          have Hq1 := Aside0.mk hq1
          have HQ := Aside0.mk hq
          obtain ⟨L, er, hsp, her⟩ := spanS_er bs ((a + s.off) % 4294967296) s.ksz
          have HP := Aside0.mk hsp
          clear hn hw hq1
          rcases her with rfl | ⟨rfl, rfl⟩
          · have hat := atS_ok (key := key) hsp
            have hLB := spanS_byt HM.out.byt hsp
            have hLL := spanS_len HO.out.ksz.1 (by omega) hsp
            rw [hat, hq] at h
            try dsimp only at h
            rw [if_neg (by simp)] at h
            have HLL := Aside0.mk (show L.length ≤ 1000000 by have := HKS.out; omega)
            have hstr := str_eq hLB HKB.out
            clear hsp hat hLB hLL hq
            by_cases d2 : cmpI L key = 0
            · rw [if_pos d2] at h
              simp only [Option.some.injEq, Prod.mk.injEq] at h
              obtain ⟨rfl, rfl⟩ := h
              rw [decide_eq_true d2] at hstr
              clear d2
              go_wp2_with (first | (go_at_call 23; (with_reducible refine (ref_Span.to g bs L _ s.ksz 0 _ HM.out (by omega) HO.out.ksz HP.out).mono ?_); rintro e w4 ⟨A1, c1, rfl, hv, hb⟩; have HL := Aside0.mk (Kd.R_reads' hv).2.2; have HLC := Aside0.mk (Kd.R_reads' hv).2.1; clear hv; replace BK := zkb BK hb; replace HM := Aside0.mk (HM.out.below hb); replace HV := Aside0.mk (Kd.C_below HV.out hb); replace HB := zbs HB hb; clear hb z0 z1 z2 z3 z4 z5 z6 z7; obtain ⟨z0, z1, z2, z3, z4, z5, z6, z7⟩ := all8 BK.out; have hcv := Kd.C_string (P := Try.prog) (A := A1) (c := c1) Try.underlying29 Try.underlying5 Try.underlying9 HL.out; have hcw := Kd.C_string (P := Try.prog) (A := A3) (c := c3) Try.underlying29 Try.underlying5 Try.underlying9 HV.out))
              go_ret2
              exact ⟨rfl, zb HB⟩
            · rw [if_neg d2] at h
              rw [decide_eq_false d2] at hstr
              clear d2
              obtain ⟨q, hq⟩ : ∃ q : Bool, hasB s.opts 2 = q := ⟨_, rfl⟩
              obtain ⟨z, hz⟩ : ∃ z : Bool, allz L = z := ⟨_, rfl⟩
              rw [hq, hz] at h
              have Hq := Aside0.mk hq
              have Hz := Aside0.mk hz
              clear hq hz
              cases q
              · rw [if_neg (by simp)] at h
                by_cases d6 : q2 = 0
                · rw [if_neg (by simp [d6])] at h
                  subst d6
                  have H := Aside0.mk h
                  clear h
                  go_wp2_with (first | (go_at_call 23; (with_reducible refine (ref_Span.to g bs L _ s.ksz 0 _ HM.out (by omega) HO.out.ksz HP.out).mono ?_); rintro e w4 ⟨A1, c1, rfl, hv, hb⟩; have HL := Aside0.mk (Kd.R_reads' hv).2.2; have HLC := Aside0.mk (Kd.R_reads' hv).2.1; clear hv; replace BK := zkb BK hb; replace HM := Aside0.mk (HM.out.below hb); replace HV := Aside0.mk (Kd.C_below HV.out hb); replace HB := zbs HB hb; clear hb z0 z1 z2 z3 z4 z5 z6 z7; obtain ⟨z0, z1, z2, z3, z4, z5, z6, z7⟩ := all8 BK.out; have hcv := Kd.C_string (P := Try.prog) (A := A1) (c := c1) Try.underlying29 Try.underlying5 Try.underlying9 HL.out; have hcw := Kd.C_string (P := Try.prog) (A := A3) (c := c3) Try.underlying29 Try.underlying5 Try.underlying9 HV.out) | (go_at_call 48; (with_reducible refine (has_is s 2 _ HO.out (by omega)).mono ?_); rintro e w5 ⟨rfl, hb⟩; rw [Hq.out]; replace HL := Aside0.mk (Kd.C_below HL.out hb); replace BK := zkb BK hb; replace HM := Aside0.mk (HM.out.below hb); replace HV := Aside0.mk (Kd.C_below HV.out hb); replace HB := zbs HB hb; clear hb z0 z1 z2 z3 z4 z5 z6 z7; obtain ⟨z0, z1, z2, z3, z4, z5, z6, z7⟩ := all8 BK.out; clear hcv hcw) | (go_at_call 51; (with_reducible refine (noughts_is L A1 c1 _ HL.out HLC.out HLL.out).mono ?_); rintro e w6 ⟨rfl, ⟨nd, rfl⟩⟩; rw [Hz.out]) | (go_at_call 53; (with_reducible refine (ref_Read.to g bs ((a + s.next) % 4294967296) 4 _ _ _ (by first | exact HM.out | exact HM.out.below (pw_below_drewN (Below.refl _ _) _)) (by omega) (by omega) HQ.out).mono ?_); rintro e w8 ⟨rfl, hb⟩; replace BK := zkb BK hb; replace HM := Aside0.mk (RM.below (by first | exact HM.out | exact HM.out.below (pw_below_drewN (Below.refl _ _) _)) hb); replace HV := Aside0.mk (Kd.C_below (by first | exact HV.out | exact Kd.C_drewN HV.out _) hb); replace HB := zbs HB hb; clear hb z0 z1 z2 z3 z4 z5 z6 z7; obtain ⟨z0, z1, z2, z3, z4, z5, z6, z7⟩ := all8 BK.out))
                  go_roundg k1
                  case measure => omega
                  case rel => exact ⟨q1, n + 1, rfl, by rw [Hnx.out], H, ⟨by have := Hq1.out; have := HI.out; omega⟩, ⟨by first | exact BK.out | exact zkp BK⟩, ⟨by first | exact HM.out | exact HM.out.below (pw_below_drewN (Below.refl _ _) _)⟩, ⟨by first | exact HV.out | exact Kd.C_drewN HV.out _⟩, ⟨zb HB⟩⟩
                · rw [if_pos d6] at h
                  simp only [Option.some.injEq, Prod.mk.injEq] at h
                  obtain ⟨rfl, rfl⟩ := h
                  have d7 : (q2 != 0) = true := bne_iff_ne.mpr d6
                  clear d6
                  go_wp2_with (first | (go_at_call 23; (with_reducible refine (ref_Span.to g bs L _ s.ksz 0 _ HM.out (by omega) HO.out.ksz HP.out).mono ?_); rintro e w4 ⟨A1, c1, rfl, hv, hb⟩; have HL := Aside0.mk (Kd.R_reads' hv).2.2; have HLC := Aside0.mk (Kd.R_reads' hv).2.1; clear hv; replace BK := zkb BK hb; replace HM := Aside0.mk (HM.out.below hb); replace HV := Aside0.mk (Kd.C_below HV.out hb); replace HB := zbs HB hb; clear hb z0 z1 z2 z3 z4 z5 z6 z7; obtain ⟨z0, z1, z2, z3, z4, z5, z6, z7⟩ := all8 BK.out; have hcv := Kd.C_string (P := Try.prog) (A := A1) (c := c1) Try.underlying29 Try.underlying5 Try.underlying9 HL.out; have hcw := Kd.C_string (P := Try.prog) (A := A3) (c := c3) Try.underlying29 Try.underlying5 Try.underlying9 HV.out) | (go_at_call 48; (with_reducible refine (has_is s 2 _ HO.out (by omega)).mono ?_); rintro e w5 ⟨rfl, hb⟩; rw [Hq.out]; replace HL := Aside0.mk (Kd.C_below HL.out hb); replace BK := zkb BK hb; replace HM := Aside0.mk (HM.out.below hb); replace HV := Aside0.mk (Kd.C_below HV.out hb); replace HB := zbs HB hb; clear hb z0 z1 z2 z3 z4 z5 z6 z7; obtain ⟨z0, z1, z2, z3, z4, z5, z6, z7⟩ := all8 BK.out; clear hcv hcw) | (go_at_call 51; (with_reducible refine (noughts_is L A1 c1 _ HL.out HLC.out HLL.out).mono ?_); rintro e w6 ⟨rfl, ⟨nd, rfl⟩⟩; rw [Hz.out]) | (go_at_call 53; (with_reducible refine (ref_Read.to g bs ((a + s.next) % 4294967296) 4 _ _ _ (by first | exact HM.out | exact HM.out.below (pw_below_drewN (Below.refl _ _) _)) (by omega) (by omega) HQ.out).mono ?_); rintro e w8 ⟨rfl, hb⟩; replace BK := zkb BK hb; replace HM := Aside0.mk (RM.below (by first | exact HM.out | exact HM.out.below (pw_below_drewN (Below.refl _ _) _)) hb); replace HV := Aside0.mk (Kd.C_below (by first | exact HV.out | exact Kd.C_drewN HV.out _) hb); replace HB := zbs HB hb; clear hb z0 z1 z2 z3 z4 z5 z6 z7; obtain ⟨z0, z1, z2, z3, z4, z5, z6, z7⟩ := all8 BK.out))
                  go_ret2
                  exact ⟨rfl, zb HB⟩
              · cases z
                · rw [if_neg (by simp)] at h
                  by_cases d6 : q2 = 0
                  · rw [if_neg (by simp [d6])] at h
                    subst d6
                    have H := Aside0.mk h
                    clear h
                    go_wp2_with (first | (go_at_call 23; (with_reducible refine (ref_Span.to g bs L _ s.ksz 0 _ HM.out (by omega) HO.out.ksz HP.out).mono ?_); rintro e w4 ⟨A1, c1, rfl, hv, hb⟩; have HL := Aside0.mk (Kd.R_reads' hv).2.2; have HLC := Aside0.mk (Kd.R_reads' hv).2.1; clear hv; replace BK := zkb BK hb; replace HM := Aside0.mk (HM.out.below hb); replace HV := Aside0.mk (Kd.C_below HV.out hb); replace HB := zbs HB hb; clear hb z0 z1 z2 z3 z4 z5 z6 z7; obtain ⟨z0, z1, z2, z3, z4, z5, z6, z7⟩ := all8 BK.out; have hcv := Kd.C_string (P := Try.prog) (A := A1) (c := c1) Try.underlying29 Try.underlying5 Try.underlying9 HL.out; have hcw := Kd.C_string (P := Try.prog) (A := A3) (c := c3) Try.underlying29 Try.underlying5 Try.underlying9 HV.out) | (go_at_call 48; (with_reducible refine (has_is s 2 _ HO.out (by omega)).mono ?_); rintro e w5 ⟨rfl, hb⟩; rw [Hq.out]; replace HL := Aside0.mk (Kd.C_below HL.out hb); replace BK := zkb BK hb; replace HM := Aside0.mk (HM.out.below hb); replace HV := Aside0.mk (Kd.C_below HV.out hb); replace HB := zbs HB hb; clear hb z0 z1 z2 z3 z4 z5 z6 z7; obtain ⟨z0, z1, z2, z3, z4, z5, z6, z7⟩ := all8 BK.out; clear hcv hcw) | (go_at_call 51; (with_reducible refine (noughts_is L A1 c1 _ HL.out HLC.out HLL.out).mono ?_); rintro e w6 ⟨rfl, ⟨nd, rfl⟩⟩; rw [Hz.out]) | (go_at_call 53; (with_reducible refine (ref_Read.to g bs ((a + s.next) % 4294967296) 4 _ _ _ (by first | exact HM.out | exact HM.out.below (pw_below_drewN (Below.refl _ _) _)) (by omega) (by omega) HQ.out).mono ?_); rintro e w8 ⟨rfl, hb⟩; replace BK := zkb BK hb; replace HM := Aside0.mk (RM.below (by first | exact HM.out | exact HM.out.below (pw_below_drewN (Below.refl _ _) _)) hb); replace HV := Aside0.mk (Kd.C_below (by first | exact HV.out | exact Kd.C_drewN HV.out _) hb); replace HB := zbs HB hb; clear hb z0 z1 z2 z3 z4 z5 z6 z7; obtain ⟨z0, z1, z2, z3, z4, z5, z6, z7⟩ := all8 BK.out))
                    go_roundg k1
                    case measure => omega
                    case rel => exact ⟨q1, n + 1, rfl, by rw [Hnx.out], H, ⟨by have := Hq1.out; have := HI.out; omega⟩, ⟨by first | exact BK.out | exact zkp BK⟩, ⟨by first | exact HM.out | exact HM.out.below (pw_below_drewN (Below.refl _ _) _)⟩, ⟨by first | exact HV.out | exact Kd.C_drewN HV.out _⟩, ⟨zb HB⟩⟩
                  · rw [if_pos d6] at h
                    simp only [Option.some.injEq, Prod.mk.injEq] at h
                    obtain ⟨rfl, rfl⟩ := h
                    have d7 : (q2 != 0) = true := bne_iff_ne.mpr d6
                    clear d6
                    go_wp2_with (first | (go_at_call 23; (with_reducible refine (ref_Span.to g bs L _ s.ksz 0 _ HM.out (by omega) HO.out.ksz HP.out).mono ?_); rintro e w4 ⟨A1, c1, rfl, hv, hb⟩; have HL := Aside0.mk (Kd.R_reads' hv).2.2; have HLC := Aside0.mk (Kd.R_reads' hv).2.1; clear hv; replace BK := zkb BK hb; replace HM := Aside0.mk (HM.out.below hb); replace HV := Aside0.mk (Kd.C_below HV.out hb); replace HB := zbs HB hb; clear hb z0 z1 z2 z3 z4 z5 z6 z7; obtain ⟨z0, z1, z2, z3, z4, z5, z6, z7⟩ := all8 BK.out; have hcv := Kd.C_string (P := Try.prog) (A := A1) (c := c1) Try.underlying29 Try.underlying5 Try.underlying9 HL.out; have hcw := Kd.C_string (P := Try.prog) (A := A3) (c := c3) Try.underlying29 Try.underlying5 Try.underlying9 HV.out) | (go_at_call 48; (with_reducible refine (has_is s 2 _ HO.out (by omega)).mono ?_); rintro e w5 ⟨rfl, hb⟩; rw [Hq.out]; replace HL := Aside0.mk (Kd.C_below HL.out hb); replace BK := zkb BK hb; replace HM := Aside0.mk (HM.out.below hb); replace HV := Aside0.mk (Kd.C_below HV.out hb); replace HB := zbs HB hb; clear hb z0 z1 z2 z3 z4 z5 z6 z7; obtain ⟨z0, z1, z2, z3, z4, z5, z6, z7⟩ := all8 BK.out; clear hcv hcw) | (go_at_call 51; (with_reducible refine (noughts_is L A1 c1 _ HL.out HLC.out HLL.out).mono ?_); rintro e w6 ⟨rfl, ⟨nd, rfl⟩⟩; rw [Hz.out]) | (go_at_call 53; (with_reducible refine (ref_Read.to g bs ((a + s.next) % 4294967296) 4 _ _ _ (by first | exact HM.out | exact HM.out.below (pw_below_drewN (Below.refl _ _) _)) (by omega) (by omega) HQ.out).mono ?_); rintro e w8 ⟨rfl, hb⟩; replace BK := zkb BK hb; replace HM := Aside0.mk (RM.below (by first | exact HM.out | exact HM.out.below (pw_below_drewN (Below.refl _ _) _)) hb); replace HV := Aside0.mk (Kd.C_below (by first | exact HV.out | exact Kd.C_drewN HV.out _) hb); replace HB := zbs HB hb; clear hb z0 z1 z2 z3 z4 z5 z6 z7; obtain ⟨z0, z1, z2, z3, z4, z5, z6, z7⟩ := all8 BK.out))
                    go_ret2
                    exact ⟨rfl, zb HB⟩
                · rw [if_pos (by simp)] at h
                  simp only [Option.some.injEq, Prod.mk.injEq] at h
                  obtain ⟨rfl, rfl⟩ := h
                  go_wp2_with (first | (go_at_call 23; (with_reducible refine (ref_Span.to g bs L _ s.ksz 0 _ HM.out (by omega) HO.out.ksz HP.out).mono ?_); rintro e w4 ⟨A1, c1, rfl, hv, hb⟩; have HL := Aside0.mk (Kd.R_reads' hv).2.2; have HLC := Aside0.mk (Kd.R_reads' hv).2.1; clear hv; replace BK := zkb BK hb; replace HM := Aside0.mk (HM.out.below hb); replace HV := Aside0.mk (Kd.C_below HV.out hb); replace HB := zbs HB hb; clear hb z0 z1 z2 z3 z4 z5 z6 z7; obtain ⟨z0, z1, z2, z3, z4, z5, z6, z7⟩ := all8 BK.out; have hcv := Kd.C_string (P := Try.prog) (A := A1) (c := c1) Try.underlying29 Try.underlying5 Try.underlying9 HL.out; have hcw := Kd.C_string (P := Try.prog) (A := A3) (c := c3) Try.underlying29 Try.underlying5 Try.underlying9 HV.out) | (go_at_call 48; (with_reducible refine (has_is s 2 _ HO.out (by omega)).mono ?_); rintro e w5 ⟨rfl, hb⟩; rw [Hq.out]; replace HL := Aside0.mk (Kd.C_below HL.out hb); replace BK := zkb BK hb; replace HM := Aside0.mk (HM.out.below hb); replace HV := Aside0.mk (Kd.C_below HV.out hb); replace HB := zbs HB hb; clear hb z0 z1 z2 z3 z4 z5 z6 z7; obtain ⟨z0, z1, z2, z3, z4, z5, z6, z7⟩ := all8 BK.out; clear hcv hcw) | (go_at_call 51; (with_reducible refine (noughts_is L A1 c1 _ HL.out HLC.out HLL.out).mono ?_); rintro e w6 ⟨rfl, ⟨nd, rfl⟩⟩; rw [Hz.out]))
                  go_ret2
                  exact ⟨rfl, zb HB⟩
          · have hat := atS_no (key := key) hsp (by decide)
            rw [hat] at h
            try dsimp only at h
            rw [if_pos (by decide)] at h
            simp only [Option.some.injEq, Prod.mk.injEq] at h
            obtain ⟨rfl, rfl⟩ := h
            clear hsp hat hq
            go_wp2_with (first | (go_at_call 23; (with_reducible refine (ref_Span.to g bs [] _ s.ksz 90 _ HM.out (by omega) HO.out.ksz HP.out).mono ?_); rintro e w4 ⟨A1, c1, rfl, hv, hb⟩; have HL := Aside0.mk (Kd.R_reads' hv).2.2; have HLC := Aside0.mk (Kd.R_reads' hv).2.1; clear hv; replace BK := zkb BK hb; replace HM := Aside0.mk (HM.out.below hb); replace HV := Aside0.mk (Kd.C_below HV.out hb); replace HB := zbs HB hb; clear hb z0 z1 z2 z3 z4 z5 z6 z7; obtain ⟨z0, z1, z2, z3, z4, z5, z6, z7⟩ := all8 BK.out))
            go_ret2
            exact ⟨rfl, zb HB⟩
end Go.Proofs.Ytohmipmioaceeaa.PQ
