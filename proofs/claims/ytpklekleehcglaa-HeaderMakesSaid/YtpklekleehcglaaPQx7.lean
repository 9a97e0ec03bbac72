-- by a program of this claim
import Derived.Test.YtpklekleehcglaaPQx0
import Derived.Test.YtpklekleehcglaaPQx1
import Derived.Test.YtpklekleehcglaaPQx2
import Derived.Test.YtpklekleehcglaaPQx4
import Derived.Test.YtpklekleehcglaaPQx5
import Derived.Test.YtpklekleehcglaaPQx6
namespace Go.Proofs.Ytpklekleehcglaa.PQ
open Go.RowKit Go.Proofs.YtpklekleehcglaaW.PrintWords Go.Proofs.YtpklekleehcglaaW.PrintLast Go.Proofs.YtpklekleehcglaaW.PrintMore Go.Proofs.Ytpklekleehcglaa.Z
attribute [local go_sem] max2_int min2_int max_two min_two max_three min_three max_four min_four   -- for this text's walks alone
set_option linter.unusedVariables false
set_option linter.unusedSimpArgs false

attribute [local go_sem high] eqA27
/-! ### grottolaw07_live: function 10 -/
def grottolaw07_live.f (k : Nat)  : Option (Bool) := (grottolaw07_small.f).bind fun bt175 => (if 220 ≤ 281474976710656 then ((header_Make.f k bt175.1 bt175.2.1 bt175.2.2.1 bt175.2.2.2.1 bt175.2.2.2.2.1 bt175.2.2.2.2.2.1 bt175.2.2.2.2.2.2.1 bt175.2.2.2.2.2.2.2 (List.replicate 220 0)).bind fun bt186 => ((header_Parse.f k bt186.1).bind fun bt190 => ((grottolaw07_small.f).bind fun bt201 => ((header_Parse.f k (([71, 108, 117, 120] : List Int))).bind fun bt213 => ((grottolaw07_num.f bt186.2).bind fun t224 => ((grottolaw07_num.f bt190.2.2.2.2.2.2.2.2.1).bind fun t225 => (if (wrap64 (t224 + t225)) = 0 then (if (bt186.1.length : Int) = 256 then (if (bt190.1 == bt201.1 && (bt190.2.1 == bt201.2.1 && (bt190.2.2.1 == bt201.2.2.1 && (bt190.2.2.2.1 == bt201.2.2.2.1 && (bt190.2.2.2.2.1 == bt201.2.2.2.2.1 && (bt190.2.2.2.2.2.1 == bt201.2.2.2.2.2.1 && (bt190.2.2.2.2.2.2.1 == bt201.2.2.2.2.2.2.1 && (bt190.2.2.2.2.2.2.2.1 == 1198488467)))))))) = true then (if bt190.2.2.2.2.2.2.2.2.2 = 36 then ((header_Sum.f k bt186.1).bind fun t226 => (if t226 = 1198488467 then ((grottolaw07_num.f bt213.2.2.2.2.2.2.2.2.1).bind fun t227 => (if t227 = 63 then (some (bt213.2.2.2.2.2.2.2.2.2 == 0)) else (some false))) else (some false))) else (some false)) else (some false)) else (some false)) else (some false)))))))) else (none))
theorem grottolaw07_live.mono : ∀ k, LeO (grottolaw07_live.f k ) (grottolaw07_live.f (k + 1) ) := by
  intro  k
  unfold grottolaw07_live.f
  repeat' first
      | (with_reducible exact header_Make.mono _ _ _ _ _ _ _ _ _ _)
      | (with_reducible exact header_Parse.mono _ _)
      | (with_reducible exact header_Sum.mono _ _)
      | (with_reducible exact LeO.refl _)
      | (with_reducible exact LeO.none _)
      | (with_reducible refine LeO.ite ?_ ?_)
      | (with_reducible refine LeO.bind ?_ (fun _ => ?_))
      | exact header_Make.mono _ _ _ _ _ _ _ _ _ _
      | exact header_Parse.mono _ _
      | exact header_Sum.mono _ _
      | exact LeO.none _
      | refine LeO.ite ?_ ?_
      | refine LeO.bind ?_ (fun _ => ?_)
def grottolaw07_live.T1 : Bool × List (List Nat × List Nat) := (true, [([], []), ([], []), ([0, 1, 0], [0, 1]), ([2], [2]), ([3], [3]), ([3], [3]), ([4, 2, 0, 1, 2, 3, 4], [4]), ([5, 6, 0, 1, 2, 3, 4, 5, 6], [5])])
def grottolaw07_live.B1 : List Nat := [0, 0, 3, 7, 15, 15, 31, 127]
theorem grottolaw07_live.tab1 : rtab .any (opsOf Try.f10 1) = grottolaw07_live.T1 := by kernel_rfl
theorem grottolaw07_live.bits1 : waitsOk grottolaw07_live.T1.2 grottolaw07_live.B1 = true := by kernel_rfl
def grottolaw07_live.T6 : Bool × List (List Nat × List Nat) := (true, [([], []), ([0], [0]), ([], []), ([2, 1], [2]), ([1, 3], [1, 3]), ([4], [4]), ([5, 3], [5]), ([6], [6]), ([7, 6], [6, 7]), ([8, 6], [6, 8]), ([6, 9], [6, 9]), ([10, 6], [10]), ([11], [11]), ([11], [11]), ([12, 13, 11], [11, 12, 13]), ([11, 14], [11, 14]), ([15, 11], [15]), ([16], [16]), ([17, 16], [16, 17]), ([16, 18], [16, 18]), ([19, 16], [19]), ([20], [20]), ([21, 20, 20], [20, 21]), ([20], [20]), ([23, 20], [20, 23]), ([22, 24, 20], [20, 22, 24]), ([20, 25], [20, 25]), ([26, 22], [26]), ([27], [27]), ([28, 27, 27], [27, 28]), ([29, 27], [27, 29]), ([27, 30], [27, 30]), ([31, 29], [31]), ([32], [32]), ([33, 32], [32, 33]), ([32, 34], [32, 34]), ([35, 32, 0, 1, 2, 3, 4, 5, 6, 7, 8, 9, 10, 11, 12, 13, 14, 15, 16, 17, 18, 19, 20, 21, 22, 23, 24, 25, 26, 27, 28, 29, 30, 31, 32, 33, 34, 35], [35])])
def grottolaw07_live.B6 : List Nat := [0, 1, 0, 7, 15, 31, 63, 127, 255, 511, 1023, 2047, 4095, 4095, 16383, 32767, 65535, 131071, 262143, 524287, 1048575, 2097151, 4194303, 2097151, 10485759, 33554431, 67108863, 134217727, 268435455, 536870911, 1073741823, 2147483647, 4294967295, 8589934591, 17179869183, 34359738367, 68719476735]
theorem grottolaw07_live.tab6 : rtab .any (opsOf Try.f10 6) = grottolaw07_live.T6 := by kernel_rfl
theorem grottolaw07_live.bits6 : waitsOk grottolaw07_live.T6.2 grottolaw07_live.B6 = true := by kernel_rfl
theorem lit_mark {P : Program} {ops : Array Oper} {rest : List Oper} {o o2 : Oper} {a : Act} {Q : Exit → Act → World → Prop} {W : World} {N N2 : Tmp} {xs : List Int} {n : Nat} {C : Array Value} (hgd : o.guard = none) (hd : o.dst = some N)
    (hrun : (execOp a.eval o).run P W = .ok (.value (.slice (some ⟨W.heap.size, 0, none⟩) n n)) (W.alloc (.cells C 5))) (hgd2 : o2.guard = none) (hd2 : o2.dst = some N2) (ho2 : o2.op = .convert 22 22 (.tmp N)) (hev : (a.put (some N) (.slice (some ⟨W.heap.size, 0, none⟩) n n)).eval (.tmp N) = .slice (some ⟨W.heap.size, 0, none⟩) n n)
    (ht : P.underlying 22 = some (.slice 5)) (he : P.underlying 5 = some (.int .u8)) (hC : C = (xs.map (Value.int .u8)).toArray) (hn : xs.length = n) (hm : n ≤ 9223372036854775807)
    (h : ∀ g w1, Kd.C (Kd.int .u8) w1 (some ⟨g, 0, none⟩) n xs → Below W.heap.size W w1 → wpList P ops Q rest ((a.put o.dst (.slice (some ⟨g, 0, none⟩) n n)).put o2.dst (.slice (some ⟨g, 0, none⟩) n n)) w1) : wpList P ops Q (o :: o2 :: rest) a W := by
  have hcv := Lib.run_convert_bytes_const (P := P) W 22 5 C n n ht he
  refine Kd.event_run hgd hrun ?_
  refine wpList_plain hgd2 fun K hK => ?_
  unfold Oper.wp execOp
  rw [hd]
  simp only [ho2, hev, Sem.run_bind, Sem.run_pure, hcv, Result.andThen_ok]
  have hb := below_alloc (Below.refl W.heap.size W) (.cells C 5 (C.size, C.size + 1))
  have hrd : Kd.C (Kd.int .u8) (W.alloc (.cells C 5 (C.size, C.size + 1))) (some ⟨W.heap.size, 0, none⟩) n xs := by
    refine Kd.C_of_reads (enc := Value.int .u8) (d := (0 : Int)) (h1 := fun _ => rfl) ⟨hn, hm, fun _ => ⟨⟨W.heap.size, 0, none⟩, rfl, fun j hj => ?_⟩⟩
    rw [Addr.add_lit, Nat.zero_add, cell_of_row _ _ j _ 5 _ (blk_new _ _), hC, List.getElem?_toArray, List.getElem?_map, List.getElem?_eq_getElem (by omega), List.getD_eq_getElem?_getD, List.getElem?_eq_getElem (by omega)]
    rfl
  rw [← hd]
  exact hK _ _ (h W.heap.size _ hrd hb)
theorem store_blk {P : Program} {ops : Array Oper} {rest : List Oper} {o : Oper} {a : Act} {Q : Exit → Act → World → Prop} {W : World} (hN : o.dst = none) (hgd : o.guard = none) (t : TypeId) (p x : Operand) (ho : o.op = .store t p x) {g : Nat} {cs cs' : Array Value}
    (haddr : a.eval p = .pointer (some ⟨g, 0, none⟩)) (hx : a.eval x = .agg cs') (hh : W.heap[g]? = some (.cells cs t (0, 0))) (hsz : cs'.size = cs.size) (ht : (P.info? t).map (·.size) = some cs'.size) (h1 : ∀ q ∈ cs'.toList, q.oneCell' = true)
    (h : ∀ w1, w1.heap[g]? = some (.cells cs' t (0, 0)) → W.grownBy w1 (some g) → wpList P ops Q rest a w1) : wpList P ops Q (o :: rest) a W := by
  have hrun := run_store_run (P := P) (o := 0) t (.agg cs') cs'.toList hh rfl (by rw [Array.length_toList]; exact ht) (by rw [Array.length_toList]; omega) h1
  obtain ⟨cur', h3, h4, h5⟩ := setCells_row cs'.toList 0 W cs hh (by rw [Array.length_toList]; omega)
  obtain ⟨s1, s2, s3, s4⟩ := setCells_same g cs'.toList 0 W
  have hc : cur' = cs' := by
    apply Array.toList_inj.1
    rw [h5, List.take_zero, List.nil_append, List.drop_of_length_le (by rw [Array.length_toList, Array.length_toList]; omega), List.append_nil]
  rw [hc] at h3
  refine wpList_plain hgd fun K hK => ?_
  unfold Oper.wp execOp
  simp only [ho, haddr, hx, Sem.run_bind, Sem.run_pure, Result.andThen_ok, hrun]
  show K (a.put o.dst undef) _
  rw [hN]
  exact hK a _ (h _ h3 ⟨s1, s2, s3, by rw [s4]; exact Nat.le_refl _, fun k _ hk => setCells_far _ _ k (fun he => hk (by rw [he]))⟩)
theorem store_cell {P : Program} {ops : Array Oper} {rest : List Oper} {o : Oper} {a : Act} {Q : Exit → Act → World → Prop} {W : World} (hN : o.dst = none) (hgd : o.guard = none) (t t0 : TypeId) (p x : Operand) (ho : o.op = .store t p x) {g j : Nat} {k : IntKind} {z : Int} {cs : Array Value}
    (haddr : a.eval p = .pointer (some ⟨g, j, none⟩)) (hx : a.eval x = .int k z) (hh : W.heap[g]? = some (.cells cs t0 (0, 0))) (hj : j < cs.size) (ht : (P.info? t).map (·.size) = some 1)
    (h : ∀ w1, w1.heap[g]? = some (.cells (cs.setIfInBounds j (.int k z)) t0 (0, 0)) → W.grownBy w1 (some g) → wpList P ops Q rest a w1) : wpList P ops Q (o :: rest) a W := by
  have hrun := run_store_run (P := P) t (.int k z) [.int k z] hh rfl ht (by show j + 1 ≤ cs.size; omega) (by intro q hq; rw [List.mem_singleton] at hq; subst hq; rfl)
  obtain ⟨s1, s2, s3, s4⟩ := setCells_same g [.int k z] j W
  have h3 : (W.setCells g j [.int k z]).heap[g]? = some (.cells (cs.setIfInBounds j (.int k z)) t0 (0, 0)) := blk_set hh j _
  refine wpList_plain hgd fun K hK => ?_
  unfold Oper.wp execOp
  simp only [ho, haddr, hx, Sem.run_bind, Sem.run_pure, Result.andThen_ok, hrun]
  show K (a.put o.dst undef) _
  rw [hN]
  exact hK a _ (h _ h3 ⟨s1, s2, s3, by rw [s4]; exact Nat.le_refl _, fun k _ hk => setCells_far _ _ k (fun he => hk (by rw [he]))⟩)
theorem r_store {W w1 : World} {base g t : Nat} {ok : Nat → Prop} {v : Value} {xs : List Int} {cs : Array Value} (h : (Kd.int .u8).R 5 W base ok v xs) (hb : W.heap[g]? = some (.cells cs t (0, 0))) (ht : 5 ≠ t) (hg : W.grownBy w1 (some g)) : (Kd.int .u8).R 5 w1 base ok v xs := by
  have hn := Kd.R_ne h hb ht
  refine Kd.R_grown2 h rfl hg ?_
  intro k hk
  injection hk with hk
  subst hk
  exact hn
theorem len4 {xs : List Int} {a b c d : Int} (h : xs = [a, b, c, d]) : xs.length = 4 := by rw [h]; rfl
theorem size27 : (Try.prog.info? 27).map (·.size) = some 8 := by kernel_rfl
set_option maxHeartbeats 8000000 in
set_option maxRecDepth 100000 in
theorem grottolaw07_live.calls1 (k : Nat)  (r : Bool) (w : World) (hr : r = true) (h : grottolaw07_live.f k  = some r) :
    Calls Try.prog 10 #[] w fun e w' => e = .returned (.bool r) ∧ Below w.heap.size w w' := by
  have hu27 := Try.underlying27
  have HB := Aside0.mk (Below.refl w.heap.size w)
  have H : ((grottolaw07_small.f).bind fun bt175 => (if 220 ≤ 281474976710656 then ((header_Make.f k bt175.1 bt175.2.1 bt175.2.2.1 bt175.2.2.2.1 bt175.2.2.2.2.1 bt175.2.2.2.2.2.1 bt175.2.2.2.2.2.2.1 bt175.2.2.2.2.2.2.2 (List.replicate 220 0)).bind fun bt186 => ((header_Parse.f k bt186.1).bind fun bt190 => ((grottolaw07_small.f).bind fun bt201 => ((header_Parse.f k (([71, 108, 117, 120] : List Int))).bind fun bt213 => ((grottolaw07_num.f bt186.2).bind fun t224 => ((grottolaw07_num.f bt190.2.2.2.2.2.2.2.2.1).bind fun t225 => (if (wrap64 (t224 + t225)) = 0 then (if (bt186.1.length : Int) = 256 then (if (bt190.1 == bt201.1 && (bt190.2.1 == bt201.2.1 && (bt190.2.2.1 == bt201.2.2.1 && (bt190.2.2.2.1 == bt201.2.2.2.1 && (bt190.2.2.2.2.1 == bt201.2.2.2.2.1 && (bt190.2.2.2.2.2.1 == bt201.2.2.2.2.2.1 && (bt190.2.2.2.2.2.2.1 == bt201.2.2.2.2.2.2.1 && (bt190.2.2.2.2.2.2.2.1 == 1198488467)))))))) = true then (if bt190.2.2.2.2.2.2.2.2.2 = 36 then ((header_Sum.f k bt186.1).bind fun t226 => (if t226 = 1198488467 then ((grottolaw07_num.f bt213.2.2.2.2.2.2.2.2.1).bind fun t227 => (if t227 = 63 then (some (bt213.2.2.2.2.2.2.2.2.2 == 0)) else (some false))) else (some false))) else (some false)) else (some false)) else (some false)) else (some false)))))))) else (none))) = some r := h
  clear h
  replace H := Option.bind_eq_some_iff.mp H
  obtain ⟨⟨t175, t176, t177, t178, t179, t180, t181, t182⟩, A10, H⟩ := H
  replace H : (if 220 ≤ 281474976710656 then ((header_Make.f k t175 t176 t177 t178 t179 t180 t181 t182 (List.replicate 220 0)).bind fun bt186 => ((header_Parse.f k bt186.1).bind fun bt190 => ((grottolaw07_small.f).bind fun bt201 => ((header_Parse.f k (([71, 108, 117, 120] : List Int))).bind fun bt213 => ((grottolaw07_num.f bt186.2).bind fun t224 => ((grottolaw07_num.f bt190.2.2.2.2.2.2.2.2.1).bind fun t225 => (if (wrap64 (t224 + t225)) = 0 then (if (bt186.1.length : Int) = 256 then (if (bt190.1 == bt201.1 && (bt190.2.1 == bt201.2.1 && (bt190.2.2.1 == bt201.2.2.1 && (bt190.2.2.2.1 == bt201.2.2.2.1 && (bt190.2.2.2.2.1 == bt201.2.2.2.2.1 && (bt190.2.2.2.2.2.1 == bt201.2.2.2.2.2.1 && (bt190.2.2.2.2.2.2.1 == bt201.2.2.2.2.2.2.1 && (bt190.2.2.2.2.2.2.2.1 == 1198488467)))))))) = true then (if bt190.2.2.2.2.2.2.2.2.2 = 36 then ((header_Sum.f k bt186.1).bind fun t226 => (if t226 = 1198488467 then ((grottolaw07_num.f bt213.2.2.2.2.2.2.2.2.1).bind fun t227 => (if t227 = 63 then (some (bt213.2.2.2.2.2.2.2.2.2 == 0)) else (some false))) else (some false))) else (some false)) else (some false)) else (some false)) else (some false)))))))) else (none)) = some r := H
  have A1 := Aside0.mk A10
  clear A10
  by_cases c2 : 220 ≤ 281474976710656
  · rw [if_pos c2] at H
    have c2b0 := eq_true c2
    have c2b1 : decide (220 ≤ 281474976710656) = true := decide_eq_true c2
    clear c2
    obtain ⟨y183, hy183⟩ : ∃ y_ : List Int, y_ = (List.replicate 220 0) := ⟨_, rfl⟩
    replace H : ((header_Make.f k t175 t176 t177 t178 t179 t180 t181 t182 y183).bind fun bt186 => ((header_Parse.f k bt186.1).bind fun bt190 => ((grottolaw07_small.f).bind fun bt201 => ((header_Parse.f k (([71, 108, 117, 120] : List Int))).bind fun bt213 => ((grottolaw07_num.f bt186.2).bind fun t224 => ((grottolaw07_num.f bt190.2.2.2.2.2.2.2.2.1).bind fun t225 => (if (wrap64 (t224 + t225)) = 0 then (if (bt186.1.length : Int) = 256 then (if (bt190.1 == bt201.1 && (bt190.2.1 == bt201.2.1 && (bt190.2.2.1 == bt201.2.2.1 && (bt190.2.2.2.1 == bt201.2.2.2.1 && (bt190.2.2.2.2.1 == bt201.2.2.2.2.1 && (bt190.2.2.2.2.2.1 == bt201.2.2.2.2.2.1 && (bt190.2.2.2.2.2.2.1 == bt201.2.2.2.2.2.2.1 && (bt190.2.2.2.2.2.2.2.1 == 1198488467)))))))) = true then (if bt190.2.2.2.2.2.2.2.2.2 = 36 then ((header_Sum.f k bt186.1).bind fun t226 => (if t226 = 1198488467 then ((grottolaw07_num.f bt213.2.2.2.2.2.2.2.2.1).bind fun t227 => (if t227 = 63 then (some (bt213.2.2.2.2.2.2.2.2.2 == 0)) else (some false))) else (some false))) else (some false)) else (some false)) else (some false)) else (some false)))))))) = some r := by first | (rw [hy183]; with_reducible exact H) | (have H2_ := (Option.bind_some _ _).symm.trans H; rw [hy183]; with_reducible exact H2_) | (have H2_ := (Option.bind_some _ _).symm.trans H; with_reducible exact H2_) | with_reducible exact H | (rw [hy183]; exact H) | exact H
    have Ny183 := Aside0.mk hy183
    clear hy183
    replace H := Option.bind_eq_some_iff.mp H
    obtain ⟨⟨t186, t189⟩, A30, H⟩ := H
    replace H : ((header_Parse.f k t186).bind fun bt190 => ((grottolaw07_small.f).bind fun bt201 => ((header_Parse.f k (([71, 108, 117, 120] : List Int))).bind fun bt213 => ((grottolaw07_num.f t189).bind fun t224 => ((grottolaw07_num.f bt190.2.2.2.2.2.2.2.2.1).bind fun t225 => (if (wrap64 (t224 + t225)) = 0 then (if (t186.length : Int) = 256 then (if (bt190.1 == bt201.1 && (bt190.2.1 == bt201.2.1 && (bt190.2.2.1 == bt201.2.2.1 && (bt190.2.2.2.1 == bt201.2.2.2.1 && (bt190.2.2.2.2.1 == bt201.2.2.2.2.1 && (bt190.2.2.2.2.2.1 == bt201.2.2.2.2.2.1 && (bt190.2.2.2.2.2.2.1 == bt201.2.2.2.2.2.2.1 && (bt190.2.2.2.2.2.2.2.1 == 1198488467)))))))) = true then (if bt190.2.2.2.2.2.2.2.2.2 = 36 then ((header_Sum.f k t186).bind fun t226 => (if t226 = 1198488467 then ((grottolaw07_num.f bt213.2.2.2.2.2.2.2.2.1).bind fun t227 => (if t227 = 63 then (some (bt213.2.2.2.2.2.2.2.2.2 == 0)) else (some false))) else (some false))) else (some false)) else (some false)) else (some false)) else (some false))))))) = some r := H
    have A3 := Aside0.mk A30
    clear A30
    replace H := Option.bind_eq_some_iff.mp H
    obtain ⟨⟨t190, t191, t192, t193, t194, t195, t196, t197, t198, t199⟩, A40, H⟩ := H
    replace H : ((grottolaw07_small.f).bind fun bt201 => ((header_Parse.f k (([71, 108, 117, 120] : List Int))).bind fun bt213 => ((grottolaw07_num.f t189).bind fun t224 => ((grottolaw07_num.f t198).bind fun t225 => (if (wrap64 (t224 + t225)) = 0 then (if (t186.length : Int) = 256 then (if (t190 == bt201.1 && (t191 == bt201.2.1 && (t192 == bt201.2.2.1 && (t193 == bt201.2.2.2.1 && (t194 == bt201.2.2.2.2.1 && (t195 == bt201.2.2.2.2.2.1 && (t196 == bt201.2.2.2.2.2.2.1 && (t197 == 1198488467)))))))) = true then (if t199 = 36 then ((header_Sum.f k t186).bind fun t226 => (if t226 = 1198488467 then ((grottolaw07_num.f bt213.2.2.2.2.2.2.2.2.1).bind fun t227 => (if t227 = 63 then (some (bt213.2.2.2.2.2.2.2.2.2 == 0)) else (some false))) else (some false))) else (some false)) else (some false)) else (some false)) else (some false)))))) = some r := H
    have A4 := Aside0.mk A40
    clear A40
    replace H := Option.bind_eq_some_iff.mp H
    obtain ⟨⟨t201, t202, t203, t204, t205, t206, t207, t208⟩, A50, H⟩ := H
    replace H : ((header_Parse.f k (([71, 108, 117, 120] : List Int))).bind fun bt213 => ((grottolaw07_num.f t189).bind fun t224 => ((grottolaw07_num.f t198).bind fun t225 => (if (wrap64 (t224 + t225)) = 0 then (if (t186.length : Int) = 256 then (if (t190 == t201 && (t191 == t202 && (t192 == t203 && (t193 == t204 && (t194 == t205 && (t195 == t206 && (t196 == t207 && (t197 == 1198488467)))))))) = true then (if t199 = 36 then ((header_Sum.f k t186).bind fun t226 => (if t226 = 1198488467 then ((grottolaw07_num.f bt213.2.2.2.2.2.2.2.2.1).bind fun t227 => (if t227 = 63 then (some (bt213.2.2.2.2.2.2.2.2.2 == 0)) else (some false))) else (some false))) else (some false)) else (some false)) else (some false)) else (some false))))) = some r := H
    have A5 := Aside0.mk A50
    clear A50
    obtain ⟨y210, hy210⟩ : ∃ y_ : List Int, y_ = (([71, 108, 117, 120] : List Int)) := ⟨_, rfl⟩
    replace H : ((header_Parse.f k y210).bind fun bt213 => ((grottolaw07_num.f t189).bind fun t224 => ((grottolaw07_num.f t198).bind fun t225 => (if (wrap64 (t224 + t225)) = 0 then (if (t186.length : Int) = 256 then (if (t190 == t201 && (t191 == t202 && (t192 == t203 && (t193 == t204 && (t194 == t205 && (t195 == t206 && (t196 == t207 && (t197 == 1198488467)))))))) = true then (if t199 = 36 then ((header_Sum.f k t186).bind fun t226 => (if t226 = 1198488467 then ((grottolaw07_num.f bt213.2.2.2.2.2.2.2.2.1).bind fun t227 => (if t227 = 63 then (some (bt213.2.2.2.2.2.2.2.2.2 == 0)) else (some false))) else (some false))) else (some false)) else (some false)) else (some false)) else (some false))))) = some r := by first | (rw [hy210]; with_reducible exact H) | (have H2_ := (Option.bind_some _ _).symm.trans H; rw [hy210]; with_reducible exact H2_) | (have H2_ := (Option.bind_some _ _).symm.trans H; with_reducible exact H2_) | with_reducible exact H | (rw [hy210]; exact H) | exact H
    have Ny210 := Aside0.mk hy210
    clear hy210
    replace H := Option.bind_eq_some_iff.mp H
    obtain ⟨⟨t213, t214, t215, t216, t217, t218, t219, t220, t221, t222⟩, A60, H⟩ := H
    replace H : ((grottolaw07_num.f t189).bind fun t224 => ((grottolaw07_num.f t198).bind fun t225 => (if (wrap64 (t224 + t225)) = 0 then (if (t186.length : Int) = 256 then (if (t190 == t201 && (t191 == t202 && (t192 == t203 && (t193 == t204 && (t194 == t205 && (t195 == t206 && (t196 == t207 && (t197 == 1198488467)))))))) = true then (if t199 = 36 then ((header_Sum.f k t186).bind fun t226 => (if t226 = 1198488467 then ((grottolaw07_num.f t221).bind fun t227 => (if t227 = 63 then (some (t222 == 0)) else (some false))) else (some false))) else (some false)) else (some false)) else (some false)) else (some false)))) = some r := H
    have A6 := Aside0.mk A60
    clear A60
    replace H := Option.bind_eq_some_iff.mp H
    obtain ⟨t224, A70, H⟩ := H
    replace H : ((grottolaw07_num.f t198).bind fun t225 => (if (wrap64 (t224 + t225)) = 0 then (if (t186.length : Int) = 256 then (if (t190 == t201 && (t191 == t202 && (t192 == t203 && (t193 == t204 && (t194 == t205 && (t195 == t206 && (t196 == t207 && (t197 == 1198488467)))))))) = true then (if t199 = 36 then ((header_Sum.f k t186).bind fun t226 => (if t226 = 1198488467 then ((grottolaw07_num.f t221).bind fun t227 => (if t227 = 63 then (some (t222 == 0)) else (some false))) else (some false))) else (some false)) else (some false)) else (some false)) else (some false))) = some r := H
    have A7 := Aside0.mk A70
    clear A70
    replace H := Option.bind_eq_some_iff.mp H
    obtain ⟨t225, A80, H⟩ := H
    replace H : (if (wrap64 (t224 + t225)) = 0 then (if (t186.length : Int) = 256 then (if (t190 == t201 && (t191 == t202 && (t192 == t203 && (t193 == t204 && (t194 == t205 && (t195 == t206 && (t196 == t207 && (t197 == 1198488467)))))))) = true then (if t199 = 36 then ((header_Sum.f k t186).bind fun t226 => (if t226 = 1198488467 then ((grottolaw07_num.f t221).bind fun t227 => (if t227 = 63 then (some (t222 == 0)) else (some false))) else (some false))) else (some false)) else (some false)) else (some false)) else (some false)) = some r := H
    have A8 := Aside0.mk A80
    clear A80
    by_cases c9 : (wrap64 (t224 + t225)) = 0
    · rw [if_pos c9] at H
      have c9b0 : ((wrap64 (t224 + t225)) == 0) = true := beq_iff_eq.mpr c9
      have c9b1 : ((wrap64 (t224 + t225)) != 0) = false := bne_eq_false_iff_eq.mpr c9
      clear c9
      by_cases c10 : (t186.length : Int) = 256
      · rw [if_pos c10] at H
        have c10b0 : ((t186.length : Int) == 256) = true := beq_iff_eq.mpr c10
        have c10b1 : ((t186.length : Int) != 256) = false := bne_eq_false_iff_eq.mpr c10
        clear c10
        by_cases c11 : (t190 == t201 && (t191 == t202 && (t192 == t203 && (t193 == t204 && (t194 == t205 && (t195 == t206 && (t196 == t207 && (t197 == 1198488467)))))))) = true
        · rw [if_pos c11] at H
          have c11b0 : (t190 == t201 && (t191 == t202 && (t192 == t203 && (t193 == t204 && (t194 == t205 && (t195 == t206 && (t196 == t207 && (t197 == 1198488467)))))))) = true := c11
          (try (have c11b1 : decide (t190 = t201 && (t191 == t202 && (t192 == t203 && (t193 == t204 && (t194 == t205 && (t195 == t206 && (t196 == t207 && (t197 == 1198488467)))))))) = true := by simpa using c11))
          (try (have c11b2 : (t190 == t201 && (t191 == t202 && (t192 == t203 && (t193 == t204 && (t194 == t205 && (t195 == t206 && (t196 == t207 && (t197 == 1198488467)))))))) = true := by simpa using c11))
          clear c11
          by_cases c12 : t199 = 36
          · rw [if_pos c12] at H
            have c12b0 : (t199 == 36) = true := beq_iff_eq.mpr c12
            have c12b1 : (t199 != 36) = false := bne_eq_false_iff_eq.mpr c12
            clear c12
            replace H := Option.bind_eq_some_iff.mp H
            obtain ⟨t226, A130, H⟩ := H
            replace H : (if t226 = 1198488467 then ((grottolaw07_num.f t221).bind fun t227 => (if t227 = 63 then (some (t222 == 0)) else (some false))) else (some false)) = some r := H
            have A13 := Aside0.mk A130
            clear A130
            by_cases c14 : t226 = 1198488467
            · rw [if_pos c14] at H
              have c14b0 : (t226 == 1198488467) = true := beq_iff_eq.mpr c14
              have c14b1 : (t226 != 1198488467) = false := bne_eq_false_iff_eq.mpr c14
              clear c14
              replace H := Option.bind_eq_some_iff.mp H
              obtain ⟨t227, A150, H⟩ := H
              replace H : (if t227 = 63 then (some (t222 == 0)) else (some false)) = some r := H
              have A15 := Aside0.mk A150
              clear A150
              by_cases c16 : t227 = 63
              · rw [if_pos c16] at H
                have c16b0 : (t227 == 63) = true := beq_iff_eq.mpr c16
                have c16b1 : (t227 != 63) = false := bne_eq_false_iff_eq.mpr c16
                clear c16
                obtain rfl := Option.some.inj H
                go_enter Try.func10, Try.ntmps10
                try go_wp2
                replace HB := Aside0.mk (below_drew1 HB.out)
                refine start_ (n := 8) (S := fun w' => True) (ds := []) #[false, false, false, false, false, false, false, false] (by kernel_rfl) rfl rfl trivial (fun hHeld => ?_); refine with_tabW grottolaw07_live.tab1 grottolaw07_live.bits1 (fun HT_ HW_ => ?_)
                generalize w.drew = w17 at HB hHeld ⊢
                refine join_ (σ := Value) 6 #[true, true, false, false, false, false, false, false] (fun s_ => [(11, .agg #[.int .u32 t175, .int .u32 t176, .int .u32 t177, .int .u32 t178, .int .u32 t179, .int .u32 t180, .int .u32 t181, .int .u32 t182]), (12, s_)]) (fun s_ w' => (Kd.R (Kd.int .u8) 5 w' w.heap.size (fun _ => True) s_ y183) ∧ (Below w.heap.size w w')) ?_ ?_
                rotate_left
                · intro hCont
                  refine two_ (i := 0) (j := 1) (Ni := some 11) (Nj := some 12) #[true, false, false, false, false, false, false, false] #[false, true, false, false, false, false, false, false] rfl rfl rfl rfl (two_of HT_.out (by kernel_rfl)) (by decide) (by decide) (fun K hK => ?_) (fun K hK => ?_)
                  · skip
                    refine goes_ Try.func22 (by kernel_rfl) rfl #[] (by rfl) rfl rfl (by (try simp only [List.map_toArray, List.map_cons, List.map_nil]); first | done | rfl | (simp only [List.length_drop, List.length_take]; rfl)) ?_
                    with_reducible refine (grottolaw07_small.calls  t175 t176 t177 t178 t179 t180 t181 t182 _ A1.out).mono ?_
                    rintro e w18 ⟨rfl, hb⟩
                    refine ⟨_, rfl, ?_⟩
                    replace HB := zbs HB hb
                    (try clear hb)
                    (try clear hb2)
                    (try clear hk)
                    (try clear hi)
                    refine hK.out _ _ trivial (fun hHeld => ?_)
                    clear hK K
                    refine norm_ (a' := ?_) ?_ ?_
                    rotate_left
                    · show Act.put _ (some 11) _ = _
                      simp only [Act.put, List.setIfInBounds_toArray, List.set_cons_zero, List.set_cons_succ, i64_w, i32_w]
                      rfl
                    refine one_ (i := 1) (N := some 12) #[true, true, false, false, false, false, false, false] rfl rfl (one_of HT_.out (by kernel_rfl)) (by decide) (fun K hK => ?_)
                    refine Kd.R_make_step (Kd.int .u8) _ 5 (by rfl) (N := 12) rfl 22 _ _ rfl 220 rfl rfl Try.underlying22 (.int .u8 0) 1 info5 rfl (by decide) (by omega) 0 (ok := fun _ => True) (okp := fun _ => True) rfl (fun _ hk => hk) trivial (by omega) (by omega) (Below.refl _ _) (Nat.le_refl _) ?_
                    intro v184 w19 ho20 hb hg_ hnew_
                    clear hg_ hnew_
                    (first | rw [← Ny183.out] at ho20 | (simp only [Int.reduceToNat] at ho20; rw [← Ny183.out] at ho20))
                    have HO185 := Aside0.mk (Kd.R_lower ho20 (below_size (zb HB)))
                    replace HB := zbs HB hb
                    clear hb ho20
                    refine hK.out _ _ trivial (fun hHeld => ?_)
                    clear hK K
                    refine norm_ (a' := ?_) ?_ ?_
                    rotate_left
                    · show Act.put _ (some 12) _ = _
                      simp only [Act.put, List.setIfInBounds_toArray, List.set_cons_zero, List.set_cons_succ, i64_w, i32_w]
                      rfl
                    exact norm_ (by simp only [putAll, Act.put, List.setIfInBounds_toArray, List.set_cons_zero, List.set_cons_succ]) (hCont (v184) _ ⟨(by (with_reducible repeat (first | apply Kd.R_alloc | apply Kd.R_drewN | apply Kd.R_drew)); exact HO185.out), (zb HB)⟩)
                  · skip
                    refine Kd.R_make_step (Kd.int .u8) _ 5 (by rfl) (N := 12) rfl 22 _ _ rfl 220 rfl rfl Try.underlying22 (.int .u8 0) 1 info5 rfl (by decide) (by omega) 0 (ok := fun _ => True) (okp := fun _ => True) rfl (fun _ hk => hk) trivial (by omega) (by omega) (Below.refl _ _) (Nat.le_refl _) ?_
                    intro v184 w18 ho19 hb hg_ hnew_
                    clear hg_ hnew_
                    (first | rw [← Ny183.out] at ho19 | (simp only [Int.reduceToNat] at ho19; rw [← Ny183.out] at ho19))
                    have HO185 := Aside0.mk (Kd.R_lower ho19 (below_size (zb HB)))
                    replace HB := zbs HB hb
                    clear hb ho19
                    refine hK.out _ _ trivial (fun hHeld => ?_)
                    clear hK K
                    refine norm_ (a' := ?_) ?_ ?_
                    rotate_left
                    · show Act.put _ (some 12) _ = _
                      simp only [Act.put, List.setIfInBounds_toArray, List.set_cons_zero, List.set_cons_succ, i64_w, i32_w]
                      rfl
                    refine one_ (i := 0) (N := some 11) #[true, true, false, false, false, false, false, false] rfl rfl (one_of HT_.out (by kernel_rfl)) (by decide) (fun K hK => ?_)
                    refine goes_ Try.func22 (by kernel_rfl) rfl #[] (by rfl) rfl rfl (by (try simp only [List.map_toArray, List.map_cons, List.map_nil]); first | done | rfl | (simp only [List.length_drop, List.length_take]; rfl)) ?_
                    with_reducible refine (grottolaw07_small.calls  t175 t176 t177 t178 t179 t180 t181 t182 _ A1.out).mono ?_
                    rintro e w20 ⟨rfl, hb⟩
                    refine ⟨_, rfl, ?_⟩
                    replace HO185 := Aside0.mk (Kd.R_below (by (with_reducible repeat (first | apply Kd.R_alloc | apply Kd.R_drewN | apply Kd.R_drew)); exact HO185.out) hb)
                    replace HB := zbs HB hb
                    (try clear hb)
                    (try clear hb2)
                    (try clear hk)
                    (try clear hi)
                    refine hK.out _ _ trivial (fun hHeld => ?_)
                    clear hK K
                    refine norm_ (a' := ?_) ?_ ?_
                    rotate_left
                    · show Act.put _ (some 11) _ = _
                      simp only [Act.put, List.setIfInBounds_toArray, List.set_cons_zero, List.set_cons_succ, i64_w, i32_w]
                      rfl
                    exact norm_ (by simp only [putAll, Act.put, List.setIfInBounds_toArray, List.set_cons_zero, List.set_cons_succ]) (hCont (v184) _ ⟨(by (with_reducible repeat (first | apply Kd.R_alloc | apply Kd.R_drewN | apply Kd.R_drew)); exact HO185.out), (zb HB)⟩)
                rintro v184 w21 ⟨h0_, h1_⟩
                have n0_ : Aside0 (Kd.R (Kd.int .u8) 5 w21 w.heap.size (fun _ => True) v184 y183) := ⟨h0_⟩
                have n1_ : Aside0 (Below w.heap.size w w21) := ⟨h1_⟩
                clear HB
                clear h0_ h1_
                have HO185 := n0_
                have HB := n1_
                clear n0_ n1_
                have hHeld := trivial
                obtain ⟨Ao22, co22, eo22⟩ := Kd.R_slice HO185.out
                (first | subst eo22 | (injection eo22 with f1_ f2_ f3_; have f4_ := f1_.symm; have f5_ := f3_.symm; clear f1_ f2_ f3_; subst f4_; subst f5_))
                refine norm_ (a' := ?_) ?_ ?_
                rotate_left
                · simp only [putAll, Act.put, List.setIfInBounds_toArray, List.set_cons_zero, List.set_cons_succ]
                  rfl
                refine one_ (i := 2) (N := some 13) #[true, true, true, false, false, false, false, false] rfl rfl (one_of HT_.out (by kernel_rfl)) (by decide) (fun K hK => ?_)
                refine goes_ Try.func18 (by kernel_rfl) rfl #[.agg #[.int .u32 t175, .int .u32 t176, .int .u32 t177, .int .u32 t178, .int .u32 t179, .int .u32 t180, .int .u32 t181, .int .u32 t182], .slice Ao22 y183.length co22] (by rfl) rfl rfl (by (try simp only [List.map_toArray, List.map_cons, List.map_nil]); first | done | rfl | (simp only [List.length_drop, List.length_take]; rfl)) ?_
                with_reducible refine (header_Make.calls k t175 t176 t177 t178 t179 t180 t181 t182 _ _ y183 t186 t189 _ ?side1 ?side2 A3.out).mono ?_
                (case side1 => repeat (first | exact (Kd.R_reads' HO185.out).2.2 | (with_reducible refine Kd.C_alloc ?_ _) | (with_reducible refine Kd.C_drewN ?_ _) | (with_reducible refine Kd.C_drew ?_)))
                (case side2 => exact (Kd.R_reads' HO185.out).2.1)
                rintro e w23 ⟨v187, rfl, ho0, hb⟩
                refine ⟨_, rfl, ?_⟩
                have HO188 := Aside0.mk (Kd.R_lower (Kd.R_new' ho0 (Kd.R_lt (by (with_reducible repeat (first | apply Kd.R_alloc | apply Kd.R_drewN | apply Kd.R_drew)); exact HO185.out))) (below_size (zb HB)))
                replace HO185 := Aside0.mk (Kd.R_elder' (by (with_reducible repeat (first | apply Kd.R_alloc | apply Kd.R_drewN | apply Kd.R_drew)); exact HO185.out) (Kd.R_base ho0) hb)
                replace HB := zbs HB hb
                (try clear hb)
                (try clear hb2)
                (try clear hk)
                (try clear hi)
                (try clear ho0)
                refine hK.out _ _ trivial (fun hHeld => ?_)
                clear hK K
                refine norm_ (a' := ?_) ?_ ?_
                rotate_left
                · show Act.put _ (some 13) _ = _
                  simp only [Act.put, List.setIfInBounds_toArray, List.set_cons_zero, List.set_cons_succ, i64_w, i32_w]
                  rfl
                refine zpure_ (i := 3) (N := some 10) #[true, true, true, true, false, false, false, false] (any_of HT_.out (by kernel_rfl)) ?_
                refine zpure_ (i := 4) (N := some 14) #[true, true, true, true, true, false, false, false] (any_of HT_.out (by kernel_rfl)) ?_
                refine zpure_ (i := 5) (N := some 15) #[true, true, true, true, true, true, false, false] (any_of HT_.out (by kernel_rfl)) ?_
                refine zpure_ (i := 6) (N := some 1) #[true, true, true, true, true, true, true, false] (any_of HT_.out (by kernel_rfl)) ?_
                refine zpure_ (i := 7) (N := some 2) #[true, true, true, true, true, true, true, true] (any_of HT_.out (by kernel_rfl)) ?_
                refine done_ (done_of HT_.out (by kernel_rfl)) ?_
                obtain ⟨Ao24, co24, eo24⟩ := Kd.R_slice HO188.out
                subst eo24
                go_wp2_with (first | ((with_reducible refine gate_callee (f := 12) rfl ?_); refine zgo (some 18) Try.func12 #[.slice Ao24 t186.length co24] ?_; (with_reducible refine (header_Parse.calls k _ _ t186 t190 t191 t192 t193 t194 t195 t196 t197 t198 t199 _ (Kd.R_reads' HO188.out).2.2 (Kd.R_reads' HO188.out).2.1 A4.out).mono ?_); rintro e w25 ⟨rfl, hb⟩; refine ⟨_, rfl, ?_⟩; replace HO188 := Aside0.mk (Kd.R_below (by (with_reducible repeat (first | apply Kd.R_alloc | apply Kd.R_drewN | apply Kd.R_drew)); exact HO188.out) hb); replace HB := zbs HB hb; clear hb) | ((with_reducible refine gate_dst (N := 3) rfl ?_); (try (refine gate_guard (by rfl) ?_; dsimp only)); refine zbox (N := 3) (cs := #[.int .u32 0, .int .u32 0, .int .u32 0, .int .u32 0, .int .u32 0, .int .u32 0, .int .u32 0, .int .u32 0]) (t := 27) ?_; intro gb200 hg w26 hbox hb; have BK200 := Aside0.mk hbox; have GE200 := zge hg HB; replace HO188 := Aside0.mk (Kd.R_below (by (with_reducible repeat (first | apply Kd.R_alloc | apply Kd.R_drewN | apply Kd.R_drew)); exact HO188.out) hb); replace HB := zbs HB hb; clear hb hbox hg) | ((with_reducible refine gate_ (.store 27 (.tmp 3) (.tmp 19)) rfl ?_); refine store_blk (cs := #[.int .u32 0, .int .u32 0, .int .u32 0, .int .u32 0, .int .u32 0, .int .u32 0, .int .u32 0, .int .u32 0]) (cs' := #[.int .u32 t190, .int .u32 t191, .int .u32 t192, .int .u32 t193, .int .u32 t194, .int .u32 t195, .int .u32 t196, .int .u32 t197]) rfl rfl 27 (.tmp 3) (.tmp 19) rfl rfl rfl ?hh ?hsz size27 ?h1 ?_; (case hh => first | exact BK200.out | exact zkp BK200); (case hsz => rfl); (case h1 => intro q_ hq_; simp only [List.mem_cons, List.not_mem_nil, or_false] at hq_; rcases hq_ with rfl | rfl | rfl | rfl | rfl | rfl | rfl | rfl <;> rfl); intro w27 hh hgr; replace HO188 := Aside0.mk (r_store (by (with_reducible repeat (first | apply Kd.R_alloc | apply Kd.R_drewN | apply Kd.R_drew)); exact HO188.out) (by first | exact BK200.out | exact zkp BK200) (by decide) hgr); replace HB := Aside0.mk ((zb HB).grown hgr (below_size (zb HB)) (fun k_ hk_ => by injection hk_ with hk_; subst hk_; exact GE200.out)); clear BK200; have BK200 := Aside0.mk hh; clear hh hgr) | ((with_reducible refine gate_callee (f := 22) rfl ?_); refine zgo (some 22) Try.func22 #[] ?_; (with_reducible refine (grottolaw07_small.calls  t201 t202 t203 t204 t205 t206 t207 t208 _ A5.out).mono ?_); rintro e w28 ⟨rfl, hb⟩; refine ⟨_, rfl, ?_⟩; replace HO188 := Aside0.mk (Kd.R_below (by (with_reducible repeat (first | apply Kd.R_alloc | apply Kd.R_drewN | apply Kd.R_drew)); exact HO188.out) hb); replace BK200 := zkb BK200 hb; replace HB := zbs HB hb; clear hb) | ((with_reducible refine gate_dst (N := 6) rfl ?_); (try (refine gate_guard (by rfl) ?_; dsimp only)); refine zbox (N := 6) (cs := #[.int .u32 0, .int .u32 0, .int .u32 0, .int .u32 0, .int .u32 0, .int .u32 0, .int .u32 0, .int .u32 0]) (t := 27) ?_; intro gb209 hg w29 hbox hb; have BK209 := Aside0.mk hbox; have GE209 := zge hg HB; have NB1 := znl hg BK200; replace HO188 := Aside0.mk (Kd.R_below (by (with_reducible repeat (first | apply Kd.R_alloc | apply Kd.R_drewN | apply Kd.R_drew)); exact HO188.out) hb); replace BK200 := zkb BK200 hb; replace HB := zbs HB hb; clear hb hbox hg) | ((with_reducible refine gate_ (.store 27 (.tmp 6) (.tmp 22)) rfl ?_); refine store_blk (cs := #[.int .u32 0, .int .u32 0, .int .u32 0, .int .u32 0, .int .u32 0, .int .u32 0, .int .u32 0, .int .u32 0]) (cs' := #[.int .u32 t201, .int .u32 t202, .int .u32 t203, .int .u32 t204, .int .u32 t205, .int .u32 t206, .int .u32 t207, .int .u32 t208]) rfl rfl 27 (.tmp 6) (.tmp 22) rfl rfl rfl ?hh ?hsz size27 ?h1 ?_; (case hh => first | exact BK209.out | exact zkp BK209); (case hsz => rfl); (case h1 => intro q_ hq_; simp only [List.mem_cons, List.not_mem_nil, or_false] at hq_; rcases hq_ with rfl | rfl | rfl | rfl | rfl | rfl | rfl | rfl <;> rfl); intro w30 hh hgr; replace HO188 := Aside0.mk (r_store (by (with_reducible repeat (first | apply Kd.R_alloc | apply Kd.R_drewN | apply Kd.R_drew)); exact HO188.out) (by first | exact BK209.out | exact zkp BK209) (by decide) hgr); replace BK200 := Aside0.mk (blk_grown (by first | exact BK200.out | exact zkp BK200) hgr (fun e_ => NB1.out (by injection e_))); replace HB := Aside0.mk ((zb HB).grown hgr (below_size (zb HB)) (fun k_ hk_ => by injection hk_ with hk_; subst hk_; exact GE209.out)); clear BK209; have BK209 := Aside0.mk hh; clear hh hgr) | ((with_reducible refine gate_ (.store 25 (.tmp 23) (.const (.int .u32 1198488467))) rfl ?_); refine store_cell (cs := #[.int .u32 t201, .int .u32 t202, .int .u32 t203, .int .u32 t204, .int .u32 t205, .int .u32 t206, .int .u32 t207, .int .u32 t208]) rfl rfl 25 27 (.tmp 23) (.const (.int .u32 1198488467)) rfl (j := 7) rfl rfl ?hh ?hsz (infoS info25) ?_; (case hh => first | exact BK209.out | exact zkp BK209); (case hsz => exact (by decide : (7 : Nat) < 8)); intro w31 hh hgr; replace HO188 := Aside0.mk (r_store (by (with_reducible repeat (first | apply Kd.R_alloc | apply Kd.R_drewN | apply Kd.R_drew)); exact HO188.out) (by first | exact BK209.out | exact zkp BK209) (by decide) hgr); replace BK200 := Aside0.mk (blk_grown (by first | exact BK200.out | exact zkp BK200) hgr (fun e_ => NB1.out (by injection e_))); replace HB := Aside0.mk ((zb HB).grown hgr (below_size (zb HB)) (fun k_ hk_ => by injection hk_ with hk_; subst hk_; exact GE209.out)); clear BK209; have BK209 : Aside0 (w31.heap[gb209]? = some (.cells #[.int .u32 t201, .int .u32 t202, .int .u32 t203, .int .u32 t204, .int .u32 t205, .int .u32 t206, .int .u32 t207, .int .u32 1198488467] 27 (0, 0))) := ⟨hh⟩; clear hh hgr) | ((with_reducible refine gate_dst (N := 25) rfl ?_); (try (refine gate_guard (by rfl) ?_; dsimp only)); refine lit_mark (N := 25) (N2 := 26) (n := 4) (xs := [71, 108, 117, 120]) rfl rfl ?hr rfl rfl rfl rfl Try.underlying22 Try.underlying5 rfl rfl (by decide) ?_; (case hr => first | (go_simp; done) | (go_simp; rfl)); intro g212 w32 hc hb; rw [← Ny210.out] at hc; have HC212 := Aside0.mk hc; replace HO188 := Aside0.mk (Kd.R_below (by (with_reducible repeat (first | apply Kd.R_alloc | apply Kd.R_drewN | apply Kd.R_drew)); exact HO188.out) hb); replace BK200 := zkb BK200 hb; replace BK209 := zkb BK209 hb; replace HB := zbs HB hb; clear hb hc) | ((with_reducible refine gate_callee (f := 12) rfl ?_); refine zgo (some 27) Try.func12 #[.slice (some ⟨g212, 0, none⟩) 4 4] ?_; (with_reducible refine (header_Parse.calls_n k _ _ 4 y210 t213 t214 t215 t216 t217 t218 t219 t220 t221 t222 _ (len4 Ny210.out) HC212.out (Nat.le_refl _) A6.out).mono ?_); rintro e w35 ⟨rfl, hb⟩; refine ⟨_, rfl, ?_⟩; replace HO188 := Aside0.mk (Kd.R_below (by (with_reducible repeat (first | apply Kd.R_alloc | apply Kd.R_drewN | apply Kd.R_drew)); exact HO188.out) hb); replace BK200 := zkb BK200 hb; replace BK209 := zkb BK209 hb; replace HB := zbs HB hb; clear hb) | ((with_reducible refine gate_dst (N := 7) rfl ?_); (try (refine gate_guard (by rfl) ?_; dsimp only)); refine zbox (N := 7) (cs := #[.int .u32 0, .int .u32 0, .int .u32 0, .int .u32 0, .int .u32 0, .int .u32 0, .int .u32 0, .int .u32 0]) (t := 27) ?_; intro gb223 hg w36 hbox hb; have BK223 := Aside0.mk hbox; have GE223 := zge hg HB; have NB2 := znl hg BK200; have NB3 := znl hg BK209; replace HO188 := Aside0.mk (Kd.R_below (by (with_reducible repeat (first | apply Kd.R_alloc | apply Kd.R_drewN | apply Kd.R_drew)); exact HO188.out) hb); replace BK200 := zkb BK200 hb; replace BK209 := zkb BK209 hb; replace HB := zbs HB hb; clear hb hbox hg) | ((with_reducible refine gate_ (.store 27 (.tmp 7) (.tmp 28)) rfl ?_); refine store_blk (cs := #[.int .u32 0, .int .u32 0, .int .u32 0, .int .u32 0, .int .u32 0, .int .u32 0, .int .u32 0, .int .u32 0]) (cs' := #[.int .u32 t213, .int .u32 t214, .int .u32 t215, .int .u32 t216, .int .u32 t217, .int .u32 t218, .int .u32 t219, .int .u32 t220]) rfl rfl 27 (.tmp 7) (.tmp 28) rfl rfl rfl ?hh ?hsz size27 ?h1 ?_; (case hh => first | exact BK223.out | exact zkp BK223); (case hsz => rfl); (case h1 => intro q_ hq_; simp only [List.mem_cons, List.not_mem_nil, or_false] at hq_; rcases hq_ with rfl | rfl | rfl | rfl | rfl | rfl | rfl | rfl <;> rfl); intro w40 hh hgr; replace HO188 := Aside0.mk (r_store (by (with_reducible repeat (first | apply Kd.R_alloc | apply Kd.R_drewN | apply Kd.R_drew)); exact HO188.out) (by first | exact BK223.out | exact zkp BK223) (by decide) hgr); replace BK200 := Aside0.mk (blk_grown (by first | exact BK200.out | exact zkp BK200) hgr (fun e_ => NB2.out (by injection e_))); replace BK209 := Aside0.mk (blk_grown (by first | exact BK209.out | exact zkp BK209) hgr (fun e_ => NB3.out (by injection e_))); replace HB := Aside0.mk ((zb HB).grown hgr (below_size (zb HB)) (fun k_ hk_ => by injection hk_ with hk_; subst hk_; exact GE223.out)); clear BK223 hh hgr))
                replace HO188 := Aside0.mk (Kd.R_drew HO188.out)
                replace BK200 := Aside0.mk (blk_drew BK200.out)
                replace BK209 := Aside0.mk (blk_drew BK209.out)
                replace HB := Aside0.mk (below_drew1 HB.out)
                refine start_ (n := 37) (S := fun w' => w'.cell? ⟨gb200, 0, none⟩ = some (.int .u32 t190) ∧ w'.cell? ⟨gb200, 1, none⟩ = some (.int .u32 t191) ∧ w'.cell? ⟨gb200, 2, none⟩ = some (.int .u32 t192) ∧ w'.cell? ⟨gb200, 3, none⟩ = some (.int .u32 t193) ∧ w'.cell? ⟨gb200, 4, none⟩ = some (.int .u32 t194) ∧ w'.cell? ⟨gb200, 5, none⟩ = some (.int .u32 t195) ∧ w'.cell? ⟨gb200, 6, none⟩ = some (.int .u32 t196) ∧ w'.cell? ⟨gb200, 7, none⟩ = some (.int .u32 t197) ∧ w'.cell? ⟨gb209, 0, none⟩ = some (.int .u32 t201) ∧ w'.cell? ⟨gb209, 1, none⟩ = some (.int .u32 t202) ∧ w'.cell? ⟨gb209, 2, none⟩ = some (.int .u32 t203) ∧ w'.cell? ⟨gb209, 3, none⟩ = some (.int .u32 t204) ∧ w'.cell? ⟨gb209, 4, none⟩ = some (.int .u32 t205) ∧ w'.cell? ⟨gb209, 5, none⟩ = some (.int .u32 t206) ∧ w'.cell? ⟨gb209, 6, none⟩ = some (.int .u32 t207) ∧ w'.cell? ⟨gb209, 7, none⟩ = some (.int .u32 1198488467)) (ds := []) #[false, false, false, false, false, false, false, false, false, false, false, false, false, false, false, false, false, false, false, false, false, false, false, false, false, false, false, false, false, false, false, false, false, false, false, false, false] (by kernel_rfl) rfl rfl ⟨(blk_cell BK200.out 0).trans rfl, (blk_cell BK200.out 1).trans rfl, (blk_cell BK200.out 2).trans rfl, (blk_cell BK200.out 3).trans rfl, (blk_cell BK200.out 4).trans rfl, (blk_cell BK200.out 5).trans rfl, (blk_cell BK200.out 6).trans rfl, (blk_cell BK200.out 7).trans rfl, (blk_cell BK209.out 0).trans rfl, (blk_cell BK209.out 1).trans rfl, (blk_cell BK209.out 2).trans rfl, (blk_cell BK209.out 3).trans rfl, (blk_cell BK209.out 4).trans rfl, (blk_cell BK209.out 5).trans rfl, (blk_cell BK209.out 6).trans rfl, (blk_cell BK209.out 7).trans rfl⟩ (fun hHeld => ?_); refine with_tabW grottolaw07_live.tab6 grottolaw07_live.bits6 (fun HT_ HW_ => ?_)
                generalize w40.drew = w41 at HO188 BK200 BK209 HB hHeld ⊢
                refine zpure_ (i := 0) (N := some 31) #[true, false, false, false, false, false, false, false, false, false, false, false, false, false, false, false, false, false, false, false, false, false, false, false, false, false, false, false, false, false, false, false, false, false, false, false, false] (any_of HT_.out (by kernel_rfl)) ?_
                refine zpure_ (i := 2) (N := some 33) #[true, false, true, false, false, false, false, false, false, false, false, false, false, false, false, false, false, false, false, false, false, false, false, false, false, false, false, false, false, false, false, false, false, false, false, false, false] (any_of HT_.out (by kernel_rfl)) ?_
                refine one_ (i := 1) (N := some 32) #[true, true, true, false, false, false, false, false, false, false, false, false, false, false, false, false, false, false, false, false, false, false, false, false, false, false, false, false, false, false, false, false, false, false, false, false, false] rfl rfl (one_of HT_.out (by kernel_rfl)) (by decide) (fun K hK => ?_)
                refine goes_ Try.func14 (by kernel_rfl) rfl #[.int .i64 t189] (by rfl) rfl rfl (by (try simp only [List.map_toArray, List.map_cons, List.map_nil]); first | done | rfl | (simp only [List.length_drop, List.length_take]; rfl)) ?_
                with_reducible refine (grottolaw07_num.calls t189 t224 _ A7.out).mono ?_
                rintro e w' ⟨rfl, ⟨nd, rfl⟩⟩
                refine ⟨_, rfl, ?_⟩
                refine hK.out _ _ ⟨(blk_cell BK200.out 0).trans rfl, (blk_cell BK200.out 1).trans rfl, (blk_cell BK200.out 2).trans rfl, (blk_cell BK200.out 3).trans rfl, (blk_cell BK200.out 4).trans rfl, (blk_cell BK200.out 5).trans rfl, (blk_cell BK200.out 6).trans rfl, (blk_cell BK200.out 7).trans rfl, (blk_cell BK209.out 0).trans rfl, (blk_cell BK209.out 1).trans rfl, (blk_cell BK209.out 2).trans rfl, (blk_cell BK209.out 3).trans rfl, (blk_cell BK209.out 4).trans rfl, (blk_cell BK209.out 5).trans rfl, (blk_cell BK209.out 6).trans rfl, (blk_cell BK209.out 7).trans rfl⟩ (fun hHeld => ?_)
                clear hK K
                refine norm_ (a' := ?_) ?_ ?_
                rotate_left
                · show Act.put _ (some 32) _ = _
                  simp only [Act.put, List.setIfInBounds_toArray, List.set_cons_zero, List.set_cons_succ, i64_w, i32_w]
                  rfl
                refine one_ (i := 3) (N := some 34) #[true, true, true, true, false, false, false, false, false, false, false, false, false, false, false, false, false, false, false, false, false, false, false, false, false, false, false, false, false, false, false, false, false, false, false, false, false] rfl rfl (one_of HT_.out (by kernel_rfl)) (by decide) (fun K hK => ?_)
                refine goes_ Try.func14 (by kernel_rfl) rfl #[.int .i64 t198] (by rfl) rfl rfl (by (try simp only [List.map_toArray, List.map_cons, List.map_nil]); first | done | rfl | (simp only [List.length_drop, List.length_take]; rfl)) ?_
                with_reducible refine (grottolaw07_num.calls t198 t225 _ A8.out).mono ?_
                rintro e w' ⟨rfl, ⟨nd, rfl⟩⟩
                refine ⟨_, rfl, ?_⟩
                refine hK.out _ _ ⟨(blk_cell BK200.out 0).trans rfl, (blk_cell BK200.out 1).trans rfl, (blk_cell BK200.out 2).trans rfl, (blk_cell BK200.out 3).trans rfl, (blk_cell BK200.out 4).trans rfl, (blk_cell BK200.out 5).trans rfl, (blk_cell BK200.out 6).trans rfl, (blk_cell BK200.out 7).trans rfl, (blk_cell BK209.out 0).trans rfl, (blk_cell BK209.out 1).trans rfl, (blk_cell BK209.out 2).trans rfl, (blk_cell BK209.out 3).trans rfl, (blk_cell BK209.out 4).trans rfl, (blk_cell BK209.out 5).trans rfl, (blk_cell BK209.out 6).trans rfl, (blk_cell BK209.out 7).trans rfl⟩ (fun hHeld => ?_)
                clear hK K
                refine norm_ (a' := ?_) ?_ ?_
                rotate_left
                · show Act.put _ (some 34) _ = _
                  simp only [Act.put, List.setIfInBounds_toArray, List.set_cons_zero, List.set_cons_succ, i64_w, i32_w]
                  rfl
                refine zpure_ (i := 4) (N := some 35) #[true, true, true, true, true, false, false, false, false, false, false, false, false, false, false, false, false, false, false, false, false, false, false, false, false, false, false, false, false, false, false, false, false, false, false, false, false] (any_of HT_.out (by kernel_rfl)) ?_
                refine zpure_ (i := 5) (N := some 36) #[true, true, true, true, true, true, false, false, false, false, false, false, false, false, false, false, false, false, false, false, false, false, false, false, false, false, false, false, false, false, false, false, false, false, false, false, false] (any_of HT_.out (by kernel_rfl)) ?_
                refine zpure_ (i := 6) (N := some 37) #[true, true, true, true, true, true, true, false, false, false, false, false, false, false, false, false, false, false, false, false, false, false, false, false, false, false, false, false, false, false, false, false, false, false, false, false, false] (any_of HT_.out (by kernel_rfl)) ?_
                refine zpure_ (i := 7) (N := some 38) #[true, true, true, true, true, true, true, true, false, false, false, false, false, false, false, false, false, false, false, false, false, false, false, false, false, false, false, false, false, false, false, false, false, false, false, false, false] (any_of HT_.out (by kernel_rfl)) ?_
                refine zpure_ (i := 8) (N := some 39) #[true, true, true, true, true, true, true, true, true, false, false, false, false, false, false, false, false, false, false, false, false, false, false, false, false, false, false, false, false, false, false, false, false, false, false, false, false] (any_of HT_.out (by kernel_rfl)) ?_
                refine zpure_ (i := 9) (N := some 40) #[true, true, true, true, true, true, true, true, true, true, false, false, false, false, false, false, false, false, false, false, false, false, false, false, false, false, false, false, false, false, false, false, false, false, false, false, false] (any_of HT_.out (by kernel_rfl)) ?_
                refine zpure_ (i := 10) (N := some 41) #[true, true, true, true, true, true, true, true, true, true, true, false, false, false, false, false, false, false, false, false, false, false, false, false, false, false, false, false, false, false, false, false, false, false, false, false, false] (any_of HT_.out (by kernel_rfl)) ?_
                refine zpure_ (i := 11) (N := some 42) #[true, true, true, true, true, true, true, true, true, true, true, true, false, false, false, false, false, false, false, false, false, false, false, false, false, false, false, false, false, false, false, false, false, false, false, false, false] (any_of HT_.out (by kernel_rfl)) ?_
                refine ztake_ (i := 12) (N := some 43) #[true, true, true, true, true, true, true, true, true, true, true, true, true, false, false, false, false, false, false, false, false, false, false, false, false, false, false, false, false, false, false, false, false, false, false, false, false] rfl (take_ofW HT_.out HW_.out (by kernel_rfl)) hHeld (Or.inl ⟨by rfl, by rintro w' ⟨s0, s1, s2, s3, s4, s5, s6, s7, s8, s9, s10, s11, s12, s13, s14, s15⟩; go_simp; with_reducible rfl⟩) ?_
                refine ztake_ (i := 13) (N := some 44) #[true, true, true, true, true, true, true, true, true, true, true, true, true, true, false, false, false, false, false, false, false, false, false, false, false, false, false, false, false, false, false, false, false, false, false, false, false] rfl (take_ofW HT_.out HW_.out (by kernel_rfl)) hHeld (Or.inl ⟨by rfl, by rintro w' ⟨s0, s1, s2, s3, s4, s5, s6, s7, s8, s9, s10, s11, s12, s13, s14, s15⟩; go_simp; with_reducible rfl⟩) ?_
                refine zpure_ (i := 14) (N := some 45) #[true, true, true, true, true, true, true, true, true, true, true, true, true, true, true, false, false, false, false, false, false, false, false, false, false, false, false, false, false, false, false, false, false, false, false, false, false] (any_of HT_.out (by kernel_rfl)) ?_
                refine zpure_ (i := 15) (N := some 46) #[true, true, true, true, true, true, true, true, true, true, true, true, true, true, true, true, false, false, false, false, false, false, false, false, false, false, false, false, false, false, false, false, false, false, false, false, false] (any_of HT_.out (by kernel_rfl)) ?_
                refine zpure_ (i := 16) (N := some 47) #[true, true, true, true, true, true, true, true, true, true, true, true, true, true, true, true, true, false, false, false, false, false, false, false, false, false, false, false, false, false, false, false, false, false, false, false, false] (any_of HT_.out (by kernel_rfl)) ?_
                refine zpure_ (i := 17) (N := some 48) #[true, true, true, true, true, true, true, true, true, true, true, true, true, true, true, true, true, true, false, false, false, false, false, false, false, false, false, false, false, false, false, false, false, false, false, false, false] (any_of HT_.out (by kernel_rfl)) ?_
                refine zpure_ (i := 18) (N := some 49) #[true, true, true, true, true, true, true, true, true, true, true, true, true, true, true, true, true, true, true, false, false, false, false, false, false, false, false, false, false, false, false, false, false, false, false, false, false] (any_of HT_.out (by kernel_rfl)) ?_
                refine zpure_ (i := 19) (N := some 50) #[true, true, true, true, true, true, true, true, true, true, true, true, true, true, true, true, true, true, true, true, false, false, false, false, false, false, false, false, false, false, false, false, false, false, false, false, false] (any_of HT_.out (by kernel_rfl)) ?_
                refine zpure_ (i := 20) (N := some 51) #[true, true, true, true, true, true, true, true, true, true, true, true, true, true, true, true, true, true, true, true, true, false, false, false, false, false, false, false, false, false, false, false, false, false, false, false, false] (any_of HT_.out (by kernel_rfl)) ?_
                refine zpure_ (i := 21) (N := some 52) #[true, true, true, true, true, true, true, true, true, true, true, true, true, true, true, true, true, true, true, true, true, true, false, false, false, false, false, false, false, false, false, false, false, false, false, false, false] (any_of HT_.out (by kernel_rfl)) ?_
                refine zpure_ (i := 23) (N := some 54) #[true, true, true, true, true, true, true, true, true, true, true, true, true, true, true, true, true, true, true, true, true, true, false, true, false, false, false, false, false, false, false, false, false, false, false, false, false] (any_of HT_.out (by kernel_rfl)) ?_
                refine ztake_ (i := 24) (N := some 55) #[true, true, true, true, true, true, true, true, true, true, true, true, true, true, true, true, true, true, true, true, true, true, false, true, true, false, false, false, false, false, false, false, false, false, false, false, false] rfl (take_ofW HT_.out HW_.out (by kernel_rfl)) hHeld (Or.inl ⟨by rfl, by rintro w' ⟨s0, s1, s2, s3, s4, s5, s6, s7, s8, s9, s10, s11, s12, s13, s14, s15⟩; go_simp; with_reducible rfl⟩) ?_
                refine one_ (i := 22) (N := some 53) #[true, true, true, true, true, true, true, true, true, true, true, true, true, true, true, true, true, true, true, true, true, true, true, true, true, false, false, false, false, false, false, false, false, false, false, false, false] rfl rfl (one_of HT_.out (by kernel_rfl)) (by decide) (fun K hK => ?_)
                refine goes_ Try.func16 (by kernel_rfl) rfl #[.slice Ao24 t186.length co24] (by rfl) rfl rfl (by (try simp only [List.map_toArray, List.map_cons, List.map_nil]); first | done | rfl | (simp only [List.length_drop, List.length_take]; rfl)) ?_
                with_reducible refine (header_Sum.calls k _ _ t186 t226 _ ?side1 ?side2 A13.out).mono ?_
                (case side1 => repeat (first | exact (Kd.R_reads' HO188.out).2.2 | (with_reducible refine Kd.C_alloc ?_ _) | (with_reducible refine Kd.C_drewN ?_ _) | (with_reducible refine Kd.C_drew ?_)))
                (case side2 => exact (Kd.R_reads' HO188.out).2.1)
                rintro e w' ⟨rfl, ⟨nd, rfl⟩⟩
                refine ⟨_, rfl, ?_⟩
                refine hK.out _ _ ⟨(blk_cell BK200.out 0).trans rfl, (blk_cell BK200.out 1).trans rfl, (blk_cell BK200.out 2).trans rfl, (blk_cell BK200.out 3).trans rfl, (blk_cell BK200.out 4).trans rfl, (blk_cell BK200.out 5).trans rfl, (blk_cell BK200.out 6).trans rfl, (blk_cell BK200.out 7).trans rfl, (blk_cell BK209.out 0).trans rfl, (blk_cell BK209.out 1).trans rfl, (blk_cell BK209.out 2).trans rfl, (blk_cell BK209.out 3).trans rfl, (blk_cell BK209.out 4).trans rfl, (blk_cell BK209.out 5).trans rfl, (blk_cell BK209.out 6).trans rfl, (blk_cell BK209.out 7).trans rfl⟩ (fun hHeld => ?_)
                clear hK K
                refine norm_ (a' := ?_) ?_ ?_
                rotate_left
                · show Act.put _ (some 53) _ = _
                  simp only [Act.put, List.setIfInBounds_toArray, List.set_cons_zero, List.set_cons_succ, i64_w, i32_w]
                  rfl
                refine zpure_ (i := 25) (N := some 56) #[true, true, true, true, true, true, true, true, true, true, true, true, true, true, true, true, true, true, true, true, true, true, true, true, true, true, false, false, false, false, false, false, false, false, false, false, false] (any_of HT_.out (by kernel_rfl)) ?_
                refine zpure_ (i := 26) (N := some 57) #[true, true, true, true, true, true, true, true, true, true, true, true, true, true, true, true, true, true, true, true, true, true, true, true, true, true, true, false, false, false, false, false, false, false, false, false, false] (any_of HT_.out (by kernel_rfl)) ?_
                refine zpure_ (i := 27) (N := some 58) #[true, true, true, true, true, true, true, true, true, true, true, true, true, true, true, true, true, true, true, true, true, true, true, true, true, true, true, true, false, false, false, false, false, false, false, false, false] (any_of HT_.out (by kernel_rfl)) ?_
                refine zpure_ (i := 28) (N := some 59) #[true, true, true, true, true, true, true, true, true, true, true, true, true, true, true, true, true, true, true, true, true, true, true, true, true, true, true, true, true, false, false, false, false, false, false, false, false] (any_of HT_.out (by kernel_rfl)) ?_
                refine one_ (i := 29) (N := some 60) #[true, true, true, true, true, true, true, true, true, true, true, true, true, true, true, true, true, true, true, true, true, true, true, true, true, true, true, true, true, true, false, false, false, false, false, false, false] rfl rfl (one_of HT_.out (by kernel_rfl)) (by decide) (fun K hK => ?_)
                refine goes_ Try.func14 (by kernel_rfl) rfl #[.int .i64 t221] (by rfl) rfl rfl (by (try simp only [List.map_toArray, List.map_cons, List.map_nil]); first | done | rfl | (simp only [List.length_drop, List.length_take]; rfl)) ?_
                with_reducible refine (grottolaw07_num.calls t221 t227 _ A15.out).mono ?_
                rintro e w' ⟨rfl, ⟨nd, rfl⟩⟩
                refine ⟨_, rfl, ?_⟩
                refine hK.out _ _ ⟨(blk_cell BK200.out 0).trans rfl, (blk_cell BK200.out 1).trans rfl, (blk_cell BK200.out 2).trans rfl, (blk_cell BK200.out 3).trans rfl, (blk_cell BK200.out 4).trans rfl, (blk_cell BK200.out 5).trans rfl, (blk_cell BK200.out 6).trans rfl, (blk_cell BK200.out 7).trans rfl, (blk_cell BK209.out 0).trans rfl, (blk_cell BK209.out 1).trans rfl, (blk_cell BK209.out 2).trans rfl, (blk_cell BK209.out 3).trans rfl, (blk_cell BK209.out 4).trans rfl, (blk_cell BK209.out 5).trans rfl, (blk_cell BK209.out 6).trans rfl, (blk_cell BK209.out 7).trans rfl⟩ (fun hHeld => ?_)
                clear hK K
                refine norm_ (a' := ?_) ?_ ?_
                rotate_left
                · show Act.put _ (some 60) _ = _
                  simp only [Act.put, List.setIfInBounds_toArray, List.set_cons_zero, List.set_cons_succ, i64_w, i32_w]
                  rfl
                refine zpure_ (i := 30) (N := some 61) #[true, true, true, true, true, true, true, true, true, true, true, true, true, true, true, true, true, true, true, true, true, true, true, true, true, true, true, true, true, true, true, false, false, false, false, false, false] (any_of HT_.out (by kernel_rfl)) ?_
                refine zpure_ (i := 31) (N := some 62) #[true, true, true, true, true, true, true, true, true, true, true, true, true, true, true, true, true, true, true, true, true, true, true, true, true, true, true, true, true, true, true, true, false, false, false, false, false] (any_of HT_.out (by kernel_rfl)) ?_
                refine zpure_ (i := 32) (N := some 63) #[true, true, true, true, true, true, true, true, true, true, true, true, true, true, true, true, true, true, true, true, true, true, true, true, true, true, true, true, true, true, true, true, true, false, false, false, false] (any_of HT_.out (by kernel_rfl)) ?_
                refine zpure_ (i := 33) (N := some 64) #[true, true, true, true, true, true, true, true, true, true, true, true, true, true, true, true, true, true, true, true, true, true, true, true, true, true, true, true, true, true, true, true, true, true, false, false, false] (any_of HT_.out (by kernel_rfl)) ?_
                refine zpure_ (i := 34) (N := some 65) #[true, true, true, true, true, true, true, true, true, true, true, true, true, true, true, true, true, true, true, true, true, true, true, true, true, true, true, true, true, true, true, true, true, true, true, false, false] (any_of HT_.out (by kernel_rfl)) ?_
                refine zpure_ (i := 35) (N := some 66) #[true, true, true, true, true, true, true, true, true, true, true, true, true, true, true, true, true, true, true, true, true, true, true, true, true, true, true, true, true, true, true, true, true, true, true, true, false] (any_of HT_.out (by kernel_rfl)) ?_
                refine zpure_ (i := 36) (N := some 0) #[true, true, true, true, true, true, true, true, true, true, true, true, true, true, true, true, true, true, true, true, true, true, true, true, true, true, true, true, true, true, true, true, true, true, true, true, true] (any_of HT_.out (by kernel_rfl)) ?_
                refine done_ (done_of HT_.out (by kernel_rfl)) ?_
                try go_wp2
                go_ret
                exact ⟨by first | rfl | (simp [errW_none, errW_some] <;> rfl) | (simp [*, errW_none, errW_some] <;> rfl), zb HB⟩
              · rw [if_neg c16] at H
                exact absurd (Option.some.inj H) (by rw [hr]; decide)
            · rw [if_neg c14] at H
              exact absurd (Option.some.inj H) (by rw [hr]; decide)
          · rw [if_neg c12] at H
            exact absurd (Option.some.inj H) (by rw [hr]; decide)
        · rw [if_neg c11] at H
          exact absurd (Option.some.inj H) (by rw [hr]; decide)
      · rw [if_neg c10] at H
        exact absurd (Option.some.inj H) (by rw [hr]; decide)
    · rw [if_neg c9] at H
      exact absurd (Option.some.inj H) (by rw [hr]; decide)
  · rw [if_neg c2] at H
    exact absurd H (by simp)

theorem grottolaw07_live.is : grottolaw07_live.f 100 = some true := by decide +kernel
theorem grottolaw07_live.up {k : Nat} {r : Bool} (h : grottolaw07_live.f k = some r) : ∀ n, grottolaw07_live.f (k + n) = some r
  | 0 => h
  | n + 1 => grottolaw07_live.mono (k + n) _ (grottolaw07_live.up h n)
theorem grottolaw07_live.calls (k : Nat) (r : Bool) (w : World) (h : grottolaw07_live.f k = some r) : Calls Try.prog 10 #[] w fun e w' => e = .returned (.bool r) ∧ Below w.heap.size w w' := by
  refine grottolaw07_live.calls1 k r w ?_ h
  have h1 := grottolaw07_live.up h 100
  have h2 := grottolaw07_live.up grottolaw07_live.is k
  rw [Nat.add_comm, h2] at h1
  exact (Option.some.inj h1).symm

end Go.Proofs.Ytpklekleehcglaa.PQ
