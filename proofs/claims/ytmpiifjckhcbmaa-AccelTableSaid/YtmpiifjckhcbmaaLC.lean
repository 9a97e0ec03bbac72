/- Do without memory or with wrong arguments; a nil table (seat r18). -/
import Derived.Test.YtmpiifjckhcbmaaLE
namespace Go.Proofs.Ytmpiifjckhcbmaa.PQ
set_option linter.all false
open Go.RowKit Go.Proofs.YtmpiifjckhcbmaaW.PrintWords Go.Proofs.YtmpiifjckhcbmaaW.PrintLast Go.Proofs.YtmpiifjckhcbmaaW.PrintMore Go.Proofs.Ytmpiifjckhcbmaa.Z Go.Proofs.Ytmpiifjckhcbmaa.Pure
set_option linter.unusedVariables false
set_option linter.unusedSimpArgs false
set_option maxHeartbeats 4000000 in
theorem Do_nil (P A : Option Addr) (np cp na ca : Nat) (n : Int) (w : World) :
    Calls Try.prog 14 #[.pointer none, .slice P np cp, .int .u32 n, .slice A na ca] w fun r w' => r = .returned (.tuple #[.int .u32 0, .int .i64 0, .int .i64 8]) ∧ w = w' := by
  go_enter Try.func14, Try.ntmps14
  go_wp2
  go_ret3
  exact ⟨rfl, rfl⟩
set_option maxHeartbeats 4000000 in
theorem Do_bad (P A : Option Addr) (gm np cp na ca : Nat) (n : Int) (w : World) (h : np ≠ 9 ∨ n < 1 ∨ 13 < n) :
    Calls Try.prog 14 #[.pointer (some ⟨gm, 0, none⟩), .slice P np cp, .int .u32 n, .slice A na ca] w fun r w' => r = .returned (.tuple #[.int .u32 0, .int .i64 0, .int .i64 1]) ∧ w = w' := by
  by_cases c1 : np = 9
  · subst c1
    by_cases c2 : n < 1
    · have d2 : decide (n < 1) = true := decide_eq_true c2
      clear h
      go_enter Try.func14, Try.ntmps14
      go_wp2
      go_ret3
      exact ⟨rfl, rfl⟩
    · have c3 : 13 < n := by omega
      have d2 : decide (n < 1) = false := decide_eq_false c2
      have d3 : decide (13 < n) = true := decide_eq_true c3
      clear h c2 c3
      go_enter Try.func14, Try.ntmps14
      go_wp2
      go_ret3
      exact ⟨rfl, rfl⟩
  · have d1 : ((np : Int) != 9) = true := bne_iff_ne.2 (by omega)
    have d1n : (np != 9) = true := bne_iff_ne.2 c1
    clear h c1
    go_enter Try.func14, Try.ntmps14
    go_wp2
    go_ret3
    exact ⟨rfl, rfl⟩
set_option maxHeartbeats 4000000 in
theorem table_Param.nil (i x : Int) (w : World) : Calls Try.prog 19 #[.pointer none, .int .u32 i, .int .u32 x] w fun r w' => r = .returned (.tuple #[]) ∧ w = w' := by
  go_enter Try.func19, Try.ntmps19
  go_wp2
  first | go_end0 | ((try simp only [Exit.inBlock, Exit.then]); refine bodyPost_ret (results_none rfl _ _ _) rfl ?_)
  exact ⟨rfl, rfl⟩
set_option maxHeartbeats 4000000 in
theorem table_Func.nil (i x : Int) (w : World) : Calls Try.prog 20 #[.pointer none, .int .u32 i, .int .u32 x] w fun r w' => r = .returned (.tuple #[]) ∧ w = w' := by
  go_enter Try.func20, Try.ntmps20
  go_wp2
  first | go_end0 | ((try simp only [Exit.inBlock, Exit.then]); refine bodyPost_ret (results_none rfl _ _ _) rfl ?_)
  exact ⟨rfl, rfl⟩
set_option maxHeartbeats 4000000 in
theorem table_At.nil (x : Int) (w : World) : Calls Try.prog 22 #[.pointer none, .int .u32 x] w fun r w' => r = .returned (.int .u32 0) ∧ w = w' := by
  go_enter Try.func22, Try.ntmps22
  go_wp2
  go_ret
  exact ⟨rfl, rfl⟩
set_option maxHeartbeats 4000000 in
theorem table_Params.nil (w : World) : Calls Try.prog 21 #[.pointer none] w fun r w' => r = .returned (.slice none 0 0) ∧ w = w' := by
  go_enter Try.func21, Try.ntmps21
  go_wp2
  go_ret
  exact ⟨rfl, rfl⟩
/-- Do of any number -/
def doA (bs ps : List Int) (n a b : Int) : Int × Int × Int := if 1 ≤ n ∧ n ≤ 13 then doS bs ps n a b else (0, 0, 1)
theorem Do_any (v : World) (gm gb ga c_ cp ca : Nat) (bs ps al : List Int) (A : Option Addr) (n x s e : Int) (w : World) (hb : Below v.heap.size v w) (hm : PH w v.heap.size gm gb c_ bs) (hp : Kd.R (Kd.int .u32) 29 w v.heap.size (fun _ => True) (.slice (some ⟨ga, 0, none⟩) 9 cp) ps) (hpr : ∀ x ∈ ps, 0 ≤ x ∧ x < 4294967296) (hx : Kd.C (Kd.int .u32) w A al.length al) (har : ∀ x ∈ al, 0 ≤ x ∧ x < 4294967296) (hr : doA bs ps n (rd al 0) (rd al 1) = (x, s, e)) :
    Calls Try.prog 14 #[.pointer (some ⟨gm, 0, none⟩), .slice (some ⟨ga, 0, none⟩) 9 cp, .int .u32 n, .slice A al.length ca] w fun r w' => r = .returned (.tuple #[.int .u32 x, .int .i64 s, .int .i64 e]) ∧ Below w.heap.size w w' := by
  unfold doA at hr
  by_cases c : 1 ≤ n ∧ n ≤ 13
  · rw [if_pos c] at hr
    exact Do_law v gm gb ga c_ cp ca bs ps al A n x s e w hb hm hp hpr c hx har hr
  · rw [if_neg c] at hr
    simp only [Prod.mk.injEq] at hr
    obtain ⟨rfl, rfl, rfl⟩ := hr
    exact (Do_bad _ A gm 9 cp al.length ca n w (by omega)).mono fun _ _ h => ⟨h.1, h.2 ▸ Below.refl _ _⟩
end Go.Proofs.Ytmpiifjckhcbmaa.PQ
