import Derived.Test.YtefdfmnlcfopaaaDoorPQx8
import Derived.Test.YtefdfmnlcfopaaaDoorPQx1
namespace Go.Proofs.YtefdfmnlcfopaaaDoor.Pure
open Go.RowKit Go.Proofs.YtefdfmnlcfopaaaDoor.PQ Go.Proofs.YtefdfmnlcfopaaaDoorW.PrintWords Go.Proofs.YtefdfmnlcfopaaaDoorW.PrintLast Go.Proofs.YtefdfmnlcfopaaaDoorW.PrintMore
theorem wf_u32 {a : Int} (h : (Lit.int .u32 a).wf = true) : 0 ≤ a ∧ a < 4294967296 := by
  simp [Lit.wf, IntKind.min, IntKind.max, IntKind.signed, IntKind.bits] at h; omega
theorem wf_i64 {a : Int} (h : (Lit.int .i64 a).wf = true) : -9223372036854775808 ≤ a ∧ a ≤ 9223372036854775807 := by
  simp [Lit.wf, IntKind.min, IntKind.max, IntKind.signed, IntKind.bits] at h; omega
theorem live01 : grottolaw01_live.f 100 = some true := by decide +kernel
theorem live_k {k : Nat} (h : 100 ≤ k) : grottolaw01_live.f k = some true := by
  induction k with
  | zero => omega
  | succ k ih =>
    by_cases hk : 100 ≤ k
    · exact grottolaw01_live.mono k _ (ih hk)
    · have e : k = 99 := by omega
      subst e
      exact live01
theorem w64 {n : Int} (h : -9223372036854775808 ≤ n) (h' : n ≤ 9223372036854775807) : wrap64 n = n := by unfold wrap64; omega
theorem i32_cases {a : Int} (h : 0 ≤ a) (h' : a < 4294967296) : (wrap32 a = a ∧ a < 2147483648) ∨ (wrap32 a = a - 4294967296 ∧ 2147483648 ≤ a) := by unfold wrap32; omega
theorem int_eq {a : Int} (h : 0 ≤ a) (h' : a < 4294967296) : grottoref01_Int.f a = some (wrap32 a) := by
  unfold grottoref01_Int.f
  rcases i32_cases h h' with ⟨e, c⟩ | ⟨e, c⟩
  · rw [if_neg (by omega), w64 (by omega) (by omega), e]
  · rw [if_pos (by omega), w64 (n := a) (by omega) (by omega), w64 (by omega) (by omega), e]
theorem of_eq (x : Int) : grottoref01_Of.f x = some (x % 4294967296) := by
  have key : (BitVec.ofInt IntKind.i64.bits x &&& BitVec.ofInt IntKind.i64.bits 4294967295).toNat = (x % 18446744073709551616).toNat % 4294967296 := by
    have h1 : (BitVec.ofInt IntKind.i64.bits x).toNat = (x % 18446744073709551616).toNat := by rw [BitVec.toNat_ofInt]; rfl
    have h2 : (BitVec.ofInt IntKind.i64.bits 4294967295).toNat = 2 ^ 32 - 1 := by decide
    rw [BitVec.toNat_and, h1, h2, Nat.and_two_pow_sub_one_eq_mod]
  have hb : Go.bits .and .i64 x 4294967295 = (((x % 18446744073709551616).toNat % 4294967296 : Nat) : Int) := by
    unfold Go.bits
    dsimp only
    rw [key]
    have hw : ∀ n : Int, IntKind.i64.wrap n = wrap64 n := fun n => by unfold wrap64; exact IntKind.wrap_i64 n
    rw [hw]
    exact w64 (by omega) (by omega)
  unfold grottoref01_Of.f
  rw [hb]
  congr 1
  omega
end Go.Proofs.YtefdfmnlcfopaaaDoor.Pure
