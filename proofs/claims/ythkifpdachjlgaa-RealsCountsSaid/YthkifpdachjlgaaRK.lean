/- What the package reals reckons of two singles, and of two doubles. -/
import Derived.Test.YthkifpdachjlgaaPQx7
import Derived.Test.YthkifpdachjlgaaR4
import Derived.Test.YthkifpdachjlgaaSB
import Derived.Test.YthkifpdachjlgaaSM2
import Derived.Test.YthkifpdachjlgaaSD
import Derived.Test.YthkifpdachjlgaaSQ
import Derived.Test.YthkifpdachjlgaaWM
namespace Go.Proofs.Ythkifpdachjlgaa.RS
set_option linter.all false
open Go.RowKit Go.Proofs.Ythkifpdachjlgaa.PQ Go.Proofs.YthkifpdachjlgaaW.PrintWords Go.Proofs.YthkifpdachjlgaaW.PrintLast Go.Proofs.YthkifpdachjlgaaW.PrintMore
open FT
def reck (M X : Nat) (op : Int) (a b : Nat) : Nat :=
  if op = 1 then addS M X a b else if op = 2 then addS M X a (turnS M X b) else if op = 3 then mulS M X a b else if op = 4 then divS M X a b
  else if op = 5 then modR M X a b else if op = 6 then modQ M X a b else if op = 7 then sqrtS M X a else if op = 8 then stepS M X a true else if op = 9 then stepS M X a false else 0
def rerr (op : Int) : Int := if 1 ≤ op ∧ op ≤ 9 then 0 else 1
theorem op_cases (op : Int) : op = 1 ∨ op = 2 ∨ op = 3 ∨ op = 4 ∨ op = 5 ∨ op = 6 ∨ op = 7 ∨ op = 8 ∨ op = 9 ∨ (op < 1 ∨ 9 < op) := by omega
theorem single_eq {k a b : Nat} (hk : 5000 ≤ k) (op : Int) (ha : a < 4294967296) (hb : b < 4294967296) : reals_Single.f k op (a : Int) (b : Int) = some (((reck 23 8 op a b : Nat) : Int), rerr op) := by
  have wa : Unit → IntKind.u64.wrap (a : Int) = (a : Int) := fun _ => wuN (by omega)
  have wb : Unit → IntKind.u64.wrap (b : Int) = (b : Int) := fun _ => wuN (by omega)
  have pa := pt_s.2 ha
  have pb := pt_s.2 hb
  have c1 : soft_Add.f k 23 8 (a : Int) (b : Int) = some (((addS 23 8 a b : Nat) : Int), 0) := add_eq (M := 23) (X := 8) (by omega) (by omega) (by omega) (by omega) (by omega) pa pb
  have c2 : soft_Sub.f k 23 8 (a : Int) (b : Int) = some (((addS 23 8 a (turnS 23 8 b) : Nat) : Int), 0) := sub_eq (M := 23) (X := 8) (by omega) (by omega) (by omega) (by omega) (by omega) pa pb
  have c3 : soft_Mul.f k 23 8 (a : Int) (b : Int) = some (((mulS 23 8 a b : Nat) : Int), 0) := mul_eq (M := 23) (X := 8) (by omega) (by omega) (by omega) (by omega) (by omega) pa pb
  have c4 : soft_Div.f k 23 8 (a : Int) (b : Int) = some (((divS 23 8 a b : Nat) : Int), 0) := div_eq (M := 23) (X := 8) (by omega) (by omega) (by omega) (by omega) (by omega) pa pb
  have c5 : soft_Mod.f k 23 8 (a : Int) (b : Int) = some (((modR 23 8 a b : Nat) : Int), ((modQ 23 8 a b : Nat) : Int), 0) := mod_eq (M := 23) (X := 8) (by omega) (by omega) (by omega) (by omega) (by omega) pa pb
  have c7 : soft_Sqrt.f k 23 8 (a : Int) = some (((sqrtS 23 8 a : Nat) : Int), 0) := sqrt_eq (M := 23) (X := 8) (by omega) (by omega) (by omega) (by omega) (by omega) pa
  have c8 : soft_Ceil.f k 23 8 (a : Int) = some (((stepS 23 8 a true : Nat) : Int), 0) := ceil_eq (M := 23) (X := 8) (by omega) (by omega) (by omega) (by omega) (by omega) pa
  have c9 : soft_Floor.f k 23 8 (a : Int) = some (((stepS 23 8 a false : Nat) : Int), 0) := floor_eq (M := 23) (X := 8) (by omega) (by omega) (by omega) (by omega) (by omega) pa
  have d1 := u32_mod (pt_s.1 (pt_add (M := 23) (X := 8) (by omega) (by omega) (by omega) (by omega) a b))
  have d2 := u32_mod (pt_s.1 (pt_add (M := 23) (X := 8) (by omega) (by omega) (by omega) (by omega) a (turnS 23 8 b)))
  have d3 := u32_mod (pt_s.1 (pt_mul (M := 23) (X := 8) (by omega) (by omega) (by omega) (by omega) a b))
  have d4 := u32_mod (pt_s.1 (pt_div (M := 23) (X := 8) (by omega) (by omega) (by omega) (by omega) a b))
  have d5 := u32_mod (pt_s.1 (pt_modR (M := 23) (X := 8) (by omega) (by omega) (by omega) (by omega) pa b))
  have d6 := u32_mod (pt_s.1 (pt_modQ (M := 23) (X := 8) (by omega) (by omega) (by omega) (by omega) a b))
  have d7 := u32_mod (pt_s.1 (pt_root (M := 23) (X := 8) (by omega) (by omega) (by omega) (by omega) pa))
  have d8 := u32_mod (pt_s.1 (pt_step (M := 23) (X := 8) (by omega) (by omega) (by omega) (by omega) pa true))
  have d9 := u32_mod (pt_s.1 (pt_step (M := 23) (X := 8) (by omega) (by omega) (by omega) (by omega) pa false))
  unfold reals_Single.f reals_single.f reals_reckon_uint32.f reck rerr
  rw [Option.bind_some]
  dsimp only
  rw [wa (), wb ()]
  rcases op_cases op with rfl | rfl | rfl | rfl | rfl | rfl | rfl | rfl | rfl | h
  · rw [if_pos rfl, if_pos rfl, c1, Option.bind_some, Option.bind_some, d1]; rfl
  · rw [if_neg (by decide), if_pos rfl, if_neg (by decide), if_pos rfl, c2, Option.bind_some, Option.bind_some, d2]; rfl
  · simp (config := { decide := true }) only [if_true, if_false, c3, Option.bind_some, d3]
  · simp (config := { decide := true }) only [if_true, if_false, c4, Option.bind_some, d4]
  · simp (config := { decide := true }) only [if_true, if_false, c5, Option.bind_some, d5]
  · simp (config := { decide := true }) only [if_true, if_false, c5, Option.bind_some, d6]
  · simp (config := { decide := true }) only [if_true, if_false, c7, Option.bind_some, d7]
  · simp (config := { decide := true }) only [if_true, if_false, c8, Option.bind_some, d8]
  · simp (config := { decide := true }) only [if_true, if_false, c9, Option.bind_some, d9]
  · simp only [show op ≠ 1 by omega, show op ≠ 2 by omega, show op ≠ 3 by omega, show op ≠ 4 by omega, show op ≠ 5 by omega, show op ≠ 6 by omega, show op ≠ 7 by omega, show op ≠ 8 by omega, show op ≠ 9 by omega, if_false, Option.bind_some, show ¬ (1 ≤ op ∧ op ≤ 9) by omega]; rfl
theorem double_eq {k a b : Nat} (hk : 5000 ≤ k) (op : Int) (ha : a < 18446744073709551616) (hb : b < 18446744073709551616) : reals_Double.f k op (a : Int) (b : Int) = some (((reck 52 11 op a b : Nat) : Int), rerr op) := by
  have pa := pt_d.2 ha
  have pb := pt_d.2 hb
  have c1 : soft_Add.f k 52 11 (a : Int) (b : Int) = some (((addS 52 11 a b : Nat) : Int), 0) := add_eq (M := 52) (X := 11) (by omega) (by omega) (by omega) (by omega) (by omega) pa pb
  have c2 : soft_Sub.f k 52 11 (a : Int) (b : Int) = some (((addS 52 11 a (turnS 52 11 b) : Nat) : Int), 0) := sub_eq (M := 52) (X := 11) (by omega) (by omega) (by omega) (by omega) (by omega) pa pb
  have c3 : soft_Mul.f k 52 11 (a : Int) (b : Int) = some (((mulS 52 11 a b : Nat) : Int), 0) := mul_eq (M := 52) (X := 11) (by omega) (by omega) (by omega) (by omega) (by omega) pa pb
  have c4 : soft_Div.f k 52 11 (a : Int) (b : Int) = some (((divS 52 11 a b : Nat) : Int), 0) := div_eq (M := 52) (X := 11) (by omega) (by omega) (by omega) (by omega) (by omega) pa pb
  have c5 : soft_Mod.f k 52 11 (a : Int) (b : Int) = some (((modR 52 11 a b : Nat) : Int), ((modQ 52 11 a b : Nat) : Int), 0) := mod_eq (M := 52) (X := 11) (by omega) (by omega) (by omega) (by omega) (by omega) pa pb
  have c7 : soft_Sqrt.f k 52 11 (a : Int) = some (((sqrtS 52 11 a : Nat) : Int), 0) := sqrt_eq (M := 52) (X := 11) (by omega) (by omega) (by omega) (by omega) (by omega) pa
  have c8 : soft_Ceil.f k 52 11 (a : Int) = some (((stepS 52 11 a true : Nat) : Int), 0) := ceil_eq (M := 52) (X := 11) (by omega) (by omega) (by omega) (by omega) (by omega) pa
  have c9 : soft_Floor.f k 52 11 (a : Int) = some (((stepS 52 11 a false : Nat) : Int), 0) := floor_eq (M := 52) (X := 11) (by omega) (by omega) (by omega) (by omega) (by omega) pa
  unfold reals_Double.f reals_double.f reals_reckon_uint64.f reck rerr
  rw [Option.bind_some]
  dsimp only
  rcases op_cases op with rfl | rfl | rfl | rfl | rfl | rfl | rfl | rfl | rfl | h
  · rw [if_pos rfl, if_pos rfl, c1, Option.bind_some, Option.bind_some]; rfl
  · rw [if_neg (by decide), if_pos rfl, if_neg (by decide), if_pos rfl, c2, Option.bind_some, Option.bind_some]; rfl
  · simp (config := { decide := true }) only [if_true, if_false, c3, Option.bind_some]
  · simp (config := { decide := true }) only [if_true, if_false, c4, Option.bind_some]
  · simp (config := { decide := true }) only [if_true, if_false, c5, Option.bind_some]
  · simp (config := { decide := true }) only [if_true, if_false, c5, Option.bind_some]
  · simp (config := { decide := true }) only [if_true, if_false, c7, Option.bind_some]
  · simp (config := { decide := true }) only [if_true, if_false, c8, Option.bind_some]
  · simp (config := { decide := true }) only [if_true, if_false, c9, Option.bind_some]
  · simp only [show op ≠ 1 by omega, show op ≠ 2 by omega, show op ≠ 3 by omega, show op ≠ 4 by omega, show op ≠ 5 by omega, show op ≠ 6 by omega, show op ≠ 7 by omega, show op ≠ 8 by omega, show op ≠ 9 by omega, if_false, Option.bind_some, show ¬ (1 ≤ op ∧ op ≤ 9) by omega]; rfl
theorem pt_reck {M X : Nat} (hM : 2 ≤ M) (hM' : M ≤ 52) (hX : 2 ≤ X) (hX' : X ≤ 11) (op : Int) {a : Nat} (ha : Pt M X a) (b : Nat) : Pt M X (reck M X op a b) := by
  unfold reck
  split
  · exact pt_add hM hM' hX hX' _ _
  split
  · exact pt_add hM hM' hX hX' _ _
  split
  · exact pt_mul hM hM' hX hX' _ _
  split
  · exact pt_div hM hM' hX hX' _ _
  split
  · exact pt_modR hM hM' hX hX' ha _
  split
  · exact pt_modQ hM hM' hX hX' _ _
  split
  · exact pt_root hM hM' hX hX' ha
  split
  · exact pt_step hM hM' hX hX' ha _
  split
  · exact pt_step hM hM' hX hX' ha _
  · exact pt_zero
end Go.Proofs.Ythkifpdachjlgaa.RS
