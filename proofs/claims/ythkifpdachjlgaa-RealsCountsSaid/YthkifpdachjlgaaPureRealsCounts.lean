/- Integers are told by their doubles, and by their singles from -2^24 to 2^24, and add up as they do: for every two integers of 32 bits. -/
import Derived.Test.YthkifpdachjlgaaPQx42
import Derived.Test.YthkifpdachjlgaaRI
import Derived.Test.YthkifpdachjlgaaRK
import Derived.Test.YthkifpdachjlgaaRH
import Derived.Test.YthkifpdachjlgaaLive04
namespace Go.Proofs.Ythkifpdachjlgaa.Pure
set_option linter.all false
open Go.RowKit Go.Proofs.Ythkifpdachjlgaa.PQ Go.Proofs.YthkifpdachjlgaaW.PrintWords Go.Proofs.YthkifpdachjlgaaW.PrintLast Go.Proofs.YthkifpdachjlgaaW.PrintMore
open FT RS
theorem RealsCounts (a0 : Int) (a1 : Int) (near : Bool) (w0 : (Lit.int .u32 a0).wf = true) (w1 : (Lit.int .u32 a1).wf = true) : ∃ k, grottolaw04_RealsCounts.f k a0 a1 near = some true := by
  obtain ⟨n, rfl, hn⟩ := wf_u32 w0
  obtain ⟨m, rfl, hm⟩ := wf_u32 w1
  clear w0 w1
  refine ⟨6002, ?_⟩
  have hp := i32_nat hn
  have hq := i32_nat hm
  have p53 : 2 ^ (52 + 1) = 9007199254740992 := by decide
  have p24 : 2 ^ (23 + 1) = 16777216 := by decide
  have bp : -2147483648 ≤ wrap32 (n : Int) ∧ wrap32 (n : Int) ≤ 2147483647 := by rw [hp]; split <;> omega
  have bq : -2147483648 ≤ wrap32 (m : Int) ∧ wrap32 (m : Int) ≤ 2147483647 := by rw [hq]; split <;> omega
  have back : (mx (mn (wrap32 (n : Int)) 2147483647) (-2147483648)) % 4294967296 = (n : Int) := by
    rw [hp]; unfold mx mn
    split <;> split <;> split <;> omega
  have small : ((n : Int) + 16777216) % 4294967296 ≤ 33554432 → (wrap32 (n : Int)).natAbs ≤ 16777216 := by
    intro h
    rw [hp]
    split <;> omega
  have sofp : ∀ {k : Nat}, 3 ≤ k → reals_SingleOf.f k (n : Int) = some ((ofZ 23 8 (wrap32 (n : Int)) : Nat) : Int) := fun hk => sof_eq hk hn
  unfold grottolaw04_RealsCounts.f
  rw [dof_eq (by omega) hn, Option.bind_some, dof_eq (by omega) hm, Option.bind_some]
  clear hp hq
  generalize hP : wrap32 (n : Int) = p at *
  generalize hQ : wrap32 (m : Int) = q at *
  have zp : p.natAbs ≤ 2 ^ (52 + 1) := by omega
  have zq : q.natAbs ≤ 2 ^ (52 + 1) := by omega
  have zs : (p + q).natAbs ≤ 2 ^ (52 + 1) := by omega
  have ip := intS_val (z := p) (by omega) (by omega)
  have is := intS_val (z := p + q) (by omega) (by omega)
  have w1 : Unit → wrap64 p = p := fun _ => w64 (by omega) (by omega)
  have w2 : Unit → wrap64 q = q := fun _ => w64 (by omega) (by omega)
  have w3 : Unit → wrap64 (p + q) = p + q := fun _ => w64 (by omega) (by omega)
  have small : ((n : Int) + 16777216) % 4294967296 ≤ 33554432 → p.natAbs ≤ 2 ^ (23 + 1) := fun h => by have := small h; omega
  have pd := pt_d.1 (pt_ofZ 52 11 p)
  have qd := pt_d.1 (pt_ofZ 52 11 q)
  have sd := pt_d.1 (pt_ofZ 52 11 (p + q))
  obtain ⟨s1, _, s3⟩ := whole_pat (M := 52) (X := 11) (by decide) (by decide) (by decide) (by decide) zp bd
  obtain ⟨q1, _, q3⟩ := whole_pat (M := 52) (X := 11) (by decide) (by decide) (by decide) (by decide) zq bd
  obtain ⟨t1, _, t3⟩ := whole_pat (M := 52) (X := 11) (by decide) (by decide) (by decide) (by decide) zs bd
  have d1 := whole_whole (M := 52) (X := 11) (by decide) (by decide) (by decide) (by decide) zp bd near
  have d2 := whole_whole (M := 52) (X := 11) (by decide) (by decide) (by decide) (by decide) zs bd near
  have ad := whole_add (M := 52) (X := 11) (by decide) (by decide) (by decide) (by decide) zp zq bd
  have lt := whole_lt (M := 52) (X := 11) (by decide) (by decide) (by decide) (by decide) zp zq bd
  have cv := whole_conv (M := 52) (X := 11) (M' := 23) (X' := 8) (by decide) (by decide) (by decide) (by decide) zp bd
  have lv : ∀ {k : Nat}, 100 ≤ k → grottolaw04_live.f k = some true := live04_k
  rw [dint_eq (by decide) pd near, Option.bind_some, d1, s1, ip, back, if_pos rfl]
  rw [sofp (by decide), Option.bind_some, narrow_eq (by decide) pd, Option.bind_some, cv, bne_self_eq_false, grottolaw04_RealsCounts.j0.eq_2, if_neg (by simp)]
  have r1 : reck 52 11 1 (ofZ 52 11 p) (ofZ 52 11 q) = ofZ 52 11 (p + q) := by unfold reck; rw [if_pos rfl]; exact ad
  have e1 : rerr 1 = 0 := by unfold rerr; rw [if_pos (by decide)]
  have h3 : ∀ {k : Nat}, 60 ≤ k → reals_DoubleHolds.f k 3 ((ofZ 52 11 p : Nat) : Int) ((ofZ 52 11 q : Nat) : Int) 0 = some (decide (p < q)) := by
    intro k hk
    have h := dholds_eq (k := k) (c := 3) (t := 0) hk (by decide) pd qd (by decide)
    have e : holdS 3 (ofZ 52 11 p) (ofZ 52 11 q) 0 = decide (p < q) := by
      unfold holdS
      rw [if_neg (by decide), if_neg (by decide), if_neg (by decide), s3, q3, if_neg (by split <;> split <;> decide), if_pos rfl]
      exact decide_eq_decide.2 lt
    rw [e] at h
    exact h
  have tail : grottolaw04_RealsCounts.j1 6001 (n : Int) (m : Int) near ((ofZ 52 11 p : Nat) : Int) ((ofZ 52 11 q : Nat) : Int) false = some true := by
    have db : reals_Double.f 6000 1 ((ofZ 52 11 p : Nat) : Int) ((ofZ 52 11 q : Nat) : Int) = some (((ofZ 52 11 (p + q) : Nat) : Int), 0) := by rw [double_eq (by decide) 1 pd qd, r1, e1]
    have nm : grottolaw04_num.f 0 = some 0 := rfl
    have di : reals_DoubleInt.f 6000 ((ofZ 52 11 (p + q) : Nat) : Int) near = some ((mx (mn (p + q) 2147483647) (-2147483648)) % 4294967296) := by rw [dint_eq (by decide) sd near, d2, t1, is]
    have h36 := h3 (k := 6000) (by decide)
    have lv6 := lv (k := 6000) (by decide)
    clear small ip is s1 s3 q1 q3 t1 t3 d1 d2 ad lt cv r1 e1 h3 lv sofp back bp bq zp zq zs
    rw [grottolaw04_RealsCounts.j1.eq_2, if_neg (by simp), db, Option.bind_some]
    dsimp only
    rw [nm, Option.bind_some, if_pos rfl, hP, hQ, w1 (), w2 (), w3 (), di, Option.bind_some, if_pos rfl, h36, Option.bind_some, beq_self_eq_true, if_pos rfl, lv6, Option.bind_some]
  by_cases hs : ((n : Int) + 16777216) % 4294967296 ≤ 33554432
  · have zs := small hs
    obtain ⟨u1, _, _⟩ := whole_pat (M := 23) (X := 8) (by decide) (by decide) (by decide) (by decide) zs bs
    have u2 := whole_whole (M := 23) (X := 8) (by decide) (by decide) (by decide) (by decide) zs bs near
    rw [if_pos hs, sofp (by decide), Option.bind_some, sint_eq (by decide) (pt_s.1 (pt_ofZ 23 8 p)) near, Option.bind_some, u2, u1, ip, back, bne_self_eq_false]
    exact tail
  · rw [if_neg hs]; exact tail
end Go.Proofs.Ythkifpdachjlgaa.Pure
