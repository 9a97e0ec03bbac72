/- Each integer as a single and a double, and any of these as an integer, are the reference's: for every integer of 32 bits, every single and every double. -/
import Derived.Test.YthkifpdachjlgaaPQx36
import Derived.Test.YthkifpdachjlgaaPQx33
import Derived.Test.YthkifpdachjlgaaPQx35
import Derived.Test.YthkifpdachjlgaaRI
import Derived.Test.YthkifpdachjlgaaRW
import Derived.Test.YthkifpdachjlgaaLive04
namespace Go.Proofs.Ythkifpdachjlgaa.Pure
set_option linter.all false
open Go.RowKit Go.Proofs.Ythkifpdachjlgaa.PQ Go.Proofs.YthkifpdachjlgaaW.PrintWords Go.Proofs.YthkifpdachjlgaaW.PrintLast Go.Proofs.YthkifpdachjlgaaW.PrintMore
open FT RS
theorem of_near {M X:Nat} (hM:2≤M) (hM':M≤52) (hX:2≤X) (hX':X≤11) {k n:Nat} (hk:502000<k) (hn:n<4294967296) :
    (if (n:Int)≥2147483648 then ((grottoref02_NatOf.f k (IntKind.u64.wrap (4294967296-(IntKind.u64.wrap (n:Int))))).bind fun t=>grottoref02_Near.f k (M:Int) (X:Int) true t [1] 0) else ((grottoref02_NatOf.f k (IntKind.u64.wrap (n:Int))).bind fun t=>grottoref02_Near.f k (M:Int) (X:Int) false t [1] 0))=some ((ofZ M X (wrap32 (n:Int)):Nat):Int):=by
  have wn:Unit→IntKind.u64.wrap (n:Int)=(n:Int):=fun _=>wuN (by omega)
  have o1:(digits 1).length≤1:=by rw[digits_one];simp
  have d1:([1]:List Int)=digits 1:=digits_one.symm
  rw[wn (),i32_nat hn,d1]
  unfold ofZ
  by_cases h:n<2147483648
  · have l1:(digits n).length≤4:=digits_len (by omega)
    rw[if_neg (by omega),if_pos h,decide_eq_false (by omega),natof_eq (by omega) (by omega),Option.bind_some,near_eq hM hM' hX hX' (by omega) false (a:=n) (b:=1) (e:=0) (by omega) (by omega) (by omega) (by omega) (by omega),Int.natAbs_natCast]
  · have w2:Unit→IntKind.u64.wrap (4294967296-(n:Int))=((4294967296-n:Nat):Int):=fun _=>by
      have e:(4294967296-(n:Int))=((4294967296-n:Nat):Int):=by omega
      rw[e];exact wuN (by omega)
    have e2:((n:Int)-4294967296).natAbs=4294967296-n:=by omega
    have l1:(digits (4294967296-n)).length≤4:=digits_len (by omega)
    rw[if_pos (by omega),if_neg h,decide_eq_true (by omega),w2 (),natof_eq (by omega) (by omega),Option.bind_some,near_eq hM hM' hX hX' (by omega) true (a:=4294967296-n) (b:=1) (e:=0) (by omega) (by omega) (by omega) (by omega) (by omega),e2]
theorem int_tail {k:Nat} (neg:Bool) {q:Nat} (hq:q≤1099511627776):(if neg=true then grottoref04_Int.j0 (k+2) (q:Int) neg (decide ((q:Int)≥2147483648)) else grottoref04_Int.j0 (k+2) (q:Int) neg false)=some (intS neg q):=by
  have hw:Unit→q<2147483648→IntKind.u64.wrap (4294967296-(q:Int))=((4294967296-q:Nat):Int):=fun _ h=>by
    have e:(4294967296-(q:Int))=((4294967296-q:Nat):Int):=by omega
    rw[e];exact wuN (by omega)
  unfold intS mn
  cases neg
  · have ft:¬ (false=true):=by simp
    rw[if_neg ft,grottoref04_Int.j0.eq_2,if_neg ft,if_neg ft,grottoref04_Int.j1.eq_2,if_neg ft,if_neg ft]
    by_cases h:(q:Int)≥2147483648
    · rw[if_pos h,if_pos (by omega)];rfl
    · rw[if_neg h,if_neg (by omega)]
  · rw[if_pos rfl,if_pos rfl,grottoref04_Int.j0.eq_2]
    by_cases h:(q:Int)≥2147483648
    · rw[decide_eq_true h,if_pos rfl]
      split
      · rfl
      · congr 1;omega
    · rw[decide_eq_false h,if_neg (by simp),if_pos rfl,grottoref04_Int.j1.eq_2,if_neg (show ¬ ((2147483648:Int)<(q:Int)) by omega)]
      by_cases h0:(q:Int)>0
      · rw[decide_eq_true h0,if_pos rfl,hw () (by omega)]
        congr 1;omega
      · rw[decide_eq_false h0,if_neg (by simp),if_neg h]
        congr 1;omega
theorem wholeS_le (M X a:Nat) (near:Bool):wholeS M X a near≤1099511627776:=by
  unfold wholeS;split
  · omega
  · exact Nat.min_le_right _ _
theorem RealsInts (a0:Int) (a1:Int) (a2:Int) (near:Bool) (w0:(Lit.int .u32 a0).wf=true) (w1:(Lit.int .u32 a1).wf=true) (w2:(Lit.int .u64 a2).wf=true):∃ k,grottolaw04_RealsInts.f k a0 a1 a2 near=some true:=by
  obtain⟨n,rfl,hn⟩:=wf_u32 w0
  obtain⟨x,rfl,hx⟩:=wf_u32 w1
  obtain⟨y,rfl,hy⟩:=wf_u64 w2
  clear w0 w1 w2
  refine⟨502010,?_⟩
  have wx:Unit→IntKind.u64.wrap (x:Int)=(x:Int):=fun _=>wuN (by omega)
  have lv:grottolaw04_live.f 502010=some true:=live04_k (by omega)
  have o1:grottoref04_Of.f 502010 false (n:Int)=some ((ofZ 23 8 (wrap32 (n:Int)):Nat):Int):=by
    have h:=of_near (M:=23) (X:=8) (by decide) (by decide) (by decide) (by decide) (k:=502010) (by decide) hn
    unfold grottoref04_Of.f grottoref04_Format.f
    by_cases c:(n:Int)≥2147483648
    · rw[if_pos c] at h ⊢
      rw[←h,if_neg (by simp),Option.bind_some]
      exact congrArg _ (funext fun t=>by cases grottoref02_Near.f 502010 23 8 true t [1] 0 <;> rfl)
    · rw[if_neg c] at h ⊢
      rw[←h,if_neg (by simp),Option.bind_some]
      exact congrArg _ (funext fun t=>by cases grottoref02_Near.f 502010 23 8 false t [1] 0 <;> rfl)
  have o2:grottoref04_Of.f 502010 true (n:Int)=some ((ofZ 52 11 (wrap32 (n:Int)):Nat):Int):=by
    have h:=of_near (M:=52) (X:=11) (by decide) (by decide) (by decide) (by decide) (k:=502010) (by decide) hn
    unfold grottoref04_Of.f grottoref04_Format.f
    by_cases c:(n:Int)≥2147483648
    · rw[if_pos c] at h ⊢
      rw[←h,if_pos rfl,Option.bind_some]
      exact congrArg _ (funext fun t=>by cases grottoref02_Near.f 502010 52 11 true t [1] 0 <;> rfl)
    · rw[if_neg c] at h ⊢
      rw[←h,if_pos rfl,Option.bind_some]
      exact congrArg _ (funext fun t=>by cases grottoref02_Near.f 502010 52 11 false t [1] 0 <;> rfl)
  have i1:grottoref04_Int.f 502010 false (x:Int) near=some (intS (sg 23 8 x) (wholeS 23 8 x near)):=by
    have h:grottoref03_Whole.f 502010 23 8 (x:Int) near=some (((wholeS 23 8 x near:Nat):Int),sg 23 8 x,0):=rwholes_eq (M:=23) (X:=8) (by decide) (by decide) (by decide) (by decide) (by decide) (pt_s.2 hx) near
    unfold grottoref04_Int.f grottoref04_Format.f
    rw[if_neg (by simp),Option.bind_some]
    dsimp only
    rw[h,Option.bind_some]
    exact int_tail (k:=502008) (sg 23 8 x) (wholeS_le 23 8 x near)
  have i2:grottoref04_Int.f 502010 true (y:Int) near=some (intS (sg 52 11 y) (wholeS 52 11 y near)):=by
    have h:grottoref03_Whole.f 502010 52 11 (y:Int) near=some (((wholeS 52 11 y near:Nat):Int),sg 52 11 y,0):=rwholes_eq (M:=52) (X:=11) (by decide) (by decide) (by decide) (by decide) (by decide) (pt_d.2 hy) near
    unfold grottoref04_Int.f grottoref04_Format.f
    rw[if_pos rfl,Option.bind_some]
    dsimp only
    rw[h,Option.bind_some]
    exact int_tail (k:=502008) (sg 52 11 y) (wholeS_le 52 11 y near)
  have hp:=pt_s.1 (pt_ofZ 23 8 (wrap32 (n:Int)))
  have wo:IntKind.u64.wrap ((ofZ 23 8 (wrap32 (n:Int)):Nat):Int)=((ofZ 23 8 (wrap32 (n:Int)):Nat):Int):=wuN (Nat.lt_trans hp (by decide))
  unfold grottolaw04_RealsInts.f
  rw[sof_eq (by decide) hn,Option.bind_some,o1,Option.bind_some,wo,if_pos rfl,dof_eq (by decide) hn,Option.bind_some,o2,Option.bind_some,if_pos rfl,sint_eq (by decide) hx near,Option.bind_some,wx (),i1,Option.bind_some,if_pos rfl,dint_eq (by decide) hy near,Option.bind_some,i2,Option.bind_some,if_pos rfl,lv,Option.bind_some]
end Go.Proofs.Ythkifpdachjlgaa.Pure
