import Derived.Test.YtmmbgbchimangaaPQx34
import Derived.Test.YtmmbgbchimangaaSP
namespace Go.Proofs.Ytmmbgbchimangaa.RS
set_option linter.all false
open Go.RowKit Go.Proofs.Ytmmbgbchimangaa.PQ Go.Proofs.YtmmbgbchimangaaW.PrintWords Go.Proofs.YtmmbgbchimangaaW.PrintLast Go.Proofs.YtmmbgbchimangaaW.PrintMore
open FT
/-- a pattern's place in the order of all; which of two is greater -/
def plc (M X x:Nat):Int:=sv (sg M X x) (mg M X x)
def cmpI (x y:Int):Int:=if x<y then -1 else if y<x then 1 else 0
theorem bit_xor' {a b:Nat} (ha:a<18446744073709551616) (hb:b<18446744073709551616):Go.bits .xor .u64 (a:Int) (b:Int)=((a ^^^ b:Nat):Int):=by
  have ha':a%2^IntKind.u64.bits=a:=Nat.mod_eq_of_lt ha
  have hb':b%2^IntKind.u64.bits=b:=Nat.mod_eq_of_lt hb
  simp only[Go.bits,BitVec.ofInt_natCast,BitVec.toNat_xor,BitVec.toNat_ofNat,ha',hb']
  exact wuN (Nat.xor_lt_two_pow (n:=64) ha hb)
section
variable {M X:Nat} (hM:2≤M) (hM':M≤52) (hX:2≤X) (hX':X≤11)
include hM hM' hX hX'
theorem place_eq {x:Nat} (h:Pt M X x):soft_place.f (M:Int) (X:Int) (x:Int)=some (plc M X x):=by
  have hlt:=pt_lt hM hM' hX hX' h
  have hp:=pow_lt (k:=M+X) (by omega)
  have hm:=mg_lt M X x
  have hp63:2^(M+X)≤9223372036854775808:=Nat.pow_le_pow_right (n:=2) (by omega) (show M+X≤63 by omega)
  have hx:=pt_split h
  have hs:sgn M X true=2^(M+X):=rfl
  unfold soft_place.f
  rw[zero_eq hM hM' hX hX',Option.bind_some,hs,bit_and hlt hp,and_pow]
  unfold plc sv
  cases hb:sg M X x
  · rw[hb] at hx
    have h0:sgn M X false=0:=rfl
    rw[h0,Nat.zero_add] at hx
    have hd:x/2^(M+X)=0:=Nat.div_eq_of_lt (by rw[hx];exact hm)
    have hz:(if 0%2=1 then 2^(M+X) else 0)=0:=if_neg (by decide)
    rw[hd,hz,if_pos (by rfl),if_neg (by simp),←hx]
    have:x<9223372036854775808:=by rw[hx];exact Nat.lt_of_lt_of_le hm hp63
    rw[w64 (by omega) (by omega)]
  · rw[hb,hs] at hx
    have hd:x/2^(M+X)=1:=by
      rw[hx,Nat.add_comm,Nat.add_div_right _ (two_pos _),Nat.div_eq_of_lt hm]
    have hz:(if 1%2=1 then 2^(M+X) else 0)=2^(M+X):=if_pos (by decide)
    rw[hd,hz,if_neg (nat0 (Nat.ne_of_gt (two_pos _))),if_pos rfl,bit_xor' hlt hp]
    have hxx:x ^^^ 2^(M+X)=mg M X x:=by
      have h2:x ^^^ 2^(M+X)=(2^(M+X)+mg M X x) ^^^ 2^(M+X):=congrArg (· ^^^ 2^(M+X)) hx
      have h3:2^(M+X)+mg M X x=mg M X x ^^^ 2^(M+X):=by
        have h:=Nat.two_pow_add_eq_or_of_lt hm 1
        rw[Nat.mul_one] at h
        rw[h]
        apply Nat.eq_of_testBit_eq
        intro j
        rw[Nat.testBit_xor,Nat.testBit_or,Nat.testBit_two_pow]
        by_cases hj:M+X=j
        · subst hj
          rw[Nat.testBit_lt_two_pow hm];simp
        · simp[hj]
      rw[h2,h3,Nat.xor_assoc,Nat.xor_self,Nat.xor_zero]
    rw[hxx]
    generalize mg M X x=y at *
    rw[w64 (n:=(y:Int)) (by omega) (by omega),w64 (by omega) (by omega)]
theorem cmp_f {k:Nat} (hk:20≤k) {a b:Nat} (ha:Pt M X a) (hb:Pt M X b):soft_Cmp.f k (M:Int) (X:Int) (a:Int) (b:Int) =
    some (if kd M X a=4∨kd M X b=4 then (0,false,0) else (cmpI (plc M X a) (plc M X b),true,0)):=by
  obtain⟨k,rfl⟩:∃ j,k=j+1:=⟨k-1,by omega⟩
  have fin:∀ p,p=decide (kd M X a=4∨kd M X b=4)→soft_Cmp.j0 (k+1) (a:Int) (b:Int) 0 p (M:Int) (X:Int)=some (if kd M X a=4∨kd M X b=4 then (0,false,0) else (cmpI (plc M X a) (plc M X b),true,0)):=by
    intro p hp
    rw[soft_Cmp.j0.eq_2]
    by_cases h:kd M X a=4∨kd M X b=4
    · rw[hp,decide_eq_true h,if_pos rfl,if_pos h]
    · rw[hp,decide_eq_false h,if_neg (by simp),if_neg h,place_eq hM hM' hX hX' ha,Option.bind_some,place_eq hM hM' hX hX' hb,Option.bind_some]
      unfold cmpI
      by_cases h1:plc M X a<plc M X b
      · rw[if_pos h1,if_pos h1]
      · rw[if_neg h1,if_neg h1]
        by_cases h2:plc M X b<plc M X a
        · rw[if_pos h2,if_pos h2]
        · rw[if_neg h2,if_neg h2]
  unfold soft_Cmp.f
  rw[two_ok hM hM' hX hX' (by omega) ha hb,Option.bind_some]
  simp only[if_true,soft_odd.f]
  by_cases h1:kd M X a=4
  · rw[if_pos (by rw[h1];rfl),Option.bind_some]
    exact fin _ (by rw[decide_eq_true (Or.inl h1)])
  · rw[if_neg (by omega),Option.bind_some]
    refine fin _ ?_
    by_cases h2:kd M X b=4
    · rw[decide_eq_true (Or.inr h2),h2];rfl
    · rw[decide_eq_false (fun h=>h.elim h1 h2)]
      exact beq_eq_false_iff_ne.2 (by omega)
end
theorem cmp_ng {k:Nat} (hk:4≤k) {m x:Int} {a b:Nat} (ha:a<18446744073709551616) (hb:b<18446744073709551616) (h:¬ (Good m x a∧Good m x b)):soft_Cmp.f k m x (a:Int) (b:Int)=some (0,false,1):=by
  obtain⟨k,rfl⟩:∃ j,k=j+1:=⟨k-1,by omega⟩
  unfold soft_Cmp.f
  rw[two_ng hk ha hb h,Option.bind_some,if_neg (by decide),soft_Cmp.j0.eq_2,if_pos rfl]
end Go.Proofs.Ytmmbgbchimangaa.RS
