import Derived.Test.YtmmbgbchimangaaPQx20
import Derived.Test.YtmmbgbchimangaaSA
namespace Go.Proofs.Ytmmbgbchimangaa.RS
set_option linter.all false
open Go.RowKit Go.Proofs.Ytmmbgbchimangaa.PQ Go.Proofs.YtmmbgbchimangaaW.PrintWords Go.Proofs.YtmmbgbchimangaaW.PrintLast Go.Proofs.YtmmbgbchimangaaW.PrintMore
open FT
theorem bit_xor {a b:Nat} (ha:a<18446744073709551616) (hb:b<18446744073709551616):Go.bits .xor .u64 (a:Int) (b:Int)=((a ^^^ b:Nat):Int):=by
  have ha':a%2^IntKind.u64.bits=a:=Nat.mod_eq_of_lt ha
  have hb':b%2^IntKind.u64.bits=b:=Nat.mod_eq_of_lt hb
  simp only[Go.bits,BitVec.ofInt_natCast,BitVec.toNat_xor,BitVec.toNat_ofNat,ha',hb']
  exact wuN (Nat.xor_lt_two_pow (n:=64) ha hb)
theorem xor_low {y i:Nat} (hy:y<2^i):y ^^^ 2^i=2^i+y:=by
  have h:=Nat.two_pow_add_eq_or_of_lt hy 1
  rw[Nat.mul_one] at h
  rw[h]
  apply Nat.eq_of_testBit_eq
  intro j
  rw[Nat.testBit_xor,Nat.testBit_or,Nat.testBit_two_pow]
  by_cases hj:i=j
  · subst hj
    rw[Nat.testBit_lt_two_pow hy];simp
  · simp[hj]
theorem xor_high {y i:Nat} (hy:y<2^i):(2^i+y) ^^^ 2^i=y:=by
  rw[←xor_low hy,Nat.xor_assoc,Nat.xor_self,Nat.xor_zero]
/-- a pattern with its sign turned -/
def turnS (M X x:Nat):Nat:=sgn M X (!sg M X x)+mg M X x
theorem turn_pt (M X x:Nat):Pt M X (turnS M X x):=pt_mk (mg_lt M X x)
theorem turn_sg (M X x:Nat):sg M X (turnS M X x)=!sg M X x∧mg M X (turnS M X x)=mg M X x:=sg_mk (mg_lt M X x)
theorem turn_kd (M X x:Nat):kd M X (turnS M X x)=kd M X x∧av M X (turnS M X x)=av M X x:=by
  unfold kd av;rw[(turn_sg M X x).2];exact⟨rfl,rfl⟩
theorem turn_turn {M X x:Nat} (h:Pt M X x):turnS M X (turnS M X x)=x:=by
  unfold turnS
  have:=turn_sg M X x
  unfold turnS at this
  rw[this.1,this.2,Bool.not_not]
  exact (pt_split h).symm
section
variable {M X:Nat} (hM:2≤M) (hM':M≤52) (hX:2≤X) (hX':X≤11)
include hM hM' hX hX'
theorem xor_turn {x:Nat} (h:Pt M X x):Go.bits .xor .u64 (x:Int) ((sgn M X true:Nat):Int)=((turnS M X x:Nat):Int):=by
  have hlt:=pt_lt hM hM' hX hX' h
  have hp:=pow_lt (k:=M+X) (by omega)
  have hs:sgn M X true=2^(M+X):=rfl
  have hm:=mg_lt M X x
  rw[hs,bit_xor hlt hp]
  congr 1
  have hx:=pt_split h
  unfold turnS
  cases hb:sg M X x
  · rw[hb] at hx
    have h0:sgn M X false=0:=rfl
    rw[h0,Nat.zero_add] at hx
    have:x ^^^ 2^(M+X)=mg M X x ^^^ 2^(M+X):=congrArg (· ^^^ 2^(M+X)) hx
    rw[this,xor_low hm];rfl
  · rw[hb,hs] at hx
    have:x ^^^ 2^(M+X)=(2^(M+X)+mg M X x) ^^^ 2^(M+X):=congrArg (· ^^^ 2^(M+X)) hx
    rw[this,xor_high hm]
    have h0:sgn M X (!true)=0:=rfl
    rw[h0,Nat.zero_add]
theorem sub_eq {k:Nat} (hk:20≤k) {a b:Nat} (ha:Pt M X a) (hb:Pt M X b):soft_Sub.f k (M:Int) (X:Int) (a:Int) (b:Int)=some (((addS M X a (turnS M X b):Nat):Int),0):=by
  unfold soft_Sub.f
  rw[open_pt hM hM' hX hX' (by omega) hb,Option.bind_some,if_pos rfl,zero_f hM hM' hX hX',Option.bind_some,xor_turn hM hM' hX hX' hb,add_eq hM hM' hX hX' hk ha (turn_pt M X b),Option.bind_some]
end
theorem add_ng {k:Nat} (hk:4≤k) {m x:Int} {a b:Nat} (ha:a<18446744073709551616) (hb:b<18446744073709551616) (h:¬ (Good m x a∧Good m x b)):soft_Add.f k m x (a:Int) (b:Int)=some (0,1):=by
  unfold soft_Add.f
  rw[two_ng hk ha hb h,Option.bind_some,if_neg (by decide)]
theorem sub_ng {k:Nat} (hk:4≤k) {m x:Int} {a b:Nat} (ha:a<18446744073709551616) (hb:b<18446744073709551616) (h:¬ (Good m x a∧Good m x b)):soft_Sub.f k m x (a:Int) (b:Int)=some (0,1):=by
  unfold soft_Sub.f
  by_cases h1:Good m x b
  · obtain⟨M,X,rfl,rfl,hM,hM',hX,hX',hp⟩:=h1.nat
    have ht:=turn_pt M X b
    have hl:=pt_lt hM hM' hX hX' ht
    rw[open_pt hM hM' hX hX' hk hp,Option.bind_some,if_pos rfl,zero_f hM hM' hX hX',Option.bind_some,xor_turn hM hM' hX hX' hp,add_ng hk ha hl (fun h2=>h ⟨h2.1,h1⟩),Option.bind_some]
  · rw[open_ng (by omega) hb h1,Option.bind_some,if_neg (by decide)]
end Go.Proofs.Ytmmbgbchimangaa.RS
