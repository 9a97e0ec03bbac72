/- The reference's Turn, Add, Sub are the program's. -/
import Derived.Test.YtmmbgbchimangaaPQx15
import Derived.Test.YtmmbgbchimangaaPQx19
import Derived.Test.YtmmbgbchimangaaPQx21
import Derived.Test.YtmmbgbchimangaaRN5
import Derived.Test.YtmmbgbchimangaaRA1
import Derived.Test.YtmmbgbchimangaaSB
namespace Go.Proofs.Ytmmbgbchimangaa.RS
set_option linter.all false
open Go.RowKit Go.Proofs.Ytmmbgbchimangaa.PQ Go.Proofs.YtmmbgbchimangaaW.PrintWords Go.Proofs.YtmmbgbchimangaaW.PrintLast Go.Proofs.YtmmbgbchimangaaW.PrintMore
open FT
section
variable {M X:Nat} (hM:2≤M) (hM':M≤52) (hX:2≤X) (hX':X≤11)
include hM hM' hX hX'
theorem turnr_eq {k:Nat} (hk:64<k) {a:Nat} (ha:Pt M X a):grottoref03_Turn.f k (M:Int) (X:Int) (a:Int)=some ((turnS M X a:Nat):Int):=by
  have hlt:=pt_lt hM hM' hX hX' ha
  have hs:=pt_split ha
  have ht:sgn M X true=2^(M+X):=rfl
  have hf:sgn M X false=0:=rfl
  have hm:=mg_lt M X a
  have hp2:2^(M+X)*2≤18446744073709551616:=by
    have:=Nat.pow_le_pow_right (n:=2) (by omega) (show M+X+1≤64 by omega)
    rw[Nat.pow_succ] at this;exact this
  unfold grottoref03_Turn.f turnS
  rw[rzero_eq hM hM' hX hX' hk,Option.bind_some,ht]
  cases hb:sg M X a
  · rw[hb,hf,Nat.zero_add] at hs
    have hn:(!false)=true:=rfl
    rw[if_neg (by omega),hn,ht]
    have:IntKind.u64.wrap ((a:Int)+((2^(M+X):Nat):Int))=((a+2^(M+X):Nat):Int):=by
      rw[←Int.natCast_add];exact wuN (by omega)
    rw[this,←hs,Nat.add_comm]
  · rw[hb,ht] at hs
    have hn:(!true)=false:=rfl
    rw[if_pos (by omega),hn,hf,Nat.zero_add]
    have:IntKind.u64.wrap ((a:Int)-((2^(M+X):Nat):Int))=((a-2^(M+X):Nat):Int):=by
      rw[←Int.ofNat_sub (by omega)];exact wuN (by omega)
    rw[this];congr 2;omega
theorem radd_eq {k:Nat} (hk:501000<k) {a b:Nat} (ha:Pt M X a) (hb:Pt M X b):grottoref03_Add.f k (M:Int) (X:Int) (a:Int) (b:Int)=some (((addS M X a b:Nat):Int),0):=by
  obtain⟨k,rfl⟩:∃ j,k=j+4:=⟨k-4,by omega⟩
  obtain⟨l1,l2,l3⟩:=least_bounds hM hM' hX hX'
  have hz:=fun {k:Nat} (hk:64<k)=>rzero_eq hM hM' hX hX' (k:=k) hk
  have hi:=fun {k:Nat} (hk:64<k)=>rinf_eq hM hM' hX hX' (k:=k) hk
  have hn:∀ {k:Nat},64<k→grottoref02_NaN.f k (M:Int) (X:Int)=some ((nanp M X:Nat):Int):=fun hk=>rnan_eq hM hM' hX hX' hk
  have hfin:(kd M X a=1∨kd M X a=2)→(kd M X b=1∨kd M X b=2)→grottoref03_Add.j3 (k+2) false (M:Int) (X:Int) ((kd M X a:Nat):Int) (sg M X a) (ex M X a) ((mt M X a:Nat):Int) ((kd M X b:Nat):Int) (sg M X b) (ex M X b) ((mt M X b:Nat):Int) =
      some (((sumS M X (sv (sg M X a) (av M X a)+sv (sg M X b) (av M X b)):Nat):Int),0):=by
    intro h1 h2
    obtain⟨s,ea,sa,ma,va⟩:=opened hM hM' hX hX' h1
    obtain⟨t,eb,sb,mb,vb⟩:=opened hM hM' hX hX' h2
    obtain⟨neg,N,q1,q2,q3⟩:=rplus_eq (k:=k+1) (by omega) (sg M X a) (sg M X b) (L:=least M X) (by omega) (by omega) ma mb sa sb
    rw[grottoref03_Add.j3.eq_2,if_neg (by simp),rexact_eq (by omega) _ _ _ (by omega),Option.bind_some,rexact_eq (by omega) _ _ _ (by omega),Option.bind_some,ea,eb]
    dsimp only
    rw[q1,Option.bind_some,bits_eq (by omega) (by omega),Option.bind_some,va,vb,←q2]
    by_cases h0:N=0
    · have hb0:blen N=0:=by rw[h0];rfl
      have hs0:sumS M X (sv neg (N*2^min s t))=0:=by rw[h0,Nat.zero_mul];unfold sumS;rw[if_pos (by cases neg <;> rfl)]
      rw[if_pos (by rw[hb0];rfl),hz (by omega),Option.bind_some,hs0];rfl
    · have hb0:blen N≠0:=by unfold blen;rw[if_neg h0];omega
      have o1:(digits 1).length≤1:=by rw[digits_one];simp
      have one:grottoref03_one.f=some (digits 1):=by rw[digits_one];rfl
      have hne:N*2^min s t≠0:=by have:=Nat.mul_pos (Nat.pos_of_ne_zero h0) (two_pos (min s t));omega
      have hmin:min s t≤2200:=by omega
      have ne:=near_eq hM hM' hX hX' (k:=k+1) (by omega) neg (a:=N) (b:=1) (e:=least M X+(min s t:Nat)) (by omega) (by omega) (by omega) (by omega) (by omega)
      rw[if_neg (by omega),one,Option.bind_some,sI_lt,ne,Option.bind_some,npat_up,sumS_sv _ hne]
  unfold grottoref03_Add.f
  rw[ropen2 hM hM' hX hX' (by omega) ha hb,Option.bind_some]
  dsimp only
  rw[if_pos rfl]
  unfold addS
  have d1:∀ n:Nat,n≠1→((n:Int)==1)=false:=fun n h=>beq_eq_false_iff_ne.2 (by omega)
  rcases kd_cases M X a with h1|h1|h1|h1 <;> rcases kd_cases M X b with h2|h2|h2|h2
  case inr.inl.inr.inl =>
    have hf:=hfin (Or.inr h1) (Or.inr h2)
    rw[h1,h2] at hf ⊢
    simp (config:={ decide:=true }) only[grottoref03_Add.j0.eq_2,grottoref03_Add.j1.eq_2,if_true,if_false,or_self,false_and,Bool.false_eq_true]
    exact hf
  case inl.inr.inl =>
    have hf:=hfin (Or.inl h1) (Or.inr h2)
    rw[h1,h2] at hf ⊢
    simp (config:={ decide:=true }) only[grottoref03_Add.j0.eq_2,grottoref03_Add.j1.eq_2,if_true,if_false,or_self,and_false,Bool.false_eq_true]
    exact hf
  case inr.inl.inl =>
    have hf:=hfin (Or.inr h1) (Or.inl h2)
    rw[h1,h2] at hf ⊢
    simp (config:={ decide:=true }) only[grottoref03_Add.j0.eq_2,grottoref03_Add.j1.eq_2,if_true,if_false,or_self,false_and,Bool.false_eq_true]
    exact hf
  all_goals
    rw[h1,h2]
    cases hsa:sg M X a <;> cases hsb:sg M X b <;>
    simp (config:={ decide:=true }) [grottoref03_Add.j0.eq_2,grottoref03_Add.j1.eq_2,grottoref03_Add.j2.eq_2,grottoref03_Add.j3.eq_2,hz,hi,hn,show 64<k by omega,show 64<k+1 by omega,show 64<k+2 by omega,show 64<k+3 by omega]
theorem rsub_eq {k:Nat} (hk:501000<k) {a b:Nat} (ha:Pt M X a) (hb:Pt M X b):grottoref03_Sub.f k (M:Int) (X:Int) (a:Int) (b:Int)=some (((addS M X a (turnS M X b):Nat):Int),0):=by
  have ob:grottoref02_Open.f k (M:Int) (X:Int) (b:Int)=some (((kd M X b:Nat):Int),sg M X b,ex M X b,((mt M X b:Nat):Int),0):=ropen_ok hM hM' hX hX' (by omega) hb
  unfold grottoref03_Sub.f
  rw[ob,Option.bind_some,if_pos rfl,turnr_eq hM hM' hX hX' (by omega) hb,Option.bind_some,radd_eq hM hM' hX hX' hk ha (turn_pt M X b),Option.bind_some]
end
theorem radd_ng {k:Nat} (hk:68<k) {m x:Int} {a b:Nat} (ha:a<18446744073709551616) (hb:b<18446744073709551616) (h:¬ (Good m x a∧Good m x b)):grottoref03_Add.f k m x (a:Int) (b:Int)=some (0,1):=by
  unfold grottoref03_Add.f
  rw[ropen2_ng hk ha hb h,Option.bind_some];rfl
theorem rsub_ng {k:Nat} (hk:501000<k) {m x:Int} {a b:Nat} (ha:a<18446744073709551616) (hb:b<18446744073709551616) (h:¬ (Good m x a∧Good m x b)):grottoref03_Sub.f k m x (a:Int) (b:Int)=some (0,1):=by
  unfold grottoref03_Sub.f
  by_cases h2:Good m x b
  · obtain⟨M,X,rfl,rfl,hM,hM',hX,hX',pb⟩:=h2.nat
    have ob:grottoref02_Open.f k (M:Int) (X:Int) (b:Int)=some (((kd M X b:Nat):Int),sg M X b,ex M X b,((mt M X b:Nat):Int),0):=ropen_ok hM hM' hX hX' (by omega) pb
    have g2:Good (M:Int) (X:Int) (turnS M X b):=Good.of hM hM' hX hX' (turn_pt M X b)
    rw[ob,Option.bind_some,if_pos rfl,turnr_eq hM hM' hX hX' (by omega) pb,Option.bind_some,radd_ng (by omega) ha (pt_lt hM hM' hX hX' (turn_pt M X b)) (fun h3=>h ⟨h3.1,h2⟩),Option.bind_some]
  · rw[ropen_ng (by omega) hb h2,Option.bind_some];rfl
end Go.Proofs.Ytmmbgbchimangaa.RS
