/- The reference's product and quotient are the program's. -/
import Derived.Test.YtmmbgbchimangaaPQx30
import Derived.Test.YtmmbgbchimangaaPQx31
import Derived.Test.YtmmbgbchimangaaRT
import Derived.Test.YtmmbgbchimangaaRN5
import Derived.Test.YtmmbgbchimangaaRA1
import Derived.Test.YtmmbgbchimangaaSM2
import Derived.Test.YtmmbgbchimangaaSD
namespace Go.Proofs.Ytmmbgbchimangaa.RS
set_option linter.all false
open Go.RowKit Go.Proofs.Ytmmbgbchimangaa.PQ Go.Proofs.YtmmbgbchimangaaW.PrintWords Go.Proofs.YtmmbgbchimangaaW.PrintLast Go.Proofs.YtmmbgbchimangaaW.PrintMore
open FT
section
variable {M X:Nat} (hM:2≤M) (hM':M≤52) (hX:2≤X) (hX':X≤11)
include hM hM' hX hX'
theorem rmul_eq {k:Nat} (hk:501000<k) {a b:Nat} (ha:Pt M X a) (hb:Pt M X b):grottoref03_Mul.f k (M:Int) (X:Int) (a:Int) (b:Int)=some (((mulS M X a b:Nat):Int),0):=by
  obtain⟨k,rfl⟩:∃ j,k=j+4:=⟨k-4,by omega⟩
  obtain⟨l1,l2,l3⟩:=least_bounds hM hM' hX hX'
  have hi:=fun {k:Nat} (hk:64<k)=>rinf_eq hM hM' hX hX' (k:=k) hk
  have hn:∀ {k:Nat},64<k→grottoref02_NaN.f k (M:Int) (X:Int)=some ((nanp M X:Nat):Int):=fun hk=>rnan_eq hM hM' hX hX' hk
  have hfin:(kd M X a=1∨kd M X a=2)→(kd M X b=1∨kd M X b=2)→∀ neg,grottoref03_Mul.j0 (k+4) neg false (M:Int) (X:Int) ((kd M X a:Nat):Int) (sg M X a) (ex M X a) ((mt M X a:Nat):Int) ((kd M X b:Nat):Int) (sg M X b) (ex M X b) ((mt M X b:Nat):Int) =
      some (((sgn M X neg+npat M X (av M X a*av M X b) 1 (least M X):Nat):Int),0):=by
    intro h1 h2 neg
    obtain⟨s,ea,sa,ma,va⟩:=opened hM hM' hX hX' h1
    obtain⟨t,eb,sb,mb,vb⟩:=opened hM hM' hX hX' h2
    have hw:Unit→wrap64 (least M X+(s:Int)+(least M X+(t:Int)))=least M X+(s:Int)+(least M X+(t:Int)):=fun _=>w64 (by omega) (by omega)
    have hl1:(digits (mt M X a)).length≤4:=digits_len (by omega)
    have hl2:(digits (mt M X b)).length≤4:=digits_len (by omega)
    have hl3:(digits (mt M X a*mt M X b)).length≤8:=digits_len (by
      have:=Nat.mul_lt_mul'' ma mb
      exact Nat.lt_trans this (by decide))
    have o1:(digits 1).length≤1:=by rw[digits_one];simp
    have one:grottoref03_one.f=some (digits 1):=by rw[digits_one];rfl
    have ne:=near_eq hM hM' hX hX' (k:=k+3) (by omega) neg (a:=mt M X a*mt M X b) (b:=1) (e:=least M X+(s:Int)+(least M X+(t:Int))) (by omega) (by omega) (by omega) (by omega) (by omega)
    have rat:=npat_rat (M:=M) (X:=X) (a:=mt M X a*mt M X b) (b:=1) (x:=s+t) (y:=0) (s:=least M X) (by omega)
    have e1:mt M X a*2^s*(mt M X b*2^t)=mt M X a*mt M X b*2^(s+t):=by rw[Nat.pow_add];ac_rfl
    have e2:least M X+((s+t:Nat):Int)-((0:Nat):Int)=least M X+(s:Int)+(least M X+(t:Int))-least M X:=by omega
    rw[Nat.pow_zero,Nat.mul_one,e2] at rat
    rw[grottoref03_Mul.j0.eq_2,if_neg (by simp),if_neg (by omega),if_neg (by omega),natof_eq (by omega) (by omega),Option.bind_some,natof_eq (by omega) (by omega),Option.bind_some,times_eq (by omega) (by omega) (by omega),Option.bind_some,one,Option.bind_some,ea,eb,hw (),ne,Option.bind_some,va,vb,e1,rat]
  unfold grottoref03_Mul.f
  rw[ropen2 hM hM' hX hX' (by omega) ha hb,Option.bind_some]
  dsimp only
  rw[if_pos rfl]
  unfold mulS
  rcases kd_cases M X a with h1|h1|h1|h1 <;> rcases kd_cases M X b with h2|h2|h2|h2
  case inr.inl.inr.inl =>
    have hf:=hfin (Or.inr h1) (Or.inr h2)
    rw[h1,h2] at hf ⊢
    simp (config:={ decide:=true }) only[if_true,if_false,or_self,false_and,and_false]
    exact hf _
  case inl.inr.inl =>
    have hf:=hfin (Or.inl h1) (Or.inr h2)
    rw[h1,h2] at hf ⊢
    simp (config:={ decide:=true }) only[if_true,if_false,or_self,false_and,and_false]
    exact hf _
  case inr.inl.inl =>
    have hf:=hfin (Or.inr h1) (Or.inl h2)
    rw[h1,h2] at hf ⊢
    simp (config:={ decide:=true }) only[if_true,if_false,or_self,false_and,and_false]
    exact hf _
  case inl.inl =>
    have hf:=hfin (Or.inl h1) (Or.inl h2)
    rw[h1,h2] at hf ⊢
    simp (config:={ decide:=true }) only[if_true,if_false,or_self,false_and,and_false]
    exact hf _
  all_goals simp (config:={ decide:=true }) only[h1,h2,grottoref03_Mul.j0.eq_2,if_true,if_false,or_self,or_true,true_or,Bool.false_eq_true,hi,hn,show 64<k+3 by omega,Option.bind_some,and_self,false_and,and_false,or_false,false_or]
theorem rdiv_eq {k:Nat} (hk:501000<k) {a b:Nat} (ha:Pt M X a) (hb:Pt M X b):grottoref03_Div.f k (M:Int) (X:Int) (a:Int) (b:Int)=some (((divS M X a b:Nat):Int),0):=by
  obtain⟨k,rfl⟩:∃ j,k=j+4:=⟨k-4,by omega⟩
  obtain⟨l1,l2,l3⟩:=least_bounds hM hM' hX hX'
  have hz:=fun {k:Nat} (hk:64<k)=>rzero_eq hM hM' hX hX' (k:=k) hk
  have hi:=fun {k:Nat} (hk:64<k)=>rinf_eq hM hM' hX hX' (k:=k) hk
  have hn:∀ {k:Nat},64<k→grottoref02_NaN.f k (M:Int) (X:Int)=some ((nanp M X:Nat):Int):=fun hk=>rnan_eq hM hM' hX hX' hk
  have hfin:(kd M X a=1∨kd M X a=2)→kd M X b=2→∀ neg,grottoref03_Div.j0 (k+4) neg false (M:Int) (X:Int) ((kd M X a:Nat):Int) (sg M X a) (ex M X a) ((mt M X a:Nat):Int) ((kd M X b:Nat):Int) (sg M X b) (ex M X b) ((mt M X b:Nat):Int) =
      some (((sgn M X neg+npat M X (av M X a) (av M X b) (0-least M X):Nat):Int),0):=by
    intro h1 h2 neg
    obtain⟨s,ea,sa,ma,va⟩:=opened hM hM' hX hX' h1
    obtain⟨t,eb,sb,mb,vb⟩:=opened hM hM' hX hX' (Or.inr h2)
    have hp:=av_pos hM hM' hX hX' h2
    rw[vb] at hp
    have hmb:0<mt M X b:=Nat.pos_of_ne_zero fun h=>by rw[h,Nat.zero_mul] at hp;omega
    have hw:Unit→wrap64 (least M X+(s:Int)-(least M X+(t:Int)))=(s:Int)-(t:Int):=fun _=>by rw[w64 (by omega) (by omega)];omega
    have hl1:(digits (mt M X a)).length≤4:=digits_len (by omega)
    have hl2:(digits (mt M X b)).length≤4:=digits_len (by omega)
    have ne:=near_eq hM hM' hX hX' (k:=k+2) (by omega) neg (a:=mt M X a) (b:=mt M X b) (e:=(s:Int)-(t:Int)) hmb (by omega) (by omega) (by omega) (by omega)
    have rat:=npat_rat (M:=M) (X:=X) (a:=mt M X a) (b:=mt M X b) (x:=s) (y:=t) (s:=0-least M X) hmb
    have e2:0-least M X+(s:Int)-(t:Int)=(s:Int)-(t:Int)-least M X:=by omega
    rw[e2] at rat
    have hq:(((kd M X b:Nat):Int)==1)=false:=beq_eq_false_iff_ne.2 (by omega)
    rw[grottoref03_Div.j0.eq_2,if_neg (by simp),if_neg (by omega),hq,grottoref03_Div.j1.eq_2,if_neg (by simp),if_neg (by omega),natof_eq (by omega) (by omega),Option.bind_some,natof_eq (by omega) (by omega),Option.bind_some,ea,eb,hw (),ne,Option.bind_some,va,vb,rat]
  unfold grottoref03_Div.f
  rw[ropen2 hM hM' hX hX' (by omega) ha hb,Option.bind_some]
  dsimp only
  rw[if_pos rfl]
  unfold divS
  rcases kd_cases M X a with h1|h1|h1|h1 <;> rcases kd_cases M X b with h2|h2|h2|h2
  case inr.inl.inr.inl =>
    have hf:=hfin (Or.inr h1) h2
    rw[h1,h2] at hf ⊢
    simp (config:={ decide:=true }) only[if_true,if_false,or_self,false_and,and_false]
    exact hf _
  case inl.inr.inl =>
    have hf:=hfin (Or.inl h1) h2
    rw[h1,h2] at hf ⊢
    simp (config:={ decide:=true }) only[if_true,if_false,or_self,false_and,and_false]
    exact hf _
  all_goals simp (config:={ decide:=true }) only[h1,h2,grottoref03_Div.j0.eq_2,grottoref03_Div.j1.eq_2,if_true,if_false,or_self,or_true,true_or,Bool.false_eq_true,hi,hn,hz,show 64<k+3 by omega,show 64<k+2 by omega,Option.bind_some,and_self,false_and,and_false,or_false,false_or]
end
theorem rmul_ng {k:Nat} (hk:68<k) {m x:Int} {a b:Nat} (ha:a<18446744073709551616) (hb:b<18446744073709551616) (h:¬ (Good m x a∧Good m x b)):grottoref03_Mul.f k m x (a:Int) (b:Int)=some (0,1):=by
  unfold grottoref03_Mul.f
  rw[ropen2_ng hk ha hb h,Option.bind_some];rfl
theorem rdiv_ng {k:Nat} (hk:68<k) {m x:Int} {a b:Nat} (ha:a<18446744073709551616) (hb:b<18446744073709551616) (h:¬ (Good m x a∧Good m x b)):grottoref03_Div.f k m x (a:Int) (b:Int)=some (0,1):=by
  unfold grottoref03_Div.f
  rw[ropen2_ng hk ha hb h,Option.bind_some];rfl
end Go.Proofs.Ytmmbgbchimangaa.RS
