/- The reference's division with a rest is the program's. -/
import Derived.Test.YtmmbgbchimangaaPQx13
import Derived.Test.YtmmbgbchimangaaRA1
import Derived.Test.YtmmbgbchimangaaRN5
import Derived.Test.YtmmbgbchimangaaSO
namespace Go.Proofs.Ytmmbgbchimangaa.RS
set_option linter.all false
open Go.RowKit Go.Proofs.Ytmmbgbchimangaa.PQ Go.Proofs.YtmmbgbchimangaaW.PrintWords Go.Proofs.YtmmbgbchimangaaW.PrintLast Go.Proofs.YtmmbgbchimangaaW.PrintMore
open FT
section
variable {M X:Nat} (hM:2≤M) (hM':M≤52) (hX:2≤X) (hX':X≤11)
include hM hM' hX hX'
theorem rmod_eq {k:Nat} (hk:501000<k) {a b:Nat} (ha:Pt M X a) (hb:Pt M X b):grottoref03_Mod.f k (M:Int) (X:Int) (a:Int) (b:Int)=some (((modR M X a b:Nat):Int),((modQ M X a b:Nat):Int),0):=by
  obtain⟨k,rfl⟩:∃ j,k=j+4:=⟨k-4,by omega⟩
  obtain⟨l1,l2,l3⟩:=least_bounds hM hM' hX hX'
  have hz:=fun {k:Nat} (hk:64<k)=>rzero_eq hM hM' hX hX' (k:=k) hk
  have hn:∀ {k:Nat},64<k→grottoref02_NaN.f k (M:Int) (X:Int)=some ((nanp M X:Nat):Int):=fun hk=>rnan_eq hM hM' hX hX' hk
  have hfin:(kd M X a=1∨kd M X a=2)→kd M X b=2→grottoref03_Mod.j0 (k+4) (a:Int) (sg M X a != sg M X b) false (M:Int) (X:Int) ((kd M X a:Nat):Int) (sg M X a) (ex M X a) ((mt M X a:Nat):Int) ((kd M X b:Nat):Int) (sg M X b) (ex M X b) ((mt M X b:Nat):Int) =
      some (((sgn M X (sg M X a)+pat M (inf M X) (av M X a%av M X b) 1:Nat):Int),((sgn M X (sg M X a != sg M X b)+npat M X (av M X a/av M X b) 1 (0-least M X):Nat):Int),0):=by
    intro h1 h2
    obtain⟨s,ea,sa,ma,va⟩:=opened hM hM' hX hX' h1
    obtain⟨t,eb,sb,mb,vb⟩:=opened hM hM' hX hX' (Or.inr h2)
    have hp:=av_pos hM hM' hX hX' h2
    have l4:=digits_pow (m:=mt M X a) (s:=s-min s t) ma (by omega)
    have l5:=digits_pow (m:=mt M X b) (s:=t-min s t) mb (by omega)
    have e1:mt M X a*2^s=mt M X a*2^(s-min s t)*2^min s t:=by rw[Nat.mul_assoc,←Nat.pow_add];congr 2;omega
    have e2:mt M X b*2^t=mt M X b*2^(t-min s t)*2^min s t:=by rw[Nat.mul_assoc,←Nat.pow_add];congr 2;omega
    have hmp:=two_pos (min s t)
    rw[grottoref03_Mod.j0.eq_2,if_neg (by simp),if_neg (by omega),rexact_eq (by omega) _ _ _ (by omega),Option.bind_some,rexact_eq (by omega) _ _ _ (by omega),Option.bind_some,ea,eb]
    dsimp only
    rw[ralike_eq (by omega) _ _ (by omega) (by omega) ma mb sa sb,Option.bind_some,va,vb,e1,e2]
    rw[vb,e2] at hp
    dsimp only
    generalize mt M X a*2^(s-min s t)=A at *
    generalize mt M X b*2^(t-min s t)=B at *
    have hB:0<B:=Nat.pos_of_ne_zero fun h=>by rw[h,Nat.zero_mul] at hp;omega
    have hmin:min s t≤2200:=by omega
    have o1:(digits 1).length≤1:=by rw[digits_one];simp
    have one:grottoref03_one.f=some (digits 1):=by rw[digits_one];rfl
    have q1:=digits_len_mono (Nat.div_le_self A B)
    have q2:=digits_len_mono (Nat.mod_le A B)
    have n1:=near_eq hM hM' hX hX' (k:=k+3) (by omega) (sg M X a) (a:=A%B) (b:=1) (e:=least M X+(min s t:Nat)) (by omega) (by omega) (by omega) (by omega) (by omega)
    have n2:=near_eq hM hM' hX hX' (k:=k+3) (by omega) (sg M X a != sg M X b) (a:=A/B) (b:=1) (e:=0) (by omega) (by omega) (by omega) (by omega) (by omega)
    rw[quo_eq hB (by omega) (by omega) (by omega),Option.bind_some,one,Option.bind_some,n1,Option.bind_some,Option.bind_some,n2,Option.bind_some,npat_up,Nat.mul_div_mul_right _ _ hmp,Nat.mul_mod_mul_right]
  unfold grottoref03_Mod.f
  rw[ropen2 hM hM' hX hX' (by omega) ha hb,Option.bind_some]
  dsimp only
  rw[if_pos rfl]
  have hza:kd M X a=1→sgn M X (sg M X a)+pat M (inf M X) (av M X a%av M X b) 1=a∧npat M X (av M X a/av M X b) 1 (0-least M X)=0:=by
    intro h
    have h0:=(kd1 hM hM' hX hX').1 h
    have hs:=pt_split ha
    rw[h0] at hs
    rw[av_zero hM hM' hX hX' h,Nat.zero_mod,Nat.zero_div]
    have hp0:pat M (inf M X) 0 1=0:=by have:=pat_fits (M:=M) (X:=X) (y:=0) (by omega);rw[val_zero] at this;exact this
    exact⟨by rw[hp0];omega,npat_zero (by omega)⟩
  rcases kd_cases M X a with h1|h1|h1|h1 <;> rcases kd_cases M X b with h2|h2|h2|h2
  case inr.inl.inr.inl =>
    have hf:=hfin (Or.inr h1) h2
    rw[h1,h2] at hf ⊢
    simp (config:={ decide:=true }) only[modR,modQ,h1,h2,if_true,if_false,or_self]
    exact hf
  case inl.inr.inl =>
    have hf:=hfin (Or.inl h1) h2
    obtain⟨z1,z2⟩:=hza h1
    rw[z1,z2,Nat.add_zero,h1,h2] at hf
    rw[h1,h2]
    simp (config:={ decide:=true }) only[modR,modQ,h1,h2,if_true,if_false,or_self,true_or]
    exact hf
  all_goals simp (config:={ decide:=true }) only[h1,h2,modR,modQ,grottoref03_Mod.j0.eq_2,if_true,if_false,or_self,or_true,true_or,Bool.false_eq_true,hz,hn,show 64<k+3 by omega,Option.bind_some]
end
theorem rmod_ng {k:Nat} (hk:68<k) {m x:Int} {a b:Nat} (ha:a<18446744073709551616) (hb:b<18446744073709551616) (h:¬ (Good m x a∧Good m x b)):grottoref03_Mod.f k m x (a:Int) (b:Int)=some (0,0,1):=by
  unfold grottoref03_Mod.f
  rw[ropen2_ng hk ha hb h,Option.bind_some];rfl
end Go.Proofs.Ytmmbgbchimangaa.RS
