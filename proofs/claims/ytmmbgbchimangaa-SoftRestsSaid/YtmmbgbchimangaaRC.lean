/- The reference's comparison is the program's. -/
import Derived.Test.YtmmbgbchimangaaPQx17
import Derived.Test.YtmmbgbchimangaaRA1
import Derived.Test.YtmmbgbchimangaaCV
namespace Go.Proofs.Ytmmbgbchimangaa.RS
set_option linter.all false
open Go.RowKit Go.Proofs.Ytmmbgbchimangaa.PQ Go.Proofs.YtmmbgbchimangaaW.PrintWords Go.Proofs.YtmmbgbchimangaaW.PrintLast Go.Proofs.YtmmbgbchimangaaW.PrintMore
open FT
section
variable {M X:Nat} (hM:2≤M) (hM':M≤52) (hX:2≤X) (hX':X≤11)
include hM hM' hX hX'
theorem rcmp_eq {k:Nat} (hk:3000<k) {a b:Nat} (ha:Pt M X a) (hb:Pt M X b):grottoref03_Cmp.f k (M:Int) (X:Int) (a:Int) (b:Int) =
    some (if kd M X a=4∨kd M X b=4 then (0,false,0) else (cmpI (plc M X a) (plc M X b),true,0)):=by
  obtain⟨k,rfl⟩:∃ j,k=j+2:=⟨k-2,by omega⟩
  obtain⟨l1,l2,l3⟩:=least_bounds hM hM' hX hX'
  have hfin:(kd M X a=1∨kd M X a=2)→(kd M X b=1∨kd M X b=2)→grottoref03_Cmp.j1 (k+1) 0 0 false ((kd M X a:Nat):Int) (sg M X a) (ex M X a) ((mt M X a:Nat):Int) ((kd M X b:Nat):Int) (sg M X b) (ex M X b) ((mt M X b:Nat):Int) =
      some (cmpI (plc M X a) (plc M X b),true,0):=by
    intro h1 h2
    obtain⟨s,ea,sa,ma,va⟩:=opened hM hM' hX hX' h1
    obtain⟨t,eb,sb,mb,vb⟩:=opened hM hM' hX hX' h2
    obtain⟨neg,N,q1,q2,q3⟩:=rplus_eq (k:=k) (by omega) (sg M X a) (!sg M X b) (L:=least M X) (by omega) (by omega) ma mb sa sb
    have hw:wrap64 (-sI (sg M X b))=sI (!sg M X b):=by rw[sI_neg];cases sg M X b <;> decide +kernel
    rw[grottoref03_Cmp.j1.eq_2,if_neg (by simp),rexact_eq (by omega) _ _ _ (by omega),Option.bind_some,rexact_eq (by omega) _ _ _ (by omega),Option.bind_some,ea,eb]
    dsimp only
    rw[hw,q1,Option.bind_some,bits_eq (by omega) (by omega),Option.bind_some]
    have hc:cmpI (plc M X a) (plc M X b)=cmpI (sv (sg M X a) (av M X a)) (sv (sg M X b) (av M X b)):=cmp_val M _ _ _ _
    rw[hc]
    rw[←va,←vb] at q2
    have hn:sv (!sg M X b) (av M X b)=-sv (sg M X b) (av M X b):=by unfold sv;cases sg M X b <;> simp
    rw[hn] at q2
    generalize sv (sg M X a) (av M X a)=A at *
    generalize sv (sg M X b) (av M X b)=B at *
    by_cases h0:N=0
    · have hb0:blen N=0:=by rw[h0];rfl
      have e0:sv neg (N*2^min s t)=0:=(sv_zero neg).2 (by rw[h0,Nat.zero_mul])
      rw[if_pos (by rw[hb0];rfl)]
      unfold cmpI
      rw[if_neg (by omega),if_neg (by omega)]
    · have hb0:blen N≠0:=by unfold blen;rw[if_neg h0];omega
      have hne:=Nat.mul_pos (Nat.pos_of_ne_zero h0) (two_pos (min s t))
      rw[if_neg (by omega)]
      generalize N*2^min s t=Q at *
      unfold sv at q2
      unfold cmpI sI
      cases neg
      · simp only[if_false,Bool.false_eq_true] at q2 ⊢
        rw[if_neg (by omega),if_pos (by omega)]
      · simp only[if_true] at q2 ⊢
        rw[if_pos (by omega)]
  have hside:∀ (n:Nat) (neg:Bool) (e m:Int),grottoref03_side.f (n:Int) neg e m=some (if n=3 then (if neg then -1 else 1) else 0):=by
    intro n neg e m
    unfold grottoref03_side.f
    by_cases h:n=3
    · rw[if_pos (by omega),if_pos h];cases neg <;> rfl
    · rw[if_neg (by omega),if_neg h]
  have hinf:=inf_pos hM hM' hX hX'
  have hpl:∀ x,(kd M X x=3→plc M X x=sv (sg M X x) (inf M X))∧((kd M X x=1∨kd M X x=2)→-(inf M X:Int)<plc M X x∧plc M X x<(inf M X:Int)):=by
    intro x
    refine⟨fun h=>?_,fun h=>?_⟩
    · unfold plc;rw[(kd3 hM hM' hX hX').1 h]
    · have hm:mg M X x<inf M X:=by
        rcases h with h|h
        · rw[(kd1 hM hM' hX hX').1 h];exact hinf
        · exact ((kd2 hM hM' hX hX').1 h).2
      unfold plc sv;split <;> omega
  have h10:((1:Int) != 0)=true:=by decide
  have hm10:((-1:Int) != 0)=true:=by decide
  unfold grottoref03_Cmp.f
  rw[ropen2 hM hM' hX hX' (by omega) ha hb,Option.bind_some]
  dsimp only
  rw[if_pos rfl]
  obtain⟨pa3,paf⟩:=hpl a
  obtain⟨pb3,pbf⟩:=hpl b
  by_cases h4:kd M X a=4∨kd M X b=4
  · rw[if_pos h4]
    rcases h4 with h|h
    · rw[if_pos (by rw[h];rfl),grottoref03_Cmp.j0.eq_2,if_pos rfl]
    · have hj:grottoref03_Cmp.j0 (k+2) true ((kd M X a:Nat):Int) (sg M X a) (ex M X a) ((mt M X a:Nat):Int) ((kd M X b:Nat):Int) (sg M X b) (ex M X b) ((mt M X b:Nat):Int)=some (0,false,0):=by
        rw[grottoref03_Cmp.j0.eq_2,if_pos rfl]
      have hbq:(((kd M X b:Nat):Int)==4)=true:=by rw[h];rfl
      rw[hbq,hj,ite_self]
  · have na:kd M X a≠4:=fun h=>h4 (Or.inl h)
    have nb:kd M X b≠4:=fun h=>h4 (Or.inr h)
    have hbq:(((kd M X b:Nat):Int)==4)=false:=beq_eq_false_iff_ne.2 (by omega)
    rw[if_neg h4,if_neg (by omega),hbq,grottoref03_Cmp.j0.eq_2,if_neg (by simp),hside,Option.bind_some,hside,Option.bind_some]
    have w:∀ c,(mx (-1) (mn 1 (wrap64 c))=cmpI (plc M X a) (plc M X b))→∀ (x y:Int) (A B C D E F G H),x-y=c→grottoref03_Cmp.j1 (k+1) x y true A B C D E F G H=some (cmpI (plc M X a) (plc M X b),true,0):=by
      intro c h x y A B C D E F G H hxy
      rw[grottoref03_Cmp.j1.eq_2,if_pos rfl,hxy,h]
    have m1:mx (-1) (mn 1 (wrap64 1))=1:=by decide +kernel
    have m2:mx (-1) (mn 1 (wrap64 2))=1:=by decide +kernel
    have m0:mx (-1) (mn 1 (wrap64 0))=0:=by decide +kernel
    have m3:mx (-1) (mn 1 (wrap64 (-1)))=-1:=by decide +kernel
    have m4:mx (-1) (mn 1 (wrap64 (-2)))=-1:=by decide +kernel
    have lt:∀ {x y:Int},x<y→cmpI x y=-1:=fun h=>by unfold cmpI;rw[if_pos h]
    have gt:∀ {x y:Int},y<x→cmpI x y=1:=fun h=>by unfold cmpI;rw[if_neg (by omega),if_pos h]
    have eq:∀ {x y:Int},x=y→cmpI x y=0:=fun h=>by unfold cmpI;rw[if_neg (by omega),if_neg (by omega)]
    by_cases ka:kd M X a=3
    · have pa:=pa3 ka
      rw[if_pos ka]
      by_cases kb:kd M X b=3
      · have pb:=pb3 kb
        rw[if_pos kb]
        cases hsa:sg M X a <;> cases hsb:sg M X b <;> rw[hsa] at pa <;> rw[hsb] at pb <;> simp only[sv,if_true,if_false,Bool.false_eq_true] at pa pb ⊢ <;> rw[if_neg (by decide)]
        · exact w 0 (by rw[m0,eq (by omega)]) _ _ _ _ _ _ _ _ _ _ rfl
        · exact w 2 (by rw[m2,gt (by omega)]) _ _ _ _ _ _ _ _ _ _ rfl
        · exact w (-2) (by rw[m4,lt (by omega)]) _ _ _ _ _ _ _ _ _ _ rfl
        · exact w 0 (by rw[m0,eq (by omega)]) _ _ _ _ _ _ _ _ _ _ rfl
      · have pb:=pbf (by rcases kd_cases M X b with h|h|h|h <;> omega)
        rw[if_neg kb]
        cases hsa:sg M X a <;> rw[hsa] at pa <;> simp only[sv,if_true,if_false,Bool.false_eq_true] at pa ⊢ <;> rw[if_neg (by decide)]
        · exact w 1 (by rw[m1,gt (by omega)]) _ _ _ _ _ _ _ _ _ _ rfl
        · exact w (-1) (by rw[m3,lt (by omega)]) _ _ _ _ _ _ _ _ _ _ rfl
    · have fa:kd M X a=1∨kd M X a=2:=by rcases kd_cases M X a with h|h|h|h <;> omega
      have pa:=paf fa
      rw[if_neg ka,if_pos rfl]
      by_cases kb:kd M X b=3
      · have pb:=pb3 kb
        rw[if_pos kb]
        cases hsb:sg M X b <;> rw[hsb] at pb <;> simp only[sv,if_true,if_false,Bool.false_eq_true,h10,hm10] at pb ⊢
        · exact w (-1) (by rw[m3,lt (by omega)]) _ _ _ _ _ _ _ _ _ _ rfl
        · exact w 1 (by rw[m1,gt (by omega)]) _ _ _ _ _ _ _ _ _ _ rfl
      · have fb:kd M X b=1∨kd M X b=2:=by rcases kd_cases M X b with h|h|h|h <;> omega
        rw[if_neg kb,bne_self_eq_false]
        exact hfin fa fb
end
theorem rcmp_ng {k:Nat} (hk:68<k) {m x:Int} {a b:Nat} (ha:a<18446744073709551616) (hb:b<18446744073709551616) (h:¬ (Good m x a∧Good m x b)):grottoref03_Cmp.f k m x (a:Int) (b:Int)=some (0,false,1):=by
  unfold grottoref03_Cmp.f
  rw[ropen2_ng hk ha hb h,Option.bind_some];rfl
end Go.Proofs.Ytmmbgbchimangaa.RS
