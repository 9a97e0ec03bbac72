/- Where neither of two numbers above 0 is more than twice the other their difference is exact: added to the lesser it is the greater again: for every format and every two patterns. -/
import Derived.Test.YtmmbgbchimangaaPQx23
import Derived.Test.YtmmbgbchimangaaFT3
import Derived.Test.YtmmbgbchimangaaRA
import Derived.Test.YtmmbgbchimangaaRC
import Derived.Test.YtmmbgbchimangaaPT1
import Derived.Test.YtmmbgbchimangaaLive03
namespace Go.Proofs.Ytmmbgbchimangaa.Pure
set_option linter.all false
open Go.RowKit Go.Proofs.Ytmmbgbchimangaa.PQ Go.Proofs.YtmmbgbchimangaaW.PrintWords Go.Proofs.YtmmbgbchimangaaW.PrintLast Go.Proofs.YtmmbgbchimangaaW.PrintMore
open FT RS
section
variable {M X:Nat} (hM:2≤M) (hM':M≤52) (hX:2≤X) (hX':X≤11)
include hM hM' hX hX'
theorem sum_exact {z:Int} (hf:Fits M z.natAbs) (hlt:z.natAbs<val M (inf M X)):(kd M X (sumS M X z)=1∨kd M X (sumS M X z)=2)∧sv (sg M X (sumS M X z)) (av M X (sumS M X z))=z:=by
  have hi:=inf_pos hM hM' hX hX'
  by_cases h0:z=0
  · have e:sumS M X z=0:=by unfold sumS;rw[if_pos h0]
    have k1:kd M X 0=1:=(kd1 hM hM' hX hX').2 (Nat.zero_mod _)
    rw[e,av_zero hM hM' hX hX' k1,h0]
    exact⟨Or.inl k1,by unfold sv;split <;> rfl⟩
  · have hv:=val_raw_fits hf
    have hr:raw M z.natAbs 1<inf M X:=by
      refine Nat.lt_of_not_le fun hle=>?_
      have:=val_mono (M:=M) hle
      omega
    have hp:pat M (inf M X) z.natAbs 1=raw M z.natAbs 1:=by unfold pat;omega
    have e:sumS M X z=sgn M X (decide (z<0))+raw M z.natAbs 1:=by unfold sumS;rw[if_neg h0,hp]
    obtain⟨s1,s2⟩:=sg_mk (M:=M) (X:=X) (neg:=decide (z<0)) (Nat.lt_trans hr inf_lt)
    have h1:raw M z.natAbs 1≠0:=fun h=>by rw[h,val_zero] at hv;omega
    rw[e]
    refine⟨Or.inr ((kd2 hM hM' hX hX').2 (by rw[s2];omega)),?_⟩
    unfold av
    rw[s1,s2,hv]
    unfold sv
    by_cases hz:z<0
    · rw[decide_eq_true hz,if_pos rfl];omega
    · rw[decide_eq_false hz,if_neg (by simp)];omega
theorem twice {a b:Nat} (ha:kd M X a=2) (hb:kd M X b=2) (sa:sg M X a=false) (sb:sg M X b=false):kd M X (addS M X b b)≠4∧(¬ cmpI (plc M X a) (plc M X (addS M X b b))>0→av M X a≤2*av M X b):=by
  have hi:=inf_pos hM hM' hX hX'
  have hvb:=av_pos hM hM' hX hX' hb
  have e:addS M X b b=pat M (inf M X) (2*av M X b) 1:=by
    unfold addS
    rw[if_neg (by omega),if_neg (by omega),if_neg (by omega),if_neg (by omega),sb,sv_add_same]
    unfold sumS sv
    simp only[if_false,Bool.false_eq_true]
    rw[if_neg (by omega),decide_eq_false (by omega),Int.natAbs_natCast,←Nat.two_mul]
    exact Nat.zero_add _
  have hle:=pat_le M X (2*av M X b) 1
  have hs0:sgn M X false=0:=rfl
  obtain⟨s1,s2⟩:=sg_mk (M:=M) (X:=X) (neg:=false) (Nat.lt_of_le_of_lt hle inf_lt)
  rw[hs0,Nat.zero_add] at s1 s2
  rw[e]
  refine⟨fun h=>?_,fun h=>?_⟩
  · have:=(kd4 hM hM' hX hX').1 h
    rw[s2] at this;omega
  · unfold plc at h
    rw[s1,s2,sa] at h
    unfold sv cmpI at h
    simp only[if_false,Bool.false_eq_true] at h
    have hm:mg M X a≤pat M (inf M X) (2*av M X b) 1:=by
      refine Nat.le_of_not_lt fun hlt=>h ?_
      rw[if_neg (by omega),if_pos (by omega)];omega
    have hr:mg M X a≤raw M (2*av M X b) 1:=Nat.le_trans hm (by unfold pat;omega)
    have hv:=val_mono (M:=M) hr
    have hf:Fits M (2*av M X b):=by
      have:=fits_mul (j:=1) (fits_of M (mg M X b))
      rw[Nat.pow_one,Nat.mul_comm] at this;exact this
    rw[val_raw_fits hf] at hv
    exact hv
theorem exact_back {a b:Nat} (pa:Pt M X a) (ha:kd M X a=2) (hb:kd M X b=2) (sa:sg M X a=false) (sb:sg M X b=false) (h1:av M X a≤2*av M X b) (h2:av M X b≤2*av M X a) :
    addS M X (addS M X a (turnS M X b)) b=a:=by
  have e:addS M X a (turnS M X b)=sumS M X ((av M X a:Int)-(av M X b:Int)):=by
    unfold addS
    rw[(turn_kd M X b).1,(turn_kd M X b).2,(turn_sg M X b).1,if_neg (by omega),if_neg (by omega),if_neg (by omega),if_neg (by omega),sa,sb]
    unfold sv
    simp only[if_false,Bool.false_eq_true,Bool.not_false,if_true]
    rw[Int.sub_eq_add_neg]
  have la:av M X a<val M (inf M X):=val_lt ((kd2 hM hM' hX hX').1 ha).2
  have lb:av M X b<val M (inf M X):=val_lt ((kd2 hM hM' hX hX').1 hb).2
  have hf:Fits M ((av M X a:Int)-(av M X b:Int)).natAbs:=by
    by_cases h:av M X b≤av M X a
    · have:=fits_diff (M:=M) (a:=mg M X a) (b:=mg M X b) h h1
      have e:((av M X a:Int)-(av M X b:Int)).natAbs=val M (mg M X a)-val M (mg M X b):=by unfold av at h ⊢;omega
      rw[e];exact this
    · have:=fits_diff (M:=M) (a:=mg M X b) (b:=mg M X a) (Nat.le_of_not_le h) h2
      have e:((av M X a:Int)-(av M X b:Int)).natAbs=val M (mg M X b)-val M (mg M X a):=by unfold av at h ⊢;omega
      rw[e];exact this
  obtain⟨k,v⟩:=sum_exact hM hM' hX hX' hf (by omega)
  have hs:=sumS_self hM hM' hX hX' pa ha
  have hva:sv (sg M X a) (av M X a)=(av M X a:Int):=by rw[sa];rfl
  have hvb:sv (sg M X b) (av M X b)=(av M X b:Int):=by rw[sb];rfl
  rw[hva] at hs
  rw[e]
  generalize sumS M X ((av M X a:Int)-(av M X b:Int))=x at *
  unfold addS
  rw[if_neg (by omega),if_neg (by omega),if_neg (by omega),if_neg (by omega),v,hvb,Int.sub_add_cancel,hs]
end
theorem SoftExact (a0_0:Int) (a0_1:Int) (a1:Int) (a2:Int) (_w0_0:(Lit.int .i64 a0_0).wf=true) (_w0_1:(Lit.int .i64 a0_1).wf=true) (w1:(Lit.int .u64 a1).wf=true) (w2:(Lit.int .u64 a2).wf=true):∃ k,grottolaw03_SoftExact.f k a0_0 a0_1 a1 a2=some true:=by
  obtain⟨a,rfl,ha⟩:=wf_u64 w1
  obtain⟨b,rfl,hb⟩:=wf_u64 w2
  clear w1 w2 _w0_0 _w0_1
  refine⟨501012,?_⟩
  have hl:∀ {k:Nat},100≤k→grottolaw03_live.f k=some true:=fun h=>live03_k h
  have j0t:∀ x y:Int,∀ m n:Int,grottolaw03_SoftExact.j0 501012 x y true m n=some true:=by
    intro x y m n
    rw[grottolaw03_SoftExact.j0.eq_2,if_pos rfl,hl (by omega),Option.bind_some]
  have op:∀ c:Nat,c<18446744073709551616→(∃ M X:Nat,a0_0=M∧a0_1=X∧2≤M∧M≤52∧2≤X∧X≤11∧Pt M X c∧grottoref02_Open.f 501012 (M:Int) (X:Int) (c:Int)=some (((kd M X c:Nat):Int),sg M X c,ex M X c,((mt M X c:Nat):Int),0))∨grottoref02_Open.f 501012 a0_0 a0_1 (c:Int)=some (0,false,0,0,1):=by
    intro c hc
    by_cases hg:RS.Good a0_0 a0_1 c
    · obtain⟨M,X,rfl,rfl,hM,hM',hX,hX',pa⟩:=hg.nat
      exact Or.inl ⟨M,X,rfl,rfl,hM,hM',hX,hX',pa,ropen_ok hM hM' hX hX' (by omega) pa⟩
    · exact Or.inr (ropen_ng (by omega) hc hg)
  unfold grottolaw03_SoftExact.f
  rcases op a ha with⟨M,X,rfl,rfl,hM,hM',hX,hX',pa,oa⟩|oa
  · rcases op b hb with⟨M2,X2,e1,e2,_,_,_,_,pb,ob⟩|ob
    · obtain rfl:M=M2:=by omega
      obtain rfl:X=X2:=by omega
      rw[oa,Option.bind_some,ob,Option.bind_some]
      dsimp only
      rw[if_pos rfl,if_pos rfl]
      by_cases ka:kd M X a=2
      · rw[if_pos (by rw[ka];rfl)]
        by_cases kb:kd M X b=2
        · rw[if_pos (by rw[kb];rfl)]
          cases sa:sg M X a
          · rw[if_neg (by simp)]
            cases sb:sg M X b
            · obtain⟨t1,t2⟩:=twice hM hM' hX hX' ka kb sa sb
              obtain⟨t3,t4⟩:=twice hM hM' hX hX' kb ka sb sa
              have paa:=pt_add hM hM' hX hX' a a
              have pbb:=pt_add hM hM' hX hX' b b
              rw[grottolaw03_SoftExact.j0.eq_2,if_neg (by simp),radd_eq hM hM' hX hX' (by omega) pa pa,Option.bind_some,radd_eq hM hM' hX hX' (by omega) pb pb,Option.bind_some]
              dsimp only
              rw[rcmp_eq hM hM' hX hX' (by omega) pa pbb,if_neg (show ¬ (kd M X a=4∨kd M X (addS M X b b)=4) from fun h=>h.elim (by omega) t1),Option.bind_some,rcmp_eq hM hM' hX hX' (by omega) pb paa,if_neg (show ¬ (kd M X b=4∨kd M X (addS M X a a)=4) from fun h=>h.elim (by omega) t3),Option.bind_some]
              dsimp only
              have j1t:grottolaw03_SoftExact.j1 501011 (a:Int) (b:Int) true (M:Int) (X:Int)=some true:=by
                rw[grottolaw03_SoftExact.j1.eq_2,if_pos rfl,hl (by omega),Option.bind_some]
              by_cases c1:cmpI (plc M X a) (plc M X (addS M X b b))>0
              · rw[if_pos c1,j1t]
              · rw[if_neg c1]
                by_cases c2:cmpI (plc M X b) (plc M X (addS M X a a))>0
                · rw[decide_eq_true c2,j1t]
                · have key:=exact_back hM hM' hX hX' pa ka kb sa sb (t2 c1) (t4 c2)
                  have pd:=pt_add hM hM' hX hX' a (turnS M X b)
                  have w0:wrap64 (0+0)=0:=by decide +kernel
                  have nm:grottolaw03_num.f 0=some 0:=rfl
                  rw[decide_eq_false c2,grottolaw03_SoftExact.j1.eq_2,if_neg (by simp),sub_eq hM hM' hX hX' (by omega) pa pb,Option.bind_some]
                  dsimp only
                  rw[add_eq hM hM' hX hX' (by omega) pd pb,Option.bind_some,key]
                  dsimp only
                  rw[nm,Option.bind_some,Option.bind_some,w0,if_pos rfl,if_pos rfl,hl (by omega),Option.bind_some]
            · exact j0t _ _ _ _
          · rw[if_pos rfl,j0t]
        · rw[if_neg (show ¬ ((kd M X b:Nat):Int)=2 by omega),j0t]
      · rw[if_neg (show ¬ ((kd M X a:Nat):Int)=2 by omega),j0t]
    · rw[oa,Option.bind_some,ob,Option.bind_some]
      dsimp only
      rw[if_pos rfl,if_neg (by decide),j0t]
  · rcases op b hb with⟨M2,X2,rfl,rfl,_,_,_,_,pb,ob⟩|ob
    · rw[oa,Option.bind_some,ob,Option.bind_some]
      dsimp only
      rw[if_neg (by decide),j0t]
    · rw[oa,Option.bind_some,ob,Option.bind_some]
      dsimp only
      rw[if_neg (by decide),j0t]
end Go.Proofs.Ytmmbgbchimangaa.Pure
