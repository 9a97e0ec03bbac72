/- What a division leaves is smaller than the divisor, and has the sign of what was divided: for every format and every two patterns. -/
import Derived.Test.YtmmbgbchimangaaPQx18
import Derived.Test.YtmmbgbchimangaaFT3
import Derived.Test.YtmmbgbchimangaaSO
import Derived.Test.YtmmbgbchimangaaRC
import Derived.Test.YtmmbgbchimangaaRTU
import Derived.Test.YtmmbgbchimangaaPT1
import Derived.Test.YtmmbgbchimangaaLive03
namespace Go.Proofs.Ytmmbgbchimangaa.Pure
set_option linter.all false
open Go.RowKit Go.Proofs.Ytmmbgbchimangaa.PQ Go.Proofs.YtmmbgbchimangaaW.PrintWords Go.Proofs.YtmmbgbchimangaaW.PrintLast Go.Proofs.YtmmbgbchimangaaW.PrintMore
open FT RS
theorem rem_fits {M ma mb s t:Nat} (ha:ma<2^(M+1)) (hb:mb<2^(M+1)) (hb0:0<mb):Fits M (ma*2^s%(mb*2^t)):=by
  by_cases h:t≤s
  · obtain⟨d,rfl⟩:∃ d,s=t+d:=⟨s-t,by omega⟩
    have e:ma*2^(t+d)=ma*2^d*2^t:=by rw[Nat.pow_add];ac_rfl
    rw[e,Nat.mul_mod_mul_right]
    have:=Nat.mod_lt (ma*2^d) hb0
    exact⟨ma*2^d%mb,t,rfl,by omega⟩
  · obtain⟨d,rfl⟩:∃ d,t=s+d:=⟨t-s,by omega⟩
    have e:mb*2^(s+d)=mb*2^d*2^s:=by rw[Nat.pow_add];ac_rfl
    rw[e,Nat.mul_mod_mul_right]
    have:=Nat.mod_le ma (mb*2^d)
    exact⟨ma%(mb*2^d),s,rfl,by omega⟩
section
variable {M X:Nat} (hM:2≤M) (hM':M≤52) (hX:2≤X) (hX':X≤11)
include hM hM' hX hX'
theorem pt_rest {a:Nat} (ha:Pt M X a) (b:Nat):Pt M X (modR M X a b):=by
  have hn:=pt_nan hM hM' hX hX'
  unfold modR
  repeat' split
  all_goals first|exact hn|exact ha|exact pt_pat _ _ _
theorem pt_quot (a b:Nat):Pt M X (modQ M X a b):=by
  have hn:=pt_nan hM hM' hX hX'
  unfold modQ
  repeat' split
  all_goals first|exact hn|exact pt_sgn _|exact pt_npat _ _ _ _
/-- what is left: its sign, and that it is smaller -/
theorem rest_less {a b:Nat} (ha:kd M X a=1∨kd M X a=2) (hb:kd M X b=2∨kd M X b=3) :
    sg M X (modR M X a b)=sg M X a∧mg M X (modR M X a b)<mg M X b∧sg M X (modQ M X a b)=(sg M X a != sg M X b):=by
  have hi:=inf_pos hM hM' hX hX'
  have hl:=inf_lt (M:=M) (X:=X)
  have hmb:0<mg M X b∧mg M X b≤inf M X:=by
    rcases hb with h|h
    · have:=(kd2 hM hM' hX hX').1 h;omega
    · have:=(kd3 hM hM' hX hX').1 h;omega
  have hno:¬ (kd M X a=4∨kd M X b=4∨kd M X a=3∨kd M X b=1):=by omega
  unfold modR modQ
  rw[if_neg hno,if_neg hno]
  by_cases h:kd M X a=1∨kd M X b=3
  · rw[if_pos h,if_pos h]
    refine⟨rfl,?_,?_⟩
    · rcases h with h|h
      · rw[(kd1 hM hM' hX hX').1 h];exact hmb.1
      · rw[(kd3 hM hM' hX hX').1 h]
        rcases ha with h2|h2
        · rw[(kd1 hM hM' hX hX').1 h2];exact hi
        · exact ((kd2 hM hM' hX hX').1 h2).2
    · have:=sg_mk (M:=M) (X:=X) (y:=0) (neg:=(sg M X a != sg M X b)) (two_pos _)
      rw[Nat.add_zero] at this;exact this.1
  · rw[if_neg h,if_neg h]
    have ka:kd M X a=2:=by omega
    have kb:kd M X b=2:=by omega
    have fb:=fin_form hM hM' hX hX' kb
    have hf:Fits M (av M X a%av M X b):=rem_fits (man_lt M (mg M X a)) (man_lt M (mg M X b)) fb.1
    have hbp:=av_pos hM hM' hX hX' kb
    have hr:=Nat.mod_lt (av M X a) hbp
    have hv:=val_raw_fits hf
    have hlt:raw M (av M X a%av M X b) 1<mg M X b:=by
      refine Nat.lt_of_not_le fun hle=>?_
      have h1:=val_mono (M:=M) hle
      rw[hv] at h1
      have h2:val M (mg M X b)=av M X b:=rfl
      omega
    have hp:pat M (inf M X) (av M X a%av M X b) 1<mg M X b:=by unfold pat;omega
    obtain⟨s1,s2⟩:=sg_mk (M:=M) (X:=X) (neg:=sg M X a) (show pat M (inf M X) (av M X a%av M X b) 1<2^(M+X) by omega)
    have q:=sg_mk (M:=M) (X:=X) (neg:=(sg M X a != sg M X b)) (Nat.lt_of_le_of_lt (npat_le_inf M X (av M X a/av M X b) 1 (0-least M X)) hl)
    exact⟨s1,by rw[s2];exact hp,q.1⟩
end
theorem SoftRests (a0_0:Int) (a0_1:Int) (a1:Int) (a2:Int) (_w0_0:(Lit.int .i64 a0_0).wf=true) (_w0_1:(Lit.int .i64 a0_1).wf=true) (w1:(Lit.int .u64 a1).wf=true) (w2:(Lit.int .u64 a2).wf=true):∃ k,grottolaw03_SoftRests.f k a0_0 a0_1 a1 a2=some true:=by
  obtain⟨a,rfl,ha⟩:=wf_u64 w1
  obtain⟨b,rfl,hb⟩:=wf_u64 w2
  clear w1 w2 _w0_0 _w0_1
  refine⟨6003,?_⟩
  have hl:∀ {k:Nat},100≤k→grottolaw03_live.f k=some true:=fun h=>live03_k h
  have nm:∀ x,grottolaw03_num.f x=some x:=fun _=>rfl
  have op:∀ c:Nat,c<18446744073709551616→(∃ M X:Nat,a0_0=M∧a0_1=X∧2≤M∧M≤52∧2≤X∧X≤11∧Pt M X c∧grottoref02_Open.f 6003 (M:Int) (X:Int) (c:Int)=some (((kd M X c:Nat):Int),sg M X c,ex M X c,((mt M X c:Nat):Int),0))∨(¬ RS.Good a0_0 a0_1 c∧grottoref02_Open.f 6003 a0_0 a0_1 (c:Int)=some (0,false,0,0,1)):=by
    intro c hc
    by_cases hg:RS.Good a0_0 a0_1 c
    · obtain⟨M,X,rfl,rfl,hM,hM',hX,hX',pa⟩:=hg.nat
      exact Or.inl ⟨M,X,rfl,rfl,hM,hM',hX,hX',pa,ropen_ok hM hM' hX hX' (by omega) pa⟩
    · exact Or.inr ⟨hg,ropen_ng (by omega) hc hg⟩
  have j0t:∀ (e g h a':Int) (i:Bool) (j l b':Int) (m:Bool) (n o:Int),grottolaw03_SoftRests.j0 6003 e 0 0 1 true g h a' i j l b' m n o=some true:=by
    intro e g h a' i j l b' m n o
    rw[grottolaw03_SoftRests.j0.eq_2,if_pos rfl,nm,Option.bind_some,if_pos rfl,if_pos rfl,if_pos rfl,hl (by omega),Option.bind_some]
  unfold grottolaw03_SoftRests.f
  rcases op a ha with⟨M,X,rfl,rfl,hM,hM',hX,hX',pa,oa⟩|⟨ga,oa⟩
  · rcases op b hb with⟨M2,X2,e1,e2,_,_,_,_,pb,ob⟩|⟨gb,ob⟩
    · obtain rfl:M=M2:=by omega
      obtain rfl:X=X2:=by omega
      have b00:((0:Int) != 0)=false:=by decide
      have nn:∀ {k:Nat},64<k→grottoref02_NaN.f k (M:Int) (X:Int)=some ((nanp M X:Nat):Int):=fun hk=>rnan_eq hM hM' hX hX' hk
      rw[oa,Option.bind_some,ob,Option.bind_some,mod_eq hM hM' hX hX' (by omega) pa pb,Option.bind_some]
      dsimp only
      rw[if_pos rfl,b00,grottolaw03_SoftRests.j0.eq_2,if_neg (by simp),nm,Option.bind_some,if_pos rfl]
      have bad:(kd M X a=4∨kd M X b=4∨kd M X a=3∨kd M X b=1)→∀ (g h a':Int) (i:Bool) (j l b':Int) (m:Bool) (n o:Int),g=(M:Int)→h=(X:Int)→grottolaw03_SoftRests.j1 6002 (b:Int) ((modR M X a b:Nat):Int) ((modQ M X a b:Nat):Int) true g h a' i j l b' m n o=some true:=by
        intro hc g h a' i j l b' m n o hg hh
        have e1:modR M X a b=nanp M X:=by unfold modR;rw[if_pos hc]
        have e2:modQ M X a b=nanp M X:=by unfold modQ;rw[if_pos hc]
        rw[grottolaw03_SoftRests.j1.eq_2,if_pos rfl,hg,hh,nn (by omega),Option.bind_some,e1,e2,if_pos rfl,if_pos rfl,hl (by omega),Option.bind_some]
      by_cases k1:kd M X a=4
      · rw[if_pos (by rw[k1];rfl)];exact bad (Or.inl k1) _ _ _ _ _ _ _ _ _ _ rfl rfl
      rw[if_neg (show ¬ ((kd M X a:Nat):Int)=4 by omega)]
      by_cases k2:kd M X a=3
      · rw[if_pos (by rw[k2];rfl)];exact bad (Or.inr (Or.inr (Or.inl k2))) _ _ _ _ _ _ _ _ _ _ rfl rfl
      rw[if_neg (show ¬ ((kd M X a:Nat):Int)=3 by omega)]
      by_cases k3:kd M X b=4
      · rw[if_pos (by rw[k3];rfl)];exact bad (Or.inr (Or.inl k3)) _ _ _ _ _ _ _ _ _ _ rfl rfl
      rw[if_neg (show ¬ ((kd M X b:Nat):Int)=4 by omega)]
      by_cases k4:kd M X b=1
      · have hq:(((kd M X b:Nat):Int)==1)=true:=by rw[k4];rfl
        rw[hq];exact bad (Or.inr (Or.inr (Or.inr k4))) _ _ _ _ _ _ _ _ _ _ rfl rfl
      have hq:(((kd M X b:Nat):Int)==1)=false:=beq_eq_false_iff_ne.2 (by omega)
      clear bad
      have ca:=kd_cases M X a
      have cb:=kd_cases M X b
      obtain⟨s1,s2,s3⟩:=rest_less hM hM' hX hX' (a:=a) (b:=b) (by omega) (by omega)
      have px:=pt_rest hM hM' hX hX' pa b
      have pn:=pt_quot hM hM' hX hX' a b
      have ox:grottoref02_Open.f 6001 (M:Int) (X:Int) ((modR M X a b:Nat):Int)=some (((kd M X (modR M X a b):Nat):Int),sg M X (modR M X a b),ex M X (modR M X a b),((mt M X (modR M X a b):Nat):Int),0):=ropen_ok hM hM' hX hX' (by omega) px
      have on:grottoref02_Open.f 6001 (M:Int) (X:Int) ((modQ M X a b:Nat):Int)=some (((kd M X (modQ M X a b):Nat):Int),sg M X (modQ M X a b),ex M X (modQ M X a b),((mt M X (modQ M X a b):Nat):Int),0):=ropen_ok hM hM' hX hX' (by omega) pn
      rw[hq,grottolaw03_SoftRests.j1.eq_2,if_neg (by simp),ox,Option.bind_some,on,Option.bind_some]
      dsimp only
      have hix:mg M X b≤inf M X:=by
        refine Nat.le_of_not_lt fun h=>k3 ((kd4 hM hM' hX hX').2 h)
      have x':∀ x y:Nat,Pt M X x→Pt M X y→sg M X x=false→mg M X x=mg M X (modR M X a b)→sg M X y=false→mg M X y=mg M X b→grottoref03_Cmp.f 6000 (M:Int) (X:Int) (x:Int) (y:Int)=some (-1,true,0):=by
        intro x y hx hy h1 h2 h3 h4
        have kx:kd M X x≠4:=fun h=>by have:=(kd4 hM hM' hX hX').1 h;omega
        have ky:kd M X y≠4:=fun h=>by have:=(kd4 hM hM' hX hX').1 h;omega
        rw[rcmp_eq hM hM' hX hX' (by omega) hx hy,if_neg (fun h=>h.elim kx ky)]
        have hc:cmpI (plc M X x) (plc M X y)=-1:=by
          unfold plc
          rw[h1,h3,h2,h4]
          unfold cmpI sv
          simp only[if_false,Bool.false_eq_true]
          rw[if_pos (by omega)]
        rw[hc]
      have fin:∀ x:Nat,Pt M X x→sg M X x=false→mg M X x=mg M X (modR M X a b)→∀ (r s t u v w x0 y z A B C:Int),grottolaw03_SoftRests.j2 6001 (b:Int) (x:Int) 0 0 (M:Int) (X:Int) r (sg M X a) s t u (sg M X b) v w x0 (sg M X a) y z A (sg M X a != sg M X b) B C=some true:=by
        intro x hx h1 h2 r s t u v w x0 y z A B C
        rw[grottolaw03_SoftRests.j2.eq_2]
        cases hsb:sg M X b
        · rw[if_neg (by simp),x' x b hx pb h1 h2 hsb rfl,Option.bind_some]
          dsimp only
          rw[if_pos rfl,if_pos rfl,if_pos rfl,if_pos (by decide),beq_self_eq_true,if_pos rfl,beq_self_eq_true,if_pos rfl,hl (by omega),Option.bind_some]
        · have ht:=turn_sg M X b
          rw[if_pos rfl,turnr_eq hM hM' hX hX' (by omega) pb,Option.bind_some,x' x (turnS M X b) hx (turn_pt M X b) h1 h2 (by rw[ht.1,hsb];rfl) ht.2,Option.bind_some]
          dsimp only
          rw[if_pos rfl,if_pos rfl,if_pos rfl,if_pos (by decide),beq_self_eq_true,if_pos rfl,beq_self_eq_true,if_pos rfl,hl (by omega),Option.bind_some]
      rw[s1,s3]
      by_cases hsa:sg M X a=true
      · have ht:=turn_sg M X (modR M X a b)
        rw[if_pos hsa,turnr_eq hM hM' hX hX' (by omega) px,Option.bind_some]
        exact fin (turnS M X (modR M X a b)) (turn_pt M X _) (by rw[ht.1,s1,hsa];rfl) ht.2 _ _ _ _ _ _ _ _ _ _ _ _
      · rw[if_neg hsa]
        have hsa':sg M X a=false:=by simpa using hsa
        exact fin (modR M X a b) px (by rw[s1,hsa']) rfl _ _ _ _ _ _ _ _ _ _ _ _
    · have hb1:((1:Int) != 0)=true:=by decide
      rw[oa,Option.bind_some,ob,Option.bind_some,mod_ng (by omega) ha hb (fun h=>gb h.2),Option.bind_some]
      dsimp only
      rw[if_pos rfl,hb1];exact j0t _ _ _ _ _ _ _ _ _ _ _
  · rcases op b hb with⟨M2,X2,rfl,rfl,_,_,_,_,pb,ob⟩|⟨gb,ob⟩
    · rw[oa,Option.bind_some,ob,Option.bind_some,mod_ng (by omega) ha hb (fun h=>ga h.1),Option.bind_some]
      dsimp only
      rw[if_neg (by decide)];exact j0t _ _ _ _ _ _ _ _ _ _ _
    · rw[oa,Option.bind_some,ob,Option.bind_some,mod_ng (by omega) ha hb (fun h=>ga h.1),Option.bind_some]
      dsimp only
      rw[if_neg (by decide)];exact j0t _ _ _ _ _ _ _ _ _ _ _
end Go.Proofs.Ytmmbgbchimangaa.Pure
