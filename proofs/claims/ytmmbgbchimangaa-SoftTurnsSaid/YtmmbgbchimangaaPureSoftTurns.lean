/- Sums and products go either way round; a difference is the sum with the sign turned, and turned round it is turned: for every format and every two patterns. -/
import Derived.Test.YtmmbgbchimangaaPQx44
import Derived.Test.YtmmbgbchimangaaFT3
import Derived.Test.YtmmbgbchimangaaSM2
import Derived.Test.YtmmbgbchimangaaSC
import Derived.Test.YtmmbgbchimangaaRA1
import Derived.Test.YtmmbgbchimangaaRTU
import Derived.Test.YtmmbgbchimangaaPT1
import Derived.Test.YtmmbgbchimangaaLive03
namespace Go.Proofs.Ytmmbgbchimangaa.Pure
set_option linter.all false
open Go.RowKit Go.Proofs.Ytmmbgbchimangaa.PQ Go.Proofs.YtmmbgbchimangaaW.PrintWords Go.Proofs.YtmmbgbchimangaaW.PrintLast Go.Proofs.YtmmbgbchimangaaW.PrintMore
open FT RS
theorem add_comm' (M X a b:Nat):addS M X a b=addS M X b a:=by
  unfold addS
  rw[Int.add_comm (sv (sg M X b) (av M X b))]
  generalize sumS M X (sv (sg M X a) (av M X a)+sv (sg M X b) (av M X b))=S
  rcases kd_cases M X a with h|h|h|h <;> rcases kd_cases M X b with g|g|g|g <;> rw[h,g] <;> cases sg M X a <;> cases sg M X b <;> rfl
theorem mul_comm' (M X a b:Nat):mulS M X a b=mulS M X b a:=by
  unfold mulS
  rw[Nat.mul_comm (av M X b)]
  generalize npat M X (av M X a*av M X b) 1 (least M X)=S
  rcases kd_cases M X a with h|h|h|h <;> rcases kd_cases M X b with g|g|g|g <;> rw[h,g] <;> cases sg M X a <;> cases sg M X b <;> rfl
theorem turn_mk {M X y:Nat} {neg:Bool} (hy:y<2^(M+X)):turnS M X (sgn M X neg+y)=sgn M X (!neg)+y:=by
  unfold turnS
  rw[(sg_mk hy).1,(sg_mk hy).2]
theorem turn_sgn {M X:Nat} (neg:Bool):turnS M X (sgn M X neg)=sgn M X (!neg):=by
  have:=turn_mk (M:=M) (X:=X) (y:=0) (neg:=neg) (two_pos _)
  rwa [Nat.add_zero,Nat.add_zero] at this
section
variable {M X:Nat} (hM:2≤M) (hM':M≤52) (hX:2≤X) (hX':X≤11)
include hM hM' hX hX'
theorem nan_kd':kd M X (nanp M X)=4:=by
  have hb:=nan_bound hM hM' hX hX'
  have h0:sgn M X false=0:=rfl
  have:=(sg_mk (M:=M) (X:=X) (neg:=false) hb).2
  rw[h0,Nat.zero_add] at this
  rw[kd4 hM hM' hX hX']
  unfold nanp
  rw[this]
  have:=two_pos (M-1)
  omega
theorem pat_pos' {n:Nat} (hn:0<n):0<pat M (inf M X) n 1:=by
  have hi:=inf_pos hM hM' hX hX'
  have v1:val M 1=1:=by
    have:=val_at (M:=M) (j:=0) (q:=1) Nat.one_le_two_pow (Or.inl rfl)
    rw[Nat.zero_mul,Nat.zero_add,Nat.pow_zero] at this;exact this
  have:=le_raw_of (M:=M) (n:=n) (d:=1) (p:=1) (by omega) (by omega)
  unfold pat;omega
/-- a difference, turned round -/
theorem turns {a b:Nat} (ha:Pt M X a) (hb:Pt M X b) (h4:kd M X a≠4) (h4':kd M X b≠4) :
    (kd M X (addS M X a (turnS M X b))=4→addS M X b (turnS M X a)=addS M X a (turnS M X b)) ∧
    (kd M X (addS M X a (turnS M X b))≠4→mg M X (addS M X a (turnS M X b))=0→(kd M X a≠1∨kd M X b≠1∨a=b)→addS M X a (turnS M X b)=0∧addS M X b (turnS M X a)=0) ∧
    (kd M X (addS M X a (turnS M X b))≠4→¬ (mg M X (addS M X a (turnS M X b))=0∧(kd M X a≠1∨kd M X b≠1∨a=b))→addS M X b (turnS M X a)=turnS M X (addS M X a (turnS M X b))):=by
  have hi:=inf_pos hM hM' hX hX'
  have hlt:=inf_lt (M:=M) (X:=X)
  have hn:=nan_kd' hM hM' hX hX'
  have minf:∀ neg,mg M X (sgn M X neg+inf M X)≠0:=fun neg=>by rw[(sg_mk hlt).2];omega
  have kinf:∀ neg,kd M X (sgn M X neg+inf M X)=3:=fun neg=>by rw[kd3 hM hM' hX hX',(sg_mk hlt).2]
  have msgn:∀ neg,mg M X (sgn M X neg)=0:=fun neg=>(sg_mk (M:=M) (X:=X) (y:=0) (neg:=neg) (two_pos _)).2
  have ksgn:∀ neg,kd M X (sgn M X neg)=1:=fun neg=>(kd1 hM hM' hX hX').2 (msgn neg)
  have A:addS M X a (turnS M X b)=if kd M X a=3 then (if kd M X b=3∧sg M X a=sg M X b then nanp M X else sgn M X (sg M X a)+inf M X) else if kd M X b=3 then sgn M X (!sg M X b)+inf M X else if kd M X a=1∧kd M X b=1 then sgn M X (sg M X a && !sg M X b) else sumS M X (sv (sg M X a) (av M X a)+sv (!sg M X b) (av M X b)):=by
    unfold addS
    rw[(turn_kd M X b).1,(turn_kd M X b).2,(turn_sg M X b).1,if_neg (by omega)]
    have:(sg M X a≠!sg M X b)↔sg M X a=sg M X b:=by cases sg M X a <;> cases sg M X b <;> decide
    simp only[this]
  have B:addS M X b (turnS M X a)=if kd M X b=3 then (if kd M X a=3∧sg M X b=sg M X a then nanp M X else sgn M X (sg M X b)+inf M X) else if kd M X a=3 then sgn M X (!sg M X a)+inf M X else if kd M X b=1∧kd M X a=1 then sgn M X (sg M X b && !sg M X a) else sumS M X (sv (sg M X b) (av M X b)+sv (!sg M X a) (av M X a)):=by
    unfold addS
    rw[(turn_kd M X a).1,(turn_kd M X a).2,(turn_sg M X a).1,if_neg (by omega)]
    have:(sg M X b≠!sg M X a)↔sg M X b=sg M X a:=by cases sg M X a <;> cases sg M X b <;> decide
    simp only[this]
  rw[A,B]
  by_cases a3:kd M X a=3
  · by_cases b3:kd M X b=3
    · rw[if_pos a3,if_pos b3]
      by_cases hs:sg M X a=sg M X b
      · rw[if_pos ⟨b3,hs⟩,if_pos ⟨a3,hs.symm⟩]
        exact⟨fun _=>rfl,fun h=>absurd hn h,fun h=>absurd hn h⟩
      · rw[if_neg (fun h=>hs h.2),if_neg (fun h=>hs h.2.symm)]
        refine⟨fun h=>absurd ((kinf _).symm.trans h) (by decide),fun _ h=>absurd h (minf _),fun _ _=>?_⟩
        rw[turn_mk hlt]
        have:(!sg M X a)=sg M X b:=by revert hs;cases sg M X a <;> cases sg M X b <;> decide
        rw[this]
    · rw[if_pos a3,if_neg (fun h=>b3 h.1),if_neg b3,if_pos a3]
      refine⟨fun h=>absurd ((kinf _).symm.trans h) (by decide),fun _ h=>absurd h (minf _),fun _ _=>?_⟩
      rw[turn_mk hlt]
  · by_cases b3:kd M X b=3
    · rw[if_neg a3,if_pos b3,if_pos b3,if_neg (fun h=>a3 h.1)]
      refine⟨fun h=>absurd ((kinf _).symm.trans h) (by decide),fun _ h=>absurd h (minf _),fun _ _=>?_⟩
      rw[turn_mk hlt,Bool.not_not]
    · rw[if_neg a3,if_neg b3,if_neg b3,if_neg a3]
      by_cases h1:kd M X a=1∧kd M X b=1
      · rw[if_pos h1,if_pos h1.symm]
        refine⟨fun h=>absurd ((ksgn _).symm.trans h) (by decide),fun _ _ h=>?_,fun _ h=>?_⟩
        · have hab:a=b:=by omega
          subst hab
          have:(sg M X a && !sg M X a)=false:=by cases sg M X a <;> rfl
          rw[this];exact⟨rfl,rfl⟩
        · have hab:a≠b:=fun e=>h ⟨msgn _,Or.inr (Or.inr e)⟩
          have hs:sg M X a≠sg M X b:=by
            intro e
            apply hab
            have pa:=pt_split ha
            have pb:=pt_split hb
            rw[(kd1 hM hM' hX hX').1 h1.1] at pa
            rw[(kd1 hM hM' hX hX').1 h1.2,←e] at pb
            omega
          rw[turn_sgn]
          have:(sg M X b && !sg M X a)=!(sg M X a && !sg M X b):=by revert hs;cases sg M X a <;> cases sg M X b <;> decide
          rw[this]
      · rw[if_neg h1,if_neg (fun h=>h1 h.symm)]
        have hz:sv (sg M X b) (av M X b)+sv (!sg M X a) (av M X a)=-(sv (sg M X a) (av M X a)+sv (!sg M X b) (av M X b)):=by
          unfold sv;cases sg M X a <;> cases sg M X b <;> simp <;> omega
        rw[hz]
        generalize sv (sg M X a) (av M X a)+sv (!sg M X b) (av M X b)=z
        unfold sumS
        by_cases z0:z=0
        · rw[if_pos z0,if_pos (by omega)]
          have k0:=ksgn false
          have m0:=msgn false
          have s0:sgn M X false=0:=rfl
          rw[s0] at k0 m0
          exact⟨fun _=>rfl,fun _ _ _=>⟨rfl,rfl⟩,fun _ h=>absurd ⟨m0,by omega⟩ h⟩
        · rw[if_neg z0,if_neg (by omega)]
          have hp:=pat_pos' hM hM' hX hX' (n:=z.natAbs) (by omega)
          have hle:=pat_le M X z.natAbs 1
          have hpl:pat M (inf M X) z.natAbs 1<2^(M+X):=by omega
          have hm:=(sg_mk (M:=M) (X:=X) (neg:=decide (z<0)) hpl).2
          refine⟨fun h=>?_,fun _ h=>?_,fun _ _=>?_⟩
          · rw[kd4 hM hM' hX hX',hm] at h;omega
          · omega
          · rw[turn_mk hpl,Int.natAbs_neg]
            have:decide (-z<0)=!decide (z<0):=by
              by_cases c:z<0
              · rw[decide_eq_true c,decide_eq_false (by omega)];rfl
              · rw[decide_eq_false c,decide_eq_true (by omega)];rfl
            rw[this]
end
theorem SoftTurns (a0_0:Int) (a0_1:Int) (a1:Int) (a2:Int) (_w0_0:(Lit.int .i64 a0_0).wf=true) (_w0_1:(Lit.int .i64 a0_1).wf=true) (w1:(Lit.int .u64 a1).wf=true) (w2:(Lit.int .u64 a2).wf=true):∃ k,grottolaw03_SoftTurns.f k a0_0 a0_1 a1 a2=some true:=by
  obtain⟨a,rfl,ha⟩:=wf_u64 w1
  obtain⟨b,rfl,hb⟩:=wf_u64 w2
  clear w1 w2 _w0_0 _w0_1
  refine⟨203,?_⟩
  have hl:∀ {k:Nat},100≤k→grottolaw03_live.f k=some true:=fun h=>live03_k h
  have nm:∀ x,grottolaw03_num.f x=some x:=fun _=>rfl
  have op:∀ c:Nat,c<18446744073709551616→(∃ M X:Nat,a0_0=M∧a0_1=X∧2≤M∧M≤52∧2≤X∧X≤11∧Pt M X c∧grottoref02_Open.f 203 (M:Int) (X:Int) (c:Int)=some (((kd M X c:Nat):Int),sg M X c,ex M X c,((mt M X c:Nat):Int),0))∨(¬ RS.Good a0_0 a0_1 c∧grottoref02_Open.f 203 a0_0 a0_1 (c:Int)=some (0,false,0,0,1)):=by
    intro c hc
    by_cases hg:RS.Good a0_0 a0_1 c
    · obtain⟨M,X,rfl,rfl,hM,hM',hX,hX',pa⟩:=hg.nat
      exact Or.inl ⟨M,X,rfl,rfl,hM,hM',hX,hX',pa,ropen_ok hM hM' hX hX' (by omega) pa⟩
    · exact Or.inr ⟨hg,ropen_ng (by omega) hc hg⟩
  have b00:((0:Int) != 0)=false:=by decide
  have b11:((1:Int) != 1)=false:=by decide
  have j1t:∀ (x y a b h:Int) (u:Bool) (i s:Int) (v:Int) (w:Bool) (z t:Int),grottolaw03_SoftTurns.j1 202 x y 0 1 0 1 true a b h u i s v w z t=some true:=by
    intro x y a b h u i s v w z t
    rw[grottolaw03_SoftTurns.j1.eq_2,if_pos rfl,nm,Option.bind_some,if_pos rfl,Option.bind_some,if_pos rfl,if_pos rfl,if_pos rfl,hl (by omega),Option.bind_some]
  unfold grottolaw03_SoftTurns.f
  rcases op a ha with⟨M,X,rfl,rfl,hM,hM',hX,hX',pa,oa⟩|⟨ga,oa⟩
  · rcases op b hb with⟨M2,X2,e1,e2,_,_,_,_,pb,ob⟩|⟨gb,ob⟩
    · obtain rfl:M=M2:=by omega
      obtain rfl:X=X2:=by omega
      have hw:wrap64 (wrap64 (wrap64 (wrap64 (0+0)+0)+0)+0)=0:=by unfold wrap64;omega
      have nn:∀ {k:Nat},64<k→grottoref02_NaN.f k (M:Int) (X:Int)=some ((nanp M X:Nat):Int):=fun hk=>rnan_eq hM hM' hX hX' hk
      have zz:∀ {k:Nat},64<k→grottoref02_Zero.f k (M:Int) (X:Int) false=some 0:=fun hk=>rzero_eq hM hM' hX hX' hk false
      rw[oa,Option.bind_some,ob,Option.bind_some,add_eq hM hM' hX hX' (by omega) pa pb,Option.bind_some,add_eq hM hM' hX hX' (by omega) pb pa,Option.bind_some,mul_eq hM hM' hX hX' (by omega) pa pb,Option.bind_some,mul_eq hM hM' hX hX' (by omega) pb pa,Option.bind_some]
      dsimp only
      rw[add_comm' M X b a,mul_comm' M X b a,if_pos rfl,if_pos rfl,if_pos rfl,b00,grottolaw03_SoftTurns.j0.eq_2,if_neg (by simp),if_pos rfl,b00,grottolaw03_SoftTurns.j1.eq_2,if_neg (by simp),
        turnr_eq hM hM' hX hX' (by omega) pb,Option.bind_some,sub_eq hM hM' hX hX' (by omega) pa (turn_pt M X b),Option.bind_some,sub_eq hM hM' hX hX' (by omega) pa pb,Option.bind_some,sub_eq hM hM' hX hX' (by omega) pb pa,Option.bind_some]
      dsimp only
      rw[nm,Option.bind_some,Option.bind_some,Option.bind_some,Option.bind_some,Option.bind_some,if_pos hw,turn_turn pb]
      have bad:(kd M X a=4∨kd M X b=4)→∀ (n:Int) (t:Bool) (u v o:Int) (w:Bool) (x y:Int),grottolaw03_SoftTurns.j2 201 (a:Int) (b:Int) ((addS M X a b:Nat):Int) ((mulS M X a b:Nat):Int) ((addS M X a b:Nat):Int) ((addS M X a (turnS M X b):Nat):Int) ((addS M X b (turnS M X a):Nat):Int) true (M:Int) (X:Int) n t u v o w x y=some true:=by
        intro hc n t u v o w x y
        have e1:addS M X a b=nanp M X:=by unfold addS;rw[if_pos hc]
        have e2:mulS M X a b=nanp M X:=by unfold mulS;rw[if_pos (by omega)]
        have e3:addS M X a (turnS M X b)=nanp M X:=by unfold addS;rw[(turn_kd M X b).1,if_pos hc]
        have e4:addS M X b (turnS M X a)=nanp M X:=by unfold addS;rw[(turn_kd M X a).1,if_pos hc.symm]
        rw[grottolaw03_SoftTurns.j2.eq_2,if_pos rfl,nn (by omega),Option.bind_some,e1,e2,e3,e4,if_pos rfl,if_pos rfl,if_pos rfl,if_pos rfl,if_pos rfl,hl (by omega),Option.bind_some]
      by_cases k1:kd M X a=4
      · rw[if_pos (by rw[k1];rfl)];exact bad (Or.inl k1) _ _ _ _ _ _ _ _
      rw[if_neg (show ¬ ((kd M X a:Nat):Int)=4 by omega)]
      by_cases k2:kd M X b=4
      · have hq:(((kd M X b:Nat):Int)==4)=true:=by rw[k2];rfl
        rw[hq];exact bad (Or.inr k2) _ _ _ _ _ _ _ _
      have hq:(((kd M X b:Nat):Int)==4)=false:=beq_eq_false_iff_ne.2 (by omega)
      clear bad
      obtain⟨t1,t2,t3⟩:=turns hM hM' hX hX' pa pb k1 k2
      have pm:Pt M X (addS M X a (turnS M X b)):=pt_add hM hM' hX hX' _ _
      have hz1:kd M X 0=1:=(kd1 hM hM' hX hX').2 (Nat.zero_mod _)
      generalize hm:addS M X a (turnS M X b)=m at t1 t2 t3 pm ⊢
      generalize addS M X b (turnS M X a)=o at t1 t2 t3 ⊢
      have hc0:cmpI (plc M X m) (plc M X 0)=0↔mg M X m=0:=by
        have p0:plc M X 0=0:=by
          have h:=sg_mk (M:=M) (X:=X) (y:=0) (neg:=false) (two_pos _)
          have hs:sgn M X false+0=0:=rfl
          rw[hs] at h
          unfold plc;rw[h.1,h.2];rfl
        rw[p0]
        unfold plc cmpI sv
        cases sg M X m <;> simp <;> split <;> omega
      have j3t:∀ k,100≤k→m=0→o=0→grottolaw03_SoftTurns.j3 (k+1) (m:Int) (o:Int) true (M:Int) (X:Int)=some true:=by
        intro k hk e1 e2
        rw[grottolaw03_SoftTurns.j3.eq_2,if_pos rfl,zz (by omega),Option.bind_some,e1,e2,if_pos (by rfl),if_pos (by rfl),hl hk,Option.bind_some]
      have j3f:∀ k,100≤k→o=turnS M X m→grottolaw03_SoftTurns.j3 (k+1) (m:Int) (o:Int) false (M:Int) (X:Int)=some true:=by
        intro k hk e1
        rw[grottolaw03_SoftTurns.j3.eq_2,if_neg (by simp),turnr_eq hM hM' hX hX' (by omega) pm,Option.bind_some,e1,if_pos rfl,hl hk,Option.bind_some]
      have cmp0:soft_Cmp.f 200 (M:Int) (X:Int) (m:Int) 0=some (if kd M X m=4 then (0,false,0) else (cmpI (plc M X m) (plc M X 0),true,0)):=by
        have:=cmp_f hM hM' hX hX' (k:=200) (by omega) pm (pt_zero (M:=M) (X:=X))
        rw[show (((0:Nat)):Int)=0 from rfl] at this
        rw[this]
        by_cases h:kd M X m=4
        · rw[if_pos h,if_pos (Or.inl h)]
        · rw[if_neg h,if_neg (by omega)]
      rw[hq,grottolaw03_SoftTurns.j2.eq_2,if_neg (by simp),if_pos rfl,zz (by omega),Option.bind_some,cmp0,Option.bind_some]
      by_cases k4:kd M X m=4
      · rw[if_pos k4]
        dsimp only
        rw[if_neg (by simp),t1 k4,if_pos rfl,hl (by omega),Option.bind_some]
      · rw[if_neg k4]
        dsimp only
        rw[if_pos rfl]
        by_cases c0:mg M X m=0
        · rw[if_pos (hc0.2 c0)]
          by_cases c1:kd M X a=1
          · rw[if_pos (by rw[c1];rfl)]
            by_cases c2:kd M X b=1
            · rw[if_pos (by rw[c2];rfl)]
              by_cases c3:a=b
              · have:=t2 k4 c0 (Or.inr (Or.inr c3))
                rw[show (((a:Int))==(b:Int))=true from by simp[c3]]
                exact j3t 199 (by omega) this.1 this.2
              · rw[show (((a:Int))==(b:Int))=false from beq_eq_false_iff_ne.2 (by omega)]
                exact j3f 199 (by omega) (t3 k4 (by omega))
            · have:=t2 k4 c0 (Or.inr (Or.inl c2))
              rw[if_neg (show ¬ ((kd M X b:Nat):Int)=1 by omega)]
              exact j3t 199 (by omega) this.1 this.2
          · have:=t2 k4 c0 (Or.inl c1)
            rw[if_neg (show ¬ ((kd M X a:Nat):Int)=1 by omega)]
            exact j3t 199 (by omega) this.1 this.2
        · rw[if_neg (fun h=>c0 (hc0.1 h))]
          exact j3f 199 (by omega) (t3 k4 (fun h=>c0 h.1))
    · rw[oa,Option.bind_some,ob,Option.bind_some,add_ng (by omega) ha hb (fun h=>gb h.2),Option.bind_some,add_ng (by omega) hb ha (fun h=>gb h.1),Option.bind_some,mul_ng (by omega) ha hb (fun h=>gb h.2),Option.bind_some,mul_ng (by omega) hb ha (fun h=>gb h.1),Option.bind_some]
      dsimp only
      rw[if_pos rfl,if_pos rfl,if_pos rfl,b11,grottolaw03_SoftTurns.j0.eq_2,if_neg (by simp),if_pos rfl,show ((1:Int) != 0)=true from by decide]
      exact j1t ..
  · have hng:∀ {x y:Nat},¬ RS.Good a0_0 a0_1 x→¬ (RS.Good a0_0 a0_1 x∧RS.Good a0_0 a0_1 y):=fun h h'=>h h'.1
    have fall:∀ (p:Int×Bool×Int×Int×Int),grottoref02_Open.f 203 a0_0 a0_1 (b:Int)=some p→grottolaw03_SoftTurns.f 203 a0_0 a0_1 (a:Int) (b:Int)=some true:=by
      intro p ob
      unfold grottolaw03_SoftTurns.f
      rw[oa,Option.bind_some,ob,Option.bind_some,add_ng (by omega) ha hb (fun h=>ga h.1),Option.bind_some,add_ng (by omega) hb ha (fun h=>ga h.2),Option.bind_some,mul_ng (by omega) ha hb (fun h=>ga h.1),Option.bind_some,mul_ng (by omega) hb ha (fun h=>ga h.2),Option.bind_some]
      dsimp only
      rw[if_pos rfl,if_pos rfl,if_pos rfl,b11,grottolaw03_SoftTurns.j0.eq_2,if_neg (by simp),if_neg (by decide)]
      exact j1t ..
    rcases op b hb with⟨M2,X2,rfl,rfl,_,_,_,_,pb,ob⟩|⟨gb,ob⟩
    · exact fall _ ob
    · exact fall _ ob
end Go.Proofs.Ytmmbgbchimangaa.Pure
