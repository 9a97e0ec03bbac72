import Derived.Test.YtmmbgbchimangaaFT
namespace Go.Proofs.Ytmmbgbchimangaa.FT
set_option linter.all false
/-- the value of a pattern that is told by its place and its number -/
theorem val_at {M j q:Nat} (hq:q≤2^(M+1)) (h:j=0∨2^M≤q):val M (j*2^M+q)=q*2^j:=by
  have hp:=two_pos M
  have h1:2^(M+1)=2*2^M:=by rw[Nat.pow_succ];omega
  rcases Nat.eq_or_lt_of_le hq with e|hlt
  · have e1:j*2^M+q=(j+2)*2^M:=by rw[Nat.add_mul];omega
    have hs:sh M (j*2^M+q)=j+1:=by unfold sh;rw[e1,Nat.mul_div_cancel _ hp];omega
    have hm:man M (j*2^M+q)=2^M:=by unfold man;rw[hs,e1,Nat.add_mul,Nat.add_mul];omega
    unfold val
    rw[hs,hm,e,Nat.pow_succ,Nat.pow_succ];ac_rfl
  · rcases Nat.lt_or_ge q (2^M) with hs|hs
    · have j0:j=0:=by omega
      subst j0
      have e1:0*2^M+q=q:=by omega
      have h2:sh M q=0:=by unfold sh;rw[Nat.div_eq_of_lt hs]
      have h3:man M q=q:=by unfold man;rw[h2];omega
      rw[e1];unfold val;rw[h2,h3]
    · have e1:j*2^M+q=(q-2^M)+(j+1)*2^M:=by rw[Nat.add_mul];omega
      have h2:sh M (j*2^M+q)=j:=by
        unfold sh;rw[e1,Nat.add_mul_div_right _ _ hp,Nat.div_eq_of_lt (by omega)];omega
      have h3:man M (j*2^M+q)=q:=by unfold man;rw[h2];omega
      unfold val;rw[h2,h3]
theorem rne_rng {M n d:Nat} (hd:0<d):rne n (d*2^shf M n d)≤2^(M+1)∧(shf M n d=0∨2^M≤rne n (d*2^shf M n d)):=by
  refine⟨?_,?_⟩
  · refine rne_le (Nat.mul_pos hd (two_pos _)) ?_
    rw[Nat.mul_comm d,←Nat.mul_assoc,←Nat.pow_add]
    exact Nat.le_of_lt (shf_lt hd)
  · by_cases h:shf M n d=0
    · exact Or.inl h
    · right
      refine le_rne (Nat.mul_pos hd (two_pos _)) ?_
      rw[Nat.mul_comm d,←Nat.mul_assoc,←Nat.pow_add]
      exact shf_ge hd h
theorem val_raw {M n d:Nat} (hd:0<d):val M (raw M n d)=rne n (d*2^shf M n d)*2^shf M n d:=by
  obtain⟨h1,h2⟩:=rne_rng (M:=M) (n:=n) hd
  exact val_at h1 h2
/-- a number is not above the middle of its pattern and the next one; if it is that middle, the pattern is even -/
theorem mid_hi {M n d:Nat} (hM:1≤M) (hd:0<d):2*n≤(val M (raw M n d)+val M (raw M n d+1))*d∧(2*n=(val M (raw M n d)+val M (raw M n d+1))*d→raw M n d%2=0):=by
  obtain⟨h1,h2⟩:=rne_rng (M:=M) (n:=n) hd
  have hv:=val_raw (M:=M) (n:=n) hd
  have hn:=rne_near (n:=n) (Nat.mul_pos hd (two_pos (shf M n d)))
  have hr:raw M n d=shf M n d*2^M+rne n (d*2^shf M n d):=rfl
  have hpM:2^M=2*2^(M-1):=by rw[←Nat.pow_succ'];congr 1;omega
  generalize shf M n d=j at *
  generalize rne n (d*2^j)=q at *
  have hjp:=two_pos j
  have hnext:(q+1)*2^j≤val M (raw M n d+1)∧(q<2^(M+1)→val M (raw M n d+1)=(q+1)*2^j):=by
    rcases Nat.eq_or_lt_of_le h1 with e|hlt
    · have e1:raw M n d+1=(j+1)*2^M+(2^M+1):=by
        rw[hr,e,Nat.pow_succ,Nat.add_mul];omega
      have hp:=two_pos M
      have e2:val M ((j+1)*2^M+(2^M+1))=(2^M+1)*2^(j+1):=val_at (by rw[Nat.pow_succ];omega) (Or.inr (by omega))
      rw[e1,e2,e,Nat.pow_succ,Nat.pow_succ]
      refine⟨?_,fun h=>absurd h (Nat.lt_irrefl _)⟩
      have e3:(2^M+1)*(2^j*2)=(2^M*2+2)*2^j:=by rw[Nat.add_mul,Nat.add_mul];congr 1 <;> ac_rfl
      rw[e3]
      exact Nat.mul_le_mul_right _ (by omega)
    · have e2:val M (raw M n d+1)=(q+1)*2^j:=by
        rw[hr,Nat.add_assoc];exact val_at (by omega) (by omega)
      exact⟨Nat.le_of_eq e2.symm,fun _=>e2⟩
  have hlo:=hn.lo
  have e4:(q*2^j+(q+1)*2^j)*d=2*(q*(d*2^j))+d*2^j:=by
    rw[Nat.add_mul q,Nat.one_mul,Nat.add_mul,Nat.add_mul]
    have a1:q*2^j*d=q*(d*2^j):=by ac_rfl
    have a2:2^j*d=d*2^j:=by ac_rfl
    rw[a1,a2];omega
  have hle:(q*2^j+(q+1)*2^j)*d≤(val M (raw M n d)+val M (raw M n d+1))*d:=by
    rw[hv];exact Nat.mul_le_mul_right _ (by omega)
  refine⟨by omega,fun h=>?_⟩
  have ht:=hn.tlo (by omega)
  have hjM:j*2^M=2*(j*2^(M-1)):=by rw[hpM];ac_rfl
  rw[hr,hjM];omega
/-- a number is not below the middle of its pattern and the one ahead -/
theorem mid_lo {M n d p:Nat} (hM:1≤M) (hd:0<d) (hp:raw M n d=p+1):(val M p+val M (p+1))*d≤2*n∧(2*n=(val M p+val M (p+1))*d→(p+1)%2=0):=by
  obtain⟨h1,h2⟩:=rne_rng (M:=M) (n:=n) hd
  have hv:=val_raw (M:=M) (n:=n) hd
  have hn:=rne_near (n:=n) (Nat.mul_pos hd (two_pos (shf M n d)))
  have hr:raw M n d=shf M n d*2^M+rne n (d*2^shf M n d):=rfl
  have hge:=fun h=>shf_ge (M:=M) (n:=n) hd h
  have hpM:2^M=2*2^(M-1):=by rw[←Nat.pow_succ'];congr 1;omega
  rw[hp] at hv hr
  generalize shf M n d=j at *
  generalize rne n (d*2^j)=q at *
  have hjp:=two_pos j
  have hMp:=two_pos M
  have hdj:0<d*2^j:=Nat.mul_pos hd hjp
  by_cases hq:j=0∨2^M<q
  · have hq0:1≤q:=by
      rcases hq with h|h
      · subst h;omega
      · omega
    have e2:val M p=(q-1)*2^j:=by
      have:p=j*2^M+(q-1):=by omega
      rw[this];exact val_at (by omega) (by omega)
    have e4:((q-1)*2^j+q*2^j)*d+d*2^j=2*(q*(d*2^j)):=by
      obtain⟨t,rfl⟩:∃ t,q=t+1:=⟨q-1,by omega⟩
      simp only[Nat.add_sub_cancel,Nat.add_mul,Nat.one_mul]
      have a1:t*2^j*d=t*(d*2^j):=by ac_rfl
      have a2:2^j*d=d*2^j:=by ac_rfl
      rw[a1,a2];omega
    rw[hv,e2]
    have hhi:=hn.hi
    refine⟨by omega,fun h=>?_⟩
    have ht:=hn.thi (by omega)
    have hjM:j*2^M=2*(j*2^(M-1)):=by rw[hpM];ac_rfl
    rw[hr,hjM];omega
  · have hj0:j≠0:=fun h=>hq (Or.inl h)
    have hqM:q=2^M:=by omega
    obtain⟨i,rfl⟩:∃ i,j=i+1:=⟨j-1,by omega⟩
    have hle:val M p≤val M (p+1):=val_mono (by omega)
    have hlt:val M p<val M (p+1):=val_lt (by omega)
    have h3:=hge hj0
    rw[Nat.pow_add] at h3
    have h4:val M (p+1)*d≤n:=by rw[hv,hqM];exact h3
    have h5:val M p*d<val M (p+1)*d:=Nat.mul_lt_mul_of_pos_right hlt hd
    rw[Nat.add_mul]
    exact⟨by omega,fun h=>by omega⟩
/-- no pattern is nearer; of two as near it is the even one -/
theorem nearest {M n d y:Nat} (hM:1≤M) (hd:0<d) (hy:y≠raw M n d) :
    let V:=fun p=>(val M p*d:Int);let a:=((n:Int)-V (raw M n d)).natAbs;let c:=((n:Int)-V y).natAbs
    a≤c∧(a=c→raw M n d%2=0):=by
  intro V a c
  rcases Nat.lt_or_gt_of_ne hy with h|h
  · obtain⟨p,hp⟩:∃ p,raw M n d=p+1:=⟨raw M n d-1,by omega⟩
    obtain⟨l1,l2⟩:=mid_lo hM hd hp
    have hle:val M y≤val M p:=val_mono (by omega)
    have hlt:val M p<val M (p+1):=val_lt (by omega)
    have k1:val M y*d≤val M p*d:=Nat.mul_le_mul_right _ hle
    have k2:val M p*d<val M (p+1)*d:=Nat.mul_lt_mul_of_pos_right hlt hd
    rw[Nat.add_mul] at l1 l2
    have ha:a=((n:Int)-((val M (p+1)*d:Nat):Int)).natAbs:=by
      show ((n:Int)-(val M (raw M n d)*d:Int)).natAbs=_
      rw[hp,Int.natCast_mul]
    have hc:c=((n:Int)-((val M y*d:Nat):Int)).natAbs:=by
      show ((n:Int)-(val M y*d:Int)).natAbs=_
      rw[Int.natCast_mul]
    rw[ha,hc,hp]
    generalize val M y*d=A at *
    generalize val M p*d=B at *
    generalize val M (p+1)*d=C at *
    refine⟨by omega,fun h=>l2 (by omega)⟩
  · obtain⟨l1,l2⟩:=mid_hi (M:=M) (n:=n) hM hd
    have hle:val M (raw M n d+1)≤val M y:=val_mono (by omega)
    have hlt:val M (raw M n d)<val M (raw M n d+1):=val_lt (by omega)
    have k1:val M (raw M n d+1)*d≤val M y*d:=Nat.mul_le_mul_right _ hle
    have k2:val M (raw M n d)*d<val M (raw M n d+1)*d:=Nat.mul_lt_mul_of_pos_right hlt hd
    rw[Nat.add_mul] at l1 l2
    have ha:a=((n:Int)-((val M (raw M n d)*d:Nat):Int)).natAbs:=by
      show ((n:Int)-(val M (raw M n d)*d:Int)).natAbs=_
      rw[Int.natCast_mul]
    have hc:c=((n:Int)-((val M y*d:Nat):Int)).natAbs:=by
      show ((n:Int)-(val M y*d:Int)).natAbs=_
      rw[Int.natCast_mul]
    rw[ha,hc]
    generalize val M y*d=A at *
    generalize val M (raw M n d)*d=B at *
    generalize val M (raw M n d+1)*d=C at *
    refine⟨by omega,fun h=>l2 (by omega)⟩
end Go.Proofs.Ytmmbgbchimangaa.FT
