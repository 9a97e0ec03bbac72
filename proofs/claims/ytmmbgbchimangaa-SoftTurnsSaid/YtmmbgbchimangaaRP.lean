import Derived.Test.YtmmbgbchimangaaPQx2
import Derived.Test.YtmmbgbchimangaaRS
namespace Go.Proofs.Ytmmbgbchimangaa.RS
set_option linter.all false
open Go.RowKit Go.Proofs.Ytmmbgbchimangaa.PQ Go.Proofs.YtmmbgbchimangaaW.PrintWords Go.Proofs.YtmmbgbchimangaaW.PrintLast Go.Proofs.YtmmbgbchimangaaW.PrintMore
open FT

/-- infinity's pattern; the sign's bit; the least number's unit; the pattern of a / b times 2 to the power s, in units of the least number -/
def inf (M X:Nat):Nat:=(2^X-1)*2^M
def sgn (M X:Nat) (neg:Bool):Nat:=if neg then 2^(M+X) else 0
def least (M X:Nat):Int:=1-((2^(X-1)-1:Nat):Int)-(M:Int)
def npat (M X a b:Nat) (s:Int):Nat:=pat M (inf M X) (a*2^s.toNat) (b*2^(-s).toNat)

theorem raw_of {M a b:Nat} {s:Int} (hb:0<b) (j n' d':Nat) (hd':0<d') (hval:a*2^s.toNat*d'=n'*2^j*(b*2^(-s).toNat))
    (h1:n'<2^(M+1)*d') (h2:j=0∨2^M*d'≤n'):raw M (a*2^s.toNat) (b*2^(-s).toNat)=j*2^M+rne n' d':=by
  rw[raw_congr (Nat.mul_pos hb (two_pos _)) hd' hval]
  have hj:shf M (n'*2^j) d'=j:=by
    refine shf_eq hd' ?_ ?_
    · rw[Nat.pow_add,Nat.mul_assoc,Nat.mul_comm (2^j),←Nat.mul_assoc]
      exact Nat.mul_lt_mul_of_pos_right h1 (two_pos j)
    · rcases h2 with h2|h2
      · exact Or.inl h2
      · right
        rw[Nat.pow_add,Nat.mul_assoc,Nat.mul_comm (2^j),←Nat.mul_assoc]
        exact Nat.mul_le_mul_right _ h2
  unfold raw
  rw[hj]
  congr 1
  refine rne_congr (Nat.mul_pos hd' (two_pos _)) hd' ?_
  rw[Nat.mul_assoc,Nat.mul_comm (2^j)]
theorem rne_bits {N m c:Nat} (hm:m≤1):rne (2*N+m) (2^(c+1+1))=N/2^(c+1)+(if N/2^c%2=1∧(N%2^c≠0∨m=1∨N/2^(c+1)%2=1) then 1 else 0):=by
  have hp:=two_pos c
  have e1:(2*N+m)/2^(c+1+1)=N/2^(c+1):=by
    have p:2^(c+1+1)=2*2^(c+1):=by rw[Nat.pow_succ (n:=2) (m:=c+1)];omega
    have q:(2*N+m)/2=N:=by omega
    rw[p,←Nat.div_div_eq_div_mul,q]
  have e2:(2*N+m)%2^(c+1+1)=2*(N%2^(c+1))+m:=by
    have h1:=Nat.div_add_mod (2*N+m) (2^(c+1+1))
    rw[e1] at h1
    have h2:=Nat.div_add_mod N (2^(c+1))
    have e:2^(c+1+1)*(N/2^(c+1))=2*(2^(c+1)*(N/2^(c+1))):=by
      rw[Nat.pow_succ (n:=2) (m:=c+1)];simp only[Nat.mul_comm,Nat.mul_left_comm]
    rw[e] at h1
    omega
  have e3:N%2^(c+1)=(N/2^c%2)*2^c+N%2^c:=by
    have h1:=Nat.div_add_mod N (2^(c+1))
    have h2:=Nat.div_add_mod N (2^c)
    have h3:=Nat.div_add_mod (N/2^c) 2
    have e:N/2^c/2=N/2^(c+1):=by rw[Nat.pow_succ,Nat.div_div_eq_div_mul]
    rw[e] at h3
    have h4:2^c*(N/2^c)=2^(c+1)*(N/2^(c+1))+(N/2^c%2)*2^c:=by
      have h5:2^c*(N/2^c)=2^c*(2*(N/2^(c+1))+N/2^c%2):=by rw[h3]
      rw[Nat.mul_add] at h5
      have h6:2^c*(2*(N/2^(c+1)))=2^(c+1)*(N/2^(c+1)):=by rw[Nat.pow_succ (n:=2) (m:=c),Nat.mul_assoc]
      rw[h5,h6,Nat.mul_comm (2^c) (N/2^c%2)]
    omega
  have hlow:N%2^c<2^c:=Nat.mod_lt _ hp
  have hbit:N/2^c%2=0∨N/2^c%2=1:=by omega
  unfold rne
  rw[e1,e2,e3]
  have p1:2^(c+1+1)=2*(2*2^c):=by rw[Nat.pow_succ,Nat.pow_succ];omega
  rw[p1]
  rcases hbit with hb|hb
  · rw[hb,if_neg (by omega),if_neg (by omega)];rfl
  · rw[hb]
    by_cases hx:N%2^c≠0∨m=1∨N/2^(c+1)%2=1
    · rw[if_pos (by omega),if_pos ⟨rfl,hx⟩]
    · rw[if_neg (by omega),if_neg (fun h=>hx h.2)];rfl

section
variable {M X:Nat} (hM:2≤M) (hM':M≤52) (hX:2≤X) (hX':X≤11)
include hM hM' hX hX'
theorem inf_eq (neg:Bool):round_Inf.f (M:Int) (X:Int) neg=some ((sgn M X neg+inf M X:Nat):Int):=by
  unfold round_Inf.f
  rw[check_ok hM hM' hX hX']
  simp only[Option.bind_some]
  rw[if_pos trivial,top_eq hM hM' hX hX',Option.bind_some,sign_eq hM hM' hX hX',Option.bind_some]
  have hb:=top_bound (M:=M) (X:=X)
  have hp:=pow_lt (k:=M+X) (by omega)
  have hp2:2^(M+X)*2≤18446744073709551616:=by
    have:=Nat.pow_le_pow_right (n:=2) (by omega) (show M+X+1≤64 by omega)
    rw[Nat.pow_succ] at this;omega
  unfold sgn inf
  cases neg
  · rw[if_neg (by simp)]
    have:=bit_or (a:=(2^X-1)*2^M) (b:=0) (by omega) (by omega)
    rw[this];simp
  · rw[if_pos rfl]
    have h:=or_add (a:=1) (i:=M+X) hb (by omega)
    rw[Nat.one_mul] at h
    rw[bit_or (by omega) hp,Nat.or_comm,←bit_or hp (by omega),h]
theorem least_bounds:-1100≤least M X∧least M X≤0∧least M X+((2^(X-1)-1:Nat):Int)+M=1:=by
  unfold least
  have hb:2^(X-1)≤1024:=Nat.le_trans (Nat.pow_le_pow_right (by omega) (show X-1≤10 by omega)) (by decide)
  have hp:=two_pos (X-1)
  omega
theorem pack_j2 (k:Nat) (neg:Bool) {j q:Nat} (hj:j<100000) (hq:q<2^(M+1)) (hjq:j=0∨2^M≤q) :
    round_Pack.j2 (k+1) neg (least M X+j) (q:Int) (M:Int) (X:Int)=some (((sgn M X neg+min (inf M X) (j*2^M+q):Nat):Int),0):=by
  have hMp:=two_pos M
  have hXp:=two_pos X
  have hX4:4≤2^X:=Nat.pow_le_pow_right (n:=2) (by omega) hX
  have hXle:2^X≤2048:=Nat.pow_le_pow_right (n:=2) (by omega) hX'
  have hp:=pow_lt (k:=M+X) (by omega)
  have hp2:2^(M+X)*2≤18446744073709551616:=by
    have:=Nat.pow_le_pow_right (n:=2) (by omega) (show M+X+1≤64 by omega)
    rw[Nat.pow_succ] at this;omega
  have hMX:2^(M+X)=2^X*2^M:=by rw[Nat.pow_add,Nat.mul_comm]
  have hM1:2^(M+1)=2*2^M:=by rw[Nat.pow_succ];omega
  have hinf:2^M≤inf M X:=by
    unfold inf
    have:1*2^M≤(2^X-1)*2^M:=Nat.mul_le_mul_right _ (by omega)
    omega
  have hql:q<18446744073709551616:=by
    have:=pow_lt (k:=M+1) (by omega);omega
  rw[round_Pack.j2.eq_2,if_pos (by omega),shr_nat (by omega)]
  by_cases hs:q<2^M
  · have hj0:j=0:=by omega
    subst hj0
    rw[Nat.div_eq_of_lt hs,if_pos (by simp),sign_eq hM hM' hX hX',Option.bind_some]
    have hmin:min (inf M X) (0*2^M+q)=q:=by omega
    rw[hmin]
    unfold sgn
    cases neg
    · rw[if_neg (by simp)]
      have:=bit_or (a:=0) (b:=q) (by omega) hql
      rw[this];simp
    · rw[if_pos rfl]
      have hlt:q<2^(M+X):=by
        rw[hMX]
        have:1*2^M≤2^X*2^M:=Nat.mul_le_mul_right _ (by omega)
        omega
      have h:=or_add (a:=1) (i:=M+X) (b:=q) hlt (by omega)
      rw[Nat.one_mul] at h
      rw[h]
  · have hdiv:q/2^M=1:=by
      rw[Nat.div_eq_iff hMp];omega
    rw[hdiv,if_neg (by decide),bias_eq hX hX',Option.bind_some,if_pos (by omega)]
    obtain⟨l1,l2,l3⟩:=least_bounds hM hM' hX hX'
    have e1:wrap64 (wrap64 (least M X+(j:Int)+((2^(X-1)-1:Nat):Int))+(M:Int))=((j+1:Nat):Int):=by
      rw[w64 (n:=least M X+(j:Int)+((2^(X-1)-1:Nat):Int)) (by omega) (by omega),w64 (by omega) (by omega)];omega
    have e2:wrap64 (shl .i64 1 (X:Int)-1)=((2^X-1:Nat):Int):=by
      have:shl .i64 1 (X:Int)=((2^X:Nat):Int):=by
        unfold shl
        have e:min (Int.toNat ((X:Nat):Int)) IntKind.i64.bits=X:=by simp[IntKind.bits];omega
        rw[e,IntKind.wrap_i64]
        have:(1*2^X:Int)=((2^X:Nat):Int):=by simp
        rw[this];omega
      rw[this,w64 (by omega) (by omega)];omega
    rw[e1,e2]
    by_cases hf:2^X-1≤j+1
    · rw[if_pos (by omega),inf_eq hM hM' hX hX',Option.bind_some]
      have:min (inf M X) (j*2^M+q)=inf M X:=by
        have h1:(2^X-1)*2^M≤(j+1)*2^M:=Nat.mul_le_mul_right _ hf
        rw[Nat.add_mul j] at h1
        unfold inf;omega
      rw[this]
    · rw[if_neg (by omega),sign_eq hM hM' hX hX',Option.bind_some]
      have hfield:(j+1)*2^M+2^M≤2^(M+X):=by
        have h1:(j+1+1)*2^M≤2^X*2^M:=Nat.mul_le_mul_right _ (by omega)
        rw[Nat.add_mul (j+1)] at h1;omega
      have hmin:min (inf M X) (j*2^M+q)=(j+1)*2^M+(q-2^M):=by
        have h1:(j+1+1)*2^M≤(2^X-1)*2^M:=Nat.mul_le_mul_right _ (by omega)
        rw[Nat.add_mul (j+1),Nat.add_mul j] at h1
        unfold inf;rw[Nat.add_mul j];omega
      have hmod:q%2^M=q-2^M:=by
        have:=Nat.div_add_mod q (2^M);rw[hdiv] at this;omega
      rw[hmin,wuN (n:=j+1) (by omega),shl_nat (by omega) (by omega)]
      have e3:IntKind.u64.wrap (shl .u64 1 (M:Int)-1)=((2^M-1:Nat):Int):=by
        have:=pow_lt (k:=M) (by omega)
        rw[shl_one (by omega)]
        have e:((2^M:Nat):Int)-1=((2^M-1:Nat):Int):=by omega
        rw[e,wuN (by omega)]
      rw[e3,and_mod hql (by omega),hmod]
      have hs2:((((if neg then 2^(M+X) else 0:Nat)):Int))=(((sgn M X neg):Nat):Int):=rfl
      have hsg:sgn M X neg=(if neg then 1 else 0)*2^X*2^M:=by
        unfold sgn;cases neg
        · simp
        · simp only[if_true];rw[hMX,Nat.one_mul]
      have hsle:sgn M X neg≤2^(M+X):=by unfold sgn;split <;> omega
      have o1:Go.bits .or .u64 (((sgn M X neg):Nat):Int) (((j+1)*2^M:Nat):Int)=((sgn M X neg+(j+1)*2^M:Nat):Int):=by
        have hsg2:sgn M X neg=(if neg then 1 else 0)*2^(M+X):=by
          unfold sgn;cases neg <;> simp
        rw[hsg2]
        refine or_add (by omega) ?_
        rw[←hsg2];omega
      rw[hs2,o1]
      have e4:sgn M X neg+(j+1)*2^M=((if neg then 1 else 0)*2^X+(j+1))*2^M:=by rw[hsg,←Nat.add_mul]
      rw[e4,or_add (by omega) (by rw[←e4];omega),←e4]
      congr 2;omega
omit hM hM' hX hX' in
theorem ite01 (c:Prop) [Decidable c]:(if c then 1 else 0)≤1:=by split <;> omega
theorem pack_j1 (k:Nat) (neg:Bool) {j q:Nat} (hj:j<90000) (hq:q≤2^(M+1)) (hjq:j=0∨2^M≤q) :
    round_Pack.j1 (k+2) neg (least M X+j) (q:Int) (M:Int) (X:Int)=some (((sgn M X neg+min (inf M X) (j*2^M+q):Nat):Int),0):=by
  have hMp:=two_pos M
  have hM1:2^(M+1)=2*2^M:=by rw[Nat.pow_succ];omega
  obtain⟨l1,l2,l3⟩:=least_bounds hM hM' hX hX'
  have e0:wrap64 ((M:Int)+1)=((M+1:Nat):Int):=by rw[w64 (by omega) (by omega)];omega
  rw[round_Pack.j1.eq_2,e0,if_pos (by omega),shr_nat (by omega)]
  by_cases hs:q<2^(M+1)
  · rw[Nat.div_eq_of_lt hs,if_pos (by simp)]
    exact pack_j2 hM hM' hX hX' k neg (by omega) hs hjq
  · have hq2:q=2^(M+1):=by omega
    subst hq2
    rw[Nat.div_self (two_pos _),if_neg (by decide)]
    have e1:wrap64 (least M X+(j:Int)+1)=least M X+((j+1:Nat):Int):=by rw[w64 (by omega) (by omega)];omega
    have e2:(((2^(M+1):Nat):Int)/2)=((2^M:Nat):Int):=by rw[hM1];omega
    rw[e1,e2,pack_j2 hM hM' hX hX' k neg (by omega) (by omega) (Or.inr (Nat.le_refl _)),hM1]
    have:(j+1)*2^M+2^M=j*2^M+2*2^M:=by rw[Nat.add_mul];omega
    rw[this]

omit hM hM' hX hX' in
theorem mx_int (a b:Int):mx a b=max a b:=by unfold mx;omega

theorem pack_j0 (k:Nat) (neg:Bool) {hi lo:Nat} (hh:hi<18446744073709551616) (hl:lo<18446744073709551616) {e:Int} (he:-4096≤e) (he':e≤4096) (more:Bool)
    (hm:more=true→M+3≤blen (hi*18446744073709551616+lo)) :
    round_Pack.j0 (k+3) neg (hi:Int) (lo:Int) e more ((blen (hi*18446744073709551616+lo):Nat):Int) false (M:Int) (X:Int) =
      some (((sgn M X neg+npat M X (2*(hi*18446744073709551616+lo)+(if more then 1 else 0)) 1 (e-1-least M X):Nat):Int),0):=by
  obtain⟨N,hN⟩:∃ N,hi*18446744073709551616+lo=N:=⟨_,rfl⟩
  have hN128:N<2^128:=by omega
  have hbl:blen N≤128:=blen_le hN128
  rw[hN] at hm ⊢
  obtain⟨l1,l2,l3⟩:=least_bounds hM hM' hX hX'
  have hMp:=two_pos M
  have hM1:2^(M+1)=2*2^M:=by rw[Nat.pow_succ];omega
  rw[round_Pack.j0.eq_2,if_neg (by simp)]
  by_cases h0:N=0
  · subst h0
    have hb0:blen 0=0:=rfl
    have hm0:more=false:=by cases more with
      | false=>rfl
      | true=>have:=hm rfl;omega
    subst hm0
    rw[hb0,if_pos (by simp),sign_eq hM hM' hX hX',Option.bind_some]
    have hz:npat M X (2*0+(if false=true then 1 else 0)) 1 (e-1-least M X)=0:=by
      unfold npat pat
      have:=raw_of (M:=M) (a:=0) (b:=1) (s:=e-1-least M X) (by omega) 0 0 1 (by omega) (by simp) (by have:=two_pos (M+1);omega) (Or.inl rfl)
      simp only[Nat.mul_zero] at *
      rw[if_neg (by simp),this,Nat.zero_mul]
      have:rne 0 1=0:=rne_whole (m:=0) (d:=1) (by omega)
      rw[this];omega
    rw[hz];rfl
  · have hbp:=blen_pos h0
    have hlt:=blen_lt N
    have hge:=blen_ge h0
    rw[if_neg (by omega),bias_eq hX hX',Option.bind_some,mx_int]
    have e1:wrap64 (wrap64 (wrap64 (((blen N:Nat):Int)+e)-(M:Int))-1)=(blen N:Int)+e-M-1:=by
      rw[w64 (n:=((blen N:Nat):Int)+e) (by omega) (by omega),w64 (n:=((blen N:Nat):Int)+e-(M:Int)) (by omega) (by omega),w64 (by omega) (by omega)]
    have e2:wrap64 (wrap64 (1-((2^(X-1)-1:Nat):Int))-(M:Int))=least M X:=by
      rw[w64 (n:=1-((2^(X-1)-1:Nat):Int)) (by omega) (by omega),w64 (by omega) (by omega)];omega
    rw[e1,e2]
    obtain⟨j,hj⟩:∃ j:Nat,max ((blen N:Int)+e-M-1) (least M X)=least M X+(j:Int):=⟨(max ((blen N:Int)+e-M-1) (least M X)-least M X).toNat,by omega⟩
    have hjb:j<90000:=by omega
    have hju:j=0∨(blen N:Int)+e-M-1=least M X+j:=by omega
    rw[hj]
    by_cases hle:least M X+(j:Int)≤e
    · rw[if_pos hle,if_pos (by rw[w64 (by omega) (by omega)];omega)]
      have hm0:more=false:=by cases more with
        | false=>rfl
        | true=>have:=hm rfl;omega
      subst hm0
      obtain⟨c,hc⟩:∃ c:Nat,e-(least M X+(j:Int))=(c:Int):=⟨(e-(least M X+(j:Int))).toNat,by omega⟩
      have ew:wrap64 (e-(least M X+(j:Int)))=(c:Int):=by rw[w64 (by omega) (by omega),hc]
      have hbc:blen N+c≤M+1:=by omega
      have hNs:N*2^c<2^(M+1):=by
        have h1:N*2^c<2^blen N*2^c:=Nat.mul_lt_mul_of_pos_right hlt (two_pos c)
        rw[←Nat.pow_add] at h1
        exact Nat.lt_of_lt_of_le h1 (Nat.pow_le_pow_right (by omega) hbc)
      have hp53:2^(M+1)≤2^53:=Nat.pow_le_pow_right (by omega) (by omega)
      have hN53:N≤N*2^c:=Nat.le_mul_of_pos_right _ (two_pos c)
      have hhi:hi=0:=by omega
      have hlo:lo=N:=by omega
      have hjq:j=0∨2^M≤N*2^c:=by
        rcases hju with h|h
        · exact Or.inl h
        · right
          have h1:2^(blen N-1)*2^c≤N*2^c:=Nat.mul_le_mul_right _ hge
          rw[←Nat.pow_add] at h1
          exact Nat.le_trans (Nat.pow_le_pow_right (by omega) (by omega)) h1
      rw[ew,hlo,shl_nat (by omega) (by omega),pack_j1 hM hM' hX hX' k neg hjb (by omega) hjq]
      congr 4
      unfold npat pat
      congr 1
      have hr:=raw_of (M:=M) (a:=2*N+0) (b:=1) (s:=e-1-least M X) (by omega) j (N*2^c) 1 (by omega) ?_ (by omega) (by omega)
      · have:rne (N*2^c) 1=N*2^c:=by have:=rne_whole (m:=N*2^c) (d:=1) (by omega);simpa using this
        rw[this] at hr
        simpa using hr.symm
      · by_cases hz:j+c=0
        · have h1:(e-1-least M X).toNat=0:=by omega
          have h2:(-(e-1-least M X)).toNat=1:=by omega
          have hj0:j=0:=by omega
          have hc0:c=0:=by omega
          rw[h1,h2,hj0,hc0];omega
        · have h1:(e-1-least M X).toNat=j+c-1:=by omega
          have h2:(-(e-1-least M X)).toNat=0:=by omega
          obtain⟨t,ht⟩:∃ t,j+c=t+1:=⟨j+c-1,by omega⟩
          have h3:N*2^c*2^j=N*2^t*2:=by
            rw[Nat.mul_assoc,←Nat.pow_add,show c+j=t+1 by omega,Nat.pow_succ,Nat.mul_assoc]
          have h4:(2*N+0)*2^t=N*2^t*2:=by rw[Nat.add_zero,Nat.mul_comm 2 N,Nat.mul_assoc,Nat.mul_comm 2,←Nat.mul_assoc]
          rw[h1,h2,h3,show j+c-1=t by omega,h4]
    · rw[if_neg hle]
      obtain⟨c,hc⟩:∃ c:Nat,least M X+(j:Int)-e=((c+1:Nat):Int):=⟨(least M X+(j:Int)-e-1).toNat,by omega⟩
      have ew:wrap64 (least M X+(j:Int)-e)=((c+1:Nat):Int):=by rw[w64 (by omega) (by omega),hc]
      have hbc:blen N≤M+1+(c+1):=by omega
      have hNs:N<2^(M+1)*2^(c+1):=by
        rw[←Nat.pow_add]
        exact Nat.lt_of_lt_of_le hlt (Nat.pow_le_pow_right (by omega) hbc)
      have hq:N/2^(c+1)<2^(M+1):=(Nat.div_lt_iff_lt_mul (two_pos _)).2 hNs
      have hp53:2^(M+1)≤2^53:=Nat.pow_le_pow_right (by omega) (by omega)
      have hjq:j=0∨2^M≤N/2^(c+1):=by
        rcases hju with h|h
        · exact Or.inl h
        · right
          rw[Nat.le_div_iff_mul_le (two_pos _),←Nat.pow_add]
          exact Nat.le_trans (Nat.pow_le_pow_right (by omega) (by omega)) hge
      rw[ew,down_eq hh hl (by omega) (by omega) (by rw[hN];omega),hN,Option.bind_some]
      have hmm:(if more then 1 else 0)≤1:=by cases more <;> simp
      have hr:=raw_of (M:=M) (a:=2*N+(if more then 1 else 0)) (b:=1) (s:=e-1-least M X) (by omega) j (2*N+(if more then 1 else 0)) (2^(c+1+1)) (two_pos _) ?_ ?_ ?_
      · rw[rne_bits hmm] at hr
        have fin:∀ q:Nat,q=N/2^(c+1)+(if N/2^c%2=1∧(N%2^c≠0∨(if more then 1 else 0)=1∨N/2^(c+1)%2=1) then 1 else 0) →
            round_Pack.j1 (k+2) neg (least M X+j) (q:Int) (M:Int) (X:Int)=some (((sgn M X neg+npat M X (2*N+(if more then 1 else 0)) 1 (e-1-least M X):Nat):Int),0):=by
          intro q hqq
          have hd:q≤N/2^(c+1)+1∧N/2^(c+1)≤q:=by rw[hqq];exact⟨Nat.add_le_add_left (ite01 _) _,Nat.le_add_right _ _⟩
          have hq2:q≤2^(M+1)∧N/2^(c+1)≤q:=⟨by omega,hd.2⟩
          rw[pack_j1 hM hM' hX hX' k neg hjb hq2.1 (by omega)]
          unfold npat pat
          rw[hr,hqq]
        have hand:Go.bits .and .u64 ((N/2^(c+1):Nat):Int) 1=((N/2^(c+1)%2:Nat):Int):=by
          have:=and_mod (a:=N/2^(c+1)) (i:=1) (by omega) (by omega)
          simpa using this
        have hinc:IntKind.u64.wrap (((N/2^(c+1):Nat):Int)+1)=((N/2^(c+1)+1:Nat):Int):=by
          have hq0:N/2^(c+1)+1<18446744073709551616:=by omega
          exact wuN hq0
        simp only[show c+1-1=c by omega]
        rw[hinc,hand]
        by_cases hb:N/2^c%2=1
        · rw[if_pos (by simpa using hb)]
          by_cases hr0:N%2^c=0
          · rw[if_neg (by simpa using hr0)]
            cases more with
            | true=>rw[if_pos rfl];exact fin _ (by rw[if_pos ⟨hb,Or.inr (Or.inl rfl)⟩])
            | false =>
              rw[if_neg (by simp)]
              by_cases ho:N/2^(c+1)%2=1
              · rw[if_pos (by omega)];exact fin _ (by rw[if_pos ⟨hb,Or.inr (Or.inr ho)⟩])
              · rw[if_neg (by omega)]
                refine fin _ ?_
                rw[if_neg];· omega
                rintro⟨_,h|h|h⟩
                · exact h hr0
                · simp at h
                · exact ho h
          · rw[if_pos (by simpa using hr0)];exact fin _ (by rw[if_pos ⟨hb,Or.inl hr0⟩])
        · rw[if_neg (by simpa using hb)]
          exact fin _ (by rw[if_neg (fun h=>hb h.1)];omega)
      · have h1:(e-1-least M X).toNat+(c+1+1)=j+(-(e-1-least M X)).toNat:=by omega
        rw[Nat.one_mul,Nat.mul_assoc,←Nat.pow_add,h1,Nat.pow_add,←Nat.mul_assoc]
      · have:2^(M+1)*2^(c+1+1)=2*(2^(M+1)*2^(c+1)):=by rw[Nat.pow_succ (n:=2) (m:=c+1)];simp only[Nat.mul_comm,Nat.mul_left_comm]
        rw[this];omega
      · rcases hjq with h|h
        · exact Or.inl h
        · right
          have h1:2^M*2^(c+1)≤N:=(Nat.le_div_iff_mul_le (two_pos _)).1 h
          have:2^M*2^(c+1+1)=2*(2^M*2^(c+1)):=by rw[Nat.pow_succ (n:=2) (m:=c+1)];simp only[Nat.mul_comm,Nat.mul_left_comm]
          rw[this];omega
theorem pack_ok (k:Nat) (neg:Bool) {hi lo:Nat} (hh:hi<18446744073709551616) (hl:lo<18446744073709551616) {e:Int} (he:-4096≤e) (he':e≤4096) (more:Bool)
    (hm:more=true→M+3≤blen (hi*18446744073709551616+lo)) :
    round_Pack.f (k+3) (M:Int) (X:Int) neg (hi:Int) (lo:Int) e more =
      some (((sgn M X neg+npat M X (2*(hi*18446744073709551616+lo)+(if more then 1 else 0)) 1 (e-1-least M X):Nat):Int),0):=by
  unfold round_Pack.f
  rw[length_eq (k+2) hh hl,Option.bind_some,check_ok hM hM' hX hX',Option.bind_some,if_pos rfl,if_neg (by omega),if_neg (by omega)]
  have hj:=pack_j0 hM hM' hX hX' k neg hh hl he he' more hm
  cases more with
  | true =>
    have h:=hm rfl
    rw[if_pos rfl,w64 (by omega) (by omega),decide_eq_false (by omega)]
    exact hj
  | false=>rw[if_neg (by simp)];exact hj
end
theorem pack_bad (k:Nat) {m x:Int} (neg:Bool) {hi lo:Nat} (hh:hi<18446744073709551616) (hl:lo<18446744073709551616) (e:Int) (more:Bool)
    (h:¬ (2≤m∧m≤52∧2≤x∧x≤11)∨e < -4096∨4096<e∨(more=true∧(blen (hi*18446744073709551616+lo):Int)<m+3)) :
    round_Pack.f (k+1) m x neg (hi:Int) (lo:Int) e more=some (0,1):=by
  have hj:∀ a b c d e f g,round_Pack.j0 (k+1) a b c d e f true g=fun y=>some (0,1):=by
    intro a b c d e f g;funext y;rw[round_Pack.j0.eq_2,if_pos rfl]
  unfold round_Pack.f
  rw[length_eq k hh hl,Option.bind_some]
  by_cases hv:2≤m∧m≤52∧2≤x∧x≤11
  · obtain⟨M,rfl⟩:=Int.eq_ofNat_of_zero_le (show 0≤m by omega)
    obtain⟨X,rfl⟩:=Int.eq_ofNat_of_zero_le (show 0≤x by omega)
    rw[check_ok (by omega) (by omega) (by omega) (by omega),Option.bind_some,if_pos rfl]
    by_cases h1:e < -4096
    · rw[if_pos h1,hj]
    · rw[if_neg h1]
      by_cases h2:e>4096
      · rw[if_pos h2,hj]
      · rw[if_neg h2]
        have h3:more=true∧(blen (hi*18446744073709551616+lo):Int)<(M:Int)+3:=by
          rcases h with h|h|h|h
          · exact absurd hv h
          · omega
          · omega
          · exact h
        rw[if_pos h3.1,w64 (by omega) (by omega),decide_eq_true h3.2,hj]
  · rw[check_bad hv,Option.bind_some,if_neg (by decide),hj]
end Go.Proofs.Ytmmbgbchimangaa.RS
