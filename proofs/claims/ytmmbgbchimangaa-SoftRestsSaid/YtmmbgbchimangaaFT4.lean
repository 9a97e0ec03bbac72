import Derived.Test.YtmmbgbchimangaaFT3
namespace Go.Proofs.Ytmmbgbchimangaa.FT
set_option linter.all false
/-- a number of M + 1 bits is not near to a middle -/
theorem mid_far {M a x q i D:Nat} (ha:a<2^(M+1)) (hx:D≤x) (hi:i+1=D∨2^M≤q):a*2^x+2^i≤(2*q+1)*2^i∨(2*q+1)*2^i+2^i≤a*2^x:=by
  by_cases h:i+1≤x
  · refine apart (Nat.dvd_trans (Nat.pow_dvd_pow 2 (by omega)) (Nat.dvd_mul_left _ _)) (Nat.dvd_mul_left _ _) fun he=>?_
    obtain⟨j,rfl⟩:∃ j,x=j+1+i:=⟨x-i-1,by omega⟩
    rw[Nat.pow_add,←Nat.mul_assoc] at he
    have:=Nat.eq_of_mul_eq_mul_right (two_pos i) he
    rw[Nat.pow_succ,←Nat.mul_assoc] at this
    omega
  · left
    have hq:2^M≤q:=by omega
    have h1:2^x≤2^i:=Nat.pow_le_pow_right (by omega) (by omega)
    have h2:a*2^x≤2^(M+1)*2^i:=Nat.mul_le_mul (Nat.le_of_lt ha) h1
    have h3:(2^(M+1)+1)*2^i≤(2*q+1)*2^i:=Nat.mul_le_mul_right _ (by rw[Nat.pow_succ];omega)
    rw[Nat.add_mul] at h3;omega
/-- a sum of two numbers of M + 1 bits is not near to a middle without being there -/
theorem mid_sum {M M' a b x y q i t D N:Nat} (hM':2*M+2≤M') (hM:1≤M) (ha:a<2^(M+1)) (hb:b<2^(M+1)) (hx:D≤x) (hy:D≤y) (hq:q<2^(M+1)) (hi:i+1=D∨2^M≤q)
    (hN:N=a*2^x+b*2^y∨N+b*2^y=a*2^x)
    (h1:2*N≤2*((2*q+1)*2^i)+2^t) (h2:2*((2*q+1)*2^i)≤2*N+2^t)
    (ht:t=0∨2^(M'+t)≤(2*q+1)*2^i):N=(2*q+1)*2^i:=by
  refine Decidable.byContradiction fun hne=>?_
  rcases ht with rfl|ht
  · simp only[Nat.pow_zero] at h1 h2;omega
  have hip:=two_pos i
  have hmu:(2*q+1)*2^i<2^(M+2+i):=by
    rw[Nat.pow_add]
    refine Nat.mul_lt_mul_of_pos_right ?_ hip
    rw[Nat.pow_succ 2 (M+1)];omega
  have hti:=lt_of_pow (Nat.lt_of_le_of_lt ht hmu)
  have hpt:2^t*4≤2^i:=by
    have:2^(t+2)≤2^i:=Nat.pow_le_pow_right (by omega) (by omega)
    rwa [Nat.pow_add] at this
  have hmi:2^i≤(2*q+1)*2^i:=Nat.le_mul_of_pos_left _ (by omega)
  have small:∀ c z,c<2^(M+1)→z+M+2≤i→c*2^z*2≤2^i:=by
    intro c z hc hz
    have s1:c*2^z≤2^(M+1)*2^z:=Nat.mul_le_mul_right _ (Nat.le_of_lt hc)
    rw[←Nat.pow_add] at s1
    have s2:2^(M+1+z+1)≤2^i:=Nat.pow_le_pow_right (by omega) (by omega)
    rw[Nat.pow_succ] at s2;omega
  by_cases hxi:x+M+2≤i
  · have s1:=small a x ha hxi
    rcases hN with hN|hN
    · have hf:=mid_far (x:=y) (D:=D) hb hy hi
      omega
    · omega
  · by_cases hyi:y+M+2≤i
    · have s1:=small b y hb hyi
      have hf:=mid_far (x:=x) (D:=D) ha hx hi
      omega
    · obtain⟨k,hk⟩:∃ k,i=k+M+1:=⟨i-M-1,by omega⟩
      have d1:2^k ∣ a*2^x:=Nat.dvd_trans (Nat.pow_dvd_pow 2 (by omega)) (Nat.dvd_mul_left _ _)
      have d2:2^k ∣ b*2^y:=Nat.dvd_trans (Nat.pow_dvd_pow 2 (by omega)) (Nat.dvd_mul_left _ _)
      have d3:2^k ∣ (2*q+1)*2^i:=Nat.dvd_trans (Nat.pow_dvd_pow 2 (by omega)) (Nat.dvd_mul_left _ _)
      have dN:2^k ∣ N:=by
        rcases hN with hN|hN
        · rw[hN];exact Nat.dvd_add d1 d2
        · have:N=a*2^x-b*2^y:=by omega
          rw[this];exact Nat.dvd_sub d1 d2
      have hap:=apart dN d3 hne
      have hpk:2^t≤2^k:=Nat.pow_le_pow_right (by omega) (by omega)
      have hkp:=two_pos k
      omega
/-- a root: r its whole part, u the least number that is not below -/
theorem mid_root {M M' a e r u q i w t:Nat} (hM':2*M+4≤M') (hi:M+4≤i) (hw:1≤w) (ha:a<2^(M+1)) (hq:q<2^(M+1))
    (hr:r*r≤a*2^e) (hu:a*2^e≤u*u)
    (h1:r+u≤2*((2*q+1)*2^(i+w))+2^(w+t)) (h2:2*((2*q+1)*2^(i+w))≤r+u+2^(w+t)) (hru:r≤u) (hur:u≤r+1)
    (ht:t=0∨2^(M'+t)≤(2*q+1)*2^i):a*2^e=(2*q+1)*2^(i+w)*((2*q+1)*2^(i+w)):=by
  refine Decidable.byContradiction fun hne=>?_
  obtain⟨m,hm⟩:∃ m,m=(2*q+1)*2^(i+w):=⟨_,rfl⟩
  obtain⟨v,rfl⟩:∃ v,w=v+1:=⟨w-1,by omega⟩
  obtain⟨h,hh⟩:∃ h,h=2^(v+t):=⟨_,rfl⟩
  have hh2:2^(v+1+t)=2*h:=by rw[hh,show v+1+t=v+t+1 by omega,Nat.pow_succ];omega
  rw[←hm,hh2] at h1 h2
  rw[←hm] at hne
  have hum:u≤m+h:=by omega
  have hrm:m≤r+h:=by omega
  have hhp:0<h:=by rw[hh];exact two_pos _
  have hip:=two_pos (i+(v+1))
  have hq2:2*q+2≤2^(M+2):=by rw[Nat.pow_succ 2 (M+1)];omega
  have hmub:m+2^(i+(v+1))≤2^(M+2+(i+(v+1))):=by
    have:(2*q+1+1)*2^(i+(v+1))≤2^(M+2)*2^(i+(v+1)):=Nat.mul_le_mul_right _ (by omega)
    rw[Nat.add_mul,←Nat.pow_add,←hm] at this;omega
  have hmlb:2^(i+(v+1))≤m:=by rw[hm];exact Nat.le_mul_of_pos_left _ (by omega)
  -- h is small beside m, beside 2^(i+w)
  have hsm:h*2^(M+4)≤m∧h*2^(M+4)≤2^(i+(v+1))*2:=by
    rcases ht with rfl|ht
    · have e1:h*2^(M+4)≤2^(i+(v+1)):=by
        rw[hh,←Nat.pow_add];exact Nat.pow_le_pow_right (by omega) (by omega)
      exact⟨Nat.le_trans e1 hmlb,by omega⟩
    · have hmu:(2*q+1)*2^i<2^(M+2+i):=by
        rw[Nat.pow_add]
        refine Nat.mul_lt_mul_of_pos_right ?_ (two_pos i)
        omega
      have hti:=lt_of_pow (Nat.lt_of_le_of_lt ht hmu)
      have e1:h*2^(M'+1)≤m:=by
        have:=Nat.mul_le_mul_right (2^(v+1)) ht
        rw[Nat.mul_assoc,←Nat.pow_add,←Nat.pow_add,←hm] at this
        rw[hh,←Nat.pow_add,show v+t+(M'+1)=M'+t+(v+1) by omega];exact this
      refine⟨Nat.le_trans (Nat.mul_le_mul_left _ (Nat.pow_le_pow_right (by omega) (by omega))) e1,?_⟩
      rw[hh,←Nat.pow_add,←Nat.pow_succ]
      exact Nat.pow_le_pow_right (by omega) (by omega)
  obtain⟨hs1,hs2⟩:=hsm
  have hp16:2^(M+4)=16*2^M:=by rw[Nat.pow_add];omega
  have hMp:=two_pos M
  have h16:16*h≤h*2^(M+4):=by
    rw[hp16]
    have:h*(16*1)≤h*(16*2^M):=Nat.mul_le_mul_left _ (Nat.mul_le_mul_left _ hMp)
    omega
  -- how far the square is
  have hV1:a*2^e≤m*m+h*(2*m+h):=by
    refine Nat.le_trans hu (Nat.le_trans (Nat.mul_le_mul hum hum) (Nat.le_of_eq ?_))
    rw[Nat.add_mul,Nat.mul_add,Nat.mul_add,Nat.mul_add]
    have:h*(2*m)=m*h+h*m:=by rw[Nat.mul_left_comm,Nat.two_mul,Nat.mul_comm h m]
    omega
  have hV2:m*m≤a*2^e+h*(2*m+h):=by
    have k1:m*m≤(r+h)*m:=Nat.mul_le_mul_right _ hrm
    have k2:r*m≤r*(r+h):=Nat.mul_le_mul_left _ hrm
    have k3:r*h≤(m+h)*h:=Nat.mul_le_mul_right _ (by omega)
    rw[Nat.add_mul] at k1 k3
    rw[Nat.mul_add] at k2
    rw[Nat.mul_add]
    have:h*(2*m)=m*h+h*m:=by rw[Nat.mul_left_comm,Nat.two_mul,Nat.mul_comm h m]
    omega
  have hmm:m*m=(2*q+1)*(2*q+1)*2^(i+(v+1)+(i+(v+1))):=by rw[hm,Nat.pow_add 2 (i+(v+1)) (i+(v+1))];ac_rfl
  rcases Nat.le_total (i+(v+1)+(i+(v+1))) e with he|he
  · have d1:2^(i+(v+1)+(i+(v+1))) ∣ a*2^e:=Nat.dvd_trans (Nat.pow_dvd_pow 2 he) (Nat.dvd_mul_left _ _)
    have d2:2^(i+(v+1)+(i+(v+1))) ∣ m*m:=by rw[hmm];exact Nat.dvd_mul_left _ _
    have hap:=apart d1 d2 hne
    have k1:2^(i+(v+1)+(i+(v+1)))≤h*(2*m+h):=by omega
    have k2:2*m+h≤2^(M+3)*2^(i+(v+1)):=by
      have:2^(M+2+(i+(v+1)))*2=2^(M+3)*2^(i+(v+1)):=by rw[←Nat.pow_succ,←Nat.pow_add];congr 1;omega
      omega
    have k3:h*(2*m+h)≤h*(2^(M+3)*2^(i+(v+1))):=Nat.mul_le_mul_left _ k2
    have k4:h*2^(M+3)≤2^(i+(v+1)):=by
      rw[Nat.pow_succ 2 (M+3),←Nat.mul_assoc] at hs2;omega
    have k5:h*(2^(M+3)*2^(i+(v+1)))≤2^(i+(v+1))*2^(i+(v+1)):=by rw[←Nat.mul_assoc];exact Nat.mul_le_mul_right _ k4
    -- one of the two is strict: m is odd times 2^(i+w)
    have k6:2*m+h<2^(M+3)*2^(i+(v+1)):=by
      have:2^(M+2+(i+(v+1)))*2=2^(M+3)*2^(i+(v+1)):=by rw[←Nat.pow_succ,←Nat.pow_add];congr 1;omega
      omega
    have k7:h*(2*m+h)<h*(2^(M+3)*2^(i+(v+1))):=Nat.mul_lt_mul_of_pos_left k6 hhp
    rw[Nat.pow_add 2 (i+(v+1)) (i+(v+1))] at k1
    exact absurd (Nat.lt_of_le_of_lt k1 (Nat.lt_of_lt_of_le k7 k5)) (Nat.lt_irrefl _)
  · have d1:2^e ∣ a*2^e:=Nat.dvd_mul_left _ _
    have d2:2^e ∣ m*m:=by rw[hmm];exact Nat.dvd_trans (Nat.pow_dvd_pow 2 he) (Nat.dvd_mul_left _ _)
    have hap:=apart d1 d2 hne
    have k1:2^e≤h*(2*m+h):=by omega
    have k2:h*(2*m+h)≤3*(h*m):=by
      have:h*h≤h*m:=Nat.mul_le_mul_left _ (by omega)
      rw[Nat.mul_add]
      have e2:h*(2*m)=2*(h*m):=by rw[Nat.mul_left_comm]
      omega
    have k3:16*(h*m)≤m*m:=by
      have:=Nat.mul_le_mul_right m (Nat.le_trans h16 hs1)
      rwa [Nat.mul_assoc] at this
    have k4:m*m≤2*(a*2^e):=by omega
    have k5:a*2^e≤a*(3*(h*m)):=Nat.mul_le_mul_left _ (Nat.le_trans k1 k2)
    have k6:m*m≤6*a*h*m:=by
      have:2*(a*(3*(h*m)))=6*a*h*m:=by
        have:6*a*h*m=2*(3*(a*(h*m))):=by
          have e6:2*(3*(a*(h*m)))=6*(a*(h*m)):=by omega
          rw[e6];simp only[Nat.mul_assoc]
        rw[this,Nat.mul_left_comm a 3]
      omega
    have hm0:0<m:=Nat.lt_of_lt_of_le hip hmlb
    have k7:m≤6*a*h:=Nat.le_of_mul_le_mul_right k6 hm0
    have k8:6*a*h<2^(M+4)*h:=by
      refine Nat.mul_lt_mul_of_pos_right ?_ hhp
      have:2^(M+1)=2*2^M:=by rw[Nat.pow_succ];omega
      omega
    rw[Nat.mul_comm (2^(M+4))] at k8
    omega
end Go.Proofs.Ytmmbgbchimangaa.FT
