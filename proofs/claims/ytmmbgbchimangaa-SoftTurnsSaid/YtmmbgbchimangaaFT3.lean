import Derived.Test.YtmmbgbchimangaaFTA
import Derived.Test.YtmmbgbchimangaaFT2
namespace Go.Proofs.Ytmmbgbchimangaa.FT
set_option linter.all false
/-- a number's pattern is the one between whose middles it lies -/
theorem raw_unique {M n d p:Nat} (hM:1≤M) (hd:0<d) (h1:2*n≤(val M p+val M (p+1))*d) (h1e:2*n=(val M p+val M (p+1))*d→p%2=0)
    (h2:∀ q,p=q+1→(val M q+val M p)*d≤2*n∧(2*n=(val M q+val M p)*d→p%2=0)):raw M n d=p:=by
  rcases Nat.lt_trichotomy (raw M n d) p with hlt|he|hgt
  · exfalso
    obtain⟨q,rfl⟩:∃ q,p=q+1:=⟨p-1,by omega⟩
    obtain⟨a1,a2⟩:=h2 q rfl
    obtain⟨b1,b2⟩:=mid_hi (M:=M) (n:=n) hM hd
    have c1:val M (raw M n d)≤val M q:=val_mono (by omega)
    have c2:val M (raw M n d+1)≤val M (q+1):=val_mono (by omega)
    have c3:(val M (raw M n d)+val M (raw M n d+1))*d≤(val M q+val M (q+1))*d:=Nat.mul_le_mul_right _ (by omega)
    have e1:2*n=(val M q+val M (q+1))*d:=by omega
    have e2:2*n=(val M (raw M n d)+val M (raw M n d+1))*d:=by omega
    have e3:val M (raw M n d)+val M (raw M n d+1)=val M q+val M (q+1):=Nat.eq_of_mul_eq_mul_right hd (by omega)
    have e4:raw M n d=q:=val_inj (M:=M) (by omega)
    have t1:=a2 e1
    have t2:=b2 e2
    omega
  · exact he
  · exfalso
    obtain⟨q,hq⟩:∃ q,raw M n d=q+1:=⟨raw M n d-1,by omega⟩
    obtain⟨a1,a2⟩:=mid_lo hM hd hq
    have c1:val M p≤val M q:=val_mono (by omega)
    have c2:val M (p+1)≤val M (q+1):=val_mono (by omega)
    have c3:(val M p+val M (p+1))*d≤(val M q+val M (q+1))*d:=Nat.mul_le_mul_right _ (by omega)
    have e1:2*n=(val M q+val M (q+1))*d:=by omega
    have e2:2*n=(val M p+val M (p+1))*d:=by omega
    have e3:val M p+val M (p+1)=val M q+val M (q+1):=Nat.eq_of_mul_eq_mul_right hd (by omega)
    have e4:p=q:=val_inj (M:=M) (by omega)
    have t1:=a2 e1
    have t2:=h1e e2
    omega
/-! ### numbers that are some pattern's -/
def Fits (M n:Nat):Prop:=∃ q j,n=q*2^j∧q≤2^(M+1)
theorem fits_val {M n:Nat} (h:Fits M n):∃ p,val M p=n:=by
  obtain⟨q,j,rfl,hq⟩:=h
  induction j generalizing q with
  | zero=>exact⟨0*2^M+q,val_at hq (Or.inl rfl)⟩
  | succ j ih =>
    rcases Nat.lt_or_ge q (2^M) with h|h
    · obtain⟨p,hp⟩:=ih (2*q) (by rw[Nat.pow_succ];omega)
      exact⟨p,by rw[hp,Nat.pow_succ];ac_rfl⟩
    · exact⟨(j+1)*2^M+q,val_at hq (Or.inr h)⟩
theorem fits_of (M p:Nat):Fits M (val M p):=⟨man M p,sh M p,rfl,Nat.le_of_lt (man_lt M p)⟩
theorem val_raw_fits {M n:Nat} (h:Fits M n):val M (raw M n 1)=n:=by
  obtain⟨p,rfl⟩:=fits_val h
  rw[raw_val]
theorem fits_mul {M n j:Nat} (h:Fits M n):Fits M (n*2^j):=by
  obtain⟨q,i,rfl,hq⟩:=h
  exact⟨q,i+j,by rw[Nat.pow_add,Nat.mul_assoc],hq⟩
theorem fits_mono {M M' n:Nat} (hM:M≤M') (h:Fits M n):Fits M' n:=by
  obtain⟨q,i,rfl,hq⟩:=h
  exact⟨q,i,rfl,Nat.le_trans hq (Nat.pow_le_pow_right (by omega) (by omega))⟩
theorem fits_small {M n:Nat} (h:n≤2^(M+1)):Fits M n:=⟨n,0,by simp,h⟩
/-- a multiple of 2^t that is not above a number of at most M + 1 bits times 2^t -/
theorem fits_le {M n t q:Nat} (h1:2^t ∣ n) (h2:n≤q*2^t) (hq:q≤2^(M+1)):Fits M n:=by
  obtain⟨c,rfl⟩:=h1
  refine⟨c,t,Nat.mul_comm _ _,?_⟩
  have:c*2^t≤q*2^t:=by rw[Nat.mul_comm c];exact h2
  exact Nat.le_trans (Nat.le_of_mul_le_mul_right this (two_pos t)) hq
theorem dvd_val {M p t:Nat} (h:t≤sh M p):2^t ∣ val M p:=Nat.dvd_trans (Nat.pow_dvd_pow 2 h) (Nat.dvd_mul_left _ _)
/-- the difference of two numbers, neither more than twice the other -/
theorem fits_diff {M a b:Nat} (h1:val M b≤val M a) (h2:val M a≤2*val M b):Fits M (val M a-val M b):=by
  have ha:=Nat.le_of_lt (man_lt M a)
  have hb:=Nat.le_of_lt (man_lt M b)
  rcases Nat.le_total (sh M a) (sh M b) with h|h
  · exact fits_le (Nat.dvd_sub (dvd_val (Nat.le_refl _)) (dvd_val h)) (Nat.sub_le _ _) ha
  · refine fits_le (t:=sh M b) (q:=man M b) (Nat.dvd_sub (dvd_val h) (dvd_val (Nat.le_refl _))) ?_ hb
    show val M a-val M b≤val M b
    omega
theorem raw_le_of {M n d p:Nat} (hd:0<d) (h:n≤val M p*d):raw M n d≤p:=by
  have:=raw_mono (M:=M) (n:=n) (d:=d) (n':=val M p) (d':=1) hd (by omega) (by omega)
  rwa [raw_val] at this
theorem le_raw_of {M n d p:Nat} (hd:0<d) (h:val M p*d≤n):p≤raw M n d:=by
  have:=raw_mono (M:=M) (n:=val M p) (d:=1) (n':=n) (d':=d) (by omega) hd (by omega)
  rwa [raw_val] at this
/-- the middle of two patterns that follow one another -/
theorem mid_form (M p:Nat):∃ q j,q<2^(M+1)∧val M p+val M (p+1)=(2*q+1)*2^j∧(j=0∨2^M≤q):=by
  refine⟨man M p,sh M p,man_lt M p,?_,?_⟩
  · have h1:val M p=man M p*2^sh M p:=rfl
    have hm:=man_lt M p
    have h2:val M (p+1)=(man M p+1)*2^sh M p:=by
      have e:p+1=sh M p*2^M+(man M p+1):=by have:=man_add M p;omega
      rw[e]
      refine val_at (by omega) ?_
      by_cases h:sh M p=0
      · exact Or.inl h
      · right;have:=man_ge h;omega
    rw[h1,h2,←Nat.add_mul];congr 1;omega
  · by_cases h:sh M p=0
    · exact Or.inl h
    · exact Or.inr (man_ge h)
/-- TWO ROUNDINGS, the first one in a wider format: the same as one, if the first one comes to no middle that it was not at -/
theorem dbl {M M' n d D:Nat} (hM:1≤M) (hM':M+1≤M') (hd:0<d) (hD:1≤D)
    (H:∀ p,2*val M' (raw M' (n*2^D) d)=(val M p+val M (p+1))*2^D→2*n=(val M p+val M (p+1))*d) :
    raw M (val M' (raw M' (n*2^D) d)) (2^D)=raw M n d:=by
  have hmid:∀ p,∃ P,2*val M' P=(val M p+val M (p+1))*2^D:=by
    intro p
    obtain⟨q,j,hq,he,_⟩:=mid_form M p
    obtain⟨i,rfl⟩:∃ i,D=i+1:=⟨D-1,by omega⟩
    obtain⟨P,hP⟩:=fits_val (M:=M') (n:=(2*q+1)*2^(j+i)) ⟨2*q+1,j+i,rfl,by
      have h1:2^(M+1+1)≤2^(M'+1):=Nat.pow_le_pow_right (by omega) (by omega)
      rw[Nat.pow_succ] at h1;omega⟩
    refine⟨P,?_⟩
    rw[hP,he,Nat.pow_add,Nat.pow_succ];ac_rfl
  have up:∀ p,2*n≤(val M p+val M (p+1))*d→2*val M' (raw M' (n*2^D) d)≤(val M p+val M (p+1))*2^D:=by
    intro p h
    obtain⟨P,hP⟩:=hmid p
    rw[←hP]
    refine Nat.mul_le_mul_left _ (val_mono (raw_le_of hd ?_))
    have h1:=Nat.mul_le_mul_right (2^D) h
    have e1:(val M p+val M (p+1))*d*2^D=2*(val M' P*d):=by
      have:(val M p+val M (p+1))*d*2^D=(val M p+val M (p+1))*2^D*d:=by ac_rfl
      rw[this,←hP,Nat.mul_assoc]
    rw[e1,Nat.mul_assoc] at h1;omega
  have dn:∀ p,(val M p+val M (p+1))*d≤2*n→(val M p+val M (p+1))*2^D≤2*val M' (raw M' (n*2^D) d):=by
    intro p h
    obtain⟨P,hP⟩:=hmid p
    rw[←hP]
    refine Nat.mul_le_mul_left _ (val_mono (le_raw_of hd ?_))
    have h1:=Nat.mul_le_mul_right (2^D) h
    have e1:(val M p+val M (p+1))*d*2^D=2*(val M' P*d):=by
      have:(val M p+val M (p+1))*d*2^D=(val M p+val M (p+1))*2^D*d:=by ac_rfl
      rw[this,←hP,Nat.mul_assoc]
    rw[e1,Nat.mul_assoc] at h1;omega
  obtain⟨b1,b2⟩:=mid_hi (M:=M) (n:=n) hM hd
  refine raw_unique hM (two_pos D) (up _ b1) (fun h=>b2 (H _ h)) ?_
  intro q hq
  obtain⟨a1,a2⟩:=mid_lo hM hd hq
  rw[hq]
  exact⟨dn _ a1,fun h=>a2 (H _ h)⟩
/-- how near a number is to its pattern -/
theorem near_raw {M n d:Nat} (hd:0<d):∃ t,2*n≤2*(val M (raw M n d)*d)+d*2^t∧2*(val M (raw M n d)*d)≤2*n+d*2^t∧(t=0∨2^(M+t)≤val M (raw M n d)):=by
  obtain⟨h1,h2⟩:=rne_rng (M:=M) (n:=n) hd
  have hv:=val_raw (M:=M) (n:=n) hd
  have hn:=rne_near (n:=n) (Nat.mul_pos hd (two_pos (shf M n d)))
  refine⟨shf M n d,?_,?_,?_⟩
  · have:=hn.lo
    rw[hv]
    have e:rne n (d*2^shf M n d)*2^shf M n d*d=rne n (d*2^shf M n d)*(d*2^shf M n d):=by ac_rfl
    rw[e];exact this
  · have:=hn.hi
    rw[hv]
    have e:rne n (d*2^shf M n d)*2^shf M n d*d=rne n (d*2^shf M n d)*(d*2^shf M n d):=by ac_rfl
    rw[e];exact this
  · rcases h2 with h|h
    · exact Or.inl h
    · right
      rw[hv,Nat.pow_add]
      exact Nat.mul_le_mul_right _ h
/-- two different multiples of 2^k are apart -/
theorem lt_of_pow {a b:Nat} (h:2^a<2^b):a<b:=(Nat.pow_lt_pow_iff_right (by omega)).1 h
/-- a quotient of two numbers of M + 1 bits is not near to a middle without being there -/
theorem mid_quo {M M' a b x y q i t:Nat} (hM':2*M+2≤M') (hi:M+1≤i) (ha:a<2^(M+1)) (hb:b<2^(M+1)) (hb0:0<b) (hq:q<2^(M+1))
    (h1:2*(a*2^x)≤2*((2*q+1)*2^i*(b*2^y))+b*2^y*2^t) (h2:2*((2*q+1)*2^i*(b*2^y))≤2*(a*2^x)+b*2^y*2^t)
    (ht:t=0∨2^(M'+t)≤(2*q+1)*2^i):a*2^x=(2*q+1)*2^i*(b*2^y):=by
  refine Decidable.byContradiction fun hne=>?_
  have eR:(2*q+1)*2^i*(b*2^y)=(2*q+1)*b*2^(i+y):=by rw[Nat.pow_add];ac_rfl
  have hyp:=two_pos y
  have htp:=two_pos t
  have hip:=two_pos i
  have hbt:b*2^y*2^t<2^(M+1+y+t):=by
    rw[Nat.pow_add 2 (M+1+y),Nat.pow_add 2 (M+1)]
    exact Nat.mul_lt_mul_of_pos_right (Nat.mul_lt_mul_of_pos_right hb hyp) htp
  have hmu:(2*q+1)*2^i<2^(M+2+i):=by
    rw[Nat.pow_add]
    refine Nat.mul_lt_mul_of_pos_right ?_ hip
    rw[Nat.pow_succ 2 (M+1)];omega
  rcases Nat.le_total (i+y) x with hx|hx
  · have d1:2^(i+y) ∣ a*2^x:=Nat.dvd_trans (Nat.pow_dvd_pow 2 hx) (Nat.dvd_mul_left _ _)
    have d2:2^(i+y) ∣ (2*q+1)*2^i*(b*2^y):=by rw[eR];exact Nat.dvd_mul_left _ _
    have hap:=apart d1 d2 hne
    have h3:2^(i+y+1)<2^(M+1+y+t):=by rw[Nat.pow_succ];omega
    have h4:=lt_of_pow h3
    rcases ht with rfl|ht
    · omega
    · have h5:=lt_of_pow (Nat.lt_of_le_of_lt ht hmu)
      omega
  · have d1:2^x ∣ a*2^x:=Nat.dvd_mul_left _ _
    have d2:2^x ∣ (2*q+1)*2^i*(b*2^y):=by rw[eR];exact Nat.dvd_trans (Nat.pow_dvd_pow 2 hx) (Nat.dvd_mul_left _ _)
    have hap:=apart d1 d2 hne
    have h3:2*2^x≤b*2^y*2^t:=by omega
    have htm:2^t≤(2*q+1)*2^i:=by
      rcases ht with rfl|ht
      · have:1*1≤(2*q+1)*2^i:=Nat.mul_le_mul (by omega) hip
        simpa using this
      · exact Nat.le_trans (Nat.pow_le_pow_right (by omega) (by omega)) ht
    have h4:b*2^y*2^t≤(2*q+1)*2^i*(b*2^y):=by
      rw[Nat.mul_comm (b*2^y)];exact Nat.mul_le_mul_right _ htm
    have h5:(2*q+1)*2^i*(b*2^y)≤2*(a*2^x):=by omega
    have h6:2*(a*2^x)≤a*(b*2^y*2^t):=by
      have:=Nat.mul_le_mul_left a h3
      have e:a*(2*2^x)=2*(a*2^x):=by ac_rfl
      rwa [e] at this
    have h7:(2*q+1)*2^i*(b*2^y)≤a*2^t*(b*2^y):=by
      have e:a*(b*2^y*2^t)=a*2^t*(b*2^y):=by ac_rfl
      rw[e] at h6;exact Nat.le_trans h5 h6
    have h8:(2*q+1)*2^i≤a*2^t:=Nat.le_of_mul_le_mul_right h7 (Nat.mul_pos hb0 hyp)
    have h9:a*2^t<2^(M+1+t):=by rw[Nat.pow_add];exact Nat.mul_lt_mul_of_pos_right ha htp
    have h10:2^i≤(2*q+1)*2^i:=Nat.le_mul_of_pos_left _ (by omega)
    rcases ht with rfl|ht
    · have:=lt_of_pow (Nat.lt_of_le_of_lt h10 (Nat.lt_of_le_of_lt h8 h9));omega
    · have:=lt_of_pow (Nat.lt_of_le_of_lt ht (Nat.lt_of_le_of_lt h8 h9));omega
end Go.Proofs.Ytmmbgbchimangaa.FT
