/- Plain numbers: a quotient of two natural numbers is rounded to the nearest pattern. -/
namespace Go.Proofs.Ytmmbgbchimangaa.FT
set_option linter.all false

/-- round half even of n / d -/
def rne (n d:Nat):Nat:=if d<2*(n%d)∨(d=2*(n%d)∧(n/d)%2=1) then n/d+1 else n/d

structure Near (n d m:Nat):Prop where
  lo:2*n≤2*(m*d)+d
  hi:2*(m*d)≤2*n+d
  tlo:2*n=2*(m*d)+d→m%2=0
  thi:2*(m*d)=2*n+d→m%2=0

theorem rne_near {n d:Nat} (hd:0<d):Near n d (rne n d):=by
  have e:d*(n/d)+n%d=n:=Nat.div_add_mod n d
  have hr:n%d<d:=Nat.mod_lt n hd
  have e2:(n/d)*d=d*(n/d):=Nat.mul_comm _ _
  have e3:(n/d+1)*d=d*(n/d)+d:=by rw[Nat.add_mul,e2];omega
  unfold rne
  split
  · rename_i h
    refine⟨?_,?_,?_,?_⟩ <;> rw[e3] <;> omega
  · rename_i h
    refine⟨?_,?_,?_,?_⟩ <;> rw[e2] <;> omega

theorem near_mono {n d m n' d' m':Nat} (hd:0<d) (hd':0<d') (h:Near n d m) (h':Near n' d' m') (hle:n*d'≤n'*d):m≤m':=by
  refine Nat.le_of_not_lt fun hlt=>?_
  have h1:=Nat.mul_le_mul_right d' h.hi
  have h2:=Nat.mul_le_mul_right d h'.lo
  have a1:2*(m*d)*d'=2*(m*(d*d')):=by simp only[Nat.mul_assoc]
  have a2:(2*n+d)*d'=2*(n*d')+d*d':=by rw[Nat.add_mul,Nat.mul_assoc]
  have a3:2*n'*d=2*(n'*d):=by rw[Nat.mul_assoc]
  have a4:(2*(m'*d')+d')*d=2*(m'*(d*d'))+d*d':=by
    rw[Nat.add_mul,Nat.mul_comm d' d,Nat.mul_assoc,Nat.mul_assoc,Nat.mul_comm d' d]
  rw[a1,a2] at h1
  rw[a3,a4] at h2
  have hD:0<d*d':=Nat.mul_pos hd hd'
  obtain⟨j,rfl⟩:∃ j,m=m'+1+j:=⟨m-(m'+1),by omega⟩
  have a5:(m'+1+j)*(d*d')=m'*(d*d')+d*d'+j*(d*d'):=by rw[Nat.add_mul,Nat.add_mul,Nat.one_mul]
  rw[a5] at h1
  have hj:j=0:=by
    rcases Nat.eq_zero_or_pos j with h0|h0
    · exact h0
    · have:1*(d*d')≤j*(d*d'):=Nat.mul_le_mul_right _ h0
      omega
  subst hj
  have t1:(m'+1+0)%2=0:=by
    refine h.thi ?_
    have:(2*((m'+1+0)*d))*d'=(2*n+d)*d':=by rw[a1,a2,a5];omega
    exact Nat.eq_of_mul_eq_mul_right hd' this
  have t2:m'%2=0:=by
    refine h'.tlo ?_
    have:(2*n')*d=(2*(m'*d')+d')*d:=by rw[a3,a4];omega
    exact Nat.eq_of_mul_eq_mul_right hd this
  omega

theorem near_unique {n d m m':Nat} (hd:0<d) (h:Near n d m) (h':Near n d m'):m=m':=
  Nat.le_antisymm (near_mono hd hd h h' (Nat.le_refl _)) (near_mono hd hd h' h (Nat.le_refl _))

theorem rne_eq {n d m:Nat} (hd:0<d) (h:Near n d m):rne n d=m:=near_unique hd (rne_near hd) h

theorem rne_mono {n d n' d':Nat} (hd:0<d) (hd':0<d') (hle:n*d'≤n'*d):rne n d≤rne n' d':=
  near_mono hd hd' (rne_near hd) (rne_near hd') hle

theorem rne_congr {n d n' d':Nat} (hd:0<d) (hd':0<d') (h:n*d'=n'*d):rne n d=rne n' d':=
  Nat.le_antisymm (rne_mono hd hd' (Nat.le_of_eq h)) (rne_mono hd' hd (Nat.le_of_eq h.symm))

theorem rne_whole {m d:Nat} (hd:0<d):rne (m*d) d=m:=by
  refine rne_eq hd ⟨by omega,by omega,fun h=>by omega,fun h=>by omega⟩

theorem rne_le {n d m:Nat} (hd:0<d) (h:n≤m*d):rne n d≤m:=by
  rw[←rne_whole (m:=m) hd]
  exact rne_mono hd hd (Nat.mul_le_mul_right _ h)

theorem le_rne {n d m:Nat} (hd:0<d) (h:m*d≤n):m≤rne n d:=by
  rw[←rne_whole (m:=m) hd]
  exact rne_mono hd hd (Nat.mul_le_mul_right _ h)

/-- by how many bits n / d is shortened to M + 1 bits -/
def shf (M n d:Nat):Nat:=Nat.log2 (n/d)-M

/-- the pattern without its sign: n / d in units of the least number -/
def raw (M n d:Nat):Nat:=shf M n d*2^M+rne n (d*2^shf M n d)

def pat (M I n d:Nat):Nat:=min I (raw M n d)

theorem two_pos (k:Nat):0<2^k:=Nat.pow_pos (by omega)

theorem log2_lt_pow {q:Nat} (k:Nat) (h:q<2^k) (hk:0<k):Nat.log2 q<k:=by
  by_cases hq:q=0
  · subst hq;simpa using hk
  · exact (Nat.log2_lt hq).2 h

theorem lt_pow_log2 (q:Nat):q<2^(Nat.log2 q+1):=Nat.lt_log2_self

theorem pow_log2_le {q:Nat} (h:q≠0):2^Nat.log2 q≤q:=Nat.log2_self_le h

/-- the fit: what tells shf -/
theorem shf_eq {M n d k:Nat} (hd:0<d) (h:n<2^(M+1+k)*d) (hk:k=0∨2^(M+k)*d≤n):shf M n d=k:=by
  unfold shf
  have hlt:n/d<2^(M+1+k):=(Nat.div_lt_iff_lt_mul hd).2 h
  have h1:Nat.log2 (n/d)<M+1+k:=log2_lt_pow _ hlt (by omega)
  rcases hk with rfl|hk
  · omega
  · have hge:2^(M+k)≤n/d:=(Nat.le_div_iff_mul_le hd).2 hk
    have hne:n/d≠0:=by have:=two_pos (M+k);omega
    have h2:M+k≤Nat.log2 (n/d):=(Nat.le_log2 hne).2 hge
    omega

theorem shf_lt {M n d:Nat} (hd:0<d):n<2^(M+1+shf M n d)*d:=by
  refine (Nat.div_lt_iff_lt_mul hd).1 ?_
  have:=lt_pow_log2 (n/d)
  refine Nat.lt_of_lt_of_le this (Nat.pow_le_pow_right (by omega) ?_)
  unfold shf;omega

theorem shf_ge {M n d:Nat} (hd:0<d) (h:shf M n d≠0):2^(M+shf M n d)*d≤n:=by
  refine (Nat.le_div_iff_mul_le hd).1 ?_
  have hne:n/d≠0:=by
    intro h0;apply h;unfold shf;rw[h0];simp
  refine Nat.le_trans (Nat.pow_le_pow_right (by omega) ?_) (pow_log2_le hne)
  unfold shf at *;omega

theorem shf_congr {M n d n' d':Nat} (hd:0<d) (hd':0<d') (h:n*d'=n'*d):shf M n d=shf M n' d':=by
  have:n/d=n'/d':=by
    have e1:n/d=(n*d')/(d*d'):=(Nat.mul_div_mul_right n d hd').symm
    have e2:n'/d'=(n'*d)/(d'*d):=(Nat.mul_div_mul_right n' d' hd).symm
    rw[e1,e2,h,Nat.mul_comm d d']
  unfold shf;rw[this]

theorem shf_mono {M n d n' d':Nat} (hd:0<d) (hd':0<d') (h:n*d'≤n'*d):shf M n d≤shf M n' d':=by
  refine Nat.le_of_not_lt fun hlt=>?_
  have h1:=shf_ge (M:=M) (n:=n) hd (by omega)
  have h2:=shf_lt (M:=M) (n:=n') hd'
  have h3:2^(M+1+shf M n' d')≤2^(M+shf M n d):=Nat.pow_le_pow_right (by omega) (by omega)
  have h4:=Nat.mul_le_mul_right d' (Nat.mul_le_mul_right d h3)
  have h5:=Nat.mul_le_mul_right d' h1
  have h6:=Nat.mul_lt_mul_of_pos_right h2 hd
  have e:2^(M+1+shf M n' d')*d*d'=2^(M+1+shf M n' d')*d'*d:=by rw[Nat.mul_assoc,Nat.mul_comm d d',Nat.mul_assoc]
  omega

theorem raw_congr {M n d n' d':Nat} (hd:0<d) (hd':0<d') (h:n*d'=n'*d):raw M n d=raw M n' d':=by
  unfold raw
  rw[shf_congr hd hd' h]
  congr 1
  refine rne_congr (Nat.mul_pos hd (two_pos _)) (Nat.mul_pos hd' (two_pos _)) ?_
  rw[←Nat.mul_assoc,←Nat.mul_assoc,h]

theorem pat_congr {M I n d n' d':Nat} (hd:0<d) (hd':0<d') (h:n*d'=n'*d):pat M I n d=pat M I n' d':=by
  unfold pat;rw[raw_congr hd hd' h]

theorem raw_mono {M n d n' d':Nat} (hd:0<d) (hd':0<d') (h:n*d'≤n'*d):raw M n d≤raw M n' d':=by
  have hs:=shf_mono (M:=M) hd hd' h
  unfold raw
  rcases Nat.eq_or_lt_of_le hs with e|hlt
  · rw[←e]
    refine Nat.add_le_add_left (rne_mono (Nat.mul_pos hd (two_pos _)) (Nat.mul_pos hd' (two_pos _)) ?_) _
    rw[←Nat.mul_assoc,←Nat.mul_assoc]
    exact Nat.mul_le_mul_right _ h
  · have h1:=shf_lt (M:=M) (n:=n) hd
    have h2:=shf_ge (M:=M) (n:=n') hd' (by omega)
    have a1:rne n (d*2^shf M n d)≤2^(M+1):=by
      refine rne_le (Nat.mul_pos hd (two_pos _)) ?_
      rw[Nat.mul_comm d,←Nat.mul_assoc,←Nat.pow_add]
      exact Nat.le_of_lt h1
    have a2:2^M≤rne n' (d'*2^shf M n' d'):=by
      refine le_rne (Nat.mul_pos hd' (two_pos _)) ?_
      rw[Nat.mul_comm d',←Nat.mul_assoc,←Nat.pow_add]
      exact h2
    have a3:(shf M n d+1)*2^M≤shf M n' d'*2^M:=Nat.mul_le_mul_right _ hlt
    rw[Nat.add_mul,Nat.one_mul] at a3
    rw[Nat.pow_succ] at a1
    omega

theorem pat_mono {M I n d n' d':Nat} (hd:0<d) (hd':0<d') (h:n*d'≤n'*d):pat M I n d≤pat M I n' d':=by
  unfold pat;have:=raw_mono (M:=M) hd hd' h;omega

/-- of a pattern without its sign: by how many bits its number is moved, the number of M + 1 bits, the number in units of the least one -/
def sh (M p:Nat):Nat:=p/2^M-1
def man (M p:Nat):Nat:=p-sh M p*2^M
def val (M p:Nat):Nat:=man M p*2^sh M p

theorem sh_le (M p:Nat):sh M p*2^M≤p:=by
  refine Nat.le_trans (Nat.mul_le_mul_right _ (Nat.sub_le _ _)) (Nat.div_mul_le_self _ _)

theorem man_add (M p:Nat):sh M p*2^M+man M p=p:=by
  have:=sh_le M p;unfold man;omega

theorem man_lt (M p:Nat):man M p<2^(M+1):=by
  have h1:p<(p/2^M+1)*2^M:=by
    have:=Nat.lt_mul_div_succ p (two_pos M);rw[Nat.mul_comm] at this;exact this
  have h2:=man_add M p
  have h3:(p/2^M+1)*2^M≤(sh M p+2)*2^M:=Nat.mul_le_mul_right _ (by unfold sh;omega)
  rw[Nat.add_mul (sh M p) 2] at h3
  rw[Nat.pow_succ];omega

theorem man_ge {M p:Nat} (h:sh M p≠0):2^M≤man M p:=by
  have h2:=man_add M p
  have h3:(sh M p+1)*2^M≤p:=by
    refine Nat.le_trans (Nat.mul_le_mul_right _ ?_) (Nat.div_mul_le_self p (2^M))
    unfold sh at *;omega
  rw[Nat.add_mul] at h3;omega

theorem val_shf (M p:Nat):shf M (val M p) 1=sh M p:=by
  refine shf_eq (by omega) ?_ ?_
  · rw[Nat.mul_one,Nat.pow_add]
    exact Nat.mul_lt_mul_of_pos_right (man_lt M p) (two_pos _)
  · by_cases h:sh M p=0
    · exact Or.inl h
    · right
      rw[Nat.mul_one,Nat.pow_add]
      exact Nat.mul_le_mul_right _ (man_ge h)

theorem raw_val (M p:Nat):raw M (val M p) 1=p:=by
  unfold raw
  rw[val_shf,Nat.one_mul]
  unfold val
  rw[rne_whole (two_pos _)]
  exact man_add M p

theorem pat_val {M I p:Nat} (h:p≤I):pat M I (val M p) 1=p:=by
  unfold pat;rw[raw_val];omega

theorem val_inj {M p q:Nat} (h:val M p=val M q):p=q:=by
  have h1:=raw_val M p
  rw[h,raw_val] at h1;exact h1.symm

theorem val_mono {M p q:Nat} (h:p≤q):val M p≤val M q:=by
  refine Nat.le_of_not_lt fun hlt=>?_
  have:=raw_mono (M:=M) (n:=val M q) (n':=val M p) (d:=1) (d':=1) (by omega) (by omega) (by omega)
  rw[raw_val,raw_val] at this
  have e:p=q:=by omega
  subst e;omega

theorem val_lt {M p q:Nat} (h:p<q):val M p<val M q:=by
  rcases Nat.lt_or_eq_of_le (val_mono (M:=M) (Nat.le_of_lt h)) with h1|h1
  · exact h1
  · have:=val_inj h1;omega

theorem val_zero (M:Nat):val M 0=0:=by simp[val,man,sh]

/-- what lies strictly between N and N + 1, where N has at least M + 3 bits, is rounded alike -/
theorem rne_sticky {n d n' d' N j:Nat} (hd:0<d) (hd':0<d') (hj:0<j)
    (h1:N*d<n) (h2:n<(N+1)*d) (h1':N*d'<n') (h2':n'<(N+1)*d'):rne n (d*2^j)=rne n' (d'*2^j):=by
  have key:∀ {n d n' d' m:Nat},0<d→0<d'→N*d<n→n<(N+1)*d→N*d'<n'→n'<(N+1)*d'→Near n (d*2^j) m→Near n' (d'*2^j) m:=by
    intro n d n' d' m hd hd' h1 h2 h1' h2' h
    obtain⟨i,rfl⟩:∃ i,j=i+1:=⟨j-1,by omega⟩
    have e0:∀ d:Nat,d*2^(i+1)=2*(2^i*d):=by intro d;rw[Nat.pow_succ];simp only[Nat.mul_comm,Nat.mul_left_comm]
    have e1:∀ d:Nat,m*(d*2^(i+1))=2*(m*2^i*d):=by intro d;rw[e0];simp only[Nat.mul_comm,Nat.mul_left_comm]
    obtain⟨l1,l2,l3,l4⟩:=h
    rw[e1,e0] at l1 l2
    -- n ≤ (2m+1) 2^i d, 2m 2^i d ≤ n + 2^i d
    have b1:N*d<(2*(m*2^i)+2^i)*d:=by
      rw[Nat.add_mul,Nat.mul_assoc 2];omega
    have b1':N<2*(m*2^i)+2^i:=Nat.lt_of_mul_lt_mul_right b1
    have b2:2*(m*2^i)*d<(N+1+2^i)*d:=by
      rw[Nat.add_mul (N+1),Nat.mul_assoc 2];omega
    have b2':2*(m*2^i)<N+1+2^i:=Nat.lt_of_mul_lt_mul_right b2
    have c1:(N+1)*d'≤(2*(m*2^i)+2^i)*d':=Nat.mul_le_mul_right _ b1'
    have c2:2*(m*2^i)*d'≤(N+2^i)*d':=Nat.mul_le_mul_right _ (by omega)
    rw[Nat.add_mul (2*(m*2^i)),Nat.mul_assoc 2,Nat.add_mul N,Nat.one_mul] at c1
    rw[Nat.add_mul,Nat.mul_assoc 2] at c2
    rw[Nat.add_mul N,Nat.one_mul] at h2'
    refine⟨?_,?_,?_,?_⟩ <;> rw[e1,e0] <;> omega
  exact rne_eq (Nat.mul_pos hd (two_pos _)) (key hd' hd h1' h2' h1 h2 (rne_near (Nat.mul_pos hd' (two_pos _))))

end Go.Proofs.Ytmmbgbchimangaa.FT
