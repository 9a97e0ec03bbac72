import Derived.Test.YtmmbgbchimangaaPQx4
import Derived.Test.YtmmbgbchimangaaSP
namespace Go.Proofs.Ytmmbgbchimangaa.RS
set_option linter.all false
open Go.RowKit Go.Proofs.Ytmmbgbchimangaa.PQ Go.Proofs.YtmmbgbchimangaaW.PrintWords Go.Proofs.YtmmbgbchimangaaW.PrintLast Go.Proofs.YtmmbgbchimangaaW.PrintMore
open FT
theorem add64 {a b:Nat}:bits_Add64.f (a:Int) (b:Int) 0=some ((((a+b)%18446744073709551616:Nat):Int),(((a+b)/18446744073709551616:Nat):Int)):=by
  unfold bits_Add64.f
  rw[if_pos (by omega)]
  congr 1
theorem sub64 {a b:Nat} (hb:b<18446744073709551616):bits_Sub64.f (a:Int) (b:Int) 0=some (((a:Int)-b)%18446744073709551616,if a<b then 1 else 0):=by
  unfold bits_Sub64.f
  rw[if_pos (by omega)]
  by_cases h:a<b
  · rw[if_pos h,if_pos (by omega)];simp
  · rw[if_neg h,if_neg (by omega)];simp
theorem wu_add {a b:Nat} (h:a+b<18446744073709551616):IntKind.u64.wrap ((a:Int)+(b:Int))=((a+b:Nat):Int):=by
  rw[←Int.natCast_add];exact wuN h
theorem wu_sub {a b:Nat} (h:b≤a) (ha:a<18446744073709551616):IntKind.u64.wrap ((a:Int)-(b:Int))=((a-b:Nat):Int):=by
  rw[←Int.ofNat_sub h];exact wuN (Nat.lt_of_le_of_lt (Nat.sub_le _ _) ha)
theorem add_carry {hi lo b P:Nat} (hlo:lo<18446744073709551616) (hb:b<9007199254740992) (hP:hi*18446744073709551616+lo=P) (hhi:hi<1152921504606846976) :
    IntKind.u64.wrap ((hi:Int)+(((lo+b)/18446744073709551616:Nat):Int))=((hi+(lo+b)/18446744073709551616:Nat):Int)∧hi+(lo+b)/18446744073709551616<18446744073709551616 ∧
    (hi+(lo+b)/18446744073709551616)*18446744073709551616+(lo+b)%18446744073709551616=P+b:=by
  have hc:(lo+b)/18446744073709551616≤1:=by omega
  have hdm:=Nat.div_add_mod (lo+b) 18446744073709551616
  generalize (lo+b)/18446744073709551616=c at *
  generalize (lo+b)%18446744073709551616=r at *
  refine⟨wu_add (by clear hdm hP;omega),by clear hdm hP;omega,?_⟩
  rw[Nat.add_mul,Nat.mul_comm c,Nat.add_assoc,hdm,←Nat.add_assoc,hP]
theorem sub_mod {lo b:Nat} (hlo:lo<18446744073709551616) (hb:b<18446744073709551616):((lo:Int)-b)%18446744073709551616=((if lo<b then lo+18446744073709551616-b else lo-b:Nat):Int):=by
  by_cases h:lo<b
  · rw[if_pos h];omega
  · rw[if_neg h];omega
theorem sub_borrow {hi lo b P:Nat} (hlo:lo<18446744073709551616) (hb:b<9007199254740992) (hP:hi*18446744073709551616+lo=P) (hhi:hi<1152921504606846976) (hlt:b<P) :
    ∃ h l:Nat,IntKind.u64.wrap ((hi:Int)-(if lo<b then 1 else 0))=(h:Int)∧((lo:Int)-b)%18446744073709551616=(l:Int)∧h<18446744073709551616∧l<18446744073709551616∧h*18446744073709551616+l=P-b:=by
  rw[sub_mod hlo (by omega)]
  by_cases hc:lo<b
  · obtain⟨h,rfl⟩:∃ h,hi=h+1:=by
      cases hi with
      | zero=>omega
      | succ h=>exact⟨h,rfl⟩
    rw[Nat.succ_mul] at hP
    refine⟨h,lo+18446744073709551616-b,?_,by rw[if_pos hc],by omega,by omega,?_⟩
    · rw[if_pos hc]
      exact wu_sub (a:=h+1) (b:=1) (by omega) (by clear hP;omega)
    · generalize h*18446744073709551616=Z at *
      omega
  · refine⟨hi,lo-b,?_,by rw[if_neg hc],by omega,by omega,by omega⟩
    rw[if_neg hc]
    exact wu_sub (b:=0) (by omega) (by omega)
section
variable {M X:Nat} (hM:2≤M) (hM':M≤52) (hX:2≤X) (hX':X≤11)
include hM hM' hX hX'
theorem zero_f (neg:Bool):round_Zero.f (M:Int) (X:Int) neg=some ((sgn M X neg:Nat):Int):=zero_eq hM hM' hX hX' neg
theorem sum_j1 {k:Nat} (hk:8≤k) (ka kb:Int) (p q:Bool) (ea:Int) (ma:Int) {s hi lo mb P:Nat} (hs:s≤2048) (hlo:lo<18446744073709551616) (hb:mb<9007199254740992) (hb0:mb≠0) (hP:hi*18446744073709551616+lo=P) (hhi:hi<1152921504606846976) (hP0:P≠0) :
    soft_sum.j1 k (hi:Int) (lo:Int) (M:Int) (X:Int) ka p ea ma kb q (least M X+(s:Int)) (mb:Int)=some (((sumS M X (sv p (P*2^s)+sv q (mb*2^s)):Nat):Int),0):=by
  obtain⟨k,rfl⟩:∃ j,k=j+3:=⟨k-3,by omega⟩
  have hsp:=two_pos s
  rw[soft_sum.j1.eq_2]
  by_cases hpq:p=q
  · subst hpq
    obtain⟨c1,c2,c3⟩:=add_carry hlo hb hP hhi
    rw[if_pos (by simp),add64,Option.bind_some]
    simp only[]
    rw[c1,pack_units hM hM' hX hX' (by omega) p c2 (Nat.mod_lt _ (by omega)) (by omega),Option.bind_some,c3,sv_add_same,←Nat.add_mul,sumS_sv p (Nat.ne_of_gt (Nat.mul_pos (by omega) hsp))]
  · rw[if_neg (by simpa using hpq),sv_add_diff hpq]
    have e0:((lo:Int)==(mb:Int))=decide (lo=mb):=by
      by_cases h:lo=mb
      · subst h;simp
      · rw[decide_eq_false h];exact beq_eq_false_iff_ne.2 fun h2=>h (Int.ofNat_inj.1 h2)
    have less:∀ b,P<mb→b=decide True→soft_sum.j3 (k+1) (hi:Int) (lo:Int) b (M:Int) (X:Int) ka p ea ma kb q (least M X+(s:Int)) (mb:Int)=some (((sumS M X (if mb*2^s≤P*2^s then sv p (P*2^s-mb*2^s) else sv q (mb*2^s-P*2^s)):Nat):Int),0):=by
      intro b h hb'
      have hh:hi=0:=by omega
      have hl:lo=P:=by omega
      have hw:IntKind.u64.wrap ((mb:Int)-(P:Int))=((mb-P:Nat):Int):=by rw[wu (by omega) (by omega)];omega
      have h2:P*2^s<mb*2^s:=Nat.mul_lt_mul_of_pos_right h hsp
      have p1:=pack_units hM hM' hX hX' (k:=k) (by omega) q (hi:=0) (lo:=mb-P) (by omega) (by omega) (s:=s) (by omega)
      have z0:((0:Nat):Int)=0:=rfl
      rw[zero_lo,z0] at p1
      rw[soft_sum.j3.eq_2,hb',if_pos (by simp),hl,hw,p1,Option.bind_some,if_neg (by omega),←Nat.sub_mul,sumS_sv q (Nat.ne_of_gt (Nat.mul_pos (by omega) hsp))]
    have more:∀ b,mb<P→b=decide False→soft_sum.j3 (k+1) (hi:Int) (lo:Int) b (M:Int) (X:Int) ka p ea ma kb q (least M X+(s:Int)) (mb:Int)=some (((sumS M X (if mb*2^s≤P*2^s then sv p (P*2^s-mb*2^s) else sv q (mb*2^s-P*2^s)):Nat):Int),0):=by
      intro b h hb'
      obtain⟨h',l',b1,b2,b3,b4,b5⟩:=sub_borrow hlo hb hP hhi h
      have h2:mb*2^s<P*2^s:=Nat.mul_lt_mul_of_pos_right h hsp
      rw[soft_sum.j3.eq_2,hb',if_neg (by simp),sub64 (by omega),Option.bind_some]
      simp only[]
      rw[b1,b2,pack_units hM hM' hX hX' (by omega) p b3 b4 (by omega),Option.bind_some,b5,if_pos (by omega),←Nat.sub_mul,sumS_sv p (Nat.ne_of_gt (Nat.mul_pos (by omega) hsp))]
    by_cases hh:hi=0
    · subst hh
      have hl:lo=P:=by omega
      rw[if_pos (by rfl),e0]
      by_cases h:P=mb
      · have hs0:sgn M X false=0:=rfl
        rw[decide_eq_true (by omega),soft_sum.j2.eq_2,if_pos rfl,zero_f hM hM' hX hX',Option.bind_some,h,if_pos (Nat.le_refl _),Nat.sub_self,hs0]
        have:sv p 0=0:=(sv_zero p).2 rfl
        rw[this];rfl
      · rw[decide_eq_false (by omega),soft_sum.j2.eq_2,if_neg (by simp),if_pos (by rfl)]
        by_cases h2:P<mb
        · exact less _ h2 (by rw[decide_eq_true (by omega)];simp)
        · exact more _ (by omega) (by rw[decide_eq_false (by omega)];simp)
    · rw[if_neg (nat0 hh),soft_sum.j2.eq_2,if_neg (by simp),if_neg (nat0 hh)]
      exact more _ (by omega) (by simp)
omit hM hM' hX hX' in
/-- a word that is moved into two -/
theorem two_words {m d:Nat} (hm:m<9007199254740992) (hd:d≤70):∃ hi lo:Nat,hi*18446744073709551616+lo=m*2^d∧lo<18446744073709551616∧hi<18446744073709551616∧hi<1152921504606846976 ∧
    (64≤d→hi=m*2^(d-64)∧lo=0)∧(d<64→hi=m/2^(64-d)∧lo=m*2^d%18446744073709551616):=by
  have h70:2^d≤1180591620717411303424:=Nat.pow_le_pow_right (n:=2) (by omega) (show d≤70 by omega)
  have hb:m*2^d<9007199254740992*1180591620717411303424:=Nat.mul_lt_mul_of_lt_of_le hm h70 (by decide)
  have hq:m*2^d/18446744073709551616<1152921504606846976:=(Nat.div_lt_iff_lt_mul (by decide)).2 (Nat.lt_of_lt_of_le hb (by decide))
  refine⟨m*2^d/18446744073709551616,m*2^d%18446744073709551616,by omega,by omega,by omega,hq,fun h=>?_,fun h=>⟨?_,rfl⟩⟩
  · have e:m*2^d=m*2^(d-64)*18446744073709551616:=by
      have:2^d=2^(d-64)*2^64:=by rw[←Nat.pow_add,show d-64+64=d by omega]
      rw[this,Nat.mul_assoc]
    omega
  · have:18446744073709551616=2^(64-d)*2^d:=by rw[←Nat.pow_add,show 64-d+d=64 by omega]
    rw[this,Nat.mul_div_mul_right _ _ (two_pos d)]
omit hM hM' hX hX' in
theorem shl_small {m e:Nat} (hm:m<9007199254740992) (he:e≤6):shl .u64 (m:Int) (e:Int)=((m*2^e:Nat):Int):=by
  have h:2^e≤2^6:=Nat.pow_le_pow_right (by omega) he
  have h2:m*2^e≤9007199254740992*2^6:=Nat.mul_le_mul (by omega) h
  exact shl_nat (by omega) (by omega)
/-- far apart: the lesser number is below a sixteenth of the greater one's unit -/
theorem sum_far {k:Nat} (hk:8≤k) (ka kb:Int) (p q:Bool) {sa sb ma mb:Nat} (ha:ma<2^(M+1)) (ha1:2^M≤ma) (hb:mb<2^(M+1)) (hb0:mb≠0) (hsa:sa≤2048) (hd:sb+70<sa) :
    soft_sum.j0 k (M:Int) (X:Int) ka p (least M X+(sa:Int)) (ma:Int) kb q (least M X+(sb:Int)) (mb:Int)=some (((sumS M X (sv p (ma*2^sa)+sv q (mb*2^sb)):Nat):Int),0):=by
  obtain⟨k,rfl⟩:∃ j,k=j+4:=⟨k-4,by omega⟩
  obtain⟨l1,l2,l3⟩:=least_bounds hM hM' hX hX'
  have hM53:2^(M+1)≤9007199254740992:=Nat.pow_le_pow_right (n:=2) (by omega) (show M+1≤53 by omega)
  have hMp:=two_pos M
  have hM1:2^(M+1)=2*2^M:=by rw[Nat.pow_succ];omega
  have hw:Unit→wrap64 (least M X+(sa:Int)-(least M X+(sb:Int)))=(sa:Int)-sb:=fun _=>by rw[w64 (by omega) (by omega)];omega
  have hw3:Unit→wrap64 (least M X+(sa:Int)-3)=least M X+((sa-3:Nat):Int):=fun _=>by rw[w64 (by omega) (by omega)];omega
  have hw8:Unit→IntKind.u64.wrap ((ma:Int)*8)=((ma*8:Nat):Int):=fun _=>by rw[wu (by omega) (by omega)];omega
  have hw7:Unit→IntKind.u64.wrap (((ma*8:Nat):Int)-1)=((ma*8-1:Nat):Int):=fun _=>by rw[wu (by omega) (by omega)];omega
  -- the number that is packed, and what it stands for
  have key:∀ N n:Nat,N<18446744073709551616→2^(M+2)≤N→N*2^(sa-3)<n→n<(N+1)*2^(sa-3) →
      round_Pack.f (k+3) (M:Int) (X:Int) p 0 (N:Int) (least M X+((sa-3:Nat):Int)) true=some (((sgn M X p+pat M (inf M X) n 1:Nat):Int),0):=by
    intro N n h64 hN h1 h2
    have hN0:N≠0:=by have:=two_pos (M+2);omega
    have hbl:M+3≤blen N:=by
      refine Nat.le_of_not_lt fun hc=>?_
      have h3:=blen_lt N
      have h4:=Nat.pow_le_pow_right (n:=2) (by omega) (show blen N≤M+2 by omega)
      omega
    have hp:=pack_ok hM hM' hX hX' k p (hi:=0) (lo:=N) (by omega) h64 (e:=least M X+((sa-3:Nat):Int)) (by omega) (by omega) true (by rw[zero_lo];exact fun _=>hbl)
    rw[zero_lo] at hp
    have hz:((0:Nat):Int)=0:=rfl
    rw[hz] at hp
    rw[hp]
    congr 4
    unfold npat pat
    have e1:(least M X+((sa-3:Nat):Int)-1-least M X).toNat=sa-4:=by omega
    have e2:(-(least M X+((sa-3:Nat):Int)-1-least M X)).toNat=0:=by omega
    rw[e1,e2,if_pos rfl]
    have hM12:2^(M+1)≤N:=Nat.le_trans (Nat.pow_le_pow_right (by omega) (by omega)) hN
    have hs3:2^(sa-3)=2*2^(sa-4):=by rw[←Nat.pow_succ'];congr 1;omega
    have hst:=raw_sticky (M:=M) (N:=N) (n:=2*N+1) (d:=2) (n':=n) (d':=2^(sa-3)) (x:=sa-3) (y:=0) hM12 (by omega) (two_pos _) (by omega) (by omega) h1 h2
    have c1:raw M ((2*N+1)*2^(sa-4)) (1*2^0)=raw M ((2*N+1)*2^(sa-3)) (2*2^0):=raw_congr (by decide) (by decide) (by rw[hs3];simp only[Nat.pow_zero,Nat.mul_one];ac_rfl)
    have c2:raw M (n*2^(sa-3)) (2^(sa-3)*2^0)=raw M n 1:=raw_congr (Nat.mul_pos (two_pos _) (by decide)) (by omega) (by simp)
    rw[c1,hst,c2]
  have hpa:ma*2^sa=ma*8*2^(sa-3):=by
    have:2^sa=8*2^(sa-3):=by
      have:2^(sa-3+3)=2^(sa-3)*8:=Nat.pow_add ..
      rw[show sa-3+3=sa by omega] at this;omega
    rw[this,Nat.mul_assoc]
  have hpb:mb*2^sb<2^(sa-3):=by
    have h1:mb*2^sb<2^(M+1)*2^sb:=Nat.mul_lt_mul_of_pos_right hb (two_pos sb)
    rw[←Nat.pow_add] at h1
    exact Nat.lt_of_lt_of_le h1 (Nat.pow_le_pow_right (by omega) (by omega))
  have hpb0:0<mb*2^sb:=Nat.mul_pos (by omega) (two_pos sb)
  have hM2:2^(M+2)+1≤ma*8:=by
    have:2^(M+2)=4*2^M:=by rw[Nat.pow_succ,hM1];omega
    omega
  rw[soft_sum.j0.eq_2,hw (),if_pos (by omega),hw3 (),hw8 (),hw7 ()]
  by_cases hpq:p=q
  · subst hpq
    have hk:=key (ma*8) (ma*2^sa+mb*2^sb) (by omega) (by omega) (by rw[hpa];omega) (by rw[hpa,Nat.add_mul,Nat.one_mul];omega)
    rw[if_neg (by simp),hk,Option.bind_some,sv_add_same,sumS_sv p (by omega)]
  · have hsub:(ma*8-1)*2^(sa-3)+2^(sa-3)=ma*8*2^(sa-3):=by
      have:ma*8=(ma*8-1)+1:=by omega
      have e:ma*8*2^(sa-3)=(ma*8-1+1)*2^(sa-3):=by rw[←this]
      rw[e,Nat.add_mul,Nat.one_mul]
    have hge:2^(sa-3)≤ma*8*2^(sa-3):=Nat.le_mul_of_pos_left _ (by omega)
    have hk:=key (ma*8-1) (ma*2^sa-mb*2^sb) (by omega) (by omega) (by rw[hpa];omega) (by rw[hpa,Nat.add_mul,Nat.one_mul];omega)
    rw[if_pos (by simpa using hpq),hk,Option.bind_some,sv_add_diff hpq,if_pos (by rw[hpa];omega),sumS_sv p (by rw[hpa];omega)]
theorem sum_j0 {k:Nat} (hk:12≤k) (ka kb:Int) (p q:Bool) {sa sb ma mb:Nat} (ha:ma<2^(M+1)) (hb:mb<2^(M+1)) (ha0:ma≠0) (hb0:mb≠0) (hsa:sa≤2048) (hn:sa=0∨2^M≤ma) (hd:sb≤sa) :
    soft_sum.j0 k (M:Int) (X:Int) ka p (least M X+(sa:Int)) (ma:Int) kb q (least M X+(sb:Int)) (mb:Int)=some (((sumS M X (sv p (ma*2^sa)+sv q (mb*2^sb)):Nat):Int),0):=by
  by_cases hfar:sb+70<sa
  · exact sum_far hM hM' hX hX' (by omega) ka kb p q ha (by omega) hb hb0 hsa hfar
  obtain⟨k,rfl⟩:∃ j,k=j+1:=⟨k-1,by omega⟩
  obtain⟨l1,l2,l3⟩:=least_bounds hM hM' hX hX'
  have hM53:2^(M+1)≤9007199254740992:=Nat.pow_le_pow_right (n:=2) (by omega) (show M+1≤53 by omega)
  obtain⟨d,rfl⟩:∃ d,sa=sb+d:=⟨sa-sb,by omega⟩
  have hw:Unit→wrap64 (least M X+((sb+d:Nat):Int)-(least M X+(sb:Int)))=(d:Int):=fun _=>by rw[w64 (by omega) (by omega)];omega
  obtain⟨hi,lo,w1,w2,w3,w4,w5,w6⟩:=two_words (m:=ma) (d:=d) (by omega) (by omega)
  have hj:=sum_j1 hM hM' hX hX' (k:=k) (by omega) ka kb p q (least M X+((sb+d:Nat):Int)) (ma:Int) (s:=sb) (hi:=hi) (lo:=lo) (mb:=mb) (P:=ma*2^d) (by omega) w2 (by omega) hb0 w1 w4 (Nat.ne_of_gt (Nat.mul_pos (by omega) (two_pos d)))
  have e:ma*2^d*2^sb=ma*2^(sb+d):=by rw[Nat.pow_add];ac_rfl
  rw[e] at hj
  rw[soft_sum.j0.eq_2,hw (),if_neg (by omega),if_pos (by omega)]
  by_cases h64:64≤d
  · obtain⟨x1,x2⟩:=w5 h64
    have hw2:Unit→wrap64 ((d:Int)-64)=((d-64:Nat):Int):=fun _=>by rw[w64 (by omega) (by omega)];omega
    have z0:((0:Nat):Int)=0:=rfl
    rw[x2,z0,x1] at hj
    rw[if_pos (by omega),hw2 (),if_pos (Int.natCast_nonneg _),shl_small (by omega) (by omega)]
    exact hj
  · obtain⟨x1,x2⟩:=w6 (by omega)
    rw[if_neg (by omega),shl_mod (by omega)]
    by_cases h0:0<d
    · have hw2:Unit→wrap64 (64-(d:Int))=((64-d:Nat):Int):=fun _=>by rw[w64 (by omega) (by omega)];omega
      rw[if_pos (by omega),hw2 (),if_pos (Int.natCast_nonneg _),shr_nat (by omega),←x1,←x2]
      exact hj
    · have hd0:d=0:=by omega
      have hi0:hi=0:=by
        subst hd0
        have:ma*2^0=ma:=by omega
        rw[this] at w1;omega
      have z0:((0:Nat):Int)=0:=rfl
      rw[hi0,z0] at hj
      rw[if_neg (by omega),←x2]
      exact hj
theorem sum_fin {k:Nat} (hk:12≤k) {a b:Nat} (ha:kd M X a=2) (hb:kd M X b=2) (ka kb:Int) :
    soft_sum.f k (M:Int) (X:Int) ka (sg M X a) (ex M X a) ((mt M X a:Nat):Int) kb (sg M X b) (ex M X b) ((mt M X b:Nat):Int)=some (((sumS M X (sv (sg M X a) (av M X a)+sv (sg M X b) (av M X b)):Nat):Int),0):=by
  obtain⟨a1,a2,a3,a4,a5⟩:=fin_form hM hM' hX hX' ha
  obtain⟨b1,b2,b3,b4,b5⟩:=fin_form hM hM' hX hX' hb
  obtain⟨a6,a7⟩:=fin_ex ha
  obtain⟨b6,b7⟩:=fin_ex hb
  rw[a5,b5,a6,a7,b6,b7]
  unfold soft_sum.f
  by_cases h:sh M (mg M X a)<sh M (mg M X b)
  · rw[if_pos (by omega),sum_j0 hM hM' hX hX' hk kb ka _ _ b2 a2 (by omega) (by omega) (by omega) b4 (by omega),Int.add_comm]
  · rw[if_neg (by omega),sum_j0 hM hM' hX hX' hk ka kb _ _ a2 b2 (by omega) (by omega) (by omega) a4 (by omega)]
end
/-- THE SUM as a pattern -/
def addS (M X a b:Nat):Nat:=
  if kd M X a=4∨kd M X b=4 then nanp M X
  else if kd M X a=3 then (if kd M X b=3∧sg M X a≠sg M X b then nanp M X else sgn M X (sg M X a)+inf M X)
  else if kd M X b=3 then sgn M X (sg M X b)+inf M X
  else if kd M X a=1∧kd M X b=1 then sgn M X (sg M X a && sg M X b)
  else sumS M X (sv (sg M X a) (av M X a)+sv (sg M X b) (av M X b))
section
variable {M X:Nat} (hM:2≤M) (hM':M≤52) (hX:2≤X) (hX':X≤11)
include hM hM' hX hX'
theorem inf_split {a:Nat} (ha:Pt M X a) (h:kd M X a=3):a=sgn M X (sg M X a)+inf M X:=by
  have:=pt_split ha
  rw[(kd3 hM hM' hX hX').1 h] at this;exact this
/-- a number, rounded, is itself -/
theorem sumS_self {a:Nat} (ha:Pt M X a) (h:kd M X a=2):sumS M X (sv (sg M X a) (av M X a))=a:=by
  have hp:=av_pos hM hM' hX hX' h
  have h2:=(kd2 hM hM' hX hX').1 h
  rw[sumS_sv _ (by omega)]
  unfold av
  rw[pat_fits (by omega)]
  exact (pt_split ha).symm
theorem nan_f:round_NaN.f (M:Int) (X:Int)=some ((nanp M X:Nat):Int):=nan_eq hM hM' hX hX'
theorem add_eq {k:Nat} (hk:20≤k) {a b:Nat} (ha:Pt M X a) (hb:Pt M X b):soft_Add.f k (M:Int) (X:Int) (a:Int) (b:Int)=some (((addS M X a b:Nat):Int),0):=by
  obtain⟨k,rfl⟩:∃ j,k=j+3:=⟨k-3,by omega⟩
  have hsum:=sum_fin hM hM' hX hX' (k:=k) (by omega) (a:=a) (b:=b)
  have ia:=inf_split hM hM' hX hX' ha
  have ib:=inf_split hM hM' hX hX' hb
  have za:=av_zero hM hM' hX hX' (a:=a)
  have zb:=av_zero hM hM' hX hX' (a:=b)
  have sa:=sumS_self hM hM' hX hX' ha
  have sb:=sumS_self hM hM' hX hX' hb
  have hn:=nan_f hM hM' hX hX'
  have hz:=zero_f hM hM' hX hX'
  have s0:sv (sg M X a) 0=0:=(sv_zero _).2 rfl
  have s1:sv (sg M X b) 0=0:=(sv_zero _).2 rfl
  unfold soft_Add.f
  rw[two_ok hM hM' hX hX' (by omega) ha hb,Option.bind_some]
  simp only[if_true,soft_odd.f]
  rcases kd_cases M X a with h1|h1|h1|h1 <;> rcases kd_cases M X b with h2|h2|h2|h2 <;>
    simp (config:={ decide:=true }) only[h1,h2,soft_Add.j0.eq_2,soft_Add.j1.eq_2,soft_Add.j2.eq_2,hn,Option.bind_some,addS,if_true,if_false,or_true,true_or,Bool.false_eq_true,true_and,and_self,false_and,and_false,false_or,or_false]
  · rw[hz,hz]
    cases sg M X a <;> simp
  · rw[za h1,s0,Int.zero_add,sb h2]
  · rw[←ib h2]
  · rw[zb h2,s1,Int.add_zero,sa h1]
  · have e2:((2:Nat):Int)=2:=rfl
    rw[hsum h1 h2,Option.bind_some]
  · rw[←ib h2]
  · rw[←ia h1]
  · rw[←ia h1]
  · by_cases h:sg M X a=sg M X b
    · rw[h,if_neg (by simp),if_neg (by simp),←h,←ia h1]
    · rw[if_pos (by simpa using h),if_pos h]
end
end Go.Proofs.Ytmmbgbchimangaa.RS
