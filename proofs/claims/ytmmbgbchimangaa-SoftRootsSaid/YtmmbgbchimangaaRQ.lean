/- The reference's root, and its pattern of another format, are the program's. -/
import Derived.Test.YtmmbgbchimangaaPQx25
import Derived.Test.YtmmbgbchimangaaRT
import Derived.Test.YtmmbgbchimangaaRN5
import Derived.Test.YtmmbgbchimangaaRA1
import Derived.Test.YtmmbgbchimangaaSQ
namespace Go.Proofs.Ytmmbgbchimangaa.RS
set_option linter.all false
open Go.RowKit Go.Proofs.Ytmmbgbchimangaa.PQ Go.Proofs.YtmmbgbchimangaaW.PrintWords Go.Proofs.YtmmbgbchimangaaW.PrintLast Go.Proofs.YtmmbgbchimangaaW.PrintMore
open FT
theorem cmp_le {a b:Nat}:cmp a b≤0↔a≤b:=by
  unfold cmp
  split
  · omega
  · split <;> omega
theorem cmp_lt {a b:Nat}:cmp a b<0↔a<b:=by
  unfold cmp
  split
  · omega
  · split <;> omega
theorem digits_two {n e c:Nat} (h:n<2^e) (he:e≤16*c):(digits n).length≤c:=
  digits_len (by rw[pow_base];exact Nat.lt_of_lt_of_le h (Nat.pow_le_pow_right (by omega) he))
section
variable {M X:Nat} (hM:2≤M) (hM':M≤52) (hX:2≤X) (hX':X≤11)
include hM hM' hX hX'
/-- the loop that finds the root's bits, from the highest down -/
theorem rsqrt_l1 {m e:Nat} (hm:m<2^e) (he:e≤240) {y:Int} (hy:-4000≤y) (hy':y≤4000):∀ (n k r:Nat),n≤150→r*r≤m→m<(r+2^n)*(r+2^n)→501000+n<k →
    ∃ q st,Root m q st∧grottoref03_Sqrt.l1 k (digits m) (2*y) (digits r) ((n:Int)-1) (M:Int) (X:Int)=some (((npat M X (2*q+st) 1 (y-1-least M X):Nat):Int),0):=by
  obtain⟨l1,l2,l3⟩:=least_bounds hM hM' hX hX'
  have one:grottoref03_one.f=some (digits 1):=by rw[digits_one];rfl
  have o1:(digits 1).length≤1:=by rw[digits_one];simp
  have z1:((1:Nat):Int)=1:=rfl
  have lm:(digits m).length≤15:=digits_two hm (by omega)
  intro n
  induction n with
  | zero =>
    intro k r hn hlo hhi hk
    obtain⟨k,rfl⟩:∃ j,k=j+1:=⟨k-1,by omega⟩
    have hrm:r≤m:=Nat.le_trans (Nat.le_mul_self r) hlo
    have lr:=digits_len_mono hrm
    have lr2:=digits_len_mul (b:=r) (n:=1)
    have lrr:=digits_len_mono hlo
    have e1:Unit→wrap64 (wrap64 (Int.tdiv (2*y) 2)-1)=y-1:=fun _=>by
      rw[Int.mul_tdiv_cancel_left _ (by decide),w64 (n:=y) (by omega) (by omega),w64 (by omega) (by omega)]
    have up1:=up_eq (a:=r) (n:=1) (k:=k) (by omega) (by omega) (by omega)
    rw[z1,Nat.pow_one,Nat.mul_comm] at up1
    rw[Nat.pow_one,Nat.mul_comm] at lr2
    have z0:((0:Nat):Int)-1=-1:=rfl
    rw[Nat.pow_zero] at hhi
    have sg0:sgn M X false=0:=rfl
    rw[z0,grottoref03_Sqrt.l1.eq_2,if_neg (by decide),up1,Option.bind_some,times_eq (by omega) (by omega) (by omega),Option.bind_some,cmp_eq (by omega) (by omega) (by omega),Option.bind_some,e1 ()]
    by_cases h:r*r=m
    · refine⟨r,0,⟨hlo,hhi,by rw[if_pos h]⟩,?_⟩
      have ne:=near_eq hM hM' hX hX' (k:=k) (by omega) false (a:=2*r) (b:=1) (e:=y-1) (by omega) (by omega) (by omega) (by omega) (by omega)
      rw[sg0,Nat.zero_add] at ne
      rw[if_neg (fun h2=>absurd (cmp_lt.1 h2) (by omega)),one,Option.bind_some,ne,Option.bind_some];rfl
    · refine⟨r,1,⟨hlo,hhi,by rw[if_neg h]⟩,?_⟩
      have l3:=digits_next (2*r)
      have ne:=near_eq hM hM' hX hX' (k:=k) (by omega) false (a:=2*r+1) (b:=1) (e:=y-1) (by omega) (by omega) (by omega) (by omega) (by omega)
      rw[sg0,Nat.zero_add] at ne
      rw[if_pos (cmp_lt.2 (by omega)),one,Option.bind_some,plus_eq (by omega) (by omega) (by omega),Option.bind_some,Option.bind_some,ne,Option.bind_some]
  | succ n ih =>
    intro k r hn hlo hhi hk
    obtain⟨k,rfl⟩:∃ j,k=j+1:=⟨k-1,by omega⟩
    have hrm:r≤m:=Nat.le_trans (Nat.le_mul_self r) hlo
    have lr:=digits_len_mono hrm
    have p150:2^n≤2^240:=Nat.pow_le_pow_right (by omega) (by omega)
    obtain⟨f,hf⟩:∃ f,f=241:=⟨_,rfl⟩
    have p240:2^e≤2^240:=Nat.pow_le_pow_right (by omega) he
    have p241:2^241=2^240+2^240:=by decide
    have lp:(digits (2^n)).length≤16:=digits_two (e:=241) (by omega) (by omega)
    have ht:r+2^n<2^f:=by rw[hf];omega
    have lt:(digits (r+2^n)).length≤16:=digits_two ht (by omega)
    have ltt:(digits ((r+2^n)*(r+2^n))).length≤31:=digits_two (e:=f+f) (by rw[Nat.pow_add];exact Nat.mul_lt_mul'' ht ht) (by omega)
    have e0:((n+1:Nat):Int)-1=(n:Int):=by omega
    have e1:Unit→wrap64 ((n:Int)-1)=(n:Int)-1:=fun _=>w64 (by omega) (by omega)
    have up1:=up_eq (a:=1) (n:=n) (k:=k) (by omega) (by omega) (by omega)
    rw[Nat.one_mul] at up1
    have e2:r+2^(n+1)=r+2^n+2^n:=by rw[Nat.pow_succ];omega
    rw[e0,grottoref03_Sqrt.l1.eq_2,if_pos (by omega),one,Option.bind_some,up1,Option.bind_some,plus_eq (by omega) (by omega) (by omega),Option.bind_some,times_eq (by omega) (by omega) (by omega),Option.bind_some,cmp_eq (by omega) (by omega) (by omega),Option.bind_some,e1 ()]
    by_cases h:(r+2^n)*(r+2^n)≤m
    · rw[if_pos (cmp_le.2 h)]
      exact ih k (r+2^n) (by omega) h (by rw[←e2];exact hhi) (by omega)
    · rw[if_neg (fun h2=>h (cmp_le.1 h2))]
      exact ih k r (by omega) hlo (by omega) (by omega)
/-- the loop that makes the number long enough, and its power even -/
theorem rsqrt_l0:∀ (d k m e:Nat) (x:Int),m≠0→m<2^e→e+d≤230→2*M+8≤d+blen m→-3000+(d:Int)≤x→x≤3000→400+d<k →
    ∃ i k',i≤d+1∧k≤k'+d+2∧2*M+8≤blen (m*2^i)∧m*2^i<2^(e+i)∧(x-(i:Int))%2=0 ∧
      grottoref03_Sqrt.l0 k (digits m) x (M:Int) (X:Int)=grottoref03_Sqrt.l1 k' (digits (m*2^i)) (x-(i:Int)) ([]:List Int) ((blen (m*2^i)/2+1:Nat):Int) (M:Int) (X:Int):=by
  have z1:((1:Nat):Int)=1:=rfl
  have w8:Unit→wrap64 (wrap64 (2*(M:Int))+8)=((2*M+8:Nat):Int):=fun _=>by rw[w64 (n:=2*(M:Int)) (by omega) (by omega),w64 (by omega) (by omega)];omega
  have tm0:∀ x:Int,Int.tmod x 2=0↔x%2=0:=fun x=>⟨fun h=>Int.emod_eq_zero_of_dvd (Int.dvd_of_tmod_eq_zero h),fun h=>Int.tmod_eq_zero_of_dvd (Int.dvd_of_emod_eq_zero h)⟩
  have even:∀ (k m e:Nat) (x:Int),m<2^e→e≤240→2*M+8≤blen m→x%2=0→300<k→grottoref03_Sqrt.l0 (k+1) (digits m) x (M:Int) (X:Int)=grottoref03_Sqrt.l1 k (digits m) x ([]:List Int) ((blen m/2+1:Nat):Int) (M:Int) (X:Int):=by
    intro k m e x hm he hb hx hk
    have lm:(digits m).length≤15:=digits_two hm (by omega)
    have hbl:=blen_digits m
    have wb:Unit→wrap64 (wrap64 (Int.tdiv ((blen m:Nat):Int) 2)+1)=((blen m/2+1:Nat):Int):=fun _=>by
      rw[td2,w64 (n:=((blen m/2:Nat):Int)) (by omega) (by omega),w64 (by omega) (by omega)];omega
    rw[grottoref03_Sqrt.l0.eq_2,bits_eq (by omega) (by omega),Option.bind_some,w8 (),if_neg (by omega),if_pos ((tm0 x).2 hx),Option.bind_some,wb ()]
  have step:∀ (k m e:Nat) (x:Int),m≠0→m<2^e→e≤240→(blen m<2*M+8∨x%2≠0)→-3000≤x→x≤3000→300<k→grottoref03_Sqrt.l0 (k+1) (digits m) x (M:Int) (X:Int)=grottoref03_Sqrt.l0 k (digits (m*2)) (x-1) (M:Int) (X:Int):=by
    intro k m e x h0 hm he hor hx hx' hk
    have lm:(digits m).length≤15:=digits_two hm (by omega)
    have wx:Unit→wrap64 (x-1)=x-1:=fun _=>w64 (by omega) (by omega)
    have up1:=up_eq (a:=m) (n:=1) (k:=k) (by omega) (by omega) (by omega)
    rw[z1,Nat.pow_one] at up1
    rw[grottoref03_Sqrt.l0.eq_2,bits_eq (by omega) (by omega),Option.bind_some,w8 (),wx ()]
    by_cases h:blen m<2*M+8
    · rw[if_pos (by omega),up1,Option.bind_some]
    · rw[if_neg (by omega),if_neg (fun h2=>(hor.resolve_left h) ((tm0 x).1 h2)),up1,Option.bind_some]
  have grow:∀ m:Nat,m≠0→blen (m*2)=blen m+1:=by
    intro m h0
    have h1:=blen_lt m
    have h2:=blen_ge h0
    have h3:=blen_pos h0
    obtain⟨b,hb⟩:∃ b,blen m=b+1:=⟨blen m-1,by omega⟩
    rw[hb] at h1 h2 ⊢
    rw[Nat.add_sub_cancel] at h2
    refine blen_eq ?_ ?_
    · rw[Nat.pow_succ 2 (b+1)];omega
    · rw[Nat.pow_succ];omega
  intro d
  induction d with
  | zero =>
    intro k m e x h0 hm he hb hx hx' hk
    obtain⟨k,rfl⟩:∃ j,k=j+2:=⟨k-2,by omega⟩
    by_cases hev:x%2=0
    · refine⟨0,k+1,by omega,by omega,by rw[Nat.pow_zero,Nat.mul_one];omega,by rw[Nat.pow_zero,Nat.mul_one];exact hm,by omega,?_⟩
      have ez:x-((0:Nat):Int)=x:=by omega
      rw[Nat.pow_zero,Nat.mul_one,ez]
      exact even (k+1) m e x hm (by omega) (by omega) hev (by omega)
    · have hg:=grow m h0
      have hm2:m*2<2^(e+1):=by rw[Nat.pow_succ];omega
      refine⟨1,k,by omega,by omega,by rw[Nat.pow_one];omega,by rw[Nat.pow_one];exact hm2,by omega,?_⟩
      have ez:x-((1:Nat):Int)=x-1:=rfl
      rw[Nat.pow_one,ez,step (k+1) m e x h0 hm (by omega) (Or.inr hev) (by omega) (by omega) (by omega)]
      exact even k (m*2) (e+1) (x-1) hm2 (by omega) (by omega) (by omega) (by omega)
  | succ d ih =>
    intro k m e x h0 hm he hb hx hx' hk
    obtain⟨k,rfl⟩:∃ j,k=j+2:=⟨k-2,by omega⟩
    have hg:=grow m h0
    have hm2:m*2<2^(e+1):=by rw[Nat.pow_succ];omega
    by_cases hor:blen m<2*M+8∨x%2≠0
    · obtain⟨i,k',c1,c2,c3,c4,c5,c6⟩:=ih (k+1) (m*2) (e+1) (x-1) (by omega) hm2 (by omega) (by omega) (by omega) (by omega) (by omega)
      have e1:m*2*2^i=m*2^(i+1):=by rw[Nat.pow_succ];ac_rfl
      have e2:e+1+i=e+(i+1):=by omega
      have e3:x-1-(i:Int)=x-((i+1:Nat):Int):=by omega
      rw[e1] at c3 c4 c6
      rw[e2] at c4
      rw[e3] at c5 c6
      refine⟨i+1,k',by omega,by omega,c3,c4,c5,?_⟩
      rw[step (k+1) m e x h0 hm (by omega) hor (by omega) (by omega) (by omega)]
      exact c6
    · have hev:x%2=0:=Decidable.of_not_not fun h=>hor (Or.inr h)
      refine⟨0,k+1,by omega,by omega,by rw[Nat.pow_zero,Nat.mul_one];omega,by rw[Nat.pow_zero,Nat.mul_one];exact hm,by omega,?_⟩
      have ez:x-((0:Nat):Int)=x:=by omega
      rw[Nat.pow_zero,Nat.mul_one,ez]
      exact even (k+1) m e x hm (by omega) (by omega) hev (by omega)
theorem rsqrt_eq {k:Nat} (hk:502000<k) {a:Nat} (ha:Pt M X a):grottoref03_Sqrt.f k (M:Int) (X:Int) (a:Int)=some (((sqrtS M X a:Nat):Int),0):=by
  obtain⟨k,rfl⟩:∃ j,k=j+1:=⟨k-1,by omega⟩
  obtain⟨l1,l2,l3⟩:=least_bounds hM hM' hX hX'
  have oa:grottoref02_Open.f (k+1) (M:Int) (X:Int) (a:Int)=some (((kd M X a:Nat):Int),sg M X a,ex M X a,((mt M X a:Nat):Int),0):=ropen_ok hM hM' hX hX' (by omega) ha
  have hn:∀ {k:Nat},64<k→grottoref02_NaN.f k (M:Int) (X:Int)=some ((nanp M X:Nat):Int):=fun hk=>rnan_eq hM hM' hX hX' hk
  have hfin:kd M X a=2→grottoref03_Sqrt.j0 (k+1) (a:Int) false (M:Int) (X:Int) ((kd M X a:Nat):Int) (sg M X a) (ex M X a) ((mt M X a:Nat):Int)=some (((rootp M X (av M X a):Nat):Int),0):=by
    intro h2
    obtain⟨s,ea,sa,ma,va⟩:=opened hM hM' hX hX' (Or.inr h2)
    have hp:=av_pos hM hM' hX hX' h2
    rw[va] at hp
    have hm0:mt M X a≠0:=fun h=>by rw[h,Nat.zero_mul] at hp;omega
    have hb1:=blen_pos hm0
    obtain⟨i,k',c1,c2,c3,c4,c5,c6⟩:=rsqrt_l0 hM hM' hX hX' (2*M+8) k (mt M X a) 53 (least M X+(s:Int)) hm0 ma (by omega) (by omega) (by omega) (by omega) (by omega)
    rw[grottoref03_Sqrt.j0.eq_2,if_neg (by simp),if_pos (by rw[h2];rfl),natof_eq (by omega) (by omega),Option.bind_some,ea,c6,va]
    obtain⟨y,hy⟩:∃ y,least M X+(s:Int)-(i:Int)=2*y:=⟨(least M X+(s:Int)-(i:Int))/2,by omega⟩
    obtain⟨V,hV⟩:∃ V,V=mt M X a*2^i:=⟨_,rfl⟩
    rw[←hV] at c3 c4 ⊢
    have hVlt:=blen_lt V
    have hbV:blen V≤53+i:=blen_le c4
    have hV0:V≠0:=fun h=>by rw[h] at c3;have:blen 0=0:=rfl;omega
    have hVge:=blen_ge hV0
    have top:V<(0+2^(blen V/2+2))*(0+2^(blen V/2+2)):=by
      rw[Nat.zero_add,←Nat.pow_add]
      exact Nat.lt_of_lt_of_le hVlt (Nat.pow_le_pow_right (by omega) (by omega))
    obtain⟨q,st,hR,hl⟩:=rsqrt_l1 hM hM' hX hX' (m:=V) (e:=53+i) c4 (by omega) (y:=y) (by omega) (by omega) (blen V/2+2) k' 0 (by omega) (by omega) top (by omega)
    have e1:((blen V/2+2:Nat):Int)-1=((blen V/2+1:Nat):Int):=by omega
    rw[digits_zero,e1] at hl
    rw[hy,hl]
    have hr:2^(M+1)≤q:=by
      apply Nat.le_of_not_lt
      intro h
      have h1:(q+1)*(q+1)≤2^(M+1)*2^(M+1):=Nat.mul_le_mul h h
      rw[←Nat.pow_add] at h1
      have h3:2^(M+1+(M+1))≤2^(blen V-1):=Nat.pow_le_pow_right (by omega) (by omega)
      have h4:=hR.hi
      omega
    obtain⟨j,hj⟩:∃ j:Nat,s+128+(least M X%2).toNat=i+2*j:=⟨(s+128+(least M X%2).toNat-i)/2,by omega⟩
    have key:=rootp_of (M:=M) (X:=X) (A:=mt M X a*2^s) (V:=V) (r:=q) (st:=st) (E:=y) hr hR 0 j
      (by
        have e4:4^j=2^(2*j):=by rw[Nat.pow_mul]
        rw[hV,e4,Nat.mul_assoc,←Nat.pow_add,Nat.mul_assoc,←Nat.pow_add,←hj]
        congr 2;omega)
      (by omega)
    rw[key]
  unfold grottoref03_Sqrt.f sqrtS
  rw[oa,Option.bind_some]
  dsimp only
  rw[if_pos rfl]
  rcases kd_cases M X a with h1|h1|h1|h1
  case inr.inl =>
    have hf:=hfin h1
    rw[h1] at hf
    rw[h1]
    cases hs:sg M X a
    · rw[hs] at hf
      simp (config:={ decide:=true }) only[if_true,if_false,false_and,or_self,Bool.false_eq_true]
      exact hf
    · simp (config:={ decide:=true }) only[if_true,if_false,false_and,or_self,or_true,Bool.false_eq_true,and_false,grottoref03_Sqrt.j0.eq_2,hn,show 64<k by omega,Option.bind_some]
  all_goals cases hs:sg M X a <;> simp (config:={ decide:=true }) only[h1,grottoref03_Sqrt.j0.eq_2,if_true,if_false,or_self,or_true,true_or,and_self,false_and,and_false,or_false,false_or,Bool.false_eq_true,hn,show 64<k by omega,Option.bind_some]
end
theorem rsqrt_ng {k:Nat} (hk:68<k) {m x:Int} {a:Nat} (ha:a<18446744073709551616) (h:¬ Good m x a):grottoref03_Sqrt.f k m x (a:Int)=some (0,1):=by
  unfold grottoref03_Sqrt.f;rw[ropen_ng hk ha h];rfl
end Go.Proofs.Ytmmbgbchimangaa.RS
