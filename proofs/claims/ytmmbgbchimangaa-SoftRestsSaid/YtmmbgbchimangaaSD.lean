import Derived.Test.YtmmbgbchimangaaPQx6
import Derived.Test.YtmmbgbchimangaaSV
namespace Go.Proofs.Ytmmbgbchimangaa.RS
set_option linter.all false
open Go.RowKit Go.Proofs.Ytmmbgbchimangaa.PQ Go.Proofs.YtmmbgbchimangaaW.PrintWords Go.Proofs.YtmmbgbchimangaaW.PrintLast Go.Proofs.YtmmbgbchimangaaW.PrintMore
open FT
/-- THE QUOTIENT as a pattern -/
def divS (M X a b:Nat):Nat:=
  if kd M X a=4∨kd M X b=4∨(kd M X a=3∧kd M X b=3)∨(kd M X a=1∧kd M X b=1) then nanp M X
  else if kd M X a=3∨kd M X b=1 then sgn M X (sg M X a != sg M X b)+inf M X
  else if kd M X b=3 then sgn M X (sg M X a != sg M X b)
  else sgn M X (sg M X a != sg M X b)+npat M X (av M X a) (av M X b) (0-least M X)
/-- a quotient's first bits, and whether anything is left, tell its pattern -/
theorem npat_quo {M X A B:Nat} {t:Int} (hB:0<B) (hq:2^(M+1)≤A/B):npat M X (2*(A/B)+(if A%B=0 then 0 else 1)) 1 (t-1)=npat M X A B t:=by
  have h:=Nat.div_add_mod A B
  have hr:=Nat.mod_lt A hB
  have c1:raw M ((2*(A/B)+(if A%B=0 then 0 else 1))*2^(t-1).toNat) (1*2^(-(t-1)).toNat)=raw M ((2*(A/B)+(if A%B=0 then 0 else 1))*2^t.toNat) (2*2^(-t).toNat):=by
    refine raw_congr (Nat.mul_pos (by omega) (two_pos _)) (Nat.mul_pos (by omega) (two_pos _)) ?_
    have e:2^(t-1).toNat*(2*2^(-t).toNat)=2^t.toNat*(1*2^(-(t-1)).toNat):=by
      have e1:2^(t-1).toNat*(2*2^(-t).toNat)=2^((t-1).toNat+(-t).toNat+1):=by rw[Nat.pow_succ,Nat.pow_add];ac_rfl
      rw[e1,Nat.one_mul,←Nat.pow_add];congr 1;omega
    rw[Nat.mul_assoc,e,Nat.mul_assoc]
  unfold npat pat
  rw[c1]
  congr 1
  by_cases h0:A%B=0
  · rw[if_pos h0,Nat.add_zero]
    refine raw_congr (Nat.mul_pos (by omega) (two_pos _)) (Nat.mul_pos hB (two_pos _)) ?_
    have hA:A=B*(A/B):=by omega
    have:A*2^t.toNat*(2*2^(-t).toNat)=B*(A/B)*2^t.toNat*(2*2^(-t).toNat):=by rw[←hA]
    rw[this];ac_rfl
  · rw[if_neg h0]
    refine raw_sticky hq (by omega) hB (by omega) (by omega) ?_ ?_
    · rw[Nat.mul_comm];omega
    · rw[Nat.add_mul,Nat.one_mul,Nat.mul_comm (A/B)];omega
/-- powers of 2 above and below -/
theorem npat_rat {M X a b x y:Nat} {s:Int} (hb:0<b):npat M X (a*2^x) (b*2^y) s=npat M X a b (s+x-y):=by
  refine npat_eq (Nat.mul_pos hb (two_pos y)) hb ?_
  have e1:a*2^x*2^s.toNat*(b*2^(-(s+(x:Int)-y)).toNat)=a*b*2^(x+s.toNat+(-(s+(x:Int)-y)).toNat):=by rw[Nat.pow_add,Nat.pow_add];ac_rfl
  have e2:a*2^(s+(x:Int)-y).toNat*(b*2^y*2^(-s).toNat)=a*b*2^((s+(x:Int)-y).toNat+y+(-s).toNat):=by rw[Nat.pow_add,Nat.pow_add];ac_rfl
  rw[e1,e2];congr 2;omega
/-- a number moved to the left till its highest bit is the highest -/
theorem norm64 {m:Nat} (h0:m≠0) (h:m<18446744073709551616):9223372036854775808≤m*2^(64-blen m)∧m*2^(64-blen m)<18446744073709551616∧64-blen m≤63:=by
  have hb:=blen_le (a:=m) (k:=64) h
  have hp:=blen_pos h0
  have h1:=Nat.mul_lt_mul_of_pos_right (blen_lt m) (two_pos (64-blen m))
  have h2:=Nat.mul_le_mul_right (2^(64-blen m)) (blen_ge h0)
  rw[←Nat.pow_add,show blen m+(64-blen m)=64 by omega] at h1
  rw[←Nat.pow_add,show blen m-1+(64-blen m)=63 by omega] at h2
  exact⟨h2,h1,by omega⟩
theorem half_words {m:Nat} (h:m<18446744073709551616):(m:Int)/2=((m/2:Nat):Int)∧IntKind.u64.wrap ((m:Int)*9223372036854775808)=((m%2*9223372036854775808:Nat):Int)∧m/2*18446744073709551616+m%2*9223372036854775808=m*9223372036854775808:=by
  refine⟨by omega,?_,by omega⟩
  rw[wu64];omega
section
variable {M X:Nat} (hM:2≤M) (hM':M≤52) (hX:2≤X) (hX':X≤11)
include hM hM' hX hX'
theorem div_fin {k:Nat} (hk:40≤k) (neg:Bool) {ma mb sa sb:Nat} (ha:ma<2^(M+1)) (hb:mb<2^(M+1)) (ha0:ma≠0) (hb0:mb≠0) (hsa:sa<2048) (hsb:sb<2048) :
    ((bits_LeadingZeros64.f k (ma:Int)).bind fun t522=>((bits_LeadingZeros64.f k (mb:Int)).bind fun t523=>(if 0≤t522 then (if 0≤t523 then ((bits_Div64.f k ((shl .u64 (ma:Int) t522)/2) (IntKind.u64.wrap ((shl .u64 (ma:Int) t522)*9223372036854775808)) (shl .u64 (mb:Int) t523)).bind fun bt524=>((round_Pack.f k (M:Int) (X:Int) neg 0 bt524.1 (wrap64 ((wrap64 ((wrap64 ((wrap64 (least M X+(sa:Int)-t522))-(least M X+(sb:Int))))+t523))-63)) (bt524.2 != 0)).bind fun bt526=>(some (bt526.1,bt526.2)))) else (none)) else (none)))) =
      some (((sgn M X neg+npat M X (ma*2^sa) (mb*2^sb) (0-least M X):Nat):Int),0):=by
  obtain⟨l1,l2,l3⟩:=least_bounds hM hM' hX hX'
  have hM53:2^(M+1)≤9007199254740992:=Nat.pow_le_pow_right (n:=2) (by omega) (show M+1≤53 by omega)
  obtain⟨a1,a2,a3⟩:=norm64 ha0 (show ma<18446744073709551616 by omega)
  obtain⟨b1,b2,b3⟩:=norm64 hb0 (show mb<18446744073709551616 by omega)
  rw[lz_eq (by omega) (by omega),Option.bind_some,lz_eq (by omega) (by omega),Option.bind_some,if_pos (Int.natCast_nonneg _),if_pos (Int.natCast_nonneg _),shl_nat (by omega) a2,shl_nat (by omega) b2]
  generalize hs:64-blen ma=s at *
  generalize ht:64-blen mb=t at *
  have hw:Unit→wrap64 ((wrap64 ((wrap64 ((wrap64 (least M X+(sa:Int)-(s:Int)))-(least M X+(sb:Int))))+(t:Int)))-63)=(sa:Int)-s-sb+t-63:=fun _=>by
    rw[w64 (n:=least M X+(sa:Int)-(s:Int)) (by omega) (by omega),w64 (n:=least M X+(sa:Int)-(s:Int)-(least M X+(sb:Int))) (by omega) (by omega),
      w64 (n:=least M X+(sa:Int)-(s:Int)-(least M X+(sb:Int))+(t:Int)) (by omega) (by omega),w64 (by omega) (by omega)];omega
  obtain⟨c1,c2,c3⟩:=half_words a2
  have hnp:0<mb*2^t:=by omega
  have d64:=div64 (k:=k) (hi:=ma*2^s/2) (lo:=ma*2^s%2*9223372036854775808) (y:=mb*2^t) (by omega) b1 b2 (by omega) (by omega) (by omega)
  rw[c3] at d64
  rw[c1,c2,d64,Option.bind_some,hw ()]
  dsimp only
  have hqlt:ma*2^s*9223372036854775808/(mb*2^t)<18446744073709551616:=by
    rw[Nat.div_lt_iff_lt_mul hnp]
    have e1:ma*2^s*9223372036854775808<18446744073709551616*9223372036854775808:=Nat.mul_lt_mul_of_pos_right a2 (by decide)
    exact Nat.lt_of_lt_of_le e1 (Nat.mul_le_mul_left _ b1)
  have hqge:4611686018427387904≤ma*2^s*9223372036854775808/(mb*2^t):=by
    rw[Nat.le_div_iff_mul_le hnp]
    have e1:9223372036854775808*9223372036854775808≤ma*2^s*9223372036854775808:=Nat.mul_le_mul_right _ a1
    have e2:4611686018427387904*(mb*2^t)≤4611686018427387904*18446744073709551616:=Nat.mul_le_mul_left _ (Nat.le_of_lt b2)
    exact Nat.le_trans e2 (Nat.le_trans (by decide) e1)
  have hbl:M+3≤blen (ma*2^s*9223372036854775808/(mb*2^t)):=by
    refine Nat.le_of_not_lt fun hc=>?_
    have h3:=blen_lt (ma*2^s*9223372036854775808/(mb*2^t))
    have h4:=Nat.pow_le_pow_right (n:=2) (by omega) (show blen (ma*2^s*9223372036854775808/(mb*2^t))≤54 by omega)
    have h5:=Nat.lt_of_le_of_lt hqge (Nat.lt_of_lt_of_le h3 h4)
    exact absurd h5 (by decide)
  have pk:=pack_ok hM hM' hX hX' (k-3) neg (hi:=0) (lo:=ma*2^s*9223372036854775808/(mb*2^t)) (by omega) hqlt (e:=(sa:Int)-s-sb+t-63) (by omega) (by omega) (((ma*2^s*9223372036854775808%(mb*2^t):Nat):Int) != 0) (by rw[zero_lo];exact fun _=>hbl)
  have z0:((0:Nat):Int)=0:=rfl
  rw[zero_lo,z0,show k-3+3=k by omega] at pk
  rw[pk,Option.bind_some]
  have hst:(if (((ma*2^s*9223372036854775808%(mb*2^t):Nat):Int) != 0)=true then 1 else 0)=(if ma*2^s*9223372036854775808%(mb*2^t)=0 then 0 else 1):=by
    rw[int_ne]
    by_cases h:ma*2^s*9223372036854775808%(mb*2^t)=0
    · rw[decide_eq_false (fun h2=>h2 h),if_pos h];rfl
    · rw[decide_eq_true h,if_neg h,if_pos rfl]
  have hM1:2^(M+1)≤ma*2^s*9223372036854775808/(mb*2^t):=Nat.le_trans hM53 (Nat.le_trans (by decide) hqge)
  have key:=npat_quo (M:=M) (X:=X) (t:=(sa:Int)-s-sb+t-63-least M X) hnp hM1
  have e63:ma*2^s*9223372036854775808=ma*2^(s+63):=by
    rw[Nat.pow_add,Nat.mul_assoc]
  have r1:npat M X (ma*2^s*9223372036854775808) (mb*2^t) ((sa:Int)-s-sb+t-63-least M X)=npat M X (ma*2^sa) (mb*2^sb) (0-least M X):=by
    rw[e63,npat_rat (by omega),npat_rat (by omega)];congr 1;omega
  have e1:(sa:Int)-s-sb+t-63-1-least M X=(sa:Int)-s-sb+t-63-least M X-1:=by omega
  rw[hst,e1,key,r1]
theorem div_eq {k:Nat} (hk:50≤k) {a b:Nat} (ha:Pt M X a) (hb:Pt M X b):soft_Div.f k (M:Int) (X:Int) (a:Int) (b:Int)=some (((divS M X a b:Nat):Int),0):=by
  obtain⟨k,rfl⟩:∃ j,k=j+2:=⟨k-2,by omega⟩
  have hfin:kd M X a=2→kd M X b=2→∀ neg,_:=fun h1 h2 neg=>div_fin hM hM' hX hX' (k:=k) (by omega) neg (fin_form hM hM' hX hX' h1).2.1 (fin_form hM hM' hX hX' h2).2.1 (Nat.ne_of_gt (fin_form hM hM' hX hX' h1).1) (Nat.ne_of_gt (fin_form hM hM' hX hX' h2).1) (fin_form hM hM' hX hX' h1).2.2.1 (fin_form hM hM' hX hX' h2).2.2.1
  have za:=av_zero hM hM' hX hX' (a:=a)
  have ea:=fin_ex (M:=M) (X:=X) (x:=a)
  have eb:=fin_ex (M:=M) (X:=X) (x:=b)
  have pb:=fun h=>av_pos hM hM' hX hX' (a:=b) h
  have hn:=nan_f hM hM' hX hX'
  have hz:=zero_eq hM hM' hX hX'
  have hi:=inf_f hM hM' hX hX'
  unfold soft_Div.f
  rw[two_ok hM hM' hX hX' (by omega) ha hb,Option.bind_some]
  simp only[if_true,soft_odd.f]
  rcases kd_cases M X a with h1|h1|h1|h1 <;> rcases kd_cases M X b with h2|h2|h2|h2 <;>
    simp (config:={ decide:=true }) only[h1,h2,soft_Div.j0.eq_2,soft_Div.j1.eq_2,soft_odd.f,hn,hz,hi,Option.bind_some,divS,if_true,if_false,or_true,true_or,Bool.false_eq_true,true_and,and_self,false_and,and_false,false_or,or_false]
  · rw[za h1,npat_zero (pb h2)];rfl
  · obtain⟨e1,e2⟩:=ea h1
    obtain⟨e3,e4⟩:=eb h2
    rw[e1,e2,e3,e4,hfin h1 h2 _];rfl
end
theorem div_ng {k:Nat} (hk:4≤k) {m x:Int} {a b:Nat} (ha:a<18446744073709551616) (hb:b<18446744073709551616) (h:¬ (Good m x a∧Good m x b)):soft_Div.f k m x (a:Int) (b:Int)=some (0,1):=by
  unfold soft_Div.f
  rw[two_ng hk ha hb h,Option.bind_some,if_neg (by decide)]
end Go.Proofs.Ytmmbgbchimangaa.RS
