import Derived.Test.YthkifpdachjlgaaPQx6
import Derived.Test.YthkifpdachjlgaaPQx7
import Derived.Test.YthkifpdachjlgaaSM
namespace Go.Proofs.Ythkifpdachjlgaa.RS
set_option linter.all false
open Go.RowKit Go.Proofs.Ythkifpdachjlgaa.PQ Go.Proofs.YthkifpdachjlgaaW.PrintWords Go.Proofs.YthkifpdachjlgaaW.PrintLast Go.Proofs.YthkifpdachjlgaaW.PrintMore
open FT
/-- what stands behind the point: nothing, less than a half, a half, more -/
def beh (m k:Nat):Nat:=if m%2^k=0 then 0 else if 2*(m%2^k)<2^k then 1 else if 2*(m%2^k)=2^k then 2 else 3
theorem whole_f (ka:Int) (na:Bool) {m k:Nat} (hm:m<9007199254740992) (hm0:m≠0) (hk:1≤k) (hk':k≤5000):soft_whole.f ka na (-(k:Int)) (m:Int)=some (((m/2^k:Nat):Int),((beh m k:Nat):Int)):=by
  have hw:Unit→wrap64 (- -(k:Int))=(k:Int):=fun _=>by rw[w64 (by omega) (by omega)];omega
  unfold soft_whole.f
  rw[hw ()]
  by_cases h:k>63
  · have hp:2^64≤2^k:=Nat.pow_le_pow_right (by omega) (by omega)
    have h1:m/2^k=0:=Nat.div_eq_of_lt (by omega)
    have h2:m%2^k=m:=Nat.mod_eq_of_lt (by omega)
    rw[if_pos (by omega),h1]
    unfold beh
    rw[h2,if_neg hm0,if_pos (by omega)];rfl
  · obtain⟨i,rfl⟩:∃ i,k=i+1:=⟨k-1,by omega⟩
    have h1:=pow_lt (k:=i) (by omega)
    have h2:=pow_lt (k:=i+1) (by omega)
    have hpp:2^(i+1)=2*2^i:=by rw[Nat.pow_succ];omega
    have hh:(((2^(i+1):Nat):Int))/2=((2^i:Nat):Int):=by rw[hpp];omega
    rw[if_neg (by omega),if_pos (by omega),all_bits (by omega) (by omega),shl_one (by omega),hh,shr_nat (by omega)]
    unfold beh
    rw[hpp]
    generalize m%(2*2^i)=r at *
    generalize 2^i=P at *
    by_cases c1:r=0
    · rw[if_pos (natz c1),if_pos c1];rfl
    · rw[if_neg (nat0 c1),if_neg c1]
      by_cases c2:r<P
      · rw[if_pos (show ((r:Nat):Int)<((P:Nat):Int) by omega),if_pos (show 2*r<2*P by omega)];rfl
      · rw[if_neg (show ¬ ((r:Nat):Int)<((P:Nat):Int) by omega),if_neg (show ¬ 2*r<2*P by omega)]
        by_cases c3:r=P
        · rw[if_pos (nate c3),if_pos (show 2*r=2*P by omega)];rfl
        · rw[if_neg (natn c3),if_neg (show ¬ 2*r=2*P by omega)];rfl
theorem beh_zero {m k:Nat}:beh m k=0↔m%2^k=0:=by
  unfold beh
  by_cases h:m%2^k=0
  · rw[if_pos h];simp[h]
  · rw[if_neg h]
    refine⟨fun h2=>?_,fun h2=>absurd h2 h⟩
    split at h2
    · omega
    · split at h2 <;> omega
theorem beh_half {m k:Nat}:2≤beh m k↔2^k≤2*(m%2^k):=by
  have hp:=two_pos k
  unfold beh
  by_cases h:m%2^k=0
  · rw[if_pos h,h];omega
  · rw[if_neg h]
    by_cases h2:2*(m%2^k)<2^k
    · rw[if_pos h2];omega
    · rw[if_neg h2];split <;> omega
/-- one in units of the least number -/
def unit (M X:Nat):Nat:=2^(-(least M X)).toNat
/-- the whole number at or beside a pattern, as a pattern -/
def stepS (M X a:Nat) (up:Bool):Nat:=
  if kd M X a=4 then nanp M X
  else if kd M X a=2 then sgn M X (sg M X a)+npat M X (av M X a/unit M X+(if av M X a%unit M X≠0∧sg M X a≠up then 1 else 0)) 1 (0-least M X)
  else a
theorem scale_div {m s k:Nat}:m*2^s/2^(k+s)=m/2^k∧m*2^s%2^(k+s)=m%2^k*2^s:=by
  rw[Nat.pow_add]
  exact⟨Nat.mul_div_mul_right _ _ (two_pos s),Nat.mul_mod_mul_right ..⟩
section
variable {M X:Nat} (hM:2≤M) (hM':M≤52) (hX:2≤X) (hX':X≤11)
include hM hM' hX hX'
/-- a whole number, told in units -/
theorem npat_whole {n:Nat}:npat M X n 1 (0-least M X)=pat M (inf M X) (n*unit M X) 1:=by
  obtain⟨l1,l2,l3⟩:=least_bounds hM hM' hX hX'
  unfold npat unit
  have h1:(0-least M X).toNat=(-(least M X)).toNat:=by omega
  have h2:(-(0-least M X)).toNat=0:=by omega
  rw[h1,h2]
theorem step_eq {k:Nat} (hk:20≤k) {a:Nat} (ha:Pt M X a) (up:Bool):soft_step.f k (M:Int) (X:Int) (a:Int) up=some (((stepS M X a up:Nat):Int),0):=by
  obtain⟨l1,l2,l3⟩:=least_bounds hM hM' hX hX'
  unfold soft_step.f
  rw[open_pt hM hM' hX hX' (by omega) ha,Option.bind_some,if_pos rfl]
  unfold stepS
  by_cases h4:kd M X a=4
  · rw[if_pos (by rw[h4];rfl),if_pos h4,nan_f hM hM' hX hX',Option.bind_some]
  · rw[if_neg (show ¬ ((kd M X a:Nat):Int)=4 by omega),if_neg h4]
    by_cases h2:kd M X a=2
    · rw[if_pos (by rw[h2];rfl),if_pos h2]
      obtain⟨a1,a2,a3,a4,a5⟩:=fin_form hM hM' hX hX' h2
      obtain⟨a6,a7⟩:=fin_ex h2
      have hle:=((kd2 hM hM' hX hX').1 h2).2
      have hsplit:=pt_split ha
      have hM53:2^(M+1)≤9007199254740992:=Nat.pow_le_pow_right (n:=2) (by omega) (show M+1≤53 by omega)
      by_cases he:ex M X a≥0
      · rw[if_pos he]
        rw[a6] at he
        have hu:2^sh M (mg M X a)=2^(sh M (mg M X a)-(-(least M X)).toNat)*unit M X:=by
          unfold unit;rw[←Nat.pow_add];congr 1;omega
        have hdiv:av M X a=man M (mg M X a)*2^(sh M (mg M X a)-(-(least M X)).toNat)*unit M X:=by rw[a5,hu];ac_rfl
        have hup:0<unit M X:=two_pos _
        have hr:av M X a%unit M X=0:=by rw[hdiv];exact Nat.mul_mod_left _ _
        have hq:av M X a/unit M X*unit M X=av M X a:=by rw[hdiv,Nat.mul_div_cancel _ hup]
        rw[if_neg (fun h=>h.1 hr),Nat.add_zero,npat_whole hM hM' hX hX',hq]
        unfold av
        rw[pat_fits (by omega),←hsplit]
      · rw[if_neg he,a6,a7]
        rw[a6] at he
        obtain⟨j,hj⟩:∃ j:Nat,least M X+(sh M (mg M X a):Int)=-((j+1:Nat):Int):=⟨(-(least M X+(sh M (mg M X a):Int))-1).toNat,by omega⟩
        have hu:unit M X=2^(j+1+sh M (mg M X a)):=by unfold unit;congr 1;omega
        obtain⟨d1,d2⟩:=scale_div (m:=man M (mg M X a)) (s:=sh M (mg M X a)) (k:=j+1)
        rw[←hu,←a5] at d1 d2
        have hsp:=two_pos (sh M (mg M X a))
        have hne:av M X a%unit M X≠0↔beh (man M (mg M X a)) (j+1)≠0:=by
          rw[d2,Ne,Ne,beh_zero]
          constructor
          · intro h h3;apply h;rw[h3,Nat.zero_mul]
          · intro h h3;apply h
            rcases Nat.mul_eq_zero.1 h3 with h5|h5
            · exact h5
            · omega
        have pk:=fun n (hn:n<18446744073709551616)=>pack_gen hM hM' hX hX' (k:=k) (by omega) (sg M X a) (hi:=0) (lo:=n) (by omega) hn (e:=0) (by omega) (by omega)
        have z0:((0:Nat):Int)=0:=rfl
        simp only[zero_lo,z0] at pk
        have hnb:man M (mg M X a)/2^(j+1)≤man M (mg M X a):=Nat.div_le_self _ _
        rw[hj,whole_f _ _ (by omega) (by omega) (by omega) (by omega),Option.bind_some,d1]
        simp only[]
        by_cases hb:beh (man M (mg M X a)) (j+1)=0
        · rw[if_neg (by omega),pk _ (by omega),Option.bind_some,if_neg (fun h=>(hne.1 h.1) hb)];rfl
        · rw[if_pos (by omega)]
          by_cases hup:sg M X a=up
          · rw[if_neg (by simpa using hup),pk _ (by omega),Option.bind_some,if_neg (fun h=>h.2 hup)];rfl
          · have hw1:IntKind.u64.wrap (((man M (mg M X a)/2^(j+1):Nat):Int)+1)=((man M (mg M X a)/2^(j+1)+1:Nat):Int):=by
              clear hj d1 d2 hne
              generalize man M (mg M X a)/2^(j+1)=q at *
              rw[wu (by omega) (by omega)];omega
            rw[if_pos (by simpa using hup),hw1,pk _ (by omega),Option.bind_some,if_pos ⟨hne.2 hb,hup⟩]
    · rw[if_neg (show ¬ ((kd M X a:Nat):Int)=2 by omega),if_neg h2]
theorem ceil_eq {k:Nat} (hk:20≤k) {a:Nat} (ha:Pt M X a):soft_Ceil.f k (M:Int) (X:Int) (a:Int)=some (((stepS M X a true:Nat):Int),0):=by
  unfold soft_Ceil.f;rw[step_eq hM hM' hX hX' hk ha,Option.bind_some]
theorem floor_eq {k:Nat} (hk:20≤k) {a:Nat} (ha:Pt M X a):soft_Floor.f k (M:Int) (X:Int) (a:Int)=some (((stepS M X a false:Nat):Int),0):=by
  unfold soft_Floor.f;rw[step_eq hM hM' hX hX' hk ha,Option.bind_some]
end
theorem step_ng {k:Nat} (hk:4≤k) {m x:Int} {a:Nat} (ha:a<18446744073709551616) (h:¬ Good m x a) (up:Bool):soft_step.f k m x (a:Int) up=some (0,1):=by
  unfold soft_step.f
  rw[open_ng (by omega) ha h,Option.bind_some,if_neg (by decide)]
theorem ceil_ng {k:Nat} (hk:4≤k) {m x:Int} {a:Nat} (ha:a<18446744073709551616) (h:¬ Good m x a):soft_Ceil.f k m x (a:Int)=some (0,1):=by
  unfold soft_Ceil.f;rw[step_ng hk ha h,Option.bind_some]
theorem floor_ng {k:Nat} (hk:4≤k) {m x:Int} {a:Nat} (ha:a<18446744073709551616) (h:¬ Good m x a):soft_Floor.f k m x (a:Int)=some (0,1):=by
  unfold soft_Floor.f;rw[step_ng hk ha h,Option.bind_some]
end Go.Proofs.Ythkifpdachjlgaa.RS
