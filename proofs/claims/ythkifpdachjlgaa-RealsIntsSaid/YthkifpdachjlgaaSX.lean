import Derived.Test.YthkifpdachjlgaaPQx8
import Derived.Test.YthkifpdachjlgaaSW
namespace Go.Proofs.Ythkifpdachjlgaa.RS
set_option linter.all false
open Go.RowKit Go.Proofs.Ythkifpdachjlgaa.PQ Go.Proofs.YthkifpdachjlgaaW.PrintWords Go.Proofs.YthkifpdachjlgaaW.PrintLast Go.Proofs.YthkifpdachjlgaaW.PrintMore
open FT
/-- a pattern as a whole number, at most 2^40 -/
def wholeS (M X a:Nat) (near:Bool):Nat:=
  if kd M X a=3∨kd M X a=4 then 1099511627776
  else min (av M X a/unit M X+(if near=true∧unit M X≤2*(av M X a%unit M X) then 1 else 0)) 1099511627776
theorem mn_nat (a b:Nat):mn (a:Int) (b:Int)=((min a b:Nat):Int):=by unfold mn;omega
section
variable {M X:Nat} (hM:2≤M) (hM':M≤52) (hX:2≤X) (hX':X≤11)
include hM hM' hX hX'
theorem whole_eq {k:Nat} (hk:20≤k) {a:Nat} (ha:Pt M X a) (near:Bool):soft_Whole.f k (M:Int) (X:Int) (a:Int) near=some (((wholeS M X a near:Nat):Int),sg M X a,0):=by
  obtain⟨k,rfl⟩:∃ j,k=j+1:=⟨k-1,by omega⟩
  obtain⟨l1,l2,l3⟩:=least_bounds hM hM' hX hX'
  have hup:0<unit M X:=two_pos _
  have c40:((1099511627776:Nat):Int)=1099511627776:=rfl
  unfold soft_Whole.f
  rw[open_pt hM hM' hX hX' (by omega) ha,Option.bind_some,if_pos rfl]
  dsimp only
  unfold wholeS
  rcases kd_cases M X a with h1|h2|h3|h4
  · have hz:=av_zero hM hM' hX hX' h1
    rw[if_pos (by rw[h1];rfl),if_neg (by omega),hz,Nat.zero_div,Nat.zero_mod,if_neg (by omega)];rfl
  · rw[if_neg (show ¬ ((kd M X a:Nat):Int)=1 by omega),if_pos (by rw[h2];rfl),if_neg (by omega)]
    obtain⟨a1,a2,a3,a4,a5⟩:=fin_form hM hM' hX hX' h2
    obtain⟨a6,a7⟩:=fin_ex h2
    have hM53:2^(M+1)≤9007199254740992:=Nat.pow_le_pow_right (n:=2) (by omega) (show M+1≤53 by omega)
    rw[a6,a7,a5]
    generalize man M (mg M X a)=m at *
    generalize sh M (mg M X a)=s at *
    by_cases he:0≤least M X+(s:Int)
    · obtain⟨e,hE⟩:∃ e:Nat,least M X+(s:Int)=(e:Int):=⟨(least M X+(s:Int)).toNat,by omega⟩
      have hu:2^s=2^e*unit M X:=by
        unfold unit;rw[←Nat.pow_add];congr 1;omega
      have hdiv:m*2^s=m*2^e*unit M X:=by rw[hu];ac_rfl
      rw[hE,hdiv,Nat.mul_div_cancel _ hup,Nat.mul_mod_left,if_neg (by omega),soft_Whole.j0.eq_2]
      simp only[Nat.add_zero]
      by_cases h40:e>40
      · have h41:2^41≤2^e:=Nat.pow_le_pow_right (by omega) (by omega)
        have hbig:1*2^41≤m*2^e:=Nat.mul_le_mul (by omega) h41
        rw[decide_eq_true (by omega),if_pos rfl]
        generalize m*2^e=n at *
        rw[show min n 1099511627776=1099511627776 by omega,c40]
      · have hp:=pow_lt (k:=e) (by omega)
        rw[decide_eq_false (by omega),if_neg (by simp),if_pos (by omega),if_pos (by omega),shl_one (by omega),mul64 (by omega) hp,Option.bind_some]
        simp only[]
        generalize m*2^e=n at *
        have hmn:=mn_nat (n%18446744073709551616) 1099511627776
        rw[c40] at hmn
        by_cases hq:n/18446744073709551616=0
        · have hn:n%18446744073709551616=n:=Nat.mod_eq_of_lt (by omega)
          rw[if_neg (by omega),hmn,hn]
        · have hm2:mn 1099511627776 1099511627776=((1099511627776:Nat):Int):=rfl
          rw[if_pos (by omega),hm2,show min n 1099511627776=1099511627776 by omega]
    · obtain⟨j,hj⟩:∃ j:Nat,least M X+(s:Int)=-((j+1:Nat):Int):=⟨(-(least M X+(s:Int))-1).toNat,by omega⟩
      have hu:unit M X=2^(j+1+s):=by unfold unit;congr 1;omega
      obtain⟨d1,d2⟩:=scale_div (m:=m) (s:=s) (k:=j+1)
      have hsp:=two_pos s
      have hhalf:(unit M X≤2*(m*2^s%unit M X))↔2≤beh m (j+1):=by
        rw[hu,d2,beh_half,Nat.pow_add,←Nat.mul_assoc]
        exact⟨fun h=>Nat.le_of_mul_le_mul_right h hsp,fun h=>Nat.mul_le_mul_right _ h⟩
      have hc:(near=true∧unit M X≤2*(m*2^s%unit M X))↔(near=true∧2≤beh m (j+1)):=by rw[hhalf]
      have hle:m/2^(j+1)≤m:=Nat.div_le_self _ _
      simp only[hc]
      rw[hu,d1,hj,soft_Whole.j0.eq_2,decide_eq_false (by omega),if_neg (by simp),if_neg (by omega),whole_f _ _ (by omega) (by omega) (by omega) (by omega),Option.bind_some]
      generalize m/2^(j+1)=n at *
      clear hc hhalf d1 d2 hu hsp
      have hw1:IntKind.u64.wrap ((n:Int)+1)=((n+1:Nat):Int):=by rw[wu (by omega) (by omega)];omega
      have m1:=mn_nat (n+1) 1099511627776
      have m0:=mn_nat n 1099511627776
      rw[c40] at m0 m1
      simp only[]
      cases near
      · rw[if_neg (by simp),m0,if_neg (by simp),Nat.add_zero]
      · rw[if_pos rfl]
        by_cases h:2≤beh m (j+1)
        · rw[if_pos (by omega),hw1,m1,if_pos ⟨rfl,h⟩]
        · rw[if_neg (by omega),m0,if_neg (fun h2=>h h2.2),Nat.add_zero]
  · rw[if_neg (show ¬ ((kd M X a:Nat):Int)=1 by omega),if_neg (show ¬ ((kd M X a:Nat):Int)=2 by omega),soft_Whole.j0.eq_2,if_pos rfl,if_pos (Or.inl h3),c40]
  · rw[if_neg (show ¬ ((kd M X a:Nat):Int)=1 by omega),if_neg (show ¬ ((kd M X a:Nat):Int)=2 by omega),soft_Whole.j0.eq_2,if_pos rfl,if_pos (Or.inr h4),c40]
end
theorem whole_ng {k:Nat} (hk:4≤k) {m x:Int} {a:Nat} (ha:a<18446744073709551616) (h:¬ Good m x a) (near:Bool):soft_Whole.f k m x (a:Int) near=some (0,false,1):=by
  unfold soft_Whole.f
  rw[open_ng (by omega) ha h,Option.bind_some,if_neg (by decide)]
end Go.Proofs.Ythkifpdachjlgaa.RS
