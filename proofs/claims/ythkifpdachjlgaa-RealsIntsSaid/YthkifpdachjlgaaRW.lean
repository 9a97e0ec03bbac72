/- The reference's whole numbers about a pattern are the program's. -/
import Derived.Test.YthkifpdachjlgaaPQx24
import Derived.Test.YthkifpdachjlgaaPQx34
import Derived.Test.YthkifpdachjlgaaRN5
import Derived.Test.YthkifpdachjlgaaRA1
import Derived.Test.YthkifpdachjlgaaSX
namespace Go.Proofs.Ythkifpdachjlgaa.RS
set_option linter.all false
open Go.RowKit Go.Proofs.Ythkifpdachjlgaa.PQ Go.Proofs.YthkifpdachjlgaaW.PrintWords Go.Proofs.YthkifpdachjlgaaW.PrintLast Go.Proofs.YthkifpdachjlgaaW.PrintMore
open FT
theorem cmp_ge {a b:Nat}:cmp a b≥0↔b≤a:=by
  unfold cmp
  split
  · omega
  · split <;> omega
theorem cmp_gt {a b:Nat}:cmp a b>0↔b<a:=by
  unfold cmp
  split
  · omega
  · split <;> omega
section
variable {M X:Nat} (hM:2≤M) (hM':M≤52) (hX:2≤X) (hX':X≤11)
include hM hM' hX hX'
theorem rwhole_all {k:Nat} (hk:450000<k) (K:Int) (neg:Bool) {m s:Nat} (hm:m<9007199254740992) (hs:s≤2200) (near:Bool) :
    grottoref03_whole.f k K neg (least M X+(s:Int)) (m:Int) near =
      some (digits (m*2^s/unit M X+(if near=true∧unit M X≤2*(m*2^s%unit M X) then 1 else 0)),decide (m*2^s%unit M X≠0)):=by
  obtain⟨l1,l2,l3⟩:=least_bounds hM hM' hX hX'
  have hup:0<unit M X:=two_pos _
  have hl4:(digits m).length≤4:=digits_len (by omega)
  have one:grottoref03_one.f=some (digits 1):=by rw[digits_one];rfl
  have o1:(digits 1).length≤1:=by rw[digits_one];simp
  have z1:((1:Nat):Int)=1:=rfl
  obtain⟨k,rfl⟩:∃ j,k=j+1:=⟨k-1,by omega⟩
  unfold grottoref03_whole.f
  by_cases he:0≤least M X+(s:Int)
  · obtain⟨e,hE⟩:∃ e:Nat,least M X+(s:Int)=(e:Int):=⟨(least M X+(s:Int)).toNat,by omega⟩
    have hu:2^s=2^e*unit M X:=by
      unfold unit;rw[←Nat.pow_add];congr 1;omega
    have hdiv:m*2^s=m*2^e*unit M X:=by rw[hu];ac_rfl
    rw[if_pos he,hE,natof_eq (by omega) (by omega),Option.bind_some,up_eq (by omega) (by omega) (by omega),Option.bind_some,hdiv,Nat.mul_div_cancel _ hup,Nat.mul_mod_left,if_neg (by omega),decide_eq_false (by omega)]
    rfl
  · obtain⟨j,hj⟩:∃ j:Nat,least M X+(s:Int)=-(j:Int):=⟨(-(least M X+(s:Int))).toNat,by omega⟩
    have hu:unit M X=2^(j+s):=by unfold unit;congr 1;omega
    obtain⟨d1,d2⟩:=scale_div (m:=m) (s:=s) (k:=j)
    have hsp:=two_pos s
    have hjp:=two_pos j
    have hw:Unit→wrap64 (- -(j:Int))=(j:Int):=fun _=>by rw[w64 (by omega) (by omega)];omega
    have hhalf:(unit M X≤2*(m*2^s%unit M X))↔2^j≤m%2^j*2^1:=by
      rw[hu,d2,Nat.pow_add,←Nat.mul_assoc,Nat.pow_one,Nat.mul_comm (m%2^j) 2]
      exact⟨fun h=>Nat.le_of_mul_le_mul_right h hsp,fun h=>Nat.mul_le_mul_right _ h⟩
    have hc:(near=true∧unit M X≤2*(m*2^s%unit M X))↔(near=true∧2^j≤m%2^j*2^1):=by rw[hhalf]
    have hz:(m*2^s%unit M X≠0)↔0<blen (m%2^j):=by
      rw[hu,d2]
      constructor
      · intro h
        refine blen_pos fun h2=>h (by rw[h2,Nat.zero_mul])
      · intro h h2
        rcases Nat.mul_eq_zero.1 h2 with h3|h3
        · rw[h3] at h;exact absurd h (by decide)
        · omega
    have e1:m*2^s/unit M X=m/2^j:=by rw[hu];exact d1
    have hjb:j≤1200:=by omega
    have lj:(digits (1*2^j)).length≤142:=digits_pow (by omega) (by omega)
    have q1:=digits_len_mono (Nat.div_le_self m (2^j))
    have q2:=digits_len_mono (Nat.mod_le m (2^j))
    have q3:=digits_len_mul (b:=m%2^j) (n:=1)
    simp only[hc,hz]
    rw[if_neg he,hj,hw (),e1,one,Option.bind_some,up_eq (by omega) (by omega) (by omega),Option.bind_some,natof_eq (by omega) (by omega),Option.bind_some,Nat.one_mul]
    rw[Nat.one_mul] at lj
    rw[quo_eq hjp (by omega) (by omega) (by omega),Option.bind_some]
    dsimp only
    have tail:∀ p:Bool,grottoref03_whole.j0 (k+1) (digits (m/2^j)) (digits (m%2^j)) p=some (digits (m/2^j+if p=true then 1 else 0),decide (0<blen (m%2^j))):=by
      intro p
      have hd:decide (((blen (m%2^j):Nat):Int)>0)=decide (0<blen (m%2^j)):=decide_eq_decide.2 (by omega)
      rw[grottoref03_whole.j0.eq_2]
      cases p
      · rw[if_neg (by simp),bits_eq (by omega) (by omega),Option.bind_some,if_neg (by simp),Nat.add_zero,hd]
      · rw[if_pos rfl,one,Option.bind_some,plus_eq (by omega) (by omega) (by omega),Option.bind_some,bits_eq (by omega) (by omega),Option.bind_some,if_pos rfl,hd]
    cases near
    · rw[if_neg (by simp),tail]
      simp
    · have up1:=up_eq (a:=m%2^j) (n:=1) (k:=k+1) (by omega) (by omega) (by omega)
      rw[z1] at up1
      have hd:decide (cmp (m%2^j*2^1) (2^j)≥0)=decide (2^j≤m%2^j*2^1):=decide_eq_decide.2 cmp_ge
      rw[if_pos rfl,up1,Option.bind_some,cmp_eq (by omega) (by omega) (by omega),Option.bind_some,tail,hd]
      simp
theorem rstep_eq {k:Nat} (hk:501000<k) {a:Nat} (ha:Pt M X a) (up:Bool):grottoref03_step.f k (M:Int) (X:Int) (a:Int) up=some (((stepS M X a up:Nat):Int),0):=by
  obtain⟨k,rfl⟩:∃ j,k=j+1:=⟨k-1,by omega⟩
  obtain⟨l1,l2,l3⟩:=least_bounds hM hM' hX hX'
  have oa:grottoref02_Open.f (k+1) (M:Int) (X:Int) (a:Int)=some (((kd M X a:Nat):Int),sg M X a,ex M X a,((mt M X a:Nat):Int),0):=ropen_ok hM hM' hX hX' (by omega) ha
  have hn:∀ {k:Nat},64<k→grottoref02_NaN.f k (M:Int) (X:Int)=some ((nanp M X:Nat):Int):=fun hk=>rnan_eq hM hM' hX hX' hk
  have one:grottoref03_one.f=some (digits 1):=by rw[digits_one];rfl
  have o1:(digits 1).length≤1:=by rw[digits_one];simp
  unfold grottoref03_step.f stepS
  rw[oa,Option.bind_some]
  dsimp only
  rw[if_pos rfl]
  by_cases h4:kd M X a=4
  · rw[if_pos (by rw[h4];rfl),if_pos h4,hn (by omega),Option.bind_some]
  · rw[if_neg (show ¬ ((kd M X a:Nat):Int)=4 by omega),if_neg h4]
    by_cases h2:kd M X a=2
    · obtain⟨s,ea,sa,ma,va⟩:=opened hM hM' hX hX' (Or.inr h2)
      rw[if_pos (by rw[h2];rfl),if_pos h2,ea,rwhole_all hM hM' hX hX' (by omega) _ _ ma sa false,Option.bind_some,←va,if_neg (show ¬ (false=true∧unit M X≤2*(av M X a%unit M X)) from fun h=>absurd h.1 (by simp)),Nat.add_zero]
      dsimp only
      have lq:(digits (av M X a/unit M X)).length≤142:=by
        have h1:=digits_len_mono (Nat.div_le_self (av M X a) (unit M X))
        have h3:=digits_pow (m:=mt M X a) (s:=s) ma (by omega)
        rw[←va] at h3;omega
      have lq2:=digits_next (av M X a/unit M X)
      have tail:∀ p:Bool,∀ A B:Int,∀ C:Int,grottoref03_step.j0 (k+1) (digits (av M X a/unit M X)) p (M:Int) (X:Int) A (sg M X a) B C=some (((sgn M X (sg M X a)+npat M X (av M X a/unit M X+if p=true then 1 else 0) 1 (0-least M X):Nat):Int),0):=by
        intro p A B C
        rw[grottoref03_step.j0.eq_2]
        cases p
        · have n1:=near_eq hM hM' hX hX' (k:=k) (by omega) (sg M X a) (a:=av M X a/unit M X) (b:=1) (e:=0) (by omega) (by omega) (by omega) (by omega) (by omega)
          rw[if_neg (by simp),one,Option.bind_some,n1,Option.bind_some,if_neg (by simp),Nat.add_zero]
        · have n1:=near_eq hM hM' hX hX' (k:=k) (by omega) (sg M X a) (a:=av M X a/unit M X+1) (b:=1) (e:=0) (by omega) (by omega) (by omega) (by omega) (by omega)
          rw[if_pos rfl,one,Option.bind_some,plus_eq (by omega) (by omega) (by omega),Option.bind_some,Option.bind_some,n1,Option.bind_some,if_pos rfl]
      rw[tail,tail]
      by_cases hr:av M X a%unit M X=0
      · rw[if_neg (by simp[hr])]
        simp[hr]
      · rw[if_pos (decide_eq_true hr)]
        cases up <;> cases hsg:sg M X a <;> simp[hr]
    · rw[if_neg (show ¬ ((kd M X a:Nat):Int)=2 by omega),if_neg h2]
theorem rceil_eq {k:Nat} (hk:501000<k) {a:Nat} (ha:Pt M X a):grottoref03_Ceil.f k (M:Int) (X:Int) (a:Int)=some (((stepS M X a true:Nat):Int),0):=by
  unfold grottoref03_Ceil.f;rw[rstep_eq hM hM' hX hX' hk ha,Option.bind_some]
theorem rfloor_eq {k:Nat} (hk:501000<k) {a:Nat} (ha:Pt M X a):grottoref03_Floor.f k (M:Int) (X:Int) (a:Int)=some (((stepS M X a false:Nat):Int),0):=by
  unfold grottoref03_Floor.f;rw[rstep_eq hM hM' hX hX' hk ha,Option.bind_some]
theorem rwholes_eq {k:Nat} (hk:501000<k) {a:Nat} (ha:Pt M X a) (near:Bool):grottoref03_Whole.f k (M:Int) (X:Int) (a:Int) near=some (((wholeS M X a near:Nat):Int),sg M X a,0):=by
  obtain⟨k,rfl⟩:∃ j,k=j+1:=⟨k-1,by omega⟩
  obtain⟨l1,l2,l3⟩:=least_bounds hM hM' hX hX'
  have oa:grottoref02_Open.f (k+1) (M:Int) (X:Int) (a:Int)=some (((kd M X a:Nat):Int),sg M X a,ex M X a,((mt M X a:Nat):Int),0):=ropen_ok hM hM' hX hX' (by omega) ha
  have one:grottoref03_one.f=some (digits 1):=by rw[digits_one];rfl
  have o1:(digits 1).length≤1:=by rw[digits_one];simp
  have up40:=up_eq (a:=1) (n:=40) (k:=k+1) (by omega) (by omega) (by omega)
  have z40:((40:Nat):Int)=40:=rfl
  have e40:1*2^40=1099511627776:=by decide
  rw[z40,e40] at up40
  have l40:(digits 1099511627776).length≤3:=digits_len (by decide)
  unfold grottoref03_Whole.f wholeS
  rw[oa,Option.bind_some]
  dsimp only
  rw[if_pos rfl,one,Option.bind_some,up40,Option.bind_some]
  have c40:((1099511627776:Nat):Int)=1099511627776:=rfl
  have top:∀ A B C D:Int,grottoref03_Whole.j0 (k+1) near (digits 1099511627776) true A (sg M X a) B C=some (((1099511627776:Nat):Int),sg M X a,0):=by
    intro A B C D
    rw[grottoref03_Whole.j0.eq_2,if_pos rfl,small_eq (by omega) (by omega),Option.bind_some]
  by_cases h4:kd M X a=4
  · rw[if_pos (by rw[h4];rfl),if_pos (Or.inr h4),top _ _ _ 0]
  · rw[if_neg (show ¬ ((kd M X a:Nat):Int)=4 by omega)]
    by_cases h3:kd M X a=3
    · have hq:(((kd M X a:Nat):Int)==3)=true:=by rw[h3];rfl
      rw[hq,if_pos (Or.inl h3),top _ _ _ 0]
    · have hq:(((kd M X a:Nat):Int)==3)=false:=beq_eq_false_iff_ne.2 (by omega)
      obtain⟨s,ea,sa,ma,va⟩:=opened hM hM' hX hX' (x:=a) (by rcases kd_cases M X a with h|h|h|h <;> omega)
      have lq:(digits (av M X a/unit M X)).length≤142:=by
        have h1:=digits_len_mono (Nat.div_le_self (av M X a) (unit M X))
        have h3:=digits_pow (m:=mt M X a) (s:=s) ma (by omega)
        rw[←va] at h3;omega
      have lq2:=digits_next (av M X a/unit M X)
      rw[hq,grottoref03_Whole.j0.eq_2,if_neg (by simp),ea,rwhole_all hM hM' hX hX' (by omega) _ _ ma sa near,Option.bind_some,←va,if_neg (show ¬ (kd M X a=3∨kd M X a=4) by omega)]
      dsimp only
      have ln:(digits (av M X a/unit M X+if near=true∧unit M X≤2*(av M X a%unit M X) then 1 else 0)).length≤143:=by
        split
        · omega
        · rw[Nat.add_zero];omega
      generalize av M X a/unit M X+(if near=true∧unit M X≤2*(av M X a%unit M X) then 1 else 0)=n at *
      rw[cmp_eq (by omega) (by omega) (by omega),Option.bind_some]
      by_cases hgt:1099511627776<n
      · rw[if_pos (cmp_gt.2 hgt),small_eq (by omega) (by omega),Option.bind_some,show min n 1099511627776=1099511627776 by omega]
      · rw[if_neg (fun h=>hgt (cmp_gt.1 h)),small_eq (by omega) (by omega),Option.bind_some,show min n 1099511627776=n by omega]
end
theorem rceil_ng {k:Nat} (hk:68<k) {m x:Int} {a:Nat} (ha:a<18446744073709551616) (h:¬ Good m x a):grottoref03_Ceil.f k m x (a:Int)=some (0,1):=by
  unfold grottoref03_Ceil.f grottoref03_step.f;rw[ropen_ng hk ha h];rfl
theorem rfloor_ng {k:Nat} (hk:68<k) {m x:Int} {a:Nat} (ha:a<18446744073709551616) (h:¬ Good m x a):grottoref03_Floor.f k m x (a:Int)=some (0,1):=by
  unfold grottoref03_Floor.f grottoref03_step.f;rw[ropen_ng hk ha h];rfl
theorem rwhole_ng {k:Nat} (hk:68<k) {m x:Int} {a:Nat} (ha:a<18446744073709551616) (h:¬ Good m x a) (near:Bool):grottoref03_Whole.f k m x (a:Int) near=some (0,false,1):=by
  unfold grottoref03_Whole.f;rw[ropen_ng hk ha h];rfl
end Go.Proofs.Ythkifpdachjlgaa.RS
