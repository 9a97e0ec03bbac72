/- The reference's pattern of another format is the program's. -/
import Derived.Test.YthkifpdachjlgaaPQx39
import Derived.Test.YthkifpdachjlgaaRN5
import Derived.Test.YthkifpdachjlgaaRA1
import Derived.Test.YthkifpdachjlgaaSD
import Derived.Test.YthkifpdachjlgaaSK
namespace Go.Proofs.Ythkifpdachjlgaa.RS
set_option linter.all false
open Go.RowKit Go.Proofs.Ythkifpdachjlgaa.PQ Go.Proofs.YthkifpdachjlgaaW.PrintWords Go.Proofs.YthkifpdachjlgaaW.PrintLast Go.Proofs.YthkifpdachjlgaaW.PrintMore
open FT
theorem rconv_eq {M X M' X':Nat} (hM:2≤M) (hM':M≤52) (hX:2≤X) (hX':X≤11) (gM:2≤M') (gM':M'≤52) (gX:2≤X') (gX':X'≤11) {k:Nat} (hk:502000<k) {a:Nat} (ha:Pt M X a) :
    grottoref03_Convert.f k (M:Int) (X:Int) (M':Int) (X':Int) (a:Int)=some (((convS M X M' X' a:Nat):Int),0):=by
  obtain⟨k,rfl⟩:∃ j,k=j+1:=⟨k-1,by omega⟩
  obtain⟨l1,l2,l3⟩:=least_bounds hM hM' hX hX'
  have oa:grottoref02_Open.f (k+1) (M:Int) (X:Int) (a:Int)=some (((kd M X a:Nat):Int),sg M X a,ex M X a,((mt M X a:Nat):Int),0):=ropen_ok hM hM' hX hX' (by omega) ha
  have c0:((0:Int) != 0)=false:=by decide
  have one:grottoref03_one.f=some (digits 1):=by rw[digits_one];rfl
  have o1:(digits 1).length≤1:=by rw[digits_one];simp
  unfold grottoref03_Convert.f
  rw[oa,Option.bind_some]
  dsimp only
  rw[if_pos rfl,rcheck_ok gM gM' gX gX',Option.bind_some,c0,grottoref03_Convert.j0.eq_2,if_neg (by simp)]
  unfold convS
  have hfin:(kd M X a=1∨kd M X a=2)→grottoref02_Near.f k (M':Int) (X':Int) (sg M X a) (digits (mt M X a)) (digits 1) (ex M X a)=some ((sgn M' X' (sg M X a)+npat M' X' (av M X a) 1 (least M X-least M' X'):Nat):Int):=by
    intro h
    obtain⟨s,ea,sa,ma,va⟩:=opened hM hM' hX hX' h
    have hl1:(digits (mt M X a)).length≤4:=digits_len (by omega)
    have ne:=near_eq gM gM' gX gX' (k:=k) (by omega) (sg M X a) (a:=mt M X a) (b:=1) (e:=least M X+(s:Int)) (by omega) (by omega) (by omega) (by omega) (by omega)
    have rat:=npat_rat (M:=M') (X:=X') (a:=mt M X a) (b:=1) (x:=s) (y:=0) (s:=least M X-least M' X') (by omega)
    have e2:least M X-least M' X'+(s:Int)-((0:Nat):Int)=least M X+(s:Int)-least M' X':=by omega
    rw[Nat.pow_zero,Nat.mul_one,e2] at rat
    rw[ea,ne,va,rat]
  rcases kd_cases M X a with h1|h1|h1|h1
  · rw[if_neg (show ¬ ((kd M X a:Nat):Int)=4 by omega),if_neg (show ¬ ((kd M X a:Nat):Int)=3 by omega),natof_eq (by have:=zero_ex (M:=M) (X:=X) (x:=a) (by omega);omega) (by omega),Option.bind_some,one,Option.bind_some,hfin (Or.inl h1),Option.bind_some,if_neg (by omega),if_neg (by omega)]
  · obtain⟨s,ea,sa,ma,va⟩:=opened hM hM' hX hX' (Or.inr h1)
    rw[if_neg (show ¬ ((kd M X a:Nat):Int)=4 by omega),if_neg (show ¬ ((kd M X a:Nat):Int)=3 by omega),natof_eq (by omega) (by omega),Option.bind_some,one,Option.bind_some,hfin (Or.inr h1),Option.bind_some,if_neg (by omega),if_neg (by omega)]
  · rw[if_neg (show ¬ ((kd M X a:Nat):Int)=4 by omega),if_pos (by rw[h1];rfl),if_neg (by omega),if_pos h1,rinf_eq gM gM' gX gX' (by omega),Option.bind_some]
  · have hn:grottoref02_NaN.f k (M':Int) (X':Int)=some ((nanp M' X':Nat):Int):=rnan_eq gM gM' gX gX' (by omega)
    rw[if_pos (by rw[h1];rfl),if_pos h1,hn,Option.bind_some]
theorem rconv_ng {k:Nat} (hk:100<k) {m x m' x':Int} {a:Nat} (ha:a<18446744073709551616) (h:¬ (Good m x a∧Ok m' x')):grottoref03_Convert.f k m x m' x' (a:Int)=some (0,1):=by
  obtain⟨k,rfl⟩:∃ j,k=j+1:=⟨k-1,by omega⟩
  unfold grottoref03_Convert.f
  by_cases h1:Good m x a
  · obtain⟨M,X,rfl,rfl,hM,hM',hX,hX',hp⟩:=h1.nat
    have oa:grottoref02_Open.f (k+1) (M:Int) (X:Int) (a:Int)=some (((kd M X a:Nat):Int),sg M X a,ex M X a,((mt M X a:Nat):Int),0):=ropen_ok hM hM' hX hX' (by omega) hp
    have c1:((1:Int) != 0)=true:=by decide
    rw[oa,Option.bind_some]
    dsimp only
    rw[if_pos rfl,rcheck_bad (fun h2=>h ⟨h1,h2⟩),Option.bind_some,c1,grottoref03_Convert.j0.eq_2,if_pos rfl]
  · rw[ropen_ng (by omega) ha h1,Option.bind_some]
    dsimp only
    rw[if_neg (by decide),grottoref03_Convert.j0.eq_2,if_pos rfl]
end Go.Proofs.Ythkifpdachjlgaa.RS
