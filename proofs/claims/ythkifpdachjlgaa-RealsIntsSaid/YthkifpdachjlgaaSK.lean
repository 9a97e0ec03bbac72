import Derived.Test.YthkifpdachjlgaaPQx8
import Derived.Test.YthkifpdachjlgaaSM
namespace Go.Proofs.Ythkifpdachjlgaa.RS
set_option linter.all false
open Go.RowKit Go.Proofs.Ythkifpdachjlgaa.PQ Go.Proofs.YthkifpdachjlgaaW.PrintWords Go.Proofs.YthkifpdachjlgaaW.PrintLast Go.Proofs.YthkifpdachjlgaaW.PrintMore
open FT
/-- a pattern of one format in another -/
def convS (M X M' X' a:Nat):Nat:=
  if kd M X a=4 then nanp M' X' else if kd M X a=3 then sgn M' X' (sg M X a)+inf M' X' else sgn M' X' (sg M X a)+npat M' X' (av M X a) 1 (least M X-least M' X')
theorem conv_eq {M X M' X':Nat} (hM:2≤M) (hM':M≤52) (hX:2≤X) (hX':X≤11) (gM:2≤M') (gM':M'≤52) (gX:2≤X') (gX':X'≤11) {k:Nat} (hk:20≤k) {a:Nat} (ha:Pt M X a) :
    soft_Convert.f k (M:Int) (X:Int) (M':Int) (X':Int) (a:Int)=some (((convS M X M' X' a:Nat):Int),0):=by
  obtain⟨k,rfl⟩:∃ j,k=j+1:=⟨k-1,by omega⟩
  obtain⟨l1,l2,l3⟩:=least_bounds hM hM' hX hX'
  have c0:((0:Int) != 0)=false:=by decide
  unfold soft_Convert.f
  rw[open_pt hM hM' hX hX' (by omega) ha,Option.bind_some,if_pos rfl,check_ok gM gM' gX gX',Option.bind_some,c0,soft_Convert.j0.eq_2,if_neg (by simp)]
  unfold convS
  have z0:((0:Nat):Int)=0:=rfl
  rcases kd_cases M X a with h1|h2|h3|h4
  · obtain⟨e1,e2⟩:=zero_ex (M:=M) (X:=X) (x:=a) (by omega)
    have pk:=pack_gen gM gM' gX gX' (k:=k) (by omega) (sg M X a) (hi:=0) (lo:=0) (by omega) (by omega) (e:=0) (by omega) (by omega)
    rw[z0] at pk
    rw[if_neg (show ¬ ((kd M X a:Nat):Int)=4 by omega),if_neg (show ¬ ((kd M X a:Nat):Int)=3 by omega),e1,e2,z0,pk,Option.bind_some,if_neg (by omega),if_neg (by omega),av_zero hM hM' hX hX' h1,npat_zero (by omega),npat_zero (by omega)]
  · obtain⟨a1,a2,a3,a4,a5⟩:=fin_form hM hM' hX hX' h2
    obtain⟨a6,a7⟩:=fin_ex h2
    have hM53:2^(M+1)≤9007199254740992:=Nat.pow_le_pow_right (n:=2) (by omega) (show M+1≤53 by omega)
    have pk:=pack_gen gM gM' gX gX' (k:=k) (by omega) (sg M X a) (hi:=0) (lo:=man M (mg M X a)) (by omega) (by omega) (e:=least M X+(sh M (mg M X a):Int)) (by omega) (by omega)
    rw[z0,zero_lo] at pk
    have e2:=npat_shift (M:=M') (X:=X') (a:=man M (mg M X a)) (b:=1) (s:=least M X+(sh M (mg M X a):Int)-least M' X') (by omega) (sh M (mg M X a))
    have e3:least M X+(sh M (mg M X a):Int)-least M' X'-(sh M (mg M X a):Int)=least M X-least M' X':=by omega
    rw[e3] at e2
    rw[if_neg (show ¬ ((kd M X a:Nat):Int)=4 by omega),if_neg (show ¬ ((kd M X a:Nat):Int)=3 by omega),a6,a7,pk,Option.bind_some,if_neg (by omega),if_neg (by omega),a5,e2]
  · rw[if_neg (show ¬ ((kd M X a:Nat):Int)=4 by omega),if_pos (by rw[h3];rfl),if_neg (by omega),if_pos h3,inf_f gM gM' gX gX',Option.bind_some]
  · rw[if_pos (by rw[h4];rfl),if_pos h4,nan_f gM gM' gX gX',Option.bind_some]
theorem conv_ng {k:Nat} (hk:20≤k) {m x m' x':Int} {a:Nat} (ha:a<18446744073709551616) (h:¬ (Good m x a∧Ok m' x')):soft_Convert.f k m x m' x' (a:Int)=some (0,1):=by
  obtain⟨k,rfl⟩:∃ j,k=j+1:=⟨k-1,by omega⟩
  unfold soft_Convert.f
  by_cases h1:Good m x a
  · obtain⟨M,X,rfl,rfl,hM,hM',hX,hX',hp⟩:=h1.nat
    have c1:((1:Int) != 0)=true:=by decide
    rw[open_pt hM hM' hX hX' (by omega) hp,Option.bind_some,if_pos rfl,check_bad (fun h2=>h ⟨h1,h2⟩),Option.bind_some,c1,soft_Convert.j0.eq_2,if_pos rfl]
  · rw[open_ng (by omega) ha h1,Option.bind_some,if_neg (by decide),soft_Convert.j0.eq_2,if_pos rfl]
end Go.Proofs.Ythkifpdachjlgaa.RS
