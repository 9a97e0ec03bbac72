import Derived.Test.YtmmbgbchimangaaPQx29
import Derived.Test.YtmmbgbchimangaaSM
namespace Go.Proofs.Ytmmbgbchimangaa.RS
set_option linter.all false
open Go.RowKit Go.Proofs.Ytmmbgbchimangaa.PQ Go.Proofs.YtmmbgbchimangaaW.PrintWords Go.Proofs.YtmmbgbchimangaaW.PrintLast Go.Proofs.YtmmbgbchimangaaW.PrintMore
open FT
section
variable {M X:Nat} (hM:2≤M) (hM':M≤52) (hX:2≤X) (hX':X≤11)
include hM hM' hX hX'
theorem mul_fin {k:Nat} (hk:3≤k) {a b:Nat} (ha:kd M X a=2) (hb:kd M X b=2) (neg:Bool) :
    ((bits_Mul64.f ((mt M X a:Nat):Int) ((mt M X b:Nat):Int)).bind fun bt915=>((round_Pack.f k (M:Int) (X:Int) neg bt915.1 bt915.2 (wrap64 (ex M X a+ex M X b)) false).bind fun bt917=>(some (bt917.1,bt917.2)))) =
      some (((sgn M X neg+npat M X (av M X a*av M X b) 1 (least M X):Nat):Int),0):=by
  obtain⟨l1,l2,l3⟩:=least_bounds hM hM' hX hX'
  obtain⟨a1,a2,a3,a4,a5⟩:=fin_form hM hM' hX hX' ha
  obtain⟨b1,b2,b3,b4,b5⟩:=fin_form hM hM' hX hX' hb
  obtain⟨a6,a7⟩:=fin_ex ha
  obtain⟨b6,b7⟩:=fin_ex hb
  have hM53:2^(M+1)≤9007199254740992:=Nat.pow_le_pow_right (n:=2) (by omega) (show M+1≤53 by omega)
  rw[a5,b5,a6,a7,b6,b7]
  generalize man M (mg M X a)=ma at *
  generalize man M (mg M X b)=mb at *
  generalize sh M (mg M X a)=sa at *
  generalize sh M (mg M X b)=sb at *
  have hlt:ma*mb<18446744073709551616*18446744073709551616:=Nat.mul_lt_mul'' (by omega) (by omega)
  have hw:Unit→wrap64 (least M X+(sa:Int)+(least M X+(sb:Int)))=least M X+(sa:Int)+(least M X+(sb:Int)):=fun _=>w64 (by omega) (by omega)
  have hdm:=Nat.div_add_mod (ma*mb) 18446744073709551616
  have hq:ma*mb/18446744073709551616<18446744073709551616:=(Nat.div_lt_iff_lt_mul (by decide)).2 hlt
  have hr:ma*mb%18446744073709551616<18446744073709551616:=Nat.mod_lt _ (by decide)
  rw[mul64 (by omega) (by omega),Option.bind_some]
  simp only[]
  rw[hw (),pack_gen hM hM' hX hX' hk neg hq hr (by omega) (by omega),Option.bind_some,Nat.mul_comm (ma*mb/18446744073709551616),hdm]
  have e1:ma*2^sa*(mb*2^sb)=ma*mb*2^(sa+sb):=by rw[Nat.pow_add];ac_rfl
  have e2:=npat_shift (M:=M) (X:=X) (a:=ma*mb) (b:=1) (s:=least M X+(sa:Int)+(least M X+(sb:Int))-least M X) (by omega) (sa+sb)
  have e3:least M X+(sa:Int)+(least M X+(sb:Int))-least M X-((sa+sb:Nat):Int)=least M X:=by omega
  rw[e3] at e2
  rw[e1,e2]
theorem mul_eq {k:Nat} (hk:20≤k) {a b:Nat} (ha:Pt M X a) (hb:Pt M X b):soft_Mul.f k (M:Int) (X:Int) (a:Int) (b:Int)=some (((mulS M X a b:Nat):Int),0):=by
  obtain⟨k,rfl⟩:∃ j,k=j+3:=⟨k-3,by omega⟩
  have hfin:=mul_fin hM hM' hX hX' (k:=k) (by omega) (a:=a) (b:=b)
  have za:=av_zero hM hM' hX hX' (a:=a)
  have zb:=av_zero hM hM' hX hX' (a:=b)
  have hn:=nan_f hM hM' hX hX'
  have hz:=zero_f hM hM' hX hX'
  have hi:=inf_f hM hM' hX hX'
  have n0:npat M X 0 1 (least M X)=0:=npat_zero (by omega)
  unfold soft_Mul.f
  rw[two_ok hM hM' hX hX' (by omega) ha hb,Option.bind_some]
  simp only[if_true,soft_odd.f]
  rcases kd_cases M X a with h1|h1|h1|h1 <;> rcases kd_cases M X b with h2|h2|h2|h2 <;>
    simp (config:={ decide:=true }) only[h1,h2,soft_Mul.j0.eq_2,soft_Mul.j1.eq_2,soft_Mul.j2.eq_2,soft_odd.f,hn,hz,hi,Option.bind_some,mulS,if_true,if_false,or_true,true_or,Bool.false_eq_true,true_and,and_self,false_and,and_false,false_or,or_false]
  · rw[za h1,Nat.zero_mul,n0];rfl
  · rw[za h1,Nat.zero_mul,n0];rfl
  · rw[zb h2,Nat.mul_zero,n0];rfl
  · exact hfin h1 h2 _
end
theorem mul_ng {k:Nat} (hk:4≤k) {m x:Int} {a b:Nat} (ha:a<18446744073709551616) (hb:b<18446744073709551616) (h:¬ (Good m x a∧Good m x b)):soft_Mul.f k m x (a:Int) (b:Int)=some (0,1):=by
  unfold soft_Mul.f
  rw[two_ng hk ha hb h,Option.bind_some,if_neg (by decide)]
end Go.Proofs.Ytmmbgbchimangaa.RS
