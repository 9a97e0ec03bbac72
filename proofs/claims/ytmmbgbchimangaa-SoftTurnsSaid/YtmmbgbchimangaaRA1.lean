/- The reference's soft numbers: what a pattern says, exact sums. -/
import Derived.Test.YtmmbgbchimangaaPQx9
import Derived.Test.YtmmbgbchimangaaPQx12
import Derived.Test.YtmmbgbchimangaaRN3
import Derived.Test.YtmmbgbchimangaaRN4
import Derived.Test.YtmmbgbchimangaaSP
namespace Go.Proofs.Ytmmbgbchimangaa.RS
set_option linter.all false
open Go.RowKit Go.Proofs.Ytmmbgbchimangaa.PQ Go.Proofs.YtmmbgbchimangaaW.PrintWords Go.Proofs.YtmmbgbchimangaaW.PrintLast Go.Proofs.YtmmbgbchimangaaW.PrintMore
open FT
/-- a sign as a factor -/
def sI (n:Bool):Int:=if n then -1 else 1
theorem sI_inj {p q:Bool}:sI p=sI q↔p=q:=by cases p <;> cases q <;> simp[sI]
theorem sI_neg (p:Bool):-sI p=sI (!p):=by cases p <;> rfl
theorem sI_lt (p:Bool):decide (sI p<0)=p:=by cases p <;> rfl
theorem mn_shift (L:Int) (s t:Nat):mn (L+s) (L+t)=L+(min s t:Nat):=by unfold mn;split <;> omega
theorem digits_pow {m s:Nat} (hm:m<9007199254740992) (hs:s≤2200):(digits (m*2^s)).length≤142:=by
  have h1:(digits m).length≤4:=digits_len (by omega)
  have:=digits_len_mul (b:=m) (n:=s)
  omega
theorem digits_next (n:Nat):(digits (n+1)).length≤(digits n).length+1:=by
  have h:=vl_lt (dig_digits n)
  rw[vl_digits] at h
  have h2:65536^((digits n).length+1)=65536^(digits n).length*65536:=Nat.pow_succ ..
  exact digits_len (by omega)
theorem rexact_eq {k:Nat} (hk:4<k) (kd:Int) (neg:Bool) (e:Int) {m:Nat} (hm:m<18446744073709551616):grottoref03_exact.f k kd neg e (m:Int)=some (sI neg,digits m,e):=by
  unfold grottoref03_exact.f
  cases neg
  · rw[if_neg (by simp),natof_eq hm hk,Option.bind_some];rfl
  · rw[if_pos rfl,natof_eq hm hk,Option.bind_some];rfl
theorem ralike_eq {k:Nat} (hk:400<k) (sa sb:Int) {m n s t:Nat} {L:Int} (hL:-1200≤L) (hL':L≤0) (hm:m<9007199254740992) (hn:n<9007199254740992) (hs:s≤2200) (ht:t≤2200) :
    grottoref03_alike.f k sa (digits m) (L+s) sb (digits n) (L+t)=some (sa,digits (m*2^(s-min s t)),L+(min s t:Nat),sb,digits (n*2^(t-min s t)),L+(min s t:Nat)):=by
  have hm4:(digits m).length≤4:=digits_len (by omega)
  have hn4:(digits n).length≤4:=digits_len (by omega)
  have w1:Unit→wrap64 (L+(s:Int)-(L+(min s t:Nat)))=((s-min s t:Nat):Int):=fun _=>by rw[w64 (by omega) (by omega)];omega
  have w2:Unit→wrap64 (L+(t:Int)-(L+(min s t:Nat)))=((t-min s t:Nat):Int):=fun _=>by rw[w64 (by omega) (by omega)];omega
  unfold grottoref03_alike.f
  rw[mn_shift,w1 (),w2 (),up_eq (by omega) (by omega) (by omega),Option.bind_some,up_eq (by omega) (by omega) (by omega),Option.bind_some]
theorem rplus_eq {k:Nat} (hk:2000<k) (p q:Bool) {m n s t:Nat} {L:Int} (hL:-1200≤L) (hL':L≤0) (hm:m<9007199254740992) (hn:n<9007199254740992) (hs:s≤2200) (ht:t≤2200) :
    ∃ neg N,grottoref03_plus.f k (sI p) (digits m) (L+s) (sI q) (digits n) (L+t)=some (sI neg,digits N,L+(min s t:Nat))∧sv neg (N*2^min s t)=sv p (m*2^s)+sv q (n*2^t)∧(digits N).length≤300:=by
  have l1:=digits_pow (m:=m) (s:=s-min s t) hm (by omega)
  have l2:=digits_pow (m:=n) (s:=t-min s t) hn (by omega)
  have e1:m*2^s=m*2^(s-min s t)*2^min s t:=by rw[Nat.mul_assoc,←Nat.pow_add];congr 2;omega
  have e2:n*2^t=n*2^(t-min s t)*2^min s t:=by rw[Nat.mul_assoc,←Nat.pow_add];congr 2;omega
  unfold grottoref03_plus.f
  rw[ralike_eq (by omega) _ _ hL hL' hm hn hs ht,Option.bind_some,e1,e2]
  dsimp only
  generalize m*2^(s-min s t)=A at *
  generalize n*2^(t-min s t)=B at *
  by_cases h:p=q
  · subst h
    have hl:(digits (A+B)).length≤300:=by
      have:=vl_digits A
      have hA:=vl_lt (dig_digits A)
      have hB:=vl_lt (dig_digits B)
      rw[vl_digits] at hA hB
      have hA2:=Nat.lt_of_lt_of_le hA (Nat.pow_le_pow_right (n:=65536) (by omega) l1)
      have hB2:=Nat.lt_of_lt_of_le hB (Nat.pow_le_pow_right (n:=65536) (by omega) l2)
      have h3:65536^143=65536^142*65536:=Nat.pow_succ ..
      exact Nat.le_trans (digits_len (c:=143) (by omega)) (by omega)
    refine⟨p,A+B,?_,?_,hl⟩
    · rw[if_pos rfl,plus_eq (by omega) (by omega) (by omega),Option.bind_some]
    · rw[sv_add_same,←Nat.add_mul]
  · rw[if_neg (fun h2=>h (sI_inj.1 h2)),cmp_eq (by omega) (by omega) (by omega),Option.bind_some]
    have hs:=sv_add_diff h (A*2^min s t) (B*2^min s t)
    by_cases hle:B≤A
    · refine⟨p,A-B,?_,?_,?_⟩
      · have hc:cmp A B≥0:=by unfold cmp;rw[if_neg (by omega)];split <;> omega
        rw[if_pos hc,minus_eq (by omega) hle (by omega),Option.bind_some]
      · rw[hs,if_pos (Nat.mul_le_mul_right _ hle),Nat.sub_mul]
      · exact Nat.le_trans (digits_len_mono (Nat.sub_le _ _)) (by omega)
    · refine⟨q,B-A,?_,?_,?_⟩
      · have hc:¬ cmp A B≥0:=by unfold cmp;rw[if_pos (by omega)];omega
        rw[if_neg hc,minus_eq (by omega) (by omega) (by omega),Option.bind_some]
      · have hp:=two_pos (min s t)
        rw[hs,if_neg (fun h2=>hle (Nat.le_of_mul_le_mul_right h2 hp)),Nat.sub_mul]
      · exact Nat.le_trans (digits_len_mono (Nat.sub_le _ _)) (by omega)
section
variable {M X:Nat} (hM:2≤M) (hM':M≤52) (hX:2≤X) (hX':X≤11)
include hM hM' hX hX'
theorem ropen2 {k:Nat} (hk:68<k) {a b:Nat} (ha:Pt M X a) (hb:Pt M X b):grottoref03_open.f k (M:Int) (X:Int) (a:Int) (b:Int) =
    some (((kd M X a:Nat):Int),sg M X a,ex M X a,((mt M X a:Nat):Int),((kd M X b:Nat):Int),sg M X b,ex M X b,((mt M X b:Nat):Int),0):=by
  have oa:grottoref02_Open.f k (M:Int) (X:Int) (a:Int)=some (((kd M X a:Nat):Int),sg M X a,ex M X a,((mt M X a:Nat):Int),0):=ropen_ok hM hM' hX hX' hk ha
  have ob:grottoref02_Open.f k (M:Int) (X:Int) (b:Int)=some (((kd M X b:Nat):Int),sg M X b,ex M X b,((mt M X b:Nat):Int),0):=ropen_ok hM hM' hX hX' hk hb
  unfold grottoref03_open.f
  rw[oa,Option.bind_some,ob,Option.bind_some]
  rfl
/-- a number that is not infinite, as a whole number and a power -/
theorem opened {x:Nat} (h:kd M X x=1∨kd M X x=2):∃ t:Nat,ex M X x=least M X+t∧t≤2200∧mt M X x<9007199254740992∧av M X x=mt M X x*2^t:=by
  obtain⟨l1,l2,l3⟩:=least_bounds hM hM' hX hX'
  rcases h with h|h
  · obtain⟨e1,e2⟩:=zero_ex (M:=M) (X:=X) (x:=x) (by omega)
    exact⟨(-(least M X)).toNat,by rw[e1];omega,by omega,by rw[e2];omega,by rw[e2,Nat.zero_mul];exact av_zero hM hM' hX hX' h⟩
  · obtain⟨a1,a2,a3,a4,a5⟩:=fin_form hM hM' hX hX' h
    obtain⟨a6,a7⟩:=fin_ex h
    have hM53:2^(M+1)≤9007199254740992:=Nat.pow_le_pow_right (n:=2) (by omega) (show M+1≤53 by omega)
    exact⟨_,a6,by omega,by rw[a7];omega,by rw[a7];exact a5⟩
omit hM hM' hX hX' in
theorem npat_up {N s:Nat}:npat M X N 1 (least M X+(s:Int)-least M X)=pat M (inf M X) (N*2^s) 1:=by
  unfold npat
  have h1:(least M X+(s:Int)-least M X).toNat=s:=by omega
  have h2:(-(least M X+(s:Int)-least M X)).toNat=0:=by omega
  rw[h1,h2]
end
theorem ropen_ng {k:Nat} (hk:68<k) {m x:Int} {a:Nat} (ha:a<18446744073709551616) (h:¬ Good m x a):grottoref02_Open.f k m x (a:Int)=some (0,false,0,0,1):=by
  refine ropen_bad hk ha ?_
  by_cases h1:Ok m x
  · exact Or.inr (Int.not_le.1 fun h2=>h ⟨h1,h2⟩)
  · exact Or.inl h1
theorem ropen2_ng {k:Nat} (hk:68<k) {m x:Int} {a b:Nat} (ha:a<18446744073709551616) (hb:b<18446744073709551616) (h:¬ (Good m x a∧Good m x b)):grottoref03_open.f k m x (a:Int) (b:Int)=some (0,false,0,0,0,false,0,0,1):=by
  unfold grottoref03_open.f
  by_cases h1:Good m x a
  · obtain⟨M,X,rfl,rfl,hM,hM',hX,hX',pa⟩:=h1.nat
    have oa:grottoref02_Open.f k (M:Int) (X:Int) (a:Int)=some (((kd M X a:Nat):Int),sg M X a,ex M X a,((mt M X a:Nat):Int),0):=ropen_ok hM hM' hX hX' hk pa
    rw[oa,Option.bind_some,ropen_ng hk hb (fun h2=>h ⟨h1,h2⟩),Option.bind_some];rfl
  · rw[ropen_ng hk ha h1,Option.bind_some]
    by_cases h2:Good m x b
    · obtain⟨M,X,rfl,rfl,hM,hM',hX,hX',pb⟩:=h2.nat
      have ob:grottoref02_Open.f k (M:Int) (X:Int) (b:Int)=some (((kd M X b:Nat):Int),sg M X b,ex M X b,((mt M X b:Nat):Int),0):=ropen_ok hM hM' hX hX' hk pb
      rw[ob,Option.bind_some];rfl
    · rw[ropen_ng hk hb h2,Option.bind_some];rfl
end Go.Proofs.Ytmmbgbchimangaa.RS
