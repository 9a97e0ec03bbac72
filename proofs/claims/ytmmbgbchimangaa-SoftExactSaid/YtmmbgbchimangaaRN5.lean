import Derived.Test.YtmmbgbchimangaaPQx11
import Derived.Test.YtmmbgbchimangaaRN3
import Derived.Test.YtmmbgbchimangaaRN4
namespace Go.Proofs.Ytmmbgbchimangaa.RS
set_option linter.all false
open Go.RowKit Go.Proofs.Ytmmbgbchimangaa.PQ Go.Proofs.YtmmbgbchimangaaW.PrintWords Go.Proofs.YtmmbgbchimangaaW.PrintLast Go.Proofs.YtmmbgbchimangaaW.PrintMore
open FT
section
variable {M X:Nat} (hM:2≤M) (hM':M≤52) (hX:2≤X) (hX':X≤11)
include hM hM' hX hX'
theorem near_j4 {k:Nat} (hk:66<k) (neg:Bool) {j m:Nat} (hj:j<100000) (hm:m<2^(M+1)) (hjm:j=0∨2^M≤m) :
    grottoref02_Near.j4 k neg (least M X+(j:Int)) (m:Int) (M:Int) (X:Int)=some ((sgn M X neg+min (inf M X) (j*2^M+m):Nat):Int):=by
  obtain⟨k,rfl⟩:∃ i,k=i+1:=⟨k-1,by omega⟩
  obtain⟨l1,l2,l3⟩:=least_bounds hM hM' hX hX'
  have hMp:=two_pos M
  have hM1:2^(M+1)=2*2^M:=by rw[Nat.pow_succ];omega
  have hX4:4≤2^X:=Nat.pow_le_pow_right (n:=2) (by omega) hX
  have hXle:2^X≤2048:=Nat.pow_le_pow_right (n:=2) (by omega) hX'
  have hM52:2^M≤2^52:=Nat.pow_le_pow_right (by omega) hM'
  rw[grottoref02_Near.j4.eq_2,power_eq (by omega) (by omega),Option.bind_some]
  by_cases hs:m<2^M
  · have hj0:j=0:=by omega
    subst hj0
    have hw:=rwhole_eq hM hM' hX hX' (k:=k) (by omega) neg (field:=0) (frac:=m) (two_pos X) hs
    have h0:((0:Nat):Int)=0:=rfl
    rw[h0] at hw
    have hinf:2^M≤inf M X:=by
      unfold inf
      have:1*2^M≤(2^X-1)*2^M:=Nat.mul_le_mul_right _ (by omega)
      omega
    rw[if_pos (by omega),hw,Option.bind_some]
    congr 3
    omega
  · rw[if_neg (by omega),rleast_eq hM hM' hX hX' (by omega),Option.bind_some,power_eq (by omega) (by omega),Option.bind_some]
    have e1:Unit→wrap64 (wrap64 (least M X+(j:Int)-least M X)+1)=((j+1:Nat):Int):=fun _=>by
      rw[w64 (n:=least M X+(j:Int)-least M X) (by omega) (by omega),w64 (by omega) (by omega)];omega
    have e2:Unit→wrap64 (wrap64 ((2^X:Nat):Int)-1)=((2^X-1:Nat):Int):=fun _=>by
      rw[w64 (n:=((2^X:Nat):Int)) (by omega) (by omega),w64 (by omega) (by omega)];omega
    rw[(e1 ()),(e2 ())]
    by_cases hf:2^X-1≤j+1
    · rw[if_pos (by omega),rinf_eq hM hM' hX hX' (by omega),Option.bind_some]
      have:min (inf M X) (j*2^M+m)=inf M X:=by
        have h1:(2^X-1)*2^M≤(j+1)*2^M:=Nat.mul_le_mul_right _ hf
        rw[Nat.add_mul j] at h1
        unfold inf;omega
      rw[this]
    · have e3:Unit→IntKind.u64.wrap ((j+1:Nat):Int)=((j+1:Nat):Int):=fun _=>wuN (n:=j+1) (by omega)
      have e4:Unit→IntKind.u64.wrap ((m:Int)-((2^M:Nat):Int))=((m-2^M:Nat):Int):=fun _=>by rw[wu (by omega) (by omega)];omega
      have hw:=rwhole_eq hM hM' hX hX' (k:=k) (by omega) neg (field:=j+1) (frac:=m-2^M) (by omega) (by omega)
      rw[if_neg (by omega),Option.bind_some,(e3 ()),(e4 ()),hw,Option.bind_some]
      have hmin:min (inf M X) (j*2^M+m)=(j+1)*2^M+(m-2^M):=by
        have h1:(j+1+1)*2^M≤(2^X-1)*2^M:=Nat.mul_le_mul_right _ (by omega)
        rw[Nat.add_mul (j+1),Nat.add_mul j] at h1
        unfold inf;rw[Nat.add_mul j];omega
      rw[hmin]
theorem near_j3 {k:Nat} (hk:67<k) (neg:Bool) {j m:Nat} (hj:j<90000) (hm:m≤2^(M+1)) (hjm:j=0∨2^M≤m) :
    grottoref02_Near.j3 k neg (least M X+(j:Int)) (m:Int) (M:Int) (X:Int)=some ((sgn M X neg+min (inf M X) (j*2^M+m):Nat):Int):=by
  obtain⟨k,rfl⟩:∃ i,k=i+1:=⟨k-1,by omega⟩
  obtain⟨l1,l2,l3⟩:=least_bounds hM hM' hX hX'
  have hMp:=two_pos M
  have hM1:2^(M+1)=2*2^M:=by rw[Nat.pow_succ];omega
  have hM52:2^M≤2^52:=Nat.pow_le_pow_right (by omega) hM'
  have e0:Unit→wrap64 ((M:Int)+1)=((M+1:Nat):Int):=fun _=>by rw[w64 (by omega) (by omega)];omega
  rw[grottoref02_Near.j3.eq_2,(e0 ()),power_eq (by omega) (by omega),Option.bind_some]
  by_cases h:m=2^(M+1)
  · subst h
    have e1:Unit→wrap64 (least M X+(j:Int)+1)=least M X+((j+1:Nat):Int):=fun _=>by rw[w64 (by omega) (by omega)];omega
    have e2:Unit→IntKind.u64.wrap (Int.tdiv ((2^(M+1):Nat):Int) 2)=((2^M:Nat):Int):=fun _=>by
      rw[td2,hM1,Nat.mul_div_cancel_left _ (by omega)];exact wuN (by omega)
    rw[if_pos rfl,(e1 ()),(e2 ()),near_j4 hM hM' hX hX' (by omega) neg (by omega) (by omega) (Or.inr (Nat.le_refl _)),hM1]
    have:(j+1)*2^M+2^M=j*2^M+2*2^M:=by rw[Nat.add_mul];omega
    rw[this]
  · rw[if_neg (by omega)]
    exact near_j4 hM hM' hX hX' (by omega) neg (by omega) (by omega) hjm
theorem near_j2 {k:Nat} (hk:68<k) (neg up:Bool) {j q m:Nat} (hj:j<90000) (hm:m≤2^(M+1)) (hjm:j=0∨2^M≤m) (hq:m=if up then q+1 else q) :
    grottoref02_Near.j2 k neg (least M X+(j:Int)) (q:Int) up (M:Int) (X:Int)=some ((sgn M X neg+min (inf M X) (j*2^M+m):Nat):Int):=by
  obtain⟨k,rfl⟩:∃ i,k=i+1:=⟨k-1,by omega⟩
  have hM53:2^(M+1)≤2^53:=Nat.pow_le_pow_right (by omega) (by omega)
  have hn:=near_j3 hM hM' hX hX' (k:=k) (by omega) neg hj hm hjm
  rw[grottoref02_Near.j2.eq_2]
  cases up
  · rw[if_neg (by simp)]
    simp only[Bool.false_eq_true,if_false] at hq
    rw[←hq];exact hn
  · rw[if_pos rfl]
    simp only[if_true] at hq
    have:IntKind.u64.wrap ((q:Int)+1)=(m:Int):=by rw[wu (by omega) (by omega)];omega
    rw[this];exact hn
omit hM hM' hX hX' in
theorem rne_cmp (n d:Nat):rne n d=if decide (d<2*(n%d)∨(d=2*(n%d)∧(n/d)%2=1))=true then n/d+1 else n/d:=by
  unfold rne;simp only[decide_eq_true_eq]
theorem near_j1 {k:Nat} (hk:500000<k) (neg:Bool) {a b n d j:Nat} {e:Int} (hd:0<d) (hj:j<90000) (hln:(digits n).length≤4900) (hld:(digits d).length≤4900)
    (hfit:n<2^(M+1)*d) (hlow:j=0∨2^M*d≤n) :
    grottoref02_Near.j1 k neg (digits a) (digits b) e (least M X+(j:Int)) (digits d) (digits n) (M:Int) (X:Int)=some ((sgn M X neg+min (inf M X) (j*2^M+rne n d):Nat):Int):=by
  obtain⟨k,rfl⟩:∃ i,k=i+1:=⟨k-1,by omega⟩
  have hq:n/d<2^(M+1):=(Nat.div_lt_iff_lt_mul hd).2 hfit
  have hM53:2^(M+1)≤2^53:=Nat.pow_le_pow_right (by omega) (by omega)
  have hq64:n/d<18446744073709551616:=by omega
  have hr:n%d<d:=Nat.mod_lt _ hd
  have hbl:blen (n/d)≤M+1:=blen_le hq
  have hlq:(digits (n/d)).length≤4:=digits_len (by omega)
  have hlr:(digits (n%d)).length≤4900:=Nat.le_trans (digits_len_mono (Nat.mod_le _ _)) hln
  have hlr2:(digits (n%d*2)).length≤4901:=by
    have:=digits_len_mul (b:=n%d) (n:=1)
    rw[Nat.pow_one] at this;omega
  have e0:Unit→wrap64 ((M:Int)+1)=((M+1:Nat):Int):=fun _=>by rw[w64 (by omega) (by omega)];omega
  have hu:=up_eq (a:=n%d) (n:=1) (k:=k) (by omega) (by omega) (by omega)
  rw[Nat.pow_one] at hu
  have h1:((1:Nat):Int)=1:=rfl
  rw[h1] at hu
  rw[grottoref02_Near.j1.eq_2,quo_eq hd (by omega) (by omega) (by omega),Option.bind_some,bits_eq (by omega) (by omega),Option.bind_some,(e0 ()),if_pos (by omega),
    small_eq hq64 (by omega),Option.bind_some,hu,Option.bind_some,cmp_eq (by omega) (by omega) (by omega),Option.bind_some]
  have hge:j=0∨2^M≤n/d:=by
    rcases hlow with h|h
    · exact Or.inl h
    · right;rw[Nat.le_div_iff_mul_le hd];exact h
  have hb:=rne_cmp n d
  have fin:∀ up:Bool,up=decide (d<2*(n%d)∨(d=2*(n%d)∧(n/d)%2=1))→grottoref02_Near.j2 k neg (least M X+(j:Int)) ((n/d:Nat):Int) up (M:Int) (X:Int)=some ((sgn M X neg+min (inf M X) (j*2^M+rne n d):Nat):Int):=by
    intro up hup
    refine near_j2 hM hM' hX hX' (by omega) neg up hj ?_ ?_ (by rw[hup];exact hb)
    · rw[hb];split <;> omega
    · rcases hge with h|h
      · exact Or.inl h
      · right;rw[hb];split <;> omega
  unfold cmp
  by_cases c1:n%d*2<d
  · rw[if_pos c1,if_neg (by omega),if_neg (by omega)]
    exact fin _ (by rw[eq_comm,decide_eq_false_iff_not];omega)
  · by_cases c2:d<n%d*2
    · rw[if_neg c1,if_pos c2,if_pos (by omega)]
      exact fin _ (by rw[eq_comm,decide_eq_true_eq];omega)
    · rw[if_neg c1,if_neg c2,if_neg (by omega),if_pos rfl]
      refine fin _ ?_
      have ht:Int.tmod ((n/d:Nat):Int) 2=((n/d%2:Nat):Int):=tmod_nat _ 2
      rw[ht]
      by_cases c3:n/d%2=1
      · rw[c3,decide_eq_true (by omega)];rfl
      · rw[decide_eq_false (by omega),show n/d%2=0 by omega];rfl
theorem near_l0 {k:Nat} (hk:500001<k) (neg:Bool) {a b:Nat} {e u:Int} {j:Nat} (hu:u=least M X+(j:Int)) (hb:0<b) (hj:j<80000) (he:-20000≤e) (he':e≤20000)
    (hue:u-e≤40000) (hla:(digits a).length≤2000) (hlb:(digits b).length≤2000)
    (hfit:a*2^(e-u).toNat<2^(M+1)*(b*2^(u-e).toNat)) (hlow:j=0∨2^M*(b*2^(u-e).toNat)≤a*2^(e-u).toNat) :
    grottoref02_Near.l0 k neg (digits a) (digits b) e u (M:Int) (X:Int)=some ((sgn M X neg+npat M X a b (e-least M X):Nat):Int):=by
  obtain⟨k,rfl⟩:∃ i,k=i+1:=⟨k-1,by omega⟩
  obtain⟨l1,l2,l3⟩:=least_bounds hM hM' hX hX'
  have hln:=digits_len_mul (b:=a) (n:=(e-u).toNat)
  have hld:=digits_len_mul (b:=b) (n:=(u-e).toNat)
  have hn:npat M X a b (e-least M X)=min (inf M X) (j*2^M+rne (a*2^(e-u).toNat) (b*2^(u-e).toNat)):=by
    unfold npat pat
    rw[raw_of hb j _ _ (Nat.mul_pos hb (two_pos _)) ?_ hfit hlow]
    have h:(e-least M X).toNat+(u-e).toNat=(e-u).toNat+j+(-(e-least M X)).toNat:=by omega
    have e1:a*2^(e-least M X).toNat*(b*2^(u-e).toNat)=a*b*2^((e-least M X).toNat+(u-e).toNat):=by rw[Nat.pow_add];ac_rfl
    have e2:a*2^(e-u).toNat*2^j*(b*2^(-(e-least M X)).toNat)=a*b*2^((e-u).toNat+j+(-(e-least M X)).toNat):=by rw[Nat.pow_add,Nat.pow_add];ac_rfl
    rw[e1,e2,h]
  have hj1:=near_j1 hM hM' hX hX' (k:=k) (by omega) neg (a:=a) (b:=b) (e:=e) (Nat.mul_pos hb (two_pos (u-e).toNat)) (by omega) (by omega) (by omega) hfit hlow
  rw[←hn,←hu] at hj1
  rw[grottoref02_Near.l0.eq_2]
  by_cases h:u>e
  · have ew:Unit→wrap64 (u-e)=(((u-e).toNat:Nat):Int):=fun _=>by rw[w64 (by omega) (by omega)];omega
    have e0:(e-u).toNat=0:=by omega
    rw[e0,Nat.pow_zero,Nat.mul_one] at hj1
    rw[if_pos h,(ew ()),up_eq (by omega) (by omega) (by omega),Option.bind_some]
    exact hj1
  · have ew:Unit→wrap64 (e-u)=(((e-u).toNat:Nat):Int):=fun _=>by rw[w64 (by omega) (by omega)];omega
    have e0:(u-e).toNat=0:=by omega
    rw[e0,Nat.pow_zero,Nat.mul_one] at hj1
    rw[if_neg h,(ew ()),up_eq (by omega) (by omega) (by omega),Option.bind_some]
    exact hj1
/-- one bit too many: the next unit -/
theorem near_skip {k:Nat} (hk:500001<k) (neg:Bool) {a b:Nat} {e u:Int} (hb:0<b) (he:-20000≤e) (he':e≤20000)
    (hue:u-e≤40000) (heu:e-u≤40000) (hla:(digits a).length≤2000) (hlb:(digits b).length≤2000)
    (hfit:2^(M+1)*(b*2^(u-e).toNat)≤a*2^(e-u).toNat) :
    grottoref02_Near.l0 (k+2) neg (digits a) (digits b) e u (M:Int) (X:Int)=grottoref02_Near.l0 k neg (digits a) (digits b) e (u+1) (M:Int) (X:Int):=by
  have hln:=digits_len_mul (b:=a) (n:=(e-u).toNat)
  have hld:=digits_len_mul (b:=b) (n:=(u-e).toNat)
  have hd:0<b*2^(u-e).toNat:=Nat.mul_pos hb (two_pos _)
  have hlq:(digits (a*2^(e-u).toNat/(b*2^(u-e).toNat))).length≤(digits (a*2^(e-u).toNat)).length:=digits_len_mono (Nat.div_le_self _ _)
  have hq:M+2≤blen (a*2^(e-u).toNat/(b*2^(u-e).toNat)):=by
    have h1:2^(M+1)≤a*2^(e-u).toNat/(b*2^(u-e).toNat):=(Nat.le_div_iff_mul_le hd).2 hfit
    refine Nat.le_of_not_lt fun hlt=>?_
    have h2:=blen_lt (a*2^(e-u).toNat/(b*2^(u-e).toNat))
    have h3:=Nat.pow_le_pow_right (n:=2) (by omega) (show blen (a*2^(e-u).toNat/(b*2^(u-e).toNat))≤M+1 by omega)
    exact absurd (Nat.lt_of_lt_of_le h2 h3) (Nat.not_lt.2 h1)
  have e0:Unit→wrap64 ((M:Int)+1)=((M+1:Nat):Int):=fun _=>by rw[w64 (by omega) (by omega)];omega
  have e1:Unit→wrap64 (u+1)=u+1:=fun _=>w64 (by omega) (by omega)
  have hj:grottoref02_Near.j1 (k+1) neg (digits a) (digits b) e u (digits (b*2^(u-e).toNat)) (digits (a*2^(e-u).toNat)) (M:Int) (X:Int)=grottoref02_Near.l0 k neg (digits a) (digits b) e (u+1) (M:Int) (X:Int):=by
    rw[grottoref02_Near.j1.eq_2,quo_eq hd (by omega) (by omega) (by omega),Option.bind_some,bits_eq (by omega) (by omega),Option.bind_some,(e0 ()),if_neg (by omega),(e1 ())]
  rw[grottoref02_Near.l0.eq_2]
  by_cases h:u>e
  · have ew:Unit→wrap64 (u-e)=(((u-e).toNat:Nat):Int):=fun _=>by rw[w64 (by omega) (by omega)];omega
    have e0:(e-u).toNat=0:=by omega
    rw[e0,Nat.pow_zero,Nat.mul_one] at hj
    rw[if_pos h,(ew ()),up_eq (by omega) (by omega) (by omega),Option.bind_some]
    exact hj
  · have ew:Unit→wrap64 (e-u)=(((e-u).toNat:Nat):Int):=fun _=>by rw[w64 (by omega) (by omega)];omega
    have e0:(u-e).toNat=0:=by omega
    rw[e0,Nat.pow_zero,Nat.mul_one] at hj
    rw[if_neg h,(ew ()),up_eq (by omega) (by omega) (by omega),Option.bind_some]
    exact hj
omit hM hM' hX hX' in
theorem near_up {a b i j p:Nat} (ha:a<2^i) (hb:2^j≤b) {x y:Nat} (h:i+x≤p+j+y):a*2^x<2^p*(b*2^y):=by
  have h1:a*2^x<2^i*2^x:=Nat.mul_lt_mul_of_pos_right ha (two_pos x)
  have h2:2^p*(2^j*2^y)≤2^p*(b*2^y):=Nat.mul_le_mul_left _ (Nat.mul_le_mul_right _ hb)
  have h3:2^(i+x)≤2^(p+j+y):=Nat.pow_le_pow_right (by omega) h
  rw[Nat.pow_add] at h3
  rw[Nat.pow_add,Nat.pow_add,Nat.mul_assoc] at h3
  exact Nat.lt_of_lt_of_le h1 (Nat.le_trans h3 h2)
omit hM hM' hX hX' in
theorem near_dn {a b i j p:Nat} (ha:2^i≤a) (hb:b<2^j) {x y:Nat} (h:p+j+y≤i+x):2^p*(b*2^y)≤a*2^x:=by
  have h1:2^i*2^x≤a*2^x:=Nat.mul_le_mul_right _ ha
  have h2:2^p*(b*2^y)≤2^p*(2^j*2^y):=Nat.mul_le_mul_left _ (Nat.mul_le_mul_right _ (Nat.le_of_lt hb))
  have h3:2^(p+j+y)≤2^(i+x):=Nat.pow_le_pow_right (by omega) h
  rw[Nat.pow_add 2 i x] at h3
  rw[Nat.pow_add,Nat.pow_add,Nat.mul_assoc] at h3
  exact Nat.le_trans h2 (Nat.le_trans h3 h1)
omit hM hM' hX hX' in
theorem near_half {a b p:Nat} {e u:Int}:(2^(p+1)*(b*2^(u-e).toNat)≤a*2^(e-u).toNat→2^p*(b*2^(u+1-e).toNat)≤a*2^(e-(u+1)).toNat) ∧
    (a*2^(e-u).toNat<2^(p+1)*(b*2^(u-e).toNat)→a*2^(e-(u+1)).toNat<2^p*(b*2^(u+1-e).toNat)):=by
  have e0:2^(p+1)=2*2^p:=by rw[Nat.pow_succ];omega
  rw[e0]
  by_cases h:e≤u
  · have e1:(e-u).toNat=0:=by omega
    have e2:(e-(u+1)).toNat=0:=by omega
    have e3:(u+1-e).toNat=(u-e).toNat+1:=by omega
    rw[e1,e2,e3,Nat.pow_zero,Nat.mul_one,Nat.pow_succ]
    have:2^p*(b*(2^(u-e).toNat*2))=2*2^p*(b*2^(u-e).toNat):=by ac_rfl
    rw[this];exact⟨id,id⟩
  · have e1:(u-e).toNat=0:=by omega
    have e2:(u+1-e).toNat=0:=by omega
    have e3:(e-u).toNat=(e-(u+1)).toNat+1:=by omega
    rw[e1,e2,e3,Nat.pow_zero,Nat.mul_one,Nat.pow_succ]
    have e4:a*(2^(e-(u+1)).toNat*2)=2*(a*2^(e-(u+1)).toNat):=by ac_rfl
    have e5:2*2^p*b=2*(2^p*b):=by ac_rfl
    rw[e4,e5];constructor <;> intro h <;> omega
/-- THE NEAREST PATTERN: of a / b times 2 to the power e -/
theorem near_eq {k:Nat} (hk:500100<k) (neg:Bool) {a b:Nat} {e:Int} (hb:0<b) (he:-20000≤e) (he':e≤20000) (hla:(digits a).length≤1000) (hlb:(digits b).length≤1000) :
    grottoref02_Near.f k (M:Int) (X:Int) neg (digits a) (digits b) e=some ((sgn M X neg+npat M X a b (e-least M X):Nat):Int):=by
  obtain⟨l1,l2,l3⟩:=least_bounds hM hM' hX hX'
  have ba:=blen_digits a
  have bb:=blen_digits b
  unfold grottoref02_Near.f
  rw[trim_digits (by omega) (by omega),Option.bind_some]
  by_cases h0:a=0
  · subst h0
    rw[digits_zero,if_pos (by rfl),rzero_eq hM hM' hX hX' (by omega),Option.bind_some]
    have hz:npat M X 0 b (e-least M X)=0:=by
      unfold npat pat
      have:=raw_of (M:=M) (a:=0) (b:=b) (s:=e-least M X) hb 0 0 1 (by omega) (by simp) (by have:=two_pos (M+1);omega) (Or.inl rfl)
      rw[this]
      have:rne 0 1=0:=rne_whole (m:=0) (d:=1) (by omega)
      rw[this];omega
    rw[hz];rfl
  · have hdl:(digits a).length≠0:=by rw[digits_pos h0];simp
    have hbp:=blen_pos h0
    have hb0:b≠0:=by omega
    have hbb:=blen_pos hb0
    have a1:=blen_lt a
    have a2:=blen_ge h0
    have b1:=blen_lt b
    have b2:=blen_ge hb0
    rw[if_neg (by omega),bits_eq (by omega) (by omega),Option.bind_some,bits_eq (by omega) (by omega),Option.bind_some,rleast_eq hM hM' hX hX' (by omega),Option.bind_some]
    have ew:Unit→wrap64 (wrap64 (wrap64 (wrap64 (((blen a:Nat):Int)-((blen b:Nat):Int))+e)-(M:Int))-1)=(blen a:Int)-blen b+e-M-1:=fun _=>by
      rw[w64 (n:=((blen a:Nat):Int)-((blen b:Nat):Int)) (by omega) (by omega),w64 (n:=((blen a:Nat):Int)-((blen b:Nat):Int)+e) (by omega) (by omega),
        w64 (n:=((blen a:Nat):Int)-((blen b:Nat):Int)+e-(M:Int)) (by omega) (by omega),w64 (by omega) (by omega)]
    rw[(ew ()),mx_int]
    obtain⟨u,hu⟩:∃ u,max ((blen a:Int)-blen b+e-M-1) (least M X)=u:=⟨_,rfl⟩
    rw[hu]
    obtain⟨j,hj⟩:∃ j:Nat,u=least M X+(j:Int):=⟨(u-least M X).toNat,by omega⟩
    have hju:j=0∨u=(blen a:Int)-blen b+e-M-1:=by omega
    have hlow:j=0∨2^M*(b*2^(u-e).toNat)≤a*2^(e-u).toNat:=by
      rcases hju with h|h
      · exact Or.inl h
      · right;exact near_dn a2 b1 (by omega)
    by_cases hfit:a*2^(e-u).toNat<2^(M+1)*(b*2^(u-e).toNat)
    · exact near_l0 hM hM' hX hX' (by omega) neg hj hb (by omega) he he' (by omega) (by omega) (by omega) hfit hlow
    · obtain⟨k,rfl⟩:∃ i,k=i+2:=⟨k-2,by omega⟩
      rw[near_skip hM hM' hX hX' (by omega) neg hb he he' (by omega) (by omega) (by omega) (by omega) (by omega)]
      have hj1:u+1=least M X+((j+1:Nat):Int):=by omega
      have h2:=(near_half (a:=a) (b:=b) (p:=M) (e:=e) (u:=u)).1 (by omega)
      have h3:=(near_half (a:=a) (b:=b) (p:=M+1) (e:=e) (u:=u)).2 (near_up a1 b2 (by omega))
      exact near_l0 hM hM' hX hX' (by omega) neg hj1 hb (by omega) he he' (by omega) (by omega) (by omega) h3 (Or.inr h2)
end
end Go.Proofs.Ytmmbgbchimangaa.RS
