import Derived.Test.YtmmbgbchimangaaPQx8
import Derived.Test.YtmmbgbchimangaaRO
import Derived.Test.YtmmbgbchimangaaRN2
namespace Go.Proofs.Ytmmbgbchimangaa.RS
set_option linter.all false
open Go.RowKit Go.Proofs.Ytmmbgbchimangaa.PQ Go.Proofs.YtmmbgbchimangaaW.PrintWords Go.Proofs.YtmmbgbchimangaaW.PrintLast Go.Proofs.YtmmbgbchimangaaW.PrintMore
open FT
theorem exo_wrap {q B M:Nat} {L:Int} (hB:B≤1100) (hq:1≤q) (hq':q≤2048) (hM:M≤52) (l3:L+(B:Int)+M=1):wrap64 (wrap64 (wrap64 (q:Int)-(B:Int))-(M:Int))=L+((q-1:Nat):Int):=by
  rw[w64 (n:=(q:Int)) (by omega) (by omega),w64 (n:=(q:Int)-(B:Int)) (by omega) (by omega),w64 (by omega) (by omega)];omega
section
variable {M X:Nat} (hM:2≤M) (hM':M≤52) (hX:2≤X) (hX':X≤11)
include hM hM' hX hX'
theorem rcheck_ok:grottoref02_Check.f (M:Int) (X:Int)=some 0:=by
  unfold grottoref02_Check.f
  rw[if_neg (by omega),if_neg (by omega),if_neg (by omega),if_neg (by omega)]
theorem rbias_eq {k:Nat} (hk:64<k):grottoref02_Bias.f k (M:Int) (X:Int)=some ((2^(X-1)-1:Nat):Int):=by
  have hb:2^(X-1)≤1024:=Nat.le_trans (Nat.pow_le_pow_right (by omega) (show X-1≤10 by omega)) (by decide)
  have hp:=two_pos (X-1)
  unfold grottoref02_Bias.f
  have ew:Unit→wrap64 ((X:Int)-1)=((X-1:Nat):Int):=fun _=>by rw[w64 (by omega) (by omega)];omega
  rw[(ew ()),power_eq (by omega) (by omega),Option.bind_some,w64 (n:=((2^(X-1):Nat):Int)) (by omega) (by omega),w64 (by omega) (by omega)]
  congr 1;omega
theorem rleast_eq {k:Nat} (hk:64<k):grottoref02_Least.f k (M:Int) (X:Int)=some (least M X):=by
  obtain⟨l1,l2,l3⟩:=least_bounds hM hM' hX hX'
  unfold grottoref02_Least.f
  rw[rbias_eq hM hM' hX hX' hk,Option.bind_some,w64 (n:=1-((2^(X-1)-1:Nat):Int)) (by omega) (by omega),w64 (by omega) (by omega)]
  rfl
theorem rwhole_eq {k:Nat} (hk:64<k) (neg:Bool) {field frac:Nat} (hf:field<2^X) (hr:frac<2^M) :
    grottoref02_Whole.f k (M:Int) (X:Int) neg (field:Int) (frac:Int)=some ((sgn M X neg+(field*2^M+frac):Nat):Int):=by
  have hp:=pow_lt (k:=M+X) (by omega)
  have hp2:2^(M+X)*2≤18446744073709551616:=by
    have:=Nat.pow_le_pow_right (n:=2) (by omega) (show M+X+1≤64 by omega)
    rw[Nat.pow_succ] at this;omega
  have hMX:2^(M+X)=2^X*2^M:=by rw[Nat.pow_add,Nat.mul_comm]
  have h1:(field+1)*2^M≤2^X*2^M:=Nat.mul_le_mul_right _ (by omega)
  rw[Nat.add_mul] at h1
  unfold grottoref02_Whole.f
  rw[power_eq (by omega) (by omega),Option.bind_some]
  have e1:Unit→IntKind.u64.wrap ((field:Int)*((2^M:Nat):Int))=((field*2^M:Nat):Int):=fun _=>by
    have:((field:Int)*((2^M:Nat):Int))=((field*2^M:Nat):Int):=by simp
    rw[this];exact wuN (by omega)
  have e2:Unit→IntKind.u64.wrap (((field*2^M:Nat):Int)+(frac:Int))=((field*2^M+frac:Nat):Int):=fun _=>wuN (n:=field*2^M+frac) (by omega)
  rw[(e1 ()),(e2 ())]
  unfold sgn
  cases neg
  · rw[if_neg (by simp)];simp
  · have ew:Unit→wrap64 ((M:Int)+(X:Int))=((M+X:Nat):Int):=fun _=>by rw[w64 (by omega) (by omega)];omega
    rw[if_pos rfl,(ew ()),power_eq (by omega) (by omega),Option.bind_some,if_pos rfl]
    have e3:Unit→IntKind.u64.wrap (((field*2^M+frac:Nat):Int)+((2^(M+X):Nat):Int))=((2^(M+X)+(field*2^M+frac):Nat):Int):=fun _=>by
      rw[wu (by omega) (by omega)];omega
    rw[(e3 ())]
theorem rinf_eq {k:Nat} (hk:64<k) (neg:Bool):grottoref02_Inf.f k (M:Int) (X:Int) neg=some ((sgn M X neg+inf M X:Nat):Int):=by
  have hp:=pow_lt (k:=X) (by omega)
  have hXp:=two_pos X
  unfold grottoref02_Inf.f
  rw[power_eq (by omega) (by omega),Option.bind_some]
  have e:((2^X:Nat):Int)-1=((2^X-1:Nat):Int):=by omega
  have:=rwhole_eq hM hM' hX hX' hk neg (field:=2^X-1) (frac:=0) (by omega) (two_pos M)
  rw[e,wuN (by omega)]
  have h0:((0:Nat):Int)=0:=rfl
  rw[h0] at this
  rw[this];rfl
theorem rzero_eq {k:Nat} (hk:64<k) (neg:Bool):grottoref02_Zero.f k (M:Int) (X:Int) neg=some ((sgn M X neg:Nat):Int):=by
  unfold grottoref02_Zero.f
  have:=rwhole_eq hM hM' hX hX' hk neg (field:=0) (frac:=0) (two_pos X) (two_pos M)
  have h0:((0:Nat):Int)=0:=rfl
  rw[h0] at this
  rw[this];simp
theorem rnan_eq {k:Nat} (hk:64<k):grottoref02_NaN.f k (M:Int) (X:Int)=some ((inf M X+2^(M-1):Nat):Int):=by
  have hp:=pow_lt (k:=X) (by omega)
  have hXp:=two_pos X
  have hm:2^(M-1)<2^M:=Nat.pow_lt_pow_right (by omega) (by omega)
  unfold grottoref02_NaN.f
  have ew:Unit→wrap64 ((M:Int)-1)=((M-1:Nat):Int):=fun _=>by rw[w64 (by omega) (by omega)];omega
  rw[power_eq (by omega) (by omega),Option.bind_some,(ew ()),power_eq (by omega) (by omega),Option.bind_some]
  have e:((2^X:Nat):Int)-1=((2^X-1:Nat):Int):=by omega
  have:=rwhole_eq hM hM' hX hX' hk false (field:=2^X-1) (frac:=2^(M-1)) (by omega) hm
  rw[e,wuN (by omega),this,Option.bind_some]
  have hs:sgn M X false=0:=rfl
  rw[hs,Nat.zero_add];rfl
theorem ropen_j1 {k:Nat} (hk:65<k) (neg:Bool) {y:Nat} (hy:y<inf M X) :
    grottoref02_Open.j1 k ((y%2^M:Nat):Int) ((y/2^M:Nat):Int) (decide (y=0)) (M:Int) (X:Int) 0 neg 0 0 =
      some (((kind M X y:Nat):Int),neg,exo M X y,((mnt M X y:Nat):Int),0):=by
  obtain⟨k,rfl⟩:∃ j,k=j+1:=⟨k-1,by omega⟩
  obtain⟨l1,l2,l3⟩:=least_bounds hM hM' hX hX'
  have hMp:=two_pos M
  have hdm:=Nat.div_add_mod y (2^M)
  have hr:y%2^M<2^M:=Nat.mod_lt _ hMp
  have hq:y/2^M<2^X-1:=(Nat.div_lt_iff_lt_mul hMp).2 hy
  have hXle:2^X≤2048:=Nat.pow_le_pow_right (n:=2) (by omega) hX'
  have hM52:2^M≤2^52:=Nat.pow_le_pow_right (by omega) hM'
  rw[grottoref02_Open.j1.eq_2]
  by_cases h0:y=0
  · subst h0
    have hk:kind M X 0=1:=by unfold kind;rw[if_neg (by omega),if_neg (by omega),if_pos rfl]
    rw[if_pos (by simp)]
    unfold exo mnt
    rw[hk];rfl
  · have hk:kind M X y=2:=by unfold kind;rw[if_neg (by omega),if_neg (by omega),if_neg h0]
    rw[if_neg (by simpa using h0)]
    have he:exo M X y=least M X+(sh M y:Int):=by unfold exo;rw[if_pos hk]
    have hm:mnt M X y=man M y:=by unfold mnt;rw[if_pos hk]
    rw[hk,he,hm]
    by_cases hf:y/2^M=0
    · rw[if_pos (by omega),rleast_eq hM hM' hX hX' (by omega),Option.bind_some]
      have hs:sh M y=0:=by unfold sh;omega
      have hmn:man M y=y:=by have:=man_add M y;rw[hs] at this;omega
      have hym:y%2^M=y:=by rw[hf] at hdm;omega
      rw[hs,hmn,hym];simp
    · rw[if_neg (nat0 hf),power_eq (by omega) (by omega),Option.bind_some,rbias_eq hM hM' hX hX' (by omega),Option.bind_some]
      have hs:sh M y=y/2^M-1:=rfl
      have hqp:1≤y/2^M:=Nat.pos_of_ne_zero hf
      have hq2:y/2^M≤2048:=Nat.le_trans (Nat.le_of_lt hq) (by omega)
      have hB:2^(X-1)-1≤1100:=by omega
      have hmn:man M y=2^M+y%2^M:=by
        have h1:=man_add M y
        rw[hs] at h1
        obtain⟨t,ht⟩:∃ t,y/2^M=t+1:=Nat.exists_eq_succ_of_ne_zero hf
        rw[ht] at h1 hdm
        rw[Nat.mul_add,Nat.mul_comm (2^M) t] at hdm
        simp only[Nat.add_sub_cancel] at h1
        omega
      have e2:Unit→IntKind.u64.wrap (((2^M:Nat):Int)+((y%2^M:Nat):Int))=((2^M+y%2^M:Nat):Int):=fun _=>wuN (n:=2^M+y%2^M) (by omega)
      rw[exo_wrap hB hqp hq2 hM' l3,(e2 ()),hs,hmn];rfl
theorem ropen_ok {k:Nat} (hk:68<k) {x:Nat} (hx:x<2^(M+X)*2) :
    grottoref02_Open.f k (M:Int) (X:Int) (x:Int)=some (((kind M X (x%2^(M+X)):Nat):Int),decide (2^(M+X)≤x),exo M X (x%2^(M+X)),((mnt M X (x%2^(M+X)):Nat):Int),0):=by
  have hp:=pow_lt (k:=M+X) (by omega)
  have hp2:2^(M+X)*2≤18446744073709551616:=by
    have:=Nat.pow_le_pow_right (n:=2) (by omega) (show M+X+1≤64 by omega)
    rw[Nat.pow_succ] at this;omega
  have hMp:=two_pos M
  have hXp:=two_pos X
  have hpX:=pow_lt (k:=X) (by omega)
  have hMX:2^(M+X)=2^X*2^M:=by rw[Nat.pow_add,Nat.mul_comm]
  have hle:x/2^M≤x:=Nat.div_le_self _ _
  have hle2:x/2^M/2^X≤x/2^M:=Nat.div_le_self _ _
  have e1:Unit→IntKind.u64.wrap (Int.tdiv (x:Int) ((2^M:Nat):Int))=((x/2^M:Nat):Int):=fun _=>by rw[tdiv_nat];exact wuN (by omega)
  have e2:Unit→IntKind.u64.wrap (Int.tdiv ((x/2^M:Nat):Int) ((2^X:Nat):Int))=((x/2^M/2^X:Nat):Int):=fun _=>by rw[tdiv_nat];exact wuN (by omega)
  have hdd:x/2^M/2^X=x/2^(M+X):=by rw[Nat.div_div_eq_div_mul,←Nat.pow_add]
  have hd2:x/2^(M+X)<2:=(Nat.div_lt_iff_lt_mul (two_pos _)).2 (by omega)
  unfold grottoref02_Open.f
  rw[rcheck_ok hM hM' hX hX',Option.bind_some,if_pos rfl]
  simp only[power_eq (show M≤63 by omega) (show M<k by omega),power_eq (show X≤63 by omega) (show X<k by omega),Option.bind_some]
  rw[if_neg (by omega),if_neg (by omega),if_neg (by omega),if_neg (by omega),(e1 ()),(e2 ()),hdd,if_neg (by omega),tmod_nat,tmod_nat]
  obtain⟨y,hy⟩:∃ y,x%2^(M+X)=y:=⟨_,rfl⟩
  have ef:x/2^M%2^X=y/2^M:=by rw[←hy,Nat.pow_add,Nat.mod_mul_right_div_self]
  have er:x%2^M=y%2^M:=by rw[←hy];exact (Nat.mod_mod_of_dvd x (Nat.pow_dvd_pow 2 (by omega))).symm
  have en:(((x/2^(M+X):Nat):Int)==1)=decide (2^(M+X)≤x):=by
    by_cases h:2^(M+X)≤x
    · have:x/2^(M+X)=1:=by
        have:=(Nat.le_div_iff_mul_le (two_pos (M+X)) (x:=1) (y:=x)).2 (by omega)
        omega
      rw[this];simp[h]
    · have:x/2^(M+X)=0:=Nat.div_eq_of_lt (by omega)
      rw[this];simp[h]
  have eX:Unit→IntKind.u64.wrap (((2^X:Nat):Int)-1)=((2^X-1:Nat):Int):=fun _=>by
    have e:((2^X:Nat):Int)-1=((2^X-1:Nat):Int):=by omega
    rw[e];exact wuN (by omega)
  rw[ef,er,en,(eX ()),hy]
  have hdm:=Nat.div_add_mod y (2^M)
  have hr:y%2^M<2^M:=Nat.mod_lt _ hMp
  have hylt:y<2^(M+X):=by rw[←hy];exact Nat.mod_lt _ (two_pos _)
  have hinf:inf M X=(2^X-1)*2^M:=rfl
  have e5:=beq0 (y%2^M)
  obtain⟨k,rfl⟩:∃ j,k=j+1:=⟨k-1,by omega⟩
  rw[e5]
  by_cases ht:y/2^M=2^X-1
  · have hyi:y=inf M X+y%2^M:=by rw[hinf,←ht,Nat.mul_comm];exact hdm.symm
    have hge:inf M X≤y:=by rw[hyi];exact Nat.le_add_right _ _
    have hx3:∀ n,kind M X y=n→n≠2→exo M X y=0∧mnt M X y=0:=by
      intro n h hn
      unfold exo mnt
      rw[if_neg (by omega),if_neg (by omega)];exact⟨rfl,rfl⟩
    rw[if_pos (nate ht),grottoref02_Open.j0.eq_2]
    by_cases hz:y%2^M=0
    · have hk:kind M X y=3:=by unfold kind;rw[if_pos (by omega)]
      obtain⟨h1,h2⟩:=hx3 3 hk (by omega)
      rw[if_pos (by simpa using hz),hk,h1,h2];rfl
    · have hk:kind M X y=4:=by unfold kind;rw[if_neg (by omega),if_pos (by omega)]
      obtain⟨h1,h2⟩:=hx3 4 hk (by omega)
      rw[if_neg (by simpa using hz),power_eq (by omega) (by omega),Option.bind_some,(eX ()),if_pos (nate ht),hk,h1,h2];rfl
  · have hlt:y<inf M X:=by
      rw[hinf]
      have hf:y/2^M<2^X:=(Nat.div_lt_iff_lt_mul hMp).2 (by omega)
      have h1:y/2^M+1≤2^X-1:=by omega
      have h2:(y/2^M+1)*2^M≤(2^X-1)*2^M:=Nat.mul_le_mul_right _ h1
      rw[Nat.add_mul,Nat.mul_comm (y/2^M)] at h2;omega
    rw[if_neg (natn ht),grottoref02_Open.j0.eq_2,if_neg (by simp),power_eq (by omega) (by omega),Option.bind_some,(eX ()),if_neg (natn ht)]
    have hj:=ropen_j1 hM hM' hX hX' (k:=k) (by omega) (decide (2^(M+X)≤x)) hlt
    by_cases hf:y/2^M=0
    · rw[if_pos (natz hf),e5]
      have:decide (y%2^M=0)=decide (y=0):=by
        rw[hf,Nat.mul_zero,Nat.zero_add] at hdm
        rw[hdm]
      rw[this];exact hj
    · rw[if_neg (nat0 hf)]
      have hd:decide (y=0)=false:=by
        refine decide_eq_false ?_
        intro h;apply hf;rw[h];simp
      rw[hd] at hj;exact hj
end
theorem rcheck_bad {m x:Int} (h:¬ Ok m x):grottoref02_Check.f m x=some 1:=by
  unfold Ok at h
  unfold grottoref02_Check.f
  by_cases h1:m<2
  · rw[if_pos h1]
  · rw[if_neg h1]
    by_cases h2:m>52
    · rw[if_pos h2]
    · rw[if_neg h2]
      by_cases h3:x<2
      · rw[if_pos h3]
      · rw[if_neg h3,if_pos (by omega)]
theorem ropen_bad {k:Nat} (hk:68<k) {m x:Int} {a:Nat} (ha:a<18446744073709551616) (h:¬ Ok m x∨1+x+m<(blen a:Int)) :
    grottoref02_Open.f k m x (a:Int)=some (0,false,0,0,1):=by
  unfold grottoref02_Open.f
  by_cases hv:Ok m x
  · obtain⟨M,X,rfl,rfl,hM,hM',hX,hX'⟩:=hv.nat
    have hb:1+(X:Int)+M<(blen a:Int):=by
      rcases h with h|h
      · exact absurd hv h
      · exact h
    have ha0:a≠0:=by intro h;subst h;simp[blen] at hb;omega
    have hge:=blen_ge ha0
    have hpp:2^(M+X+1)≤a:=Nat.le_trans (Nat.pow_le_pow_right (by omega) (by omega)) hge
    have hMp:=two_pos M
    have hXp:=two_pos X
    have hle:a/2^M≤a:=Nat.div_le_self _ _
    have hle2:a/2^M/2^X≤a/2^M:=Nat.div_le_self _ _
    have e1:Unit→IntKind.u64.wrap (Int.tdiv (a:Int) ((2^M:Nat):Int))=((a/2^M:Nat):Int):=fun _=>by rw[tdiv_nat];exact wuN (by omega)
    have e2:Unit→IntKind.u64.wrap (Int.tdiv ((a/2^M:Nat):Int) ((2^X:Nat):Int))=((a/2^M/2^X:Nat):Int):=fun _=>by rw[tdiv_nat];exact wuN (by omega)
    have hdd:a/2^M/2^X=a/2^(M+X):=by rw[Nat.div_div_eq_div_mul,←Nat.pow_add]
    have h2:2≤a/2^(M+X):=by
      rw[Nat.le_div_iff_mul_le (two_pos _)];rw[Nat.pow_succ] at hpp;omega
    rw[rcheck_ok hM hM' hX hX',Option.bind_some,if_pos rfl]
    simp only[power_eq (show M≤63 by omega) (show M<k by omega),power_eq (show X≤63 by omega) (show X<k by omega),Option.bind_some]
    rw[if_neg (by omega),if_neg (by omega),if_neg (by omega),if_neg (by omega),(e1 ()),(e2 ()),hdd,if_pos (by omega)]
  · rw[rcheck_bad hv,Option.bind_some,if_neg (by decide)]
end Go.Proofs.Ytmmbgbchimangaa.RS
