import Derived.Test.YtmmbgbchimangaaPQx1
import Derived.Test.YtmmbgbchimangaaPQx2
import Derived.Test.YtmmbgbchimangaaRL
namespace Go.Proofs.Ytmmbgbchimangaa.RS
set_option linter.all false
open Go.RowKit Go.Proofs.Ytmmbgbchimangaa.PQ Go.Proofs.YtmmbgbchimangaaW.PrintWords Go.Proofs.YtmmbgbchimangaaW.PrintLast Go.Proofs.YtmmbgbchimangaaW.PrintMore
open FT
set_option linter.unusedSectionVars false
theorem and_hi (a b i:Nat):a &&& (b*2^i)=((a/2^i) &&& b)*2^i:=by
  apply Nat.eq_of_testBit_eq
  intro j
  rw[←Nat.shiftLeft_eq,←Nat.shiftLeft_eq,Nat.testBit_and,Nat.testBit_shiftLeft,Nat.testBit_shiftLeft,Nat.testBit_and,Nat.testBit_div_two_pow]
  by_cases h:i≤j
  · rw[show j-i+i=j by omega];cases a.testBit j <;> simp
  · simp[h]
/-- what a pattern without its sign is: nothing, a number, infinity, no number -/
def kind (M X y:Nat):Nat:=if y=inf M X then 3 else if inf M X<y then 4 else if y=0 then 1 else 2
def mnt (M X y:Nat):Nat:=if kind M X y=2 then man M y else 0
def exo (M X y:Nat):Int:=if kind M X y=2 then least M X+(sh M y:Int) else 0
section
variable {M X:Nat} (hM:2≤M) (hM':M≤52) (hX:2≤X) (hX':X≤11)
include hM hM' hX hX'
theorem open_j2 (k:Nat) (neg:Bool) {y:Nat} (hy:y<inf M X) :
    round_Open.j2 (k+1) ((y%2^M:Nat):Int) ((y/2^M:Nat):Int) (decide (y=0)) (M:Int) (X:Int) 0 neg 0 0 =
      some (((kind M X y:Nat):Int),neg,exo M X y,((mnt M X y:Nat):Int),0):=by
  obtain⟨l1,l2,l3⟩:=least_bounds hM hM' hX hX'
  have hbe:=bias_eq (M:=M) hX hX'
  have hbb:2^(X-1)-1≤1023:=by
    have hb:2^(X-1)≤1024:=Nat.le_trans (Nat.pow_le_pow_right (by omega) (show X-1≤10 by omega)) (by decide)
    omega
  generalize 2^(X-1)-1=B at l3 hbe hbb
  have hMp:=two_pos M
  have hdm:=Nat.div_add_mod y (2^M)
  have hr:y%2^M<2^M:=Nat.mod_lt _ hMp
  have hq:y/2^M<2^X-1:=(Nat.div_lt_iff_lt_mul hMp).2 hy
  have hXle:2^X≤2048:=Nat.pow_le_pow_right (n:=2) (by omega) hX'
  have hM52:2^M≤2^52:=Nat.pow_le_pow_right (by omega) hM'
  rw[round_Open.j2.eq_2]
  by_cases h0:y=0
  · subst h0
    have hk:kind M X 0=1:=by unfold kind;rw[if_neg (by omega),if_neg (by omega),if_pos rfl]
    rw[if_pos (by simp)]
    unfold exo mnt
    rw[hk];rfl
  · have hk:kind M X y=2:=by unfold kind;rw[if_neg (by omega),if_neg (by omega),if_neg h0]
    rw[if_neg (by simpa using h0)]
    have he:exo M X y=least M X+(sh M y:Int):=by unfold exo;rw[if_pos hk]
    have hm:mnt M X y=man M y:=by unfold mnt;rw[if_pos hk]
    rw[hk,he,hm]
    by_cases hf:y/2^M=0
    · rw[if_pos (by omega),hbe,Option.bind_some]
      have hs:sh M y=0:=by unfold sh;omega
      have hmn:man M y=y:=by have:=man_add M y;rw[hs] at this;omega
      have e1:wrap64 (wrap64 (1-(B:Int))-(M:Int))=least M X:=by
        rw[w64 (n:=1-(B:Int)) (by omega) (by omega),w64 (by omega) (by omega)];omega
      have hym:y%2^M=y:=by rw[hf] at hdm;omega
      rw[e1,hs,hmn,hym];simp
    · have hs:sh M y=y/2^M-1:=rfl
      have hm1:=man_add M y
      have e2:Go.bits .or .u64 ((y%2^M:Nat):Int) (shl .u64 1 (M:Int))=((2^M+y%2^M:Nat):Int):=by
        have hp:=pow_lt (k:=M) (by omega)
        have h:=or_add (a:=1) (i:=M) hr (by omega)
        rw[Nat.one_mul] at h
        rw[shl_one (by omega),bit_or (by omega) hp,Nat.or_comm,←bit_or hp (by omega),h]
      have hmn:man M y=2^M+y%2^M:=by
        rw[hs] at hm1
        obtain⟨t,ht⟩:∃ t,y/2^M=t+1:=Nat.exists_eq_succ_of_ne_zero hf
        rw[ht] at hm1 hdm
        rw[Nat.mul_add,Nat.mul_comm (2^M) t] at hdm
        simp only[Nat.add_sub_cancel] at hm1
        omega
      rw[hs,hmn,e2]
      clear e2 hmn hm1 hs hm he hk hdm hr
      generalize y/2^M=q at hf hq ⊢
      rw[if_neg (show ¬ (q:Int)=0 by omega),if_pos (show 0≤(M:Int) by omega),hbe,Option.bind_some]
      have e1:wrap64 (wrap64 ((q:Int)-(B:Int))-(M:Int))=least M X+((q-1:Nat):Int):=by
        rw[w64 (n:=(q:Int)-(B:Int)) (by omega) (by omega),w64 (by omega) (by omega)];omega
      rw[e1];rfl
theorem open_ok (k:Nat) {x:Nat} (hx:x<2^(M+X)*2) :
    round_Open.f (k+4) (M:Int) (X:Int) (x:Int)=some (((kind M X (x%2^(M+X)):Nat):Int),decide (2^(M+X)≤x),exo M X (x%2^(M+X)),((mnt M X (x%2^(M+X)):Nat):Int),0):=by
  have hp:=pow_lt (k:=M+X) (by omega)
  have hp2:2^(M+X)*2≤18446744073709551616:=by
    have:=Nat.pow_le_pow_right (n:=2) (by omega) (show M+X+1≤64 by omega)
    rw[Nat.pow_succ] at this;omega
  have hxl:x<18446744073709551616:=by omega
  have hMp:=two_pos M
  have hMX:2^(M+X)=2^X*2^M:=by rw[Nat.pow_add,Nat.mul_comm]
  have hbl:blen x≤1+X+M:=blen_le (by rw[show 1+X+M=M+X+1 by omega,Nat.pow_succ];exact hx)
  unfold round_Open.f
  rw[check_ok hM hM' hX hX',Option.bind_some,if_pos rfl,len_eq (k+3) hxl,Option.bind_some]
  have ew:wrap64 (wrap64 (1+(X:Int))+(M:Int))=1+X+M:=by
    rw[w64 (n:=1+(X:Int)) (by omega) (by omega),w64 (by omega) (by omega)]
  rw[ew,decide_eq_false (by omega),round_Open.j0.eq_2,if_neg (by simp),sign_eq hM hM' hX hX',Option.bind_some,if_pos (by omega)]
  simp only[top_eq hM hM' hX hX',Option.bind_some,if_true]
  obtain⟨y,hy⟩:∃ y,x%2^(M+X)=y:=⟨_,rfl⟩
  have hylt:y<2^(M+X):=by rw[←hy];exact Nat.mod_lt _ (two_pos _)
  have hfield:y/2^M<2^X:=(Nat.div_lt_iff_lt_mul hMp).2 (by omega)
  have hXp:=two_pos X
  have hdm:=Nat.div_add_mod y (2^M)
  have hr:y%2^M<2^M:=Nat.mod_lt _ hMp
  have e1:Go.bits .and .u64 (x:Int) (((2^X-1)*2^M:Nat):Int)=((y/2^M*2^M:Nat):Int):=by
    have hb:=top_bound (M:=M) (X:=X)
    rw[bit_and hxl (by omega),and_hi,Nat.and_two_pow_sub_one_eq_mod]
    congr 2
    rw[←hy,Nat.pow_add,Nat.mod_mul_right_div_self]
  have e2:Go.bits .and .u64 (x:Int) (IntKind.u64.wrap (shl .u64 1 (M:Int)-1))=((y%2^M:Nat):Int):=by
    rw[all_bits (by omega) hxl,←hy]
    congr 1
    exact (Nat.mod_mod_of_dvd x (Nat.pow_dvd_pow 2 (by omega))).symm
  have e3:(Go.bits .and .u64 (x:Int) ((2^(M+X):Nat):Int) != 0)=decide (2^(M+X)≤x):=by
    rw[bit_and hxl hp,int_ne,and_pow]
    have hd:x/2^(M+X)<2:=(Nat.div_lt_iff_lt_mul (two_pos _)).2 (by omega)
    by_cases h:2^(M+X)≤x
    · have:x/2^(M+X)=1:=by
        have:=(Nat.le_div_iff_mul_le (two_pos (M+X)) (x:=1) (y:=x)).2 (by omega)
        omega
      rw[this,if_pos rfl];simp[h]
    · have:x/2^(M+X)=0:=Nat.div_eq_of_lt (by omega)
      rw[this,if_neg (by decide)];simp[h]
  have e4:shr .i64 (wrap64 ((y/2^M*2^M:Nat):Int)) (M:Int)=((y/2^M:Nat):Int):=by
    have h1:y/2^M*2^M≤y:=Nat.div_mul_le_self _ _
    have h2:2^(M+X)≤2^63:=Nat.pow_le_pow_right (by omega) (by omega)
    rw[w64 (by omega) (by omega)]
    unfold shr
    have e:min (Int.toNat (M:Int)) IntKind.i64.bits=M:=by simp[IntKind.bits];omega
    rw[e]
    have:((y/2^M*2^M:Nat):Int)/2^M=((y/2^M*2^M/2^M:Nat):Int):=by simp
    rw[this,Nat.mul_div_cancel _ hMp]
  rw[e1,e2,e3,e4,hy]
  have hinf:inf M X=(2^X-1)*2^M:=rfl
  have hcmp:∀ a b:Nat,((a*2^M:Nat):Int)=((b*2^M:Nat):Int)↔a=b:=by
    intro a b
    constructor
    · intro h;exact Nat.eq_of_mul_eq_mul_right hMp (by omega)
    · intro h;rw[h]
  have e5:(((y%2^M:Nat):Int)==0)=decide (y%2^M=0):=by
    by_cases h:y%2^M=0
    · rw[h];simp
    · rw[decide_eq_false h]
      exact beq_eq_false_iff_ne.2 fun h2=>h (Int.ofNat_inj.1 h2)
  rw[e5]
  by_cases ht:y/2^M=2^X-1
  · have hyi:y=inf M X+y%2^M:=by rw[hinf,←ht,Nat.mul_comm];exact hdm.symm
    have hge:inf M X≤y:=by rw[hyi];exact Nat.le_add_right _ _
    clear hinf hp hp2 hxl hbl hMX hx hXp hdm hylt hfield
    have hx3:∀ n,kind M X y=n→n≠2→exo M X y=0∧mnt M X y=0:=by
      intro n h hn
      unfold exo mnt
      rw[if_neg (by rw[h];exact hn),if_neg (by rw[h];exact hn)];exact⟨rfl,rfl⟩
    rw[if_pos ((hcmp _ _).2 ht),round_Open.j1.eq_2]
    by_cases hz:y%2^M=0
    · have hk:kind M X y=3:=by unfold kind;rw[if_pos (by rw[hyi,hz];rfl)]
      obtain⟨h1,h2⟩:=hx3 3 hk (by omega)
      rw[if_pos (by simpa using hz),hk,h1,h2];rfl
    · have hk:kind M X y=4:=by unfold kind;rw[if_neg (by clear e1 e2 e3 e4 e5;omega),if_pos (by clear e1 e2 e3 e4 e5;omega)]
      obtain⟨h1,h2⟩:=hx3 4 hk (by omega)
      rw[if_neg (by simpa using hz)]
      simp only[top_eq hM hM' hX hX',Option.bind_some]
      rw[e1,if_pos ((hcmp _ _).2 ht),hk,h1,h2];rfl
  · have hlt:y<inf M X:=by
      rw[hinf]
      exact (Nat.div_lt_iff_lt_mul hMp).1 (Nat.lt_of_le_of_ne (Nat.le_sub_one_of_lt hfield) ht)
    rw[if_neg (fun h=>ht ((hcmp _ _).1 h)),round_Open.j1.eq_2,if_neg (by simp)]
    simp only[top_eq hM hM' hX hX',Option.bind_some]
    rw[e1,if_neg (fun h=>ht ((hcmp _ _).1 h))]
    have hj:=open_j2 hM hM' hX hX' k (decide (2^(M+X)≤x)) hlt
    by_cases hf:y/2^M=0
    · rw[if_pos (show ((y/2^M:Nat):Int)=0 by rw[hf];rfl),e5]
      have:decide (y%2^M=0)=decide (y=0):=by
        rw[hf,Nat.mul_zero,Nat.zero_add] at hdm
        rw[hdm]
      rw[this];exact hj
    · rw[if_neg (show ¬ ((y/2^M:Nat):Int)=0 from fun h=>hf (Int.ofNat_inj.1 h))]
      have hd:decide (y=0)=false:=by
        refine decide_eq_false ?_
        intro h;apply hf;rw[h];simp
      rw[hd] at hj;exact hj
end
theorem open_bad (k:Nat) {m x:Int} {a:Nat} (ha:a<18446744073709551616) (h:¬ Ok m x∨1+x+m<(blen a:Int)) :
    round_Open.f (k+1) m x (a:Int)=some (0,false,0,0,1):=by
  unfold round_Open.f
  by_cases hv:Ok m x
  · obtain⟨M,X,rfl,rfl,hM,hM',hX,hX'⟩:=hv.nat
    have hb:1+(X:Int)+M<(blen a:Int):=by
      rcases h with h|h
      · exact absurd hv h
      · exact h
    rw[check_ok hM hM' hX hX',Option.bind_some,if_pos rfl,len_eq k ha,Option.bind_some]
    have ew:wrap64 (wrap64 (1+(X:Int))+(M:Int))=1+X+M:=by
      rw[w64 (n:=1+(X:Int)) (by omega) (by omega),w64 (by omega) (by omega)]
    rw[ew,decide_eq_true (by omega),round_Open.j0.eq_2,if_pos rfl]
  · rw[check_bad hv,Option.bind_some,if_neg (by decide),round_Open.j0.eq_2,if_pos rfl]
section
variable {M X:Nat} (hM:2≤M) (hM':M≤52) (hX:2≤X) (hX':X≤11)
include hM hM' hX hX'
theorem zero_eq (neg:Bool):round_Zero.f (M:Int) (X:Int) neg=some ((sgn M X neg:Nat):Int):=by
  unfold round_Zero.f
  rw[check_ok hM hM' hX hX',Option.bind_some,if_pos rfl,sign_eq hM hM' hX hX'];rfl
theorem nan_eq:round_NaN.f (M:Int) (X:Int)=some ((inf M X+2^(M-1):Nat):Int):=by
  have hb:=top_bound (M:=M) (X:=X)
  have hp:=pow_lt (k:=M+X) (by omega)
  have hm:2^(M-1)<2^M:=Nat.pow_lt_pow_right (by omega) (by omega)
  have hp2:2^(M+X)*2≤18446744073709551616:=by
    have:=Nat.pow_le_pow_right (n:=2) (by omega) (show M+X+1≤64 by omega)
    rw[Nat.pow_succ] at this;omega
  have hM2:2^M≤2^(M+X):=Nat.pow_le_pow_right (by omega) (by omega)
  unfold round_NaN.f
  rw[check_ok hM hM' hX hX',Option.bind_some,if_pos rfl,top_eq hM hM' hX hX',Option.bind_some]
  have ew:wrap64 ((M:Int)-1)=((M-1:Nat):Int):=by rw[w64 (by omega) (by omega)];omega
  rw[ew,if_pos (by omega),shl_one (by omega),or_add hm (by omega)];rfl
theorem nan_bound:inf M X+2^(M-1)<2^(M+X):=by
  have hm:2^(M-1)<2^M:=Nat.pow_lt_pow_right (by omega) (by omega)
  have hMX:2^(M+X)=2^X*2^M:=by rw[Nat.pow_add,Nat.mul_comm]
  have h1:(2^X-1+1)*2^M=2^X*2^M:=by have:=two_pos X;rw[show 2^X-1+1=2^X by omega]
  rw[Nat.add_mul,Nat.one_mul] at h1
  unfold inf;omega
theorem sh_bound {y:Nat} (hy:y≤inf M X):sh M y<2048:=by
  have hXle:2^X≤2048:=Nat.pow_le_pow_right (n:=2) (by omega) hX'
  have:y/2^M≤2^X-1:=by
    have:=Nat.div_le_div_right (c:=2^M) hy
    unfold inf at this
    rwa [Nat.mul_div_cancel _ (two_pos M)] at this
  unfold sh;omega
omit hM hX hX' in
theorem man_bound (y:Nat):man M y<18446744073709551616:=by
  have:=man_lt M y
  have:=pow_lt (k:=M+1) (by omega)
  omega
end
theorem sign_split {M X x:Nat} (hx:x<2^(M+X)*2):x=sgn M X (decide (2^(M+X)≤x))+x%2^(M+X):=by
  unfold sgn
  by_cases h:2^(M+X)≤x
  · rw[decide_eq_true h,if_pos rfl,Nat.mod_eq_sub_mod h,Nat.mod_eq_of_lt (by omega)];omega
  · rw[decide_eq_false h,if_neg (by simp),Nat.mod_eq_of_lt (by omega)];omega
/-- what a finite pattern says has that pattern -/
theorem npat_back {M X y:Nat} (hy:y≤inf M X):npat M X (2*man M y+0) 1 (least M X+(sh M y:Int)-1-least M X)=y:=by
  rw[npat_half]
  have e:least M X+(sh M y:Int)-least M X=(sh M y:Int):=by omega
  rw[e]
  unfold npat
  have h1:((sh M y:Nat):Int).toNat=sh M y:=by omega
  have h2:(-((sh M y:Nat):Int)).toNat=0:=by omega
  rw[h1,h2]
  exact pat_val hy
end Go.Proofs.Ytmmbgbchimangaa.RS
