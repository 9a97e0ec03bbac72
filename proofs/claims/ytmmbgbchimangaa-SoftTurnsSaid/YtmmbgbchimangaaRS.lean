import Derived.Test.YtmmbgbchimangaaPQx2
import Derived.Test.YtmmbgbchimangaaPQx1
import Derived.Test.YtmmbgbchimangaaFT
namespace Go.Proofs.Ytmmbgbchimangaa.RS
set_option linter.all false
open Go.RowKit Go.Proofs.Ytmmbgbchimangaa.PQ Go.Proofs.YtmmbgbchimangaaW.PrintWords Go.Proofs.YtmmbgbchimangaaW.PrintLast Go.Proofs.YtmmbgbchimangaaW.PrintMore
open FT

theorem w64 {n:Int} (h0:-9223372036854775808≤n) (h1:n<9223372036854775808):wrap64 n=n:=by unfold wrap64;omega
theorem wu64 (n:Int):IntKind.u64.wrap n=n%18446744073709551616:=by simp[IntKind.wrap,IntKind.bits,IntKind.signed]
theorem wu {n:Int} (h0:0≤n) (h1:n<18446744073709551616):IntKind.u64.wrap n=n:=by rw[wu64];omega
theorem wuN {n:Nat} (h1:n<18446744073709551616):IntKind.u64.wrap (n:Int)=n:=wu (by omega) (by omega)
theorem pow_lt {k:Nat} (h:k<64):2^k<18446744073709551616:=Nat.pow_lt_pow_right (a:=2) (by omega) h
theorem bit_and {a b:Nat} (ha:a<18446744073709551616) (hb:b<18446744073709551616):Go.bits .and .u64 (a:Int) (b:Int)=((a &&& b:Nat):Int):=
  (bits_nat .u64 64 (by decide) (fun n h0 h1=>wu h0 (by omega)) a b ha hb).1
theorem bit_or {a b:Nat} (ha:a<18446744073709551616) (hb:b<18446744073709551616):Go.bits .or .u64 (a:Int) (b:Int)=((a ||| b:Nat):Int):=
  (bits_nat .u64 64 (by decide) (fun n h0 h1=>wu h0 (by omega)) a b ha hb).2
/-- a number below a power, and a multiple of it -/
theorem or_add {a b i:Nat} (hb:b<2^i) (h:a*2^i+b<18446744073709551616):Go.bits .or .u64 ((a*2^i:Nat):Int) (b:Int)=((a*2^i+b:Nat):Int):=by
  rw[bit_or (by omega) (by omega),Nat.mul_comm a,←Nat.two_pow_add_eq_or_of_lt hb a]
theorem and_mod {a i:Nat} (ha:a<18446744073709551616) (hi:i<64):Go.bits .and .u64 (a:Int) ((2^i-1:Nat):Int)=((a%2^i:Nat):Int):=by
  have:=pow_lt hi
  rw[bit_and ha (by omega),Nat.and_two_pow_sub_one_eq_mod]
theorem shl_nat {a k:Nat} (hk:k<64) (h:a*2^k<18446744073709551616):shl .u64 (a:Int) (k:Int)=((a*2^k:Nat):Int):=by
  unfold shl
  have e:min (Int.toNat (k:Int)) IntKind.u64.bits=k:=by simp[IntKind.bits];omega
  rw[e]
  have e2:((a:Int)*2^k)=((a*2^k:Nat):Int):=by simp
  rw[e2]
  exact wuN h
theorem shl_mod {a k:Nat} (hk:k≤64):shl .u64 (a:Int) (k:Int)=((a*2^k%18446744073709551616:Nat):Int):=by
  unfold shl
  have e:min (Int.toNat (k:Int)) IntKind.u64.bits=k:=by simp[IntKind.bits];omega
  rw[e]
  have e2:((a:Int)*2^k)=((a*2^k:Nat):Int):=by simp
  rw[e2,wu64];omega
theorem shr_nat {a k:Nat} (hk:k≤64):shr .u64 (a:Int) (k:Int)=((a/2^k:Nat):Int):=by
  unfold shr
  have e:min (Int.toNat (k:Int)) IntKind.u64.bits=k:=by simp[IntKind.bits];omega
  rw[e]
  simp
theorem shl_one {k:Nat} (hk:k<64):shl .u64 1 (k:Int)=((2^k:Nat):Int):=by
  have:=shl_nat (a:=1) hk (by have:=pow_lt hk;omega)
  simpa using this

section
variable {M X:Nat} (hM:2≤M) (hM':M≤52) (hX:2≤X) (hX':X≤11)
include hM hM' hX hX'
theorem check_ok:round_Check.f (M:Int) (X:Int)=some 0:=by
  unfold round_Check.f
  rw[if_neg (by omega),if_neg (by omega),if_neg (by omega),if_neg (by omega)]
theorem sign_eq (neg:Bool):round_sign.f (M:Int) (X:Int) neg=some (((if neg then 2^(M+X) else 0:Nat)):Int):=by
  unfold round_sign.f
  cases neg
  · simp
  · rw[if_pos rfl,w64 (by omega) (by omega),if_pos (by omega)]
    have:((X:Int)+(M:Int))=((M+X:Nat):Int):=by omega
    rw[this,shl_one (by omega)];simp
omit hM hM' hX hX' in
theorem top_bound:(2^X-1)*2^M<2^(M+X):=by
  rw[Nat.pow_add,Nat.mul_comm (2^M)]
  exact Nat.mul_lt_mul_of_pos_right (by have:=two_pos X;omega) (two_pos M)
theorem top_eq:round_top.f (M:Int) (X:Int)=some (((2^X-1)*2^M:Nat):Int):=by
  unfold round_top.f
  rw[if_pos (by omega),if_pos (by omega),shl_one (by omega)]
  have h1:=pow_lt (k:=X) (by omega)
  have h2:=two_pos X
  have e:((2^X:Nat):Int)-1=((2^X-1:Nat):Int):=by omega
  rw[e,wuN (by omega),shl_nat (by omega)]
  exact Nat.lt_trans top_bound (pow_lt (by omega))
omit hM hM' in
theorem bias_eq:round_bias.f (M:Int) (X:Int)=some ((2^(X-1)-1:Nat):Int):=by
  unfold round_bias.f
  rw[w64 (by omega) (by omega),if_pos (by omega)]
  have e:((X:Int)-1)=((X-1:Nat):Int):=by omega
  have hb:2^(X-1)≤1024:=Nat.le_trans (Nat.pow_le_pow_right (by omega) (show X-1≤10 by omega)) (by decide)
  have hp:=two_pos (X-1)
  have e2:shl .i64 1 ((X-1:Nat):Int)=((2^(X-1):Nat):Int):=by
    unfold shl
    have e:min (Int.toNat ((X-1:Nat):Int)) IntKind.i64.bits=X-1:=by simp[IntKind.bits];omega
    rw[e,IntKind.wrap_i64]
    have:(1*2^(X-1):Int)=((2^(X-1):Nat):Int):=by simp
    rw[this];omega
  rw[e,e2,w64 (by omega) (by omega)]
  congr 1;omega
end
theorem check_bad {m x:Int} (h:¬ (2≤m∧m≤52∧2≤x∧x≤11)):round_Check.f m x=some 1:=by
  unfold round_Check.f
  by_cases h1:m<2
  · rw[if_pos h1]
  · rw[if_neg h1]
    by_cases h2:m>52
    · rw[if_pos h2]
    · rw[if_neg h2]
      by_cases h3:x<2
      · rw[if_pos h3]
      · rw[if_neg h3,if_pos (by omega)]

/-- how many bits a number has -/
def blen (a:Nat):Nat:=if a=0 then 0 else Nat.log2 a+1
theorem blen_lt (a:Nat):a<2^blen a:=by
  unfold blen;split
  · subst_vars;simp
  · exact Nat.lt_log2_self
theorem blen_ge {a:Nat} (h:a≠0):2^(blen a-1)≤a:=by
  unfold blen;rw[if_neg h];exact Nat.log2_self_le h
theorem blen_pos {a:Nat} (h:a≠0):0<blen a:=by unfold blen;rw[if_neg h];omega
theorem blen_le {a k:Nat} (h:a<2^k):blen a≤k:=by
  unfold blen;split
  · omega
  · rename_i h0;exact (Nat.log2_lt h0).2 h
theorem blen_eq {a k:Nat} (h:a<2^(k+1)) (h1:2^k≤a):blen a=k+1:=by
  have h0:a≠0:=by have:=two_pos k;omega
  refine Nat.le_antisymm (blen_le h) ?_
  unfold blen;rw[if_neg h0]
  have:=(Nat.le_log2 h0).2 h1
  omega
theorem blen_shift {a k:Nat} (h:2^k≤a):blen a=blen (a/2^k)+k:=by
  have h0:a/2^k≠0:=by
    have:=Nat.div_le_div_right (c:=2^k) h
    rw[Nat.div_self (two_pos k)] at this;omega
  have h1:=blen_lt (a/2^k)
  have h2:=blen_ge h0
  have h3:=blen_pos h0
  obtain⟨j,hj⟩:∃ j,blen (a/2^k)=j+1:=⟨_,(Nat.succ_pred_eq_of_pos h3).symm⟩
  rw[hj] at h1 h2 ⊢
  have h4:a<2^(j+1)*2^k:=(Nat.div_lt_iff_lt_mul (two_pos k)).1 h1
  have h5:2^j*2^k≤a:=(Nat.le_div_iff_mul_le (two_pos k)).1 (by simpa using h2)
  rw[←Nat.pow_add] at h4 h5
  have:=blen_eq (a:=a) (k:=j+k) (by rw[show j+k+1=j+1+k by omega];exact h4) h5
  omega

set_option maxRecDepth 100000 in
theorem blen_tab (x:Nat) (h:x<256):wrap64 (bt (⟨#[0,1,2,2,3,3,3,3,4,4,4,4,4,4,4,4,5,5,5,5,5,5,5,5,5,5,5,5,5,5,5,5,6,6,6,6,6,6,6,6,6,6,6,6,6,6,6,6,6,6,6,6,6,6,6,6,6,6,6,6,6,6,6,6,7,7,7,7,7,7,7,7,7,7,7,7,7,7,7,7,7,7,7,7,7,7,7,7,7,7,7,7,7,7,7,7,7,7,7,7,7,7,7,7,7,7,7,7,7,7,7,7,7,7,7,7,7,7,7,7,7,7,7,7,7,7,7,7,8,8,8,8,8,8,8,8,8,8,8,8,8,8,8,8,8,8,8,8,8,8,8,8,8,8,8,8,8,8,8,8,8,8,8,8,8,8,8,8,8,8,8,8,8,8,8,8,8,8,8,8,8,8,8,8,8,8,8,8,8,8,8,8,8,8,8,8,8,8,8,8,8,8,8,8,8,8,8,8,8,8,8,8,8,8,8,8,8,8,8,8,8,8,8,8,8,8,8,8,8,8,8,8,8,8,8,8,8,8,8,8,8,8,8,8,8,8,8,8,8,8,8,8,8,8,8,8]⟩:ByteArray) (x:Int))=(blen x:Int):=by
  have key:∀ x:Fin 256,wrap64 (bt (⟨#[0,1,2,2,3,3,3,3,4,4,4,4,4,4,4,4,5,5,5,5,5,5,5,5,5,5,5,5,5,5,5,5,6,6,6,6,6,6,6,6,6,6,6,6,6,6,6,6,6,6,6,6,6,6,6,6,6,6,6,6,6,6,6,6,7,7,7,7,7,7,7,7,7,7,7,7,7,7,7,7,7,7,7,7,7,7,7,7,7,7,7,7,7,7,7,7,7,7,7,7,7,7,7,7,7,7,7,7,7,7,7,7,7,7,7,7,7,7,7,7,7,7,7,7,7,7,7,7,8,8,8,8,8,8,8,8,8,8,8,8,8,8,8,8,8,8,8,8,8,8,8,8,8,8,8,8,8,8,8,8,8,8,8,8,8,8,8,8,8,8,8,8,8,8,8,8,8,8,8,8,8,8,8,8,8,8,8,8,8,8,8,8,8,8,8,8,8,8,8,8,8,8,8,8,8,8,8,8,8,8,8,8,8,8,8,8,8,8,8,8,8,8,8,8,8,8,8,8,8,8,8,8,8,8,8,8,8,8,8,8,8,8,8,8,8,8,8,8,8,8,8,8,8,8,8,8]⟩:ByteArray) ((x.val:Nat):Int))=(blen x.val:Int):=by
    decide +kernel
  exact key ⟨x,h⟩

set_option maxRecDepth 100000 in
theorem len_j0 (k:Nat) (a:Nat) (b:Nat) (ha:a<4294967296) (hb:b≤32):bits_Len64.j0 (k+1) (a:Int) (b:Int)=some ((blen a+b:Nat):Int):=by
  have small:∀ (c:Nat) (s:Nat),c<256→s≤64→wrap64 ((s:Int)+(blen c:Int))=((blen c+s:Nat):Int):=by
    intro c s hc hs
    have:=blen_le (a:=c) (k:=8) (by omega)
    rw[w64 (by omega) (by omega)];omega
  rw[bits_Len64.j0.eq_2]
  by_cases h1:(a:Int)≥65536
  · rw[if_pos h1]
    have e1:blen a=blen (a/65536)+16:=blen_shift (k:=16) (by omega)
    have d1:((a:Int)/65536)=((a/65536:Nat):Int):=by omega
    rw[d1]
    by_cases h2:((a/65536:Nat):Int)≥256
    · rw[if_pos h2]
      have e2:blen (a/65536)=blen (a/65536/256)+8:=blen_shift (k:=8) (by omega)
      have d2:(((a/65536:Nat):Int)/256%256)=((a/65536/256:Nat):Int):=by omega
      have hlt:a/65536/256<256:=by omega
      rw[d2,if_pos (by omega),if_pos (by omega),blen_tab _ hlt,w64 (n:=(b:Int)+16) (by omega) (by omega),w64 (n:=(b:Int)+16+8) (by omega) (by omega)]
      have:=small _ (b+16+8) hlt (by omega)
      rw[show ((b:Int)+16+8)=((b+16+8:Nat):Int) by omega,this]
      congr 2;omega
    · rw[if_neg h2]
      have d2:(((a/65536:Nat):Int)%256)=((a/65536:Nat):Int):=by omega
      have hlt:a/65536<256:=by omega
      rw[d2,if_pos (by omega),if_pos (by omega),blen_tab _ hlt,w64 (n:=(b:Int)+16) (by omega) (by omega)]
      have:=small _ (b+16) hlt (by omega)
      rw[show ((b:Int)+16)=((b+16:Nat):Int) by omega,this]
      congr 2;omega
  · rw[if_neg h1]
    by_cases h2:(a:Int)≥256
    · rw[if_pos h2]
      have e2:blen a=blen (a/256)+8:=blen_shift (k:=8) (by omega)
      have d2:((a:Int)/256%256)=((a/256:Nat):Int):=by omega
      have hlt:a/256<256:=by omega
      rw[d2,if_pos (by omega),if_pos (by omega),blen_tab _ hlt,w64 (n:=(b:Int)+8) (by omega) (by omega)]
      have:=small _ (b+8) hlt (by omega)
      rw[show ((b:Int)+8)=((b+8:Nat):Int) by omega,this]
      congr 2;omega
    · rw[if_neg h2]
      have d2:((a:Int)%256)=(a:Int):=by omega
      have hlt:a<256:=by omega
      rw[d2,if_pos (by omega),if_pos (by omega),blen_tab _ hlt]
      exact congrArg some (small _ b hlt (by omega))

theorem len_eq (k:Nat) {a:Nat} (ha:a<18446744073709551616):bits_Len64.f (k+1) (a:Int)=some ((blen a:Nat):Int):=by
  unfold bits_Len64.f
  by_cases h:(a:Int)≥4294967296
  · rw[if_pos h]
    have d:((a:Int)/4294967296)=((a/4294967296:Nat):Int):=by omega
    have:=len_j0 k (a/4294967296) 32 (by omega) (by omega)
    rw[d]
    rw[show ((32:Int))=((32:Nat):Int) by rfl,this,←blen_shift (k:=32) (by omega)]
  · rw[if_neg h]
    exact len_j0 k a 0 (by omega) (by omega)
theorem length_eq (k:Nat) {hi lo:Nat} (hh:hi<18446744073709551616) (hl:lo<18446744073709551616) :
    round_length.f (k+1) (hi:Int) (lo:Int)=some ((blen (hi*18446744073709551616+lo):Nat):Int):=by
  unfold round_length.f
  by_cases h:hi=0
  · subst h
    rw[if_pos (by rfl),len_eq k hl];simp
  · rw[if_neg (by omega),len_eq k hh]
    simp only[Option.bind_some]
    have e:blen (hi*18446744073709551616+lo)=blen hi+64:=by
      have:=blen_shift (a:=hi*18446744073709551616+lo) (k:=64) (by omega)
      rw[this];congr 2;omega
    have hb:=blen_le (a:=hi) (k:=64) (by omega)
    rw[w64 (by omega) (by omega),e];congr 1;omega

theorem int_ne (n:Nat):((n:Int) != 0)=decide (n≠0):=by
  by_cases h:n=0
  · subst h;rfl
  · have:(n:Int)≠0:=by omega
    simp[h]
theorem split_div_lo {hi lo m:Nat} (hm:m≤64):(hi*18446744073709551616+lo)/2^m=hi*2^(64-m)+lo/2^m:=by
  have e:hi*18446744073709551616=hi*2^(64-m)*2^m:=by
    rw[Nat.mul_assoc,←Nat.pow_add,show 64-m+m=64 by omega]
  rw[e,Nat.add_comm,Nat.add_mul_div_right _ _ (two_pos m),Nat.add_comm]
theorem split_mod_lo {hi lo m:Nat} (hm:m≤64):(hi*18446744073709551616+lo)%2^m=lo%2^m:=by
  have e:hi*18446744073709551616=hi*2^(64-m)*2^m:=by
    rw[Nat.mul_assoc,←Nat.pow_add,show 64-m+m=64 by omega]
  rw[e,Nat.add_comm,Nat.add_mul_mod_self_right]
theorem split_div_hi {hi lo m:Nat} (hl:lo<18446744073709551616):(hi*18446744073709551616+lo)/2^(m+64)=hi/2^m:=by
  rw[Nat.pow_add,Nat.mul_comm (2^m),←Nat.div_div_eq_div_mul]
  congr 1;omega
theorem split_mod_hi {hi lo m:Nat} (hl:lo<18446744073709551616):(hi*18446744073709551616+lo)%2^(m+64)=hi%2^m*18446744073709551616+lo:=by
  have h1:=Nat.div_add_mod (hi*18446744073709551616+lo) (2^(m+64))
  rw[split_div_hi hl] at h1
  have h2:=Nat.div_add_mod hi (2^m)
  have e:2^(m+64)*(hi/2^m)=2^m*(hi/2^m)*18446744073709551616:=by
    rw[Nat.pow_add];simp only[Nat.mul_comm,Nat.mul_left_comm,Nat.mul_assoc,Nat.reducePow]
  rw[e] at h1
  have h3:hi*18446744073709551616=2^m*(hi/2^m)*18446744073709551616+hi%2^m*18446744073709551616:=by
    rw[←Nat.add_mul,h2]
  omega
theorem and_pow (a i:Nat):a &&& 2^i=if a/2^i%2=1 then 2^i else 0:=by
  apply Nat.eq_of_testBit_eq
  intro j
  rw[Nat.testBit_and,Nat.testBit_two_pow]
  by_cases h:i=j
  · subst h
    rw[Nat.testBit_eq_decide_div_mod_eq]
    by_cases h2:a/2^i%2=1
    · simp[h2,Nat.testBit_two_pow_self]
    · simp[h2]
  · have:(2^i).testBit j=false:=Nat.testBit_two_pow_of_ne h
    split <;> simp[h,this]
theorem mod_half (a i:Nat):a%2^(i+1)/2^i%2=a/2^i%2:=by
  have e:a%2^(i+1)/2^i=a/2^i%2:=by
    rw[Nat.pow_succ,Nat.mod_mul_right_div_self]
  rw[e];omega
theorem half_bit {a i:Nat} (hi:i<64) (ha:a<18446744073709551616) :
    (Go.bits .and .u64 ((a%2^(i+1):Nat):Int) ((2^i:Nat):Int) != 0)=decide (a/2^i%2=1):=by
  have h1:=pow_lt hi
  have h2:a%2^(i+1)≤a:=Nat.mod_le _ _
  rw[bit_and (by omega) h1,int_ne,and_pow,mod_half]
  have h3:=two_pos i
  by_cases h:a/2^i%2=1
  · rw[if_pos h];simp[h]
  · rw[if_neg h];simp[h]
theorem low_bits {a i:Nat} (hi:i<64) (ha:a<18446744073709551616) :
    Go.bits .and .u64 ((a%2^(i+1):Nat):Int) (IntKind.u64.wrap (((2^i:Nat):Int)-1))=((a%2^i:Nat):Int):=by
  have h1:=pow_lt hi
  have h0:=two_pos i
  have h2:a%2^(i+1)≤a:=Nat.mod_le _ _
  have e:((2^i:Nat):Int)-1=((2^i-1:Nat):Int):=by omega
  rw[e,wuN (by omega),and_mod (by omega) hi]
  congr 1
  exact Nat.mod_mod_of_dvd a (Nat.pow_dvd_pow 2 (by omega))
theorem all_bits {a i:Nat} (hi:i≤64) (ha:a<18446744073709551616) :
    Go.bits .and .u64 (a:Int) (IntKind.u64.wrap ((shl .u64 1 (i:Int))-1))=((a%2^i:Nat):Int):=by
  by_cases h:i=64
  · subst h
    have e:shl .u64 1 ((64:Nat):Int)=0:=by decide
    rw[e]
    have e2:IntKind.u64.wrap (0-1)=((18446744073709551615:Nat):Int):=by decide
    rw[e2,bit_and ha (by omega)]
    have:=Nat.and_two_pow_sub_one_eq_mod a 64
    rw[←this]
  · have hi':i<64:=by omega
    have h1:=pow_lt hi'
    have h0:=two_pos i
    rw[shl_one hi']
    have e:((2^i:Nat):Int)-1=((2^i-1:Nat):Int):=by omega
    rw[e,wuN (by omega),and_mod ha hi']
theorem down_eq {hi lo n:Nat} (hh:hi<18446744073709551616) (hl:lo<18446744073709551616) (hn:1≤n) (hn':n<1000000)
    (hq:(hi*18446744073709551616+lo)/2^n<18446744073709551616) :
    round_down.f (hi:Int) (lo:Int) (n:Int)=some ((((hi*18446744073709551616+lo)/2^n:Nat):Int),decide ((hi*18446744073709551616+lo)/2^(n-1)%2=1),decide ((hi*18446744073709551616+lo)%2^(n-1)≠0)):=by
  unfold round_down.f
  by_cases h1:(n:Int)>128
  · rw[if_pos h1]
    have hp:2^128≤2^(n-1):=Nat.pow_le_pow_right (by omega) (by omega)
    have hlt:hi*18446744073709551616+lo<2^(n-1):=Nat.lt_of_lt_of_le (by omega) hp
    have hlt':hi*18446744073709551616+lo<2^n:=Nat.lt_of_lt_of_le hlt (Nat.pow_le_pow_right (by omega) (by omega))
    rw[Nat.div_eq_of_lt hlt,Nat.div_eq_of_lt hlt',Nat.mod_eq_of_lt hlt,bit_or hh hl,int_ne]
    have:(hi ||| lo≠0)↔(hi*18446744073709551616+lo≠0):=by
      rw[Ne,Nat.or_eq_zero_iff];omega
    simp only[this];simp
  · rw[if_neg h1]
    by_cases h2:(n:Int)>64
    · rw[if_pos h2]
      obtain⟨i,rfl⟩:∃ i,n=i+1+64:=⟨n-65,by omega⟩
      have e1:wrap64 (((i+1+64:Nat):Int)-64)=((i+1:Nat):Int):=by rw[w64 (by omega) (by omega)];omega
      have e2:wrap64 (((i+1:Nat):Int)-1)=(i:Int):=by rw[w64 (by omega) (by omega)];omega
      rw[e1,e2,if_pos (by omega),if_pos (by omega),all_bits (by omega) hh,shl_one (k:=i) (by omega),low_bits (by omega) hh,half_bit (by omega) hh,shr_nat (by omega)]
      rw[show i+1+64-1=i+64 by omega,split_div_hi hl,split_div_hi hl,split_mod_hi hl]
      by_cases h3:hi%2^i=0
      · rw[if_pos (by omega),h3,int_ne];simp
      · rw[if_neg (by omega)]
        have:hi%2^i*18446744073709551616+lo≠0:=by omega
        rw[decide_eq_true this]
    · rw[if_neg h2]
      obtain⟨i,rfl⟩:∃ i,n=i+1:=⟨n-1,by omega⟩
      have e2:wrap64 (((i+1:Nat):Int)-1)=(i:Int):=by rw[w64 (by omega) (by omega)];omega
      have e3:wrap64 (64-((i+1:Nat):Int))=((64-(i+1):Nat):Int):=by rw[w64 (by omega) (by omega)];omega
      rw[e2,e3,if_pos (by omega),if_pos (by omega),if_pos (by omega),all_bits (by omega) hl,shl_one (k:=i) (by omega),low_bits (by omega) hl,half_bit (by omega) hl,shr_nat (by omega),int_ne]
      rw[show i+1-1=i by omega,split_div_lo (by omega),split_div_lo (m:=i) (by omega),split_mod_lo (by omega)]
      rw[split_div_lo (by omega)] at hq
      have hlo:lo/2^(i+1)<2^(64-(i+1)):=by
        rw[Nat.div_lt_iff_lt_mul (two_pos _),←Nat.pow_add,show 64-(i+1)+(i+1)=64 by omega];exact hl
      have hs:shl .u64 (hi:Int) ((64-(i+1):Nat):Int)=((hi*2^(64-(i+1)):Nat):Int):=by
        exact shl_nat (by omega) (Nat.lt_of_le_of_lt (Nat.le_add_right _ _) hq)
      rw[hs,or_add hlo hq]
      have hpar:(hi*2^(64-i)+lo/2^i)%2=lo/2^i%2:=by
        obtain⟨j,hj⟩:∃ j,64-i=j+1:=⟨63-i,by omega⟩
        rw[hj,Nat.pow_succ,←Nat.mul_assoc,Nat.add_comm,Nat.add_mul_mod_self_right]
      rw[hpar]
end Go.Proofs.Ytmmbgbchimangaa.RS
