import Derived.Test.YtmmbgbchimangaaPQx5
import Derived.Test.YtmmbgbchimangaaPQx6
import Derived.Test.YtmmbgbchimangaaSQ
namespace Go.Proofs.Ytmmbgbchimangaa.RS
set_option linter.all false
open Go.RowKit Go.Proofs.Ytmmbgbchimangaa.PQ Go.Proofs.YtmmbgbchimangaaW.PrintWords Go.Proofs.YtmmbgbchimangaaW.PrintLast Go.Proofs.YtmmbgbchimangaaW.PrintMore
open FT
/-! ### a quotient of two words by one, digit by digit (to the base 2^32) -/
theorem digit_test {b y1 y0 u d q r:Nat} (h:u=q*y1+r):b*r+d<q*y0↔u*b+d<q*(y1*b+y0):=by
  have e:q*(y1*b+y0)=q*y1*b+q*y0:=by rw[Nat.mul_add];congr 1;ac_rfl
  rw[e,h,Nat.add_mul,Nat.mul_comm r b];omega
theorem digit_lt {b y u d:Nat} (hu:u<y) (hd:d<b):u*b+d<b*y:=by
  have:(u+1)*b≤y*b:=Nat.mul_le_mul_right _ hu
  rw[Nat.add_mul,Nat.one_mul] at this
  rw[Nat.mul_comm b];omega
theorem quo_gt {N y q:Nat} (hy:0<y):N<q*y↔N/y<q:=(Nat.div_lt_iff_lt_mul hy).symm
theorem wrap_sub3 (a d c:Int):IntKind.u64.wrap (IntKind.u64.wrap (IntKind.u64.wrap a+d)-IntKind.u64.wrap c)=(a+d-c)%18446744073709551616:=by
  rw[wu64,wu64,wu64,wu64,Int.emod_add_emod,←Int.sub_emod]
theorem rem_val {u d q y:Nat} (hy:0<y) (hy64:y<18446744073709551616) (hq:q=(u*4294967296+d)/y) :
    IntKind.u64.wrap (IntKind.u64.wrap (IntKind.u64.wrap ((u:Int)*4294967296)+(d:Int))-IntKind.u64.wrap ((q:Int)*(y:Int)))=(((u*4294967296+d)%y:Nat):Int):=by
  rw[wrap_sub3]
  have h:=Nat.div_add_mod (u*4294967296+d) y
  have hr:=Nat.mod_lt (u*4294967296+d) hy
  rw[←hq] at h
  have e:(u:Int)*4294967296+(d:Int)-(q:Int)*(y:Int)=(((u*4294967296+d)%y:Nat):Int):=by
    have h2:((y*q+(u*4294967296+d)%y:Nat):Int)=((u*4294967296+d:Nat):Int):=by rw[h]
    rw[Int.natCast_add,Int.natCast_mul,Int.natCast_add,Int.natCast_mul] at h2
    have h3:(y:Int)*(q:Int)=(q:Int)*(y:Int):=Int.mul_comm _ _
    have h4:((4294967296:Nat):Int)=4294967296:=rfl
    rw[h3,h4] at h2
    omega
  rw[e]
  generalize (u*4294967296+d)%y=t at *
  clear e h
  omega
section
variable {y1 y0 y u d:Nat} (hy:y=y1*4294967296+y0) (h1:2147483648≤y1) (h1':y1<4294967296) (h0:y0<4294967296) (hu:u<y) (hd:d<4294967296)
include hy h1 h1' h0 hu hd
theorem digit_bound:(u*4294967296+d)/y<4294967296∧(u*4294967296+d)/y≤u/y1∧u/y1≤4294967297:=by
  have hyp:0<y:=by omega
  refine⟨(Nat.div_lt_iff_lt_mul hyp).2 (digit_lt hu hd),?_,?_⟩
  · refine Nat.le_of_not_lt fun hlt=>?_
    have k1:(u/y1+1)*y≤u*4294967296+d:=(Nat.le_div_iff_mul_le hyp).1 hlt
    have k2:u<(u/y1+1)*y1:=by
      have:=Nat.lt_mul_div_succ u (show 0<y1 by omega)
      rw[Nat.mul_comm] at this;exact this
    have k3:(u/y1+1)*(y1*4294967296)≤(u/y1+1)*y:=Nat.mul_le_mul_left _ (by omega)
    rw[←Nat.mul_assoc] at k3
    have k4:(u+1)*4294967296≤(u/y1+1)*y1*4294967296:=Nat.mul_le_mul_right _ k2
    rw[Nat.add_mul,Nat.one_mul] at k4
    exact absurd hd (Nat.not_lt.2 (Nat.le_of_add_le_add_left (Nat.le_trans k4 (Nat.le_trans k3 k1))))
  · have:u/y1<4294967298:=by
      rw[Nat.div_lt_iff_lt_mul (by omega)];omega
    omega
theorem div_l0 (s:Int) (un0:Int):∀ (n k q r:Nat),u=q*y1+r→r<4294967296→4294967296≤r+n*2147483648→(u*4294967296+d)/y≤q→q≤4294967297→2*n+2≤k →
    ∃ k',k≤k'+2*n+2∧bits_Div64.l0 k (y:Int) s (y1:Int) (y0:Int) (u:Int) (d:Int) un0 (q:Int) (r:Int)=bits_Div64.j2 k' (y:Int) s (y1:Int) (y0:Int) (u:Int) (d:Int) un0 (((u*4294967296+d)/y:Nat):Int):=by
  have hyp:0<y:=by omega
  obtain⟨b1,b2,b3⟩:=digit_bound hy h1 h1' h0 hu hd
  intro n
  induction n with
  | zero=>intro k q r _ hr hn;omega
  | succ n ih =>
    intro k q r hq hr hn hle hqb hk
    obtain⟨k,rfl⟩:∃ j,k=j+2:=⟨k-2,by omega⟩
    have dt:=digit_test (b:=4294967296) (y0:=y0) (d:=d) hq
    rw[←hy,quo_gt hyp] at dt
    have stop:(u*4294967296+d)/y=q→bits_Div64.l0 (k+2) (y:Int) s (y1:Int) (y0:Int) (u:Int) (d:Int) un0 (q:Int) (r:Int)=bits_Div64.j2 k (y:Int) s (y1:Int) (y0:Int) (u:Int) (d:Int) un0 (((u*4294967296+d)/y:Nat):Int):=by
      intro he
      have hqlt:q<4294967296:=by omega
      have p1:=half_mul hqlt h0
      have w1:IntKind.u64.wrap ((q:Int)*(y0:Int))=((q*y0:Nat):Int):=wu_mul (by omega)
      have w2:IntKind.u64.wrap (IntKind.u64.wrap (4294967296*(r:Int))+(d:Int))=((4294967296*r+d:Nat):Int):=by
        have:=wu_mul (a:=4294967296) (b:=r) (by omega)
        have c:((4294967296:Nat):Int)=4294967296:=rfl
        rw[c] at this
        rw[this];exact wu_add (by omega)
      have hd:decide (((q*y0:Nat):Int)>((4294967296*r+d:Nat):Int))=false:=by
        refine decide_eq_false fun hc=>?_
        have:=dt.1 (Int.ofNat_lt.1 hc)
        omega
      rw[bits_Div64.l0.eq_2,if_neg (by omega),w1,w2,hd,bits_Div64.j1.eq_2,if_neg (by simp),he]
    have go:∀ p,p=true→(u*4294967296+d)/y<q→∃ k',k+2≤k'+2*(n+1)+2∧bits_Div64.j1 (k+1) (y:Int) s (y1:Int) (y0:Int) (u:Int) (d:Int) un0 (q:Int) (r:Int) p=bits_Div64.j2 k' (y:Int) s (y1:Int) (y0:Int) (u:Int) (d:Int) un0 (((u*4294967296+d)/y:Nat):Int):=by
      intro p hp hlt
      obtain⟨q',rfl⟩:∃ q',q=q'+1:=Nat.exists_eq_succ_of_ne_zero (Nat.ne_of_gt (Nat.lt_of_le_of_lt (Nat.zero_le _) hlt))
      have wq:IntKind.u64.wrap (((q'+1:Nat):Int)-1)=(q':Int):=wu_sub (a:=q'+1) (b:=1) (by omega) (by omega)
      have wr:IntKind.u64.wrap ((r:Int)+(y1:Int))=((r+y1:Nat):Int):=wu_add (by omega)
      have hq':u=q'*y1+(r+y1):=by rw[Nat.add_mul] at hq;omega
      rw[hp,bits_Div64.j1.eq_2,if_pos rfl,wq,wr]
      by_cases hb:4294967296≤r+y1
      · refine⟨k,by omega,?_⟩
        rw[if_pos (by omega)]
        have hqQ:(u*4294967296+d)/y=q':=by
          have dt':=digit_test (b:=4294967296) (y0:=y0) (d:=d) hq'
          rw[←hy,quo_gt hyp] at dt'
          refine Nat.le_antisymm (by omega) (Nat.le_of_not_lt fun hc=>?_)
          have h5:=dt'.2 hc
          have h6:q'*y0≤4294967296*4294967295:=Nat.mul_le_mul (by omega) (by omega)
          have h7:4294967296*4294967296≤4294967296*(r+y1):=Nat.mul_le_mul_left _ hb
          omega
        rw[hqQ]
      · rw[if_neg (by omega)]
        obtain⟨k',c1,c2⟩:=ih k q' (r+y1) hq' (by omega) (by omega) (by omega) (by omega) (by omega)
        exact⟨k',by omega,c2⟩
    by_cases hgt:(u*4294967296+d)/y<q
    · by_cases hbig:4294967296≤q
      · have:=go true rfl hgt
        rw[bits_Div64.l0.eq_2,if_pos (by omega)]
        exact this
      · have p1:=half_mul (show q<4294967296 by omega) h0
        have w1:IntKind.u64.wrap ((q:Int)*(y0:Int))=((q*y0:Nat):Int):=wu_mul (by omega)
        have w2:IntKind.u64.wrap (IntKind.u64.wrap (4294967296*(r:Int))+(d:Int))=((4294967296*r+d:Nat):Int):=by
          have:=wu_mul (a:=4294967296) (b:=r) (by omega)
          have c:((4294967296:Nat):Int)=4294967296:=rfl
          rw[c] at this
          rw[this];exact wu_add (by omega)
        have hd:decide (((q*y0:Nat):Int)>((4294967296*r+d:Nat):Int))=true:=decide_eq_true (Int.ofNat_lt.2 (dt.2 hgt))
        rw[bits_Div64.l0.eq_2,if_neg (by omega),w1,w2]
        exact go _ hd hgt
    · exact⟨k,by omega,stop (by omega)⟩
/-- the second digit, and what is left -/
theorem div_l1 (q1:Nat) (hq1:q1<4294967296):∀ (n k q r:Nat),u=q*y1+r→r<4294967296→4294967296≤r+n*2147483648→(u*4294967296+d)/y≤q→q≤4294967297→2*n+2≤k →
    bits_Div64.l1 k (y:Int) 0 (y1:Int) (y0:Int) (d:Int) (q1:Int) (r:Int) (u:Int) (q:Int)=some (((q1*4294967296+(u*4294967296+d)/y:Nat):Int),(((u*4294967296+d)%y:Nat):Int)):=by
  have hyp:0<y:=by omega
  have hy64:y<18446744073709551616:=by omega
  obtain⟨b1,b2,b3⟩:=digit_bound hy h1 h1' h0 hu hd
  have last:∀ Q:Nat,Q=(u*4294967296+d)/y→some (IntKind.u64.wrap ((IntKind.u64.wrap ((q1:Int)*4294967296))+(Q:Int)),shr .u64 (IntKind.u64.wrap ((IntKind.u64.wrap ((IntKind.u64.wrap ((u:Int)*4294967296))+(d:Int)))-(IntKind.u64.wrap ((Q:Int)*(y:Int))))) 0)=some (((q1*4294967296+(u*4294967296+d)/y:Nat):Int),(((u*4294967296+d)%y:Nat):Int)):=by
    intro Q hQ
    have w1:IntKind.u64.wrap ((q1:Int)*4294967296)=((q1*4294967296:Nat):Int):=wu_mul (a:=q1) (b:=4294967296) (by omega)
    have w2:IntKind.u64.wrap (((q1*4294967296:Nat):Int)+(Q:Int))=((q1*4294967296+Q:Nat):Int):=wu_add (by omega)
    have hs:=shr_nat (a:=(u*4294967296+d)%y) (k:=0) (by omega)
    have z0:((0:Nat):Int)=0:=rfl
    rw[z0,Nat.pow_zero,Nat.div_one] at hs
    rw[w1,w2,rem_val hyp hy64 hQ,hs,hQ]
  intro n
  induction n with
  | zero=>intro k q r _ hr hn;omega
  | succ n ih =>
    intro k q r hq hr hn hle hqb hk
    obtain⟨k,rfl⟩:∃ j,k=j+2:=⟨k-2,by omega⟩
    have dt:=digit_test (b:=4294967296) (y0:=y0) (d:=d) hq
    rw[←hy,quo_gt hyp] at dt
    have go:∀ p,p=true→(u*4294967296+d)/y<q→bits_Div64.j4 (k+1) (y:Int) 0 (y1:Int) (y0:Int) (d:Int) (q1:Int) (r:Int) (u:Int) (q:Int) p=some (((q1*4294967296+(u*4294967296+d)/y:Nat):Int),(((u*4294967296+d)%y:Nat):Int)):=by
      intro p hp hlt
      obtain⟨q',rfl⟩:∃ q',q=q'+1:=Nat.exists_eq_succ_of_ne_zero (Nat.ne_of_gt (Nat.lt_of_le_of_lt (Nat.zero_le _) hlt))
      have wq:IntKind.u64.wrap (((q'+1:Nat):Int)-1)=(q':Int):=wu_sub (a:=q'+1) (b:=1) (by omega) (by omega)
      have wr:IntKind.u64.wrap ((r:Int)+(y1:Int))=((r+y1:Nat):Int):=wu_add (by omega)
      have hq':u=q'*y1+(r+y1):=by rw[Nat.add_mul] at hq;omega
      rw[hp,bits_Div64.j4.eq_2,if_pos rfl,wq,wr]
      by_cases hb:4294967296≤r+y1
      · have hqQ:q'=(u*4294967296+d)/y:=by
          have dt':=digit_test (b:=4294967296) (y0:=y0) (d:=d) hq'
          rw[←hy,quo_gt hyp] at dt'
          refine (Nat.le_antisymm (by omega) (Nat.le_of_not_lt fun hc=>?_)).symm
          have h5:=dt'.2 hc
          have h6:q'*y0≤4294967296*4294967295:=Nat.mul_le_mul (by omega) (by omega)
          have h7:4294967296*4294967296≤4294967296*(r+y1):=Nat.mul_le_mul_left _ hb
          omega
        rw[if_pos (by omega),if_pos (by omega)]
        exact last q' hqQ
      · rw[if_neg (by omega)]
        exact ih k q' (r+y1) hq' (by omega) (by omega) (by omega) (by omega) (by omega)
    by_cases hgt:(u*4294967296+d)/y<q
    · by_cases hbig:4294967296≤q
      · rw[bits_Div64.l1.eq_2,if_pos (by omega)]
        exact go true rfl hgt
      · have p1:=half_mul (show q<4294967296 by omega) h0
        have w1:IntKind.u64.wrap ((q:Int)*(y0:Int))=((q*y0:Nat):Int):=wu_mul (by omega)
        have w2:IntKind.u64.wrap (IntKind.u64.wrap (4294967296*(r:Int))+(d:Int))=((4294967296*r+d:Nat):Int):=by
          have:=wu_mul (a:=4294967296) (b:=r) (by omega)
          have c:((4294967296:Nat):Int)=4294967296:=rfl
          rw[c] at this
          rw[this];exact wu_add (by omega)
        have hd:decide (((q*y0:Nat):Int)>((4294967296*r+d:Nat):Int))=true:=decide_eq_true (Int.ofNat_lt.2 (dt.2 hgt))
        rw[bits_Div64.l1.eq_2,if_neg (by omega),w1,w2]
        exact go _ hd hgt
    · have hqlt:q<4294967296:=by omega
      have he:q=(u*4294967296+d)/y:=by omega
      have p1:=half_mul hqlt h0
      have w1:IntKind.u64.wrap ((q:Int)*(y0:Int))=((q*y0:Nat):Int):=wu_mul (by omega)
      have w2:IntKind.u64.wrap (IntKind.u64.wrap (4294967296*(r:Int))+(d:Int))=((4294967296*r+d:Nat):Int):=by
        have:=wu_mul (a:=4294967296) (b:=r) (by omega)
        have c:((4294967296:Nat):Int)=4294967296:=rfl
        rw[c] at this
        rw[this];exact wu_add (by omega)
      have hd:decide (((q*y0:Nat):Int)>((4294967296*r+d:Nat):Int))=false:=by
        refine decide_eq_false fun hc=>hgt (dt.1 (Int.ofNat_lt.1 hc))
      rw[bits_Div64.l1.eq_2,if_neg (by omega),w1,w2,hd,bits_Div64.j4.eq_2,if_neg (by simp),if_pos (by omega)]
      exact last q he
end
theorem two_digits {A l0 y:Nat} (hy:0<y):(A*4294967296+l0)/y=A/y*4294967296+(A%y*4294967296+l0)/y∧(A*4294967296+l0)%y=(A%y*4294967296+l0)%y:=by
  have h:=Nat.div_add_mod A y
  have e2:A*4294967296+l0=A%y*4294967296+l0+y*(A/y*4294967296):=by
    have h1:(y*(A/y)+A%y)*4294967296=y*(A/y*4294967296)+A%y*4294967296:=by rw[Nat.add_mul,Nat.mul_assoc]
    rw[h] at h1
    rw[h1,Nat.add_assoc,Nat.add_comm]
  rw[e2,Nat.add_mul_div_left _ _ hy,Nat.add_mul_mod_self_left]
  exact⟨Nat.add_comm _ _,rfl⟩
theorem join_digits (hi l1 l0:Nat):hi*18446744073709551616+(l1*4294967296+l0)=(hi*4294967296+l1)*4294967296+l0:=by
  rw[Nat.add_mul,Nat.mul_assoc,Nat.add_assoc]
theorem td_nat (a b:Nat):Int.tdiv (a:Int) (b:Int)=((a/b:Nat):Int):=by
  rw[Int.tdiv_eq_ediv_of_nonneg (by omega)];simp
theorem first_digit {u y1:Nat} (hu:u<18446744073709551616) (hy:0<y1):IntKind.u64.wrap ((u:Int)-IntKind.u64.wrap (((u/y1:Nat):Int)*(y1:Int)))=((u%y1:Nat):Int)∧u=u/y1*y1+u%y1:=by
  have h:=Nat.div_add_mod u y1
  have hc:u/y1*y1=y1*(u/y1):=Nat.mul_comm _ _
  have hle:u/y1*y1≤u:=Nat.div_mul_le_self _ _
  have w:IntKind.u64.wrap (((u/y1:Nat):Int)*(y1:Int))=((u/y1*y1:Nat):Int):=wu_mul (by omega)
  refine⟨?_,by omega⟩
  rw[w,wu_sub hle hu];congr 1;omega
theorem div64 {k hi lo y:Nat} (hk:20≤k) (hy:9223372036854775808≤y) (hy':y<18446744073709551616) (hhi:hi<y) (hhi0:hi≠0) (hlo:lo<18446744073709551616) :
    bits_Div64.f k (hi:Int) (lo:Int) (y:Int)=some ((((hi*18446744073709551616+lo)/y:Nat):Int),(((hi*18446744073709551616+lo)%y:Nat):Int)):=by
  have hyp:0<y:=by omega
  have hbl:blen y=64:=blen_eq (k:=63) hy' hy
  have z0:((64-64:Nat):Int)=0:=rfl
  have w0:IntKind.u64.wrap 0=0:=by decide +kernel
  have w64':IntKind.u64.wrap (64-0)=((64:Nat):Int):=by decide +kernel
  have s0:∀ a:Nat,a<18446744073709551616→shl .u64 (a:Int) 0=(a:Int):=by
    intro a ha
    have:=shl_nat (a:=a) (k:=0) (by omega) (by omega)
    rw[Nat.pow_zero,Nat.mul_one] at this
    exact this
  have s64:shr .u64 (lo:Int) ((64:Nat):Int)=((0:Nat):Int):=by
    rw[shr_nat (by omega)];congr 1;exact Nat.div_eq_of_lt hlo
  have or0:Go.bits .or .u64 (hi:Int) ((0:Nat):Int)=(hi:Int):=by
    rw[bit_or (by omega) (by omega),Nat.or_zero]
  have ey:y=y/4294967296*4294967296+y%4294967296:=by omega
  have el:lo=lo/4294967296*4294967296+lo%4294967296:=by omega
  have hy1:2147483648≤y/4294967296:=by omega
  have hy1':y/4294967296<4294967296:=by omega
  have hy0:y%4294967296<4294967296:=by omega
  have hl1:lo/4294967296<4294967296:=by omega
  have hl0:lo%4294967296<4294967296:=by omega
  unfold bits_Div64.f
  rw[if_neg (nat0 (by omega)),if_neg (by omega),if_neg (nat0 hhi0),lz_eq (by omega) hy',hbl,Option.bind_some,z0,w0,w64',if_pos (by omega),if_pos (by omega),s0 _ hy',s0 _ (by omega),s0 _ hlo,s64,or0,div32,div32,and32 hy',and32 hlo]
  rw[if_neg (nat0 (by omega))]
  generalize y/4294967296=y1 at *
  generalize y%4294967296=y0 at *
  generalize lo/4294967296=l1 at *
  generalize lo%4294967296=l0 at *
  have hhi64:hi<18446744073709551616:=by omega
  obtain⟨f1,f2⟩:=first_digit hhi64 (show 0<y1 by omega)
  obtain⟨g1,g2,g3⟩:=digit_bound ey hy1 hy1' hy0 hhi hl1
  have hqw:IntKind.u64.wrap (((hi/y1:Nat):Int))=((hi/y1:Nat):Int):=wuN (by omega)
  have hr1:hi%y1<y1:=Nat.mod_lt _ (by omega)
  rw[td_nat,hqw,f1]
  obtain⟨k',c1,c2⟩:=div_l0 ey hy1 hy1' hy0 hhi hl1 0 (l0:Int) 2 k (hi/y1) (hi%y1) f2 (by omega) (by omega) g2 g3 (by omega)
  obtain⟨k',rfl⟩:∃ j,k'=j+1:=⟨k'-1,by omega⟩
  rw[c2,bits_Div64.j2.eq_2,if_neg (nat0 (by omega)),rem_val hyp hy' rfl]
  have hum:(hi*4294967296+l1)%y<y:=Nat.mod_lt _ hyp
  have key:∀ u q1:Nat,u<y→q1<4294967296→bits_Div64.l1 k' (y:Int) 0 (y1:Int) (y0:Int) (l0:Int) (q1:Int) (IntKind.u64.wrap ((u:Int)-IntKind.u64.wrap (IntKind.u64.wrap (Int.tdiv (u:Int) (y1:Int))*(y1:Int)))) (u:Int) (IntKind.u64.wrap (Int.tdiv (u:Int) (y1:Int))) =
      some (((q1*4294967296+(u*4294967296+l0)/y:Nat):Int),(((u*4294967296+l0)%y:Nat):Int)):=by
    intro u q1 hum g1
    have hu64:u<18446744073709551616:=Nat.lt_trans hum hy'
    obtain⟨f1,f2⟩:=first_digit hu64 (show 0<y1 by omega)
    obtain⟨g4,g5,g6⟩:=digit_bound ey hy1 hy1' hy0 hum hl0
    have hqw:IntKind.u64.wrap (((u/y1:Nat):Int))=((u/y1:Nat):Int):=wuN (Nat.lt_of_le_of_lt g6 (by decide))
    have hr2:u%y1<y1:=Nat.mod_lt _ (by omega)
    rw[td_nat,hqw,f1]
    exact div_l1 ey hy1 hy1' hy0 hum hl0 q1 g1 2 k' (u/y1) (u%y1) f2 (Nat.lt_trans hr2 hy1') (Nat.le_add_left _ _) g5 g6 (by omega)
  obtain⟨d1,d2⟩:=two_digits (A:=hi*4294967296+l1) (l0:=l0) hyp
  rw[el,join_digits,d1,d2]
  exact key _ _ hum g1
end Go.Proofs.Ytmmbgbchimangaa.RS
