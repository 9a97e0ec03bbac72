import Derived.Test.YtmmbgbchimangaaFT5
import Derived.Test.YtmmbgbchimangaaPQx5
import Derived.Test.YtmmbgbchimangaaSM
namespace Go.Proofs.Ytmmbgbchimangaa.RS
set_option linter.all false
open Go.RowKit Go.Proofs.Ytmmbgbchimangaa.PQ Go.Proofs.YtmmbgbchimangaaW.PrintWords Go.Proofs.YtmmbgbchimangaaW.PrintLast Go.Proofs.YtmmbgbchimangaaW.PrintMore
open FT
/-- a root does not hang on how many bits of it are reckoned -/
theorem npat_root {M X V r st r' st' j:Nat} {t:Int} (hr:2^(M+1)≤r) (h:Root V r st) (h':Root (V*4^j) r' st'):npat M X (2*r'+st') 1 (t-j)=npat M X (2*r+st) 1 t:=by
  have key:=root_raw (x:=t.toNat+1) (y:=(-t).toNat) hr h h'
  have c1:raw M ((2*r'+st')*2^(t-j).toNat) (1*2^(-(t-(j:Int))).toNat)=raw M ((2*r'+st')*2^(t.toNat+1)) (2*2^j*2^(-t).toNat):=by
    refine raw_congr (Nat.mul_pos (by omega) (two_pos _)) (Nat.mul_pos (Nat.mul_pos (by omega) (two_pos _)) (two_pos _)) ?_
    have e1:(2*r'+st')*2^(t-j).toNat*(2*2^j*2^(-t).toNat)=(2*r'+st')*2^((t-j).toNat+j+(-t).toNat+1):=by
      rw[Nat.pow_succ,Nat.pow_add,Nat.pow_add];ac_rfl
    have e2:(2*r'+st')*2^(t.toNat+1)*(1*2^(-(t-(j:Int))).toNat)=(2*r'+st')*2^(t.toNat+(-(t-(j:Int))).toNat+1):=by
      rw[Nat.pow_succ,Nat.pow_succ,Nat.pow_add];ac_rfl
    rw[e1,e2];congr 2;omega
  have c2:raw M ((2*r+st)*2^t.toNat) (1*2^(-t).toNat)=raw M ((2*r+st)*2^(t.toNat+1)) (2*2^(-t).toNat):=by
    refine raw_congr (Nat.mul_pos (by omega) (two_pos _)) (Nat.mul_pos (by omega) (two_pos _)) ?_
    rw[Nat.pow_succ];ac_rfl
  unfold npat pat
  rw[c1,c2,key]
theorem root_l0 {V:Nat} (hV:V<18446744073709551616):∀ (n k q:Nat),n≤64→n<k→(q+1)*2^n≤18446744073709551616→q*2^n*(q*2^n)≤V*18446744073709551616→V*18446744073709551616<(q+1)*2^n*((q+1)*2^n) →
    ∃ r:Nat,soft_root.l0 k (V:Int) 0 ((q*2^n:Nat):Int) ((n:Int)-1)=some (r:Int)∧r<18446744073709551616∧r*r≤V*18446744073709551616∧V*18446744073709551616<(r+1)*(r+1):=by
  intro n
  induction n with
  | zero =>
    intro k q hn hk hb h1 h2
    obtain⟨k,rfl⟩:∃ j,k=j+1:=⟨k-1,by omega⟩
    rw[Nat.pow_zero,Nat.mul_one] at hb h1 h2 ⊢
    refine⟨q,?_,by omega,h1,h2⟩
    rw[soft_root.l0.eq_2,if_neg (by omega)]
  | succ i ih =>
    intro k q hn hk hb h1 h2
    obtain⟨k,rfl⟩:∃ j,k=j+1:=⟨k-1,by omega⟩
    have hip:=two_pos i
    have hpp:2^(i+1)=2*2^i:=by rw[Nat.pow_succ];omega
    have ei:(((i+1:Nat):Int)-1)=(i:Int):=by omega
    have ew:Unit→wrap64 ((i:Int)-1)=(i:Int)-1:=fun _=>w64 (by omega) (by omega)
    have eq2:q*2^(i+1)=2*q*2^i:=by rw[hpp];ac_rfl
    have hb':(2*q+1+1)*2^i≤18446744073709551616:=by
      have:(q+1)*2^(i+1)=(2*q+1+1)*2^i:=by rw[hpp,show 2*q+1+1=2*(q+1) by omega];ac_rfl
      rw[←this];exact hb
    have ht:q*2^(i+1)+2^i=(2*q+1)*2^i:=by rw[eq2,Nat.add_mul,Nat.one_mul]
    have hlt:(2*q+1)*2^i<18446744073709551616:=by
      have:(2*q+1+1)*2^i=(2*q+1)*2^i+2^i:=by rw[Nat.add_mul _ 1,Nat.one_mul]
      omega
    have hor:Go.bits .or .u64 ((q*2^(i+1):Nat):Int) (shl .u64 1 (i:Int))=(((2*q+1)*2^i:Nat):Int):=by
      rw[shl_one (by omega),or_add (Nat.pow_lt_pow_right (by omega) (by omega)) (by rw[ht];exact hlt),ht]
    have hq:=Nat.div_add_mod ((2*q+1)*2^i*((2*q+1)*2^i)) 18446744073709551616
    have hr:=Nat.mod_lt ((2*q+1)*2^i*((2*q+1)*2^i)) (show 0<18446744073709551616 by decide)
    have hup:(q+1)*2^(i+1)=(2*q+1+1)*2^i:=by rw[hpp,show 2*q+1+1=2*(q+1) by omega];ac_rfl
    rw[hup] at h2
    have yes:(2*q+1)*2^i*((2*q+1)*2^i)≤V*18446744073709551616→∃ r:Nat,soft_root.l0 k (V:Int) 0 (((2*q+1)*2^i:Nat):Int) ((i:Int)-1)=some (r:Int)∧r<18446744073709551616∧r*r≤V*18446744073709551616∧V*18446744073709551616<(r+1)*(r+1):=
      fun h=>ih k (2*q+1) (by omega) (by omega) hb' h h2
    have no:¬ (2*q+1)*2^i*((2*q+1)*2^i)≤V*18446744073709551616→∃ r:Nat,soft_root.l0 k (V:Int) 0 ((q*2^(i+1):Nat):Int) ((i:Int)-1)=some (r:Int)∧r<18446744073709551616∧r*r≤V*18446744073709551616∧V*18446744073709551616<(r+1)*(r+1):=by
      intro h
      rw[eq2] at h1 ⊢
      exact ih k (2*q) (by omega) (by omega) (Nat.le_trans (Nat.mul_le_mul_right _ (by omega)) hb') h1 (Nat.lt_of_not_le h)
    rw[soft_root.l0.eq_2,ei,if_pos (by omega),if_pos (by omega),hor,mul64 hlt hlt,Option.bind_some,ew ()]
    simp only[]
    clear ih hb hb' h1 h2 ht hlt hor hup eq2 ew
    generalize (2*q+1)*2^i*((2*q+1)*2^i)=T at *
    generalize T/18446744073709551616=th at *
    generalize T%18446744073709551616=tl at *
    by_cases c1:th<V
    · rw[if_pos (by omega)]
      refine yes ?_
      have:(th+1)*18446744073709551616≤V*18446744073709551616:=Nat.mul_le_mul_right _ c1
      rw[Nat.add_mul,Nat.mul_comm th] at this
      omega
    · rw[if_neg (by omega)]
      by_cases c2:th=V
      · subst c2
        rw[if_pos rfl]
        by_cases c3:tl=0
        · rw[if_pos (by omega)]
          refine yes ?_
          have hq':=hq
          rw[c3,Nat.add_zero,Nat.mul_comm] at hq'
          exact Nat.le_of_eq hq'.symm
        · rw[if_neg (by omega)]
          refine no ?_
          have hq':=hq
          rw[Nat.mul_comm] at hq'
          omega
      · rw[if_neg (by omega)]
        refine no ?_
        have:(V+1)*18446744073709551616≤th*18446744073709551616:=Nat.mul_le_mul_right _ (by omega)
        rw[Nat.add_mul,Nat.mul_comm th] at this
        omega
theorem root_f {k V:Nat} (hk:64<k) (hV:V<18446744073709551616):∃ r:Nat,soft_root.f k (V:Int) 0=some (r:Int)∧r<18446744073709551616∧r*r≤V*18446744073709551616∧V*18446744073709551616<(r+1)*(r+1):=by
  have:=root_l0 hV 64 k 0 (by omega) hk (by decide) (by simp) (by
    have:V*18446744073709551616<18446744073709551616*18446744073709551616:=Nat.mul_lt_mul_of_pos_right hV (by decide)
    exact this)
  rw[Nat.zero_mul] at this
  exact this
/-- THE ROOT as a pattern: of A units -/
def rootp (M X A:Nat):Nat:=
  npat M X (2*isq (A*2^(128+(least M X%2).toNat))+(if isq (A*2^(128+(least M X%2).toNat))*isq (A*2^(128+(least M X%2).toNat))=A*2^(128+(least M X%2).toNat) then 0 else 1)) 1
    ((least M X-least M X%2)/2-64-1-least M X)
def sqrtS (M X a:Nat):Nat:=
  if kd M X a=1∨(kd M X a=3∧sg M X a=false) then a
  else if kd M X a=4∨sg M X a=true then nanp M X
  else rootp M X (av M X a)
/-- any scaling by an even power that leaves bits enough tells the same root -/
theorem rootp_of {M X A V r st:Nat} {E:Int} (hr:2^(M+1)≤r) (h:Root V r st) (i j:Nat) (hV:V*4^j=A*2^(128+(least M X%2).toNat)) (hE:E=(least M X-least M X%2)/2-64+j) :
    npat M X (2*r+st) 1 (E-1-least M X)=rootp M X A:=by
  unfold rootp
  have hR:=root_isq (A*2^(128+(least M X%2).toNat))
  rw[←hV] at hR ⊢
  have:=npat_root (X:=X) (t:=E-1-least M X) hr h hR
  rw[←this,hE]
  congr 1;omega
theorem lz_eq {k a:Nat} (hk:1≤k) (ha:a<18446744073709551616):bits_LeadingZeros64.f k (a:Int)=some ((64-blen a:Nat):Int):=by
  obtain⟨j,rfl⟩:∃ j,k=j+1:=⟨k-1,by omega⟩
  have hb:blen a≤64:=blen_le (a:=a) (k:=64) ha
  unfold bits_LeadingZeros64.f
  rw[len_eq j ha,Option.bind_some,w64 (by omega) (by omega)]
  congr 1;omega
section
variable {M X:Nat} (hM:2≤M) (hM':M≤52) (hX:2≤X) (hX':X≤11)
include hM hM' hX hX'
/-- the last part: with the number moved to the left by t -/
theorem sqrt_tail {k:Nat} (hk:70<k) {m s t:Nat} (hm:m<2^(M+1)) (hs:s<2048) (ht:t≤63) (hlo:4611686018427387904≤m*2^t) (hhi:m*2^t<18446744073709551616) (hev:(least M X+(s:Int)-t)%2=0) :
    ((soft_root.f k (((m*2^t:Nat)):Int) 0).bind fun t490=>((bits_Mul64.f t490 t490).bind fun bt491=>(if bt491.1=((m*2^t:Nat):Int) then ((round_Pack.f k (M:Int) (X:Int) false 0 t490 (wrap64 (Int.tdiv (wrap64 ((wrap64 (least M X+(s:Int)-(t:Int)))-64)) 2)) (bt491.2 != 0)).bind fun bt493=>(some (bt493.1,bt493.2))) else ((round_Pack.f k (M:Int) (X:Int) false 0 t490 (wrap64 (Int.tdiv (wrap64 ((wrap64 (least M X+(s:Int)-(t:Int)))-64)) 2)) true).bind fun bt495=>(some (bt495.1,bt495.2)))))) =
      some (((rootp M X (m*2^s):Nat):Int),0):=by
  obtain⟨l1,l2,l3⟩:=least_bounds hM hM' hX hX'
  obtain⟨r,h1,h2,h3,h4⟩:=root_f (k:=k) (by omega) hhi
  have hr63:9223372036854775808≤r:=by
    refine Nat.le_of_not_lt fun hlt=>?_
    have h5:(r+1)*(r+1)≤9223372036854775808*9223372036854775808:=Nat.mul_le_mul (by omega) (by omega)
    have h6:4611686018427387904*18446744073709551616≤m*2^t*18446744073709551616:=Nat.mul_le_mul_right _ hlo
    have h7:(9223372036854775808*9223372036854775808:Nat)=4611686018427387904*18446744073709551616:=by decide
    rw[h7] at h5
    exact absurd (Nat.lt_of_lt_of_le h4 h5) (Nat.not_lt.2 h6)
  have hM53:2^(M+1)≤9007199254740992:=Nat.pow_le_pow_right (n:=2) (by omega) (show M+1≤53 by omega)
  obtain⟨e,he⟩:∃ e:Int,least M X+(s:Int)-t-64=2*e:=⟨(least M X+(s:Int)-t-64)/2,by omega⟩
  have hw:Unit→wrap64 (Int.tdiv (wrap64 ((wrap64 (least M X+(s:Int)-(t:Int)))-64)) 2)=e:=fun _=>by
    rw[w64 (n:=least M X+(s:Int)-(t:Int)) (by omega) (by omega),w64 (n:=least M X+(s:Int)-(t:Int)-64) (by omega) (by omega),he,Int.mul_tdiv_cancel_left _ (by decide),w64 (by omega) (by omega)]
  have hq:=Nat.div_add_mod (r*r) 18446744073709551616
  have hrem:=Nat.mod_lt (r*r) (show 0<18446744073709551616 by decide)
  have hbl:blen r=64:=blen_eq (k:=63) h2 hr63
  have pk:=fun more=>pack_ok hM hM' hX hX' (k-3) false (hi:=0) (lo:=r) (by omega) h2 (e:=e) (by omega) (by omega) more (by rw[zero_lo,hbl];intro _;omega)
  have z0:((0:Nat):Int)=0:=rfl
  have hs0:sgn M X false=0:=rfl
  simp only[zero_lo,z0,show k-3+3=k by omega,hs0,Nat.zero_add] at pk
  -- the root, told
  have fin:∀ more:Bool,more=decide (r*r≠m*2^t*18446744073709551616)→npat M X (2*r+(if more then 1 else 0)) 1 (e-1-least M X)=rootp M X (m*2^s):=by
    intro more hmore
    have hR:Root (m*2^t*18446744073709551616) r (if more then 1 else 0):=by
      refine⟨h3,h4,?_⟩
      rw[hmore]
      by_cases hc:r*r=m*2^t*18446744073709551616
      · rw[decide_eq_false (fun h=>h hc),if_pos hc];rfl
      · rw[decide_eq_true hc,if_neg hc];rfl
    obtain⟨j,hj⟩:∃ j:Nat,(s:Int)-t+64+(least M X%2)=2*(j:Int):=⟨(((s:Int)-t+64+(least M X%2))/2).toNat,by omega⟩
    refine rootp_of (by omega) hR 0 j ?_ (by omega)
    have h4j:4^j=2^(2*j):=by rw[Nat.pow_mul]
    have h264:(18446744073709551616:Nat)=2^64:=by decide
    rw[h264,h4j,Nat.mul_assoc,Nat.mul_assoc,Nat.mul_assoc,←Nat.pow_add,←Nat.pow_add,←Nat.pow_add]
    congr 2;omega
  rw[h1,Option.bind_some,mul64 h2 h2,Option.bind_some,hw ()]
  simp only[]
  have hiff:r*r=m*2^t*18446744073709551616↔(r*r/18446744073709551616=m*2^t∧r*r%18446744073709551616=0):=by
    constructor
    · intro h;rw[h,Nat.mul_div_cancel _ (by decide),Nat.mul_mod_left];exact⟨rfl,rfl⟩
    · intro ⟨ha,hb⟩;rw[←hq,ha,hb,Nat.add_zero,Nat.mul_comm]
  by_cases c1:r*r/18446744073709551616=m*2^t
  · have hb:(((r*r%18446744073709551616:Nat):Int) != 0)=decide (r*r≠m*2^t*18446744073709551616):=by
      rw[int_ne]
      by_cases c2:r*r%18446744073709551616=0
      · rw[decide_eq_false (fun h=>h c2),decide_eq_false (fun h=>h (hiff.2 ⟨c1,c2⟩))]
      · rw[decide_eq_true c2,decide_eq_true (show r*r≠m*2^t*18446744073709551616 from fun h=>c2 (hiff.1 h).2)]
    rw[if_pos (nate c1),pk,Option.bind_some,fin _ hb]
  · have hb:true=decide (r*r≠m*2^t*18446744073709551616):=by rw[decide_eq_true (show r*r≠m*2^t*18446744073709551616 from fun h=>c1 (hiff.1 h).1)]
    rw[if_neg (natn c1),pk,Option.bind_some,fin _ hb]
theorem sqrt_eq {k:Nat} (hk:80<k) {a:Nat} (ha:Pt M X a):soft_Sqrt.f k (M:Int) (X:Int) (a:Int)=some (((sqrtS M X a:Nat):Int),0):=by
  obtain⟨k,rfl⟩:∃ j,k=j+1:=⟨k-1,by omega⟩
  obtain⟨l1,l2,l3⟩:=least_bounds hM hM' hX hX'
  unfold soft_Sqrt.f
  rw[open_pt hM hM' hX hX' (by omega) ha,Option.bind_some,if_pos rfl]
  dsimp only
  unfold sqrtS
  rcases kd_cases M X a with h1|h2|h3|h4
  · rw[if_pos (by rw[h1];rfl),soft_Sqrt.j0.eq_2,if_pos rfl,if_pos (Or.inl h1)]
  · rw[if_neg (show ¬ ((kd M X a:Nat):Int)=1 by omega),if_neg (show ¬ ((kd M X a:Nat):Int)=3 by omega),soft_Sqrt.j0.eq_2,if_neg (by simp),if_neg (show ¬ ((kd M X a:Nat):Int)=4 by omega),if_neg (show ¬ (kd M X a=1∨(kd M X a=3∧sg M X a=false)) from fun h=>h.elim (fun h=>by omega) (fun h=>absurd h.1 (by omega)))]
    by_cases hn:sg M X a=true
    · rw[if_pos hn,if_pos (Or.inr hn),nan_f hM hM' hX hX',Option.bind_some]
    · obtain⟨a1,a2,a3,a4,a5⟩:=fin_form hM hM' hX hX' h2
      obtain⟨a6,a7⟩:=fin_ex h2
      have hM53:2^(M+1)≤9007199254740992:=Nat.pow_le_pow_right (n:=2) (by omega) (show M+1≤53 by omega)
      rw[if_neg hn,if_neg (fun h=>h.elim (by omega) hn),a6,a7,a5]
      generalize man M (mg M X a)=m at *
      generalize sh M (mg M X a)=s at *
      have hbp:=blen_pos (a:=m) (by omega)
      have hb53:blen m≤53:=blen_le (a:=m) (k:=53) (by omega)
      have hlt:=blen_lt m
      have hge:=blen_ge (a:=m) (by omega)
      have up:∀ t,t+blen m≤64→m*2^t<18446744073709551616:=by
        intro t ht
        have h5:m*2^t<2^blen m*2^t:=Nat.mul_lt_mul_of_pos_right hlt (two_pos t)
        rw[←Nat.pow_add] at h5
        exact Nat.lt_of_lt_of_le h5 (Nat.pow_le_pow_right (n:=2) (j:=64) (by omega) (by omega))
      have dn:∀ t,63≤t+blen m→4611686018427387904≤m*2^t:=by
        intro t ht
        have h5:2^(blen m-1)*2^t≤m*2^t:=Nat.mul_le_mul_right _ hge
        rw[←Nat.pow_add] at h5
        exact Nat.le_trans (Nat.pow_le_pow_right (n:=2) (i:=62) (j:=blen m-1+t) (by omega) (by omega)) h5
      have hwe:Unit→wrap64 (least M X+(s:Int)-((64-blen m:Nat):Int))=least M X+(s:Int)-((64-blen m:Nat):Int):=fun _=>w64 (by omega) (by omega)
      rw[lz_eq (by omega) (by omega),Option.bind_some]
      have hmod:Int.tmod (wrap64 (least M X+(s:Int)-((64-blen m:Nat):Int))) 2=0↔(least M X+(s:Int)-((64-blen m:Nat):Int))%2=0:=by
        rw[hwe ()]
        exact⟨fun h=>Int.emod_eq_zero_of_dvd (Int.dvd_of_tmod_eq_zero h),fun h=>Int.tmod_eq_zero_of_dvd (Int.dvd_of_emod_eq_zero h)⟩
      by_cases hev:(least M X+(s:Int)-((64-blen m:Nat):Int))%2=0
      · rw[if_pos (hmod.2 hev),if_pos (Int.natCast_nonneg _),shl_nat (by omega) (up _ (by omega))]
        exact sqrt_tail hM hM' hX hX' (by omega) a2 a3 (by omega) (dn _ (by omega)) (up _ (by omega)) hev
      · have hw1:Unit→wrap64 (((64-blen m:Nat):Int)-1)=((64-blen m-1:Nat):Int):=fun _=>by rw[w64 (by omega) (by omega)];omega
        rw[if_neg (fun h=>hev (hmod.1 h)),hw1 (),if_pos (Int.natCast_nonneg _),shl_nat (by omega) (up _ (by omega))]
        exact sqrt_tail hM hM' hX hX' (by omega) a2 a3 (by omega) (dn _ (by omega)) (up _ (by omega)) (by omega)
  · rw[if_neg (show ¬ ((kd M X a:Nat):Int)=1 by omega),if_pos (by rw[h3];rfl),soft_Sqrt.j0.eq_2]
    by_cases hn:sg M X a=true
    · rw[hn,if_neg (by simp),if_neg (show ¬ ((kd M X a:Nat):Int)=4 by omega),if_pos rfl,nan_f hM hM' hX hX',Option.bind_some,if_neg (show ¬ (kd M X a=1∨(kd M X a=3∧true=false)) from fun h=>h.elim (fun h=>by omega) (fun h=>absurd h.2 (by decide))),if_pos (Or.inr rfl)]
    · have hn2:sg M X a=false:=by simpa using hn
      rw[hn2,if_pos (by rfl),if_pos (Or.inr ⟨h3,rfl⟩)]
  · rw[if_neg (show ¬ ((kd M X a:Nat):Int)=1 by omega),if_neg (show ¬ ((kd M X a:Nat):Int)=3 by omega),soft_Sqrt.j0.eq_2,if_neg (by simp),if_pos (by rw[h4];rfl),nan_f hM hM' hX hX',Option.bind_some,if_neg (show ¬ (kd M X a=1∨(kd M X a=3∧sg M X a=false)) from fun h=>h.elim (fun h=>by omega) (fun h=>absurd h.1 (by omega))),if_pos (Or.inl h4)]
end
theorem sqrt_ng {k:Nat} (hk:4≤k) {m x:Int} {a:Nat} (ha:a<18446744073709551616) (h:¬ Good m x a):soft_Sqrt.f k m x (a:Int)=some (0,1):=by
  unfold soft_Sqrt.f
  rw[open_ng (by omega) ha h,Option.bind_some,if_neg (by decide)]
end Go.Proofs.Ytmmbgbchimangaa.RS
