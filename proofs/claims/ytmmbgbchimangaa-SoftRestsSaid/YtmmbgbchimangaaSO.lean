import Derived.Test.YtmmbgbchimangaaPQx3
import Derived.Test.YtmmbgbchimangaaSD
namespace Go.Proofs.Ytmmbgbchimangaa.RS
set_option linter.all false
open Go.RowKit Go.Proofs.Ytmmbgbchimangaa.PQ Go.Proofs.YtmmbgbchimangaaW.PrintWords Go.Proofs.YtmmbgbchimangaaW.PrintLast Go.Proofs.YtmmbgbchimangaaW.PrintMore
open FT
/-- WHAT A DIVISION LEAVES, and its whole quotient, as patterns -/
def modR (M X a b:Nat):Nat:=
  if kd M X a=4∨kd M X b=4∨kd M X a=3∨kd M X b=1 then nanp M X
  else if kd M X a=1∨kd M X b=3 then a
  else sgn M X (sg M X a)+pat M (inf M X) (av M X a%av M X b) 1
def modQ (M X a b:Nat):Nat:=
  if kd M X a=4∨kd M X b=4∨kd M X a=3∨kd M X b=1 then nanp M X
  else if kd M X a=1∨kd M X b=3 then sgn M X (sg M X a != sg M X b)
  else sgn M X (sg M X a != sg M X b)+npat M X (av M X a/av M X b) 1 (0-least M X)
theorem or_bit {q b:Nat} (hq:q<4611686018427387904) (hb:b≤1):Go.bits .or .u64 (IntKind.u64.wrap ((q:Int)*2)) (b:Int)=((2*q+b:Nat):Int):=by
  have h1:IntKind.u64.wrap ((q:Int)*2)=((q*2^1:Nat):Int):=by rw[wu64];omega
  rw[h1,or_add (i:=1) (by omega) (by omega)];congr 1;omega
theorem next_digit {mb Q R:Nat} (hmb:0<mb) (hR:R<mb) (d:Nat) :
    (mb≤2*R→Q*2^(d+1)+R*2^(d+1)/mb=(2*Q+1)*2^d+(2*R-mb)*2^d/mb∧R*2^(d+1)%mb=(2*R-mb)*2^d%mb) ∧
    (Q*2^(d+1)+R*2^(d+1)/mb=(2*Q)*2^d+(2*R)*2^d/mb∧R*2^(d+1)%mb=(2*R)*2^d%mb):=by
  have e1:R*2^(d+1)=2*R*2^d:=by rw[Nat.pow_succ];ac_rfl
  have e2:Q*2^(d+1)=2*Q*2^d:=by rw[Nat.pow_succ];ac_rfl
  rw[e1,e2]
  refine⟨fun h=>?_,rfl,rfl⟩
  obtain⟨t,ht⟩:∃ t,2*R=mb+t:=⟨2*R-mb,by omega⟩
  rw[ht,Nat.add_sub_cancel_left,Nat.add_mul mb,Nat.add_comm (mb*2^d),Nat.add_mul_div_left _ _ hmb,Nat.add_mul_mod_self_left,Nat.add_mul (2*Q),Nat.one_mul]
  exact⟨by omega,rfl⟩
theorem beyond_more {Q b β:Nat} (hb:b≤1):(2*Q+b)/2^(β+1)=Q/2^β∧((2*Q+b)%2^(β+1)≠0↔(Q%2^β≠0∨b=1)):=by
  have hp:2^(β+1)=2*2^β:=by rw[Nat.pow_succ];omega
  have h1:(2*Q+b)/2=Q:=by omega
  have e1:(2*Q+b)/2^(β+1)=Q/2^β:=by rw[hp,←Nat.div_div_eq_div_mul,h1]
  refine⟨e1,?_⟩
  have a1:=Nat.div_add_mod (2*Q+b) (2^(β+1))
  have a2:=Nat.div_add_mod Q (2^β)
  rw[e1,hp,Nat.mul_assoc] at a1
  rw[hp]
  omega
theorem divided_l0 {mb:Nat} (hmb:0<mb) (hmb':mb<9007199254740992):∀ (d k Q R β:Nat),d<k→R<mb→((β=0∧Q<9223372036854775808)∨(4611686018427387904≤Q/2^β∧Q/2^β<9223372036854775808))→β+d≤4096 →
    ∃ β':Nat,β'≤β+d∧((β'=0∧Q*2^d+R*2^d/mb<9223372036854775808)∨(4611686018427387904≤(Q*2^d+R*2^d/mb)/2^β'∧(Q*2^d+R*2^d/mb)/2^β'<9223372036854775808)) ∧
      soft_divided.l0 k (mb:Int) (d:Int) ((Q/2^β:Nat):Int) (β:Int) (decide (Q%2^β≠0)) (R:Int) =
        some ((((Q*2^d+R*2^d/mb)/2^β':Nat):Int),(β':Int),decide ((Q*2^d+R*2^d/mb)%2^β'≠0),((R*2^d%mb:Nat):Int)):=by
  intro d
  induction d with
  | zero =>
    intro k Q R β hk hR hQ hb
    obtain⟨k,rfl⟩:∃ j,k=j+1:=⟨k-1,by omega⟩
    rw[Nat.pow_zero,Nat.mul_one,Nat.mul_one,Nat.div_eq_of_lt hR,Nat.mod_eq_of_lt hR,Nat.add_zero]
    refine⟨β,by omega,hQ,?_⟩
    rw[soft_divided.l0.eq_2,if_neg (by omega),Nat.add_zero]
  | succ d ih =>
    intro k Q R β hk hR hQ hb
    obtain⟨k,rfl⟩:∃ j,k=j+1:=⟨k-1,by omega⟩
    have wd:Unit→wrap64 (((d+1:Nat):Int)-1)=(d:Int):=fun _=>by rw[w64 (by omega) (by omega)];omega
    have w2:Unit→IntKind.u64.wrap ((R:Int)*2)=((2*R:Nat):Int):=fun _=>by rw[wu (by omega) (by omega)];omega
    have wb:Unit→wrap64 ((β:Int)+1)=((β+1:Nat):Int):=fun _=>by rw[w64 (by omega) (by omega)];omega
    obtain⟨n1,n2⟩:=next_digit (Q:=Q) hmb hR d
    have q62:∀ b,b≤1→Q/2^β<4611686018427387904→β=0∧Q<4611686018427387904:=by
      intro b hb h
      rcases hQ with⟨h1,h2⟩|⟨h1,h2⟩
      · subst h1;rw[Nat.pow_zero,Nat.div_one] at h;exact⟨rfl,h⟩
      · omega
    have dz:Unit→∀ x:Nat,((x:Int)/4611686018427387904=0↔x<4611686018427387904):=fun _ x=>by omega
    rw[soft_divided.l0.eq_2,if_pos (by omega),w2 (),wd ()]
    by_cases hge:mb≤2*R
    · have ws:Unit→IntKind.u64.wrap (((2*R:Nat):Int)-(mb:Int))=((2*R-mb:Nat):Int):=fun _=>by rw[wu (by omega) (by omega)];omega
      obtain⟨n3,n4⟩:=n1 hge
      rw[n3,n4,if_pos (by omega),ws ()]
      by_cases hlt:Q/2^β<4611686018427387904
      · obtain⟨z1,z2⟩:=q62 1 (by omega) hlt
        subst z1
        have c1:((1:Nat):Int)=1:=rfl
        have ob:=or_bit (q:=Q) (b:=1) z2 (by omega)
        rw[c1] at ob
        rw[if_pos ((dz () _).2 hlt),Nat.pow_zero,Nat.div_one,ob]
        obtain⟨β',b1,b2,b3⟩:=ih k (2*Q+1) (2*R-mb) 0 (by omega) (by omega) (Or.inl ⟨rfl,by omega⟩) (by omega)
        rw[Nat.pow_zero,Nat.div_one,Nat.mod_one] at b3
        refine⟨β',by omega,b2,?_⟩
        rw[Nat.mod_one];exact b3
      · obtain⟨e1,e2⟩:=beyond_more (Q:=Q) (b:=1) (β:=β) (by omega)
        have hd:decide ((2*Q+1)%2^(β+1)≠0)=true:=decide_eq_true (e2.2 (Or.inr rfl))
        have hq2:Q/2^β<9223372036854775808:=by
          rcases hQ with⟨h1,h2⟩|⟨h1,h2⟩
          · exact Nat.lt_of_le_of_lt (Nat.div_le_self _ _) h2
          · exact h2
        obtain⟨β',b1,b2,b3⟩:=ih k (2*Q+1) (2*R-mb) (β+1) (by omega) (by omega) (Or.inr (by rw[e1];exact⟨by omega,hq2⟩)) (by omega)
        rw[e1,hd] at b3
        refine⟨β',by omega,b2,?_⟩
        rw[if_neg (fun h=>hlt ((dz () _).1 h)),wb ()]
        split <;> exact b3
    · obtain⟨n3,n4⟩:=n2
      rw[n3,n4,if_neg (by omega)]
      by_cases hlt:Q/2^β<4611686018427387904
      · obtain⟨z1,z2⟩:=q62 0 (by omega) hlt
        subst z1
        have c1:((0:Nat):Int)=0:=rfl
        have ob:=or_bit (q:=Q) (b:=0) z2 (by omega)
        rw[c1,Nat.add_zero] at ob
        rw[if_pos ((dz () _).2 hlt),Nat.pow_zero,Nat.div_one,ob]
        obtain⟨β',b1,b2,b3⟩:=ih k (2*Q) (2*R) 0 (by omega) (by omega) (Or.inl ⟨rfl,by omega⟩) (by omega)
        rw[Nat.pow_zero,Nat.div_one,Nat.mod_one] at b3
        refine⟨β',by omega,b2,?_⟩
        rw[Nat.mod_one];exact b3
      · obtain⟨e1,e2⟩:=beyond_more (Q:=Q) (b:=0) (β:=β) (by omega)
        rw[Nat.add_zero] at e1 e2
        have hq2:Q/2^β<9223372036854775808:=by
          rcases hQ with⟨h1,h2⟩|⟨h1,h2⟩
          · exact Nat.lt_of_le_of_lt (Nat.div_le_self _ _) h2
          · exact h2
        obtain⟨β',b1,b2,b3⟩:=ih k (2*Q) (2*R) (β+1) (by omega) (by omega) (Or.inr (by rw[e1];exact⟨by omega,hq2⟩)) (by omega)
        rw[e1] at b3
        refine⟨β',by omega,b2,?_⟩
        rw[if_neg (fun h=>hlt ((dz () _).1 h)),wb ()]
        by_cases hm:Q%2^β≠0
        · have hd:decide ((2*Q)%2^(β+1)≠0)=true:=decide_eq_true (e2.2 (Or.inl hm))
          rw[hd] at b3
          rw[decide_eq_true hm,if_pos rfl];exact b3
        · have hd:decide ((2*Q)%2^(β+1)≠0)=false:=decide_eq_false fun h=>(e2.1 h).elim hm (by omega)
          rw[hd] at b3
          rw[decide_eq_false hm,if_neg (by simp)];exact b3
theorem divided_eq {ma mb d k:Nat} (hmb:0<mb) (hmb':mb<9007199254740992) (hma:ma<9007199254740992) (hd:d≤4096) (hk:d<k) :
    ∃ β:Nat,β≤d∧((β=0∧ma*2^d/mb<9223372036854775808)∨(4611686018427387904≤ma*2^d/mb/2^β∧ma*2^d/mb/2^β<9223372036854775808)) ∧
      soft_divided.f k (ma:Int) (mb:Int) (d:Int)=some (((ma*2^d/mb/2^β:Nat):Int),(β:Int),decide (ma*2^d/mb%2^β≠0),((ma*2^d%mb:Nat):Int)):=by
  have hq:ma/mb<9007199254740992:=Nat.lt_of_le_of_lt (Nat.div_le_self _ _) hma
  obtain⟨β,b1,b2,b3⟩:=divided_l0 hmb hmb' d k (ma/mb) (ma%mb) 0 hk (Nat.mod_lt _ hmb) (Or.inl ⟨rfl,by omega⟩) (by omega)
  have h:=Nat.div_add_mod ma mb
  have e:ma*2^d=ma%mb*2^d+mb*(ma/mb*2^d):=by
    have h1:(mb*(ma/mb)+ma%mb)*2^d=mb*(ma/mb*2^d)+ma%mb*2^d:=by rw[Nat.add_mul,Nat.mul_assoc]
    rw[h] at h1;omega
  have e1:ma*2^d/mb=ma/mb*2^d+ma%mb*2^d/mb:=by rw[e,Nat.add_mul_div_left _ _ hmb,Nat.add_comm]
  have e2:ma*2^d%mb=ma%mb*2^d%mb:=by rw[e,Nat.add_mul_mod_self_left]
  rw[←e1,←e2] at b3
  rw[←e1] at b2
  refine⟨β,by omega,b2,?_⟩
  have hw:IntKind.u64.wrap (((ma/mb:Nat):Int))=((ma/mb:Nat):Int):=wuN (by omega)
  have tmd:Int.tmod (ma:Int) (mb:Int)=((ma%mb:Nat):Int):=by rw[Int.tmod_eq_emod_of_nonneg (by omega)];simp
  unfold soft_divided.f
  rw[if_neg (nat0 (by omega)),td_nat,hw,tmd]
  rw[Nat.pow_zero,Nat.div_one,Nat.mod_one] at b3
  exact b3
section
variable {M X:Nat} (hM:2≤M) (hM':M≤52) (hX:2≤X) (hX':X≤11)
include hM hM' hX hX'
/-- the quotient, packed -/
theorem quo_pack {k:Nat} (hk:4≤k) (neg:Bool) {Q β:Nat} (hβ:β≤4096) (hQ:(β=0∧Q<9223372036854775808)∨(4611686018427387904≤Q/2^β∧Q/2^β<9223372036854775808)) :
    round_Pack.f k (M:Int) (X:Int) neg 0 ((Q/2^β:Nat):Int) (β:Int) (decide (Q%2^β≠0))=some (((sgn M X neg+npat M X Q 1 (0-least M X):Nat):Int),0):=by
  have z0:((0:Nat):Int)=0:=rfl
  rcases hQ with⟨rfl,h⟩|⟨h1,h2⟩
  · have pk:=pack_gen hM hM' hX hX' (k:=k) (by omega) neg (hi:=0) (lo:=Q) (by omega) (by omega) (e:=0) (by omega) (by omega)
    rw[z0,zero_lo] at pk
    rw[Nat.pow_zero,Nat.div_one,Nat.mod_one,z0]
    exact pk
  · have hM53:2^(M+1)≤9007199254740992:=Nat.pow_le_pow_right (n:=2) (by omega) (show M+1≤53 by omega)
    have hbl:blen (Q/2^β)=63:=blen_eq (k:=62) h2 h1
    have pk:=pack_ok hM hM' hX hX' (k-3) neg (hi:=0) (lo:=Q/2^β) (by omega) (by omega) (e:=(β:Int)) (by omega) (by omega) (decide (Q%2^β≠0)) (by rw[zero_lo,hbl];intro _;omega)
    rw[z0,zero_lo,show k-3+3=k by omega] at pk
    have hst:(if decide (Q%2^β≠0)=true then 1 else 0)=(if Q%2^β=0 then 0 else 1):=by
      by_cases h:Q%2^β=0
      · rw[decide_eq_false (fun h2=>h2 h),if_pos h];rfl
      · rw[decide_eq_true h,if_neg h,if_pos rfl]
    have key:=npat_quo (M:=M) (X:=X) (A:=Q) (B:=2^β) (t:=(β:Int)-least M X) (two_pos β) (by omega)
    have rat:=npat_rat (M:=M) (X:=X) (a:=Q) (b:=1) (x:=0) (y:=β) (s:=(β:Int)-least M X) (by omega)
    rw[Nat.pow_zero,Nat.mul_one,Nat.one_mul] at rat
    have e1:(β:Int)-1-least M X=(β:Int)-least M X-1:=by omega
    have e2:(β:Int)-least M X+((0:Nat):Int)-(β:Int)=0-least M X:=by omega
    rw[e2] at rat
    rw[pk,hst,e1,key,rat]
theorem mod_eq {k:Nat} (hk:5000≤k) {a b:Nat} (ha:Pt M X a) (hb:Pt M X b):soft_Mod.f k (M:Int) (X:Int) (a:Int) (b:Int)=some (((modR M X a b:Nat):Int),((modQ M X a b:Nat):Int),0):=by
  obtain⟨k,rfl⟩:∃ j,k=j+2:=⟨k-2,by omega⟩
  obtain⟨l1,l2,l3⟩:=least_bounds hM hM' hX hX'
  have hn:=nan_f hM hM' hX hX'
  have hz:=zero_eq hM hM' hX hX'
  have hfin:kd M X a=2→kd M X b=2→soft_Mod.j0 (k+2) (a:Int) (sg M X a != sg M X b) false (M:Int) (X:Int) 2 (sg M X a) (ex M X a) ((mt M X a:Nat):Int) 2 (sg M X b) (ex M X b) ((mt M X b:Nat):Int) =
      some (((sgn M X (sg M X a)+pat M (inf M X) (av M X a%av M X b) 1:Nat):Int),((sgn M X (sg M X a != sg M X b)+npat M X (av M X a/av M X b) 1 (0-least M X):Nat):Int),0):=by
    intro h1 h2
    have hself:sgn M X (sg M X a)+pat M (inf M X) (av M X a) 1=a:=by
      have h3:=(kd2 hM hM' hX hX').1 h1
      unfold av
      rw[pat_fits (by omega)]
      exact (pt_split ha).symm
    obtain⟨a1,a2,a3,a4,a5⟩:=fin_form hM hM' hX hX' h1
    obtain⟨b1,b2,b3,b4,b5⟩:=fin_form hM hM' hX hX' h2
    obtain⟨a6,a7⟩:=fin_ex h1
    obtain⟨b6,b7⟩:=fin_ex h2
    have hM53:2^(M+1)≤9007199254740992:=Nat.pow_le_pow_right (n:=2) (by omega) (show M+1≤53 by omega)
    rw[a5] at hself
    rw[a5,b5,a6,a7,b6,b7]
    generalize man M (mg M X a)=ma at *
    generalize man M (mg M X b)=mb at *
    generalize sh M (mg M X a)=sa at *
    generalize sh M (mg M X b)=sb at *
    have n0:npat M X 0 1 (0-least M X)=0:=npat_zero (by omega)
    have z0:((0:Nat):Int)=0:=rfl
    rw[soft_Mod.j0.eq_2,if_neg (by simp),if_neg (by decide),if_neg (by decide)]
    by_cases hlt:sa<sb
    · obtain⟨d,rfl⟩:∃ d,sb=sa+d:=⟨sb-sa,by omega⟩
      have hw:Unit→wrap64 (least M X+((sa+d:Nat):Int)-(least M X+(sa:Int)))=(d:Int):=fun _=>by rw[w64 (by omega) (by omega)];omega
      have eb:mb*2^(sa+d)=mb*2^d*2^sa:=by rw[Nat.pow_add];ac_rfl
      have hsp:=two_pos sa
      have hdp:=two_pos d
      have lessCase:ma<mb*2^d→∀ p,p=true→soft_Mod.j1 (k+1) (a:Int) (sg M X a != sg M X b) (d:Int) p (M:Int) (X:Int) 2 (sg M X a) (least M X+(sa:Int)) (ma:Int) 2 (sg M X b) (least M X+((sa+d:Nat):Int)) (mb:Int) =
          some (((sgn M X (sg M X a)+pat M (inf M X) (ma*2^sa%(mb*2^(sa+d))) 1:Nat):Int),((sgn M X (sg M X a != sg M X b)+npat M X (ma*2^sa/(mb*2^(sa+d))) 1 (0-least M X):Nat):Int),0):=by
        intro h p hp
        have hlt2:ma*2^sa<mb*2^(sa+d):=by rw[eb];exact Nat.mul_lt_mul_of_pos_right h hsp
        rw[hp,soft_Mod.j1.eq_2,if_pos rfl,hz,Option.bind_some,Nat.mod_eq_of_lt hlt2,Nat.div_eq_of_lt hlt2,n0,Nat.add_zero,hself]
      rw[if_pos (by omega),hw ()]
      by_cases h63:63<d
      · have hp:2^64≤2^d:=Nat.pow_le_pow_right (by omega) h63
        have:1*2^64≤mb*2^d:=Nat.mul_le_mul b1 hp
        rw[if_pos (by omega)]
        exact lessCase (by omega) true rfl
      · rw[if_neg (by omega),if_pos (by omega),shr_nat (by omega)]
        by_cases hc:ma<mb*2^d
        · have hc2:ma/2^d<mb:=(Nat.div_lt_iff_lt_mul hdp).2 hc
          exact lessCase hc _ (decide_eq_true (Int.ofNat_lt.2 hc2))
        · have hc2:¬ ma/2^d<mb:=fun h=>hc ((Nat.div_lt_iff_lt_mul hdp).1 h)
          have hnp:0<mb*2^d:=Nat.mul_pos b1 hdp
          have hq:ma/(mb*2^d)≤ma:=Nat.div_le_self _ _
          have hr:ma%(mb*2^d)≤ma:=Nat.mod_le _ _
          have hwq:IntKind.u64.wrap (((ma/(mb*2^d):Nat):Int))=((ma/(mb*2^d):Nat):Int):=wuN (by omega)
          have tmd:Int.tmod (ma:Int) ((mb*2^d:Nat):Int)=((ma%(mb*2^d):Nat):Int):=by rw[Int.tmod_eq_emod_of_nonneg (by omega)];simp
          have p1:=pack_gen hM hM' hX hX' (k:=k) (by omega) (sg M X a != sg M X b) (hi:=0) (lo:=ma/(mb*2^d)) (by omega) (by omega) (e:=0) (by omega) (by omega)
          have p2:=pack_units hM hM' hX hX' (k:=k) (by omega) (sg M X a) (hi:=0) (lo:=ma%(mb*2^d)) (by omega) (by omega) (s:=sa) (by omega)
          rw[z0,zero_lo] at p1 p2
          have dd:decide (((ma/2^d:Nat):Int)<(mb:Int))=false:=decide_eq_false (fun h=>hc2 (Int.ofNat_lt.1 h))
          rw[dd,soft_Mod.j1.eq_2,if_neg (by simp),if_pos (by omega),shl_nat (by omega) (by omega),if_neg (nat0 (by omega)),td_nat,hwq,tmd,p1,Option.bind_some,p2,Option.bind_some,eb,Nat.mul_div_mul_right _ _ hsp,Nat.mul_mod_mul_right]
    · obtain⟨d,rfl⟩:∃ d,sa=sb+d:=⟨sa-sb,by omega⟩
      have hw:Unit→wrap64 (least M X+((sb+d:Nat):Int)-(least M X+(sb:Int)))=(d:Int):=fun _=>by rw[w64 (by omega) (by omega)];omega
      have ea:ma*2^(sb+d)=ma*2^d*2^sb:=by rw[Nat.pow_add];ac_rfl
      have hsp:=two_pos sb
      obtain⟨β,c1,c2,c3⟩:=divided_eq (ma:=ma) (mb:=mb) (d:=d) (k:=k+1) b1 (by omega) (by omega) (by omega) (by omega)
      have hrm:ma*2^d%mb<mb:=Nat.mod_lt _ b1
      have p1:=quo_pack hM hM' hX hX' (k:=k+1) (by omega) (sg M X a != sg M X b) (Q:=ma*2^d/mb) (β:=β) (by omega) c2
      have p2:=pack_units hM hM' hX hX' (k:=k+1) (by omega) (sg M X a) (hi:=0) (lo:=ma*2^d%mb) (by omega) (by omega) (s:=sb) (by omega)
      rw[z0,zero_lo] at p2
      rw[if_neg (by omega),hw (),c3,Option.bind_some]
      dsimp only
      rw[p1,Option.bind_some,p2,Option.bind_some,ea,Nat.mul_div_mul_right _ _ hsp,Nat.mul_mod_mul_right]
  unfold soft_Mod.f
  rw[two_ok hM hM' hX hX' (by omega) ha hb,Option.bind_some]
  simp only[if_true,soft_odd.f]
  rcases kd_cases M X a with h1|h1|h1|h1 <;> rcases kd_cases M X b with h2|h2|h2|h2
  case inr.inl.inr.inl =>
    have hf:=hfin h1 h2
    simp (config:={ decide:=true }) only[h1,h2,soft_odd.f,Option.bind_some,modR,modQ,if_true,if_false,or_self,false_or,or_false,Bool.false_eq_true]
    exact hf
  all_goals simp (config:={ decide:=true }) only[h1,h2,soft_Mod.j0.eq_2,soft_odd.f,hn,hz,Option.bind_some,modR,modQ,if_true,if_false,or_true,true_or,Bool.false_eq_true,true_and,and_self,false_and,and_false,false_or,or_false]
end
theorem mod_ng {k:Nat} (hk:4≤k) {m x:Int} {a b:Nat} (ha:a<18446744073709551616) (hb:b<18446744073709551616) (h:¬ (Good m x a∧Good m x b)):soft_Mod.f k m x (a:Int) (b:Int)=some (0,0,1):=by
  unfold soft_Mod.f
  rw[two_ng hk ha hb h,Option.bind_some,if_neg (by decide)]
end Go.Proofs.Ytmmbgbchimangaa.RS
