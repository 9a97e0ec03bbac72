-- by a program of this claim
import Derived.Test.YtmmbgbchimangaaPQx0
namespace Go.Proofs.Ytmmbgbchimangaa.PQ
open Go.RowKit Go.Proofs.YtmmbgbchimangaaW.PrintWords Go.Proofs.YtmmbgbchimangaaW.PrintLast Go.Proofs.YtmmbgbchimangaaW.PrintMore Go.Proofs.Ytmmbgbchimangaa.Z
attribute [local go_sem] max2_int min2_int max_two min_two max_three min_three max_four min_four   -- for this text's walks alone
set_option linter.unusedVariables false
set_option linter.unusedSimpArgs false

/-! ### round_Check: function 77 -/
def round_Check.f (a0_0:Int) (a0_1:Int):Option (Int):=if a0_0<2 then (some 1) else (if a0_0>52 then (some 1) else (if a0_1<2 then (some 1) else (if a0_1>11 then (some 1) else (some 0))))
set_option maxHeartbeats 8000000 in
set_option maxRecDepth 100000 in
theorem round_Check.calls {a:Int} {b:Int} {r:Int} {w:World} (h:round_Check.f a b=some r) :
  Calls Try.prog 77 #[.agg #[.int .i64 a,.int .i64 b]] w fun e w'=>e=.returned (.int .i64 r)∧Below w.heap.size w w':=by
 have hu23:=Try.underlying23
 have HB:=Aside0.mk (Below.refl w.heap.size w)
 have H:=h
 unfold round_Check.f at H
 clear h
 by_cases m:a<2
 ·rw[if_pos m] at H
  have p:decide (a<2)=true:=decide_eq_true m
  clear m
  obtain rfl:=Option.some.inj H
  go_enter Try.func77,Try.ntmps77
  go_wp2_with (first|((with_reducible refine gate_dst (N:=1) rfl ?_);refine zbox (N:=1) (cs:=#[.int .i64 a,.int .i64 b]) (t:=23) ?_;intro d hg V hbox hb;have c:=Aside0.mk hbox;have g:=zge hg HB;have i:=zge hg HB;replace HB:=zbs HB hb;clear hb hbox hg;obtain⟨K,L,M,O⟩:=zc2 c))
  go_ret
  exact zr HB
 rw[if_neg m] at H
 have p:decide (a<2)=false:=decide_eq_false m
 clear m
 by_cases n:a>52
 ·rw[if_pos n] at H
  have q:decide (52<a)=true:=decide_eq_true n
  clear n
  obtain rfl:=Option.some.inj H
  go_enter Try.func77,Try.ntmps77
  go_wp2_with (first|((with_reducible refine gate_dst (N:=1) rfl ?_);refine zbox (N:=1) (cs:=#[.int .i64 a,.int .i64 b]) (t:=23) ?_;intro d hg W hbox hb;have c:=Aside0.mk hbox;have g:=zge hg HB;have i:=zge hg HB;replace HB:=zbs HB hb;clear hb hbox hg;obtain⟨P,Q,R,S⟩:=zc2 c))
  go_ret
  exact zr HB
 rw[if_neg n] at H
 have q:decide (52<a)=false:=decide_eq_false n
 clear n
 by_cases o:b<2
 ·rw[if_pos o] at H
  have s:decide (b<2)=true:=decide_eq_true o
  clear o
  obtain rfl:=Option.some.inj H
  go_enter Try.func77,Try.ntmps77
  go_wp2_with (first|((with_reducible refine gate_dst (N:=1) rfl ?_);refine zbox (N:=1) (cs:=#[.int .i64 a,.int .i64 b]) (t:=23) ?_;intro d hg X hbox hb;have c:=Aside0.mk hbox;have g:=zge hg HB;have i:=zge hg HB;replace HB:=zbs HB hb;clear hb hbox hg;obtain⟨u,v,y,z⟩:=zc2 c))
  go_ret
  exact zr HB
 rw[if_neg o] at H
 have s:decide (b<2)=false:=decide_eq_false o
 clear o
 by_cases j:b>11
 ·rw[if_pos j] at H
  have l:decide (11<b)=true:=decide_eq_true j
  clear j
  obtain rfl:=Option.some.inj H
  go_enter Try.func77,Try.ntmps77
  go_wp2_with (first|((with_reducible refine gate_dst (N:=1) rfl ?_);refine zbox (N:=1) (cs:=#[.int .i64 a,.int .i64 b]) (t:=23) ?_;intro d hg T hbox hb;have c:=Aside0.mk hbox;have g:=zge hg HB;have i:=zge hg HB;replace HB:=zbs HB hb;clear hb hbox hg;obtain⟨B,C,D,E⟩:=zc2 c))
  go_ret
  exact zr HB
 rw[if_neg j] at H
 have l:decide (11<b)=false:=decide_eq_false j
 clear j
 obtain rfl:=Option.some.inj H
 go_enter Try.func77,Try.ntmps77
 go_wp2_with (first|((with_reducible refine gate_dst (N:=1) rfl ?_);refine zbox (N:=1) (cs:=#[.int .i64 a,.int .i64 b]) (t:=23) ?_;intro d hg U hbox hb;have c:=Aside0.mk hbox;have g:=zge hg HB;have i:=zge hg HB;replace HB:=zbs HB hb;clear hb hbox hg;obtain⟨F,G,I,J⟩:=zc2 c))
 go_ret
 exact zr HB

/-! ### round_top: function 86 -/
def round_top.f (a0_0:Int) (a0_1:Int):Option (Int):=if 0≤a0_1 then (if 0≤a0_0 then (some (shl .u64 (IntKind.u64.wrap ((shl .u64 1 a0_1)-1)) a0_0)) else (none)) else (none)
set_option maxHeartbeats 8000000 in
set_option maxRecDepth 100000 in
theorem round_top.calls {b:Int} {a:Int} {r:Int} {w:World} (h:round_top.f b a=some r) :
  Calls Try.prog 86 #[.agg #[.int .i64 b,.int .i64 a]] w fun e w'=>e=.returned (.int .u64 r)∧Below w.heap.size w w':=by
 have hu23:=Try.underlying23
 have HB:=Aside0.mk (Below.refl w.heap.size w)
 have H:=h
 unfold round_top.f at H
 clear h
 by_cases y:0≤a
 rotate_left
 ·rw[if_neg y] at H
  exact absurd H (by simp)

 rw[if_pos y] at H
 have F:=eq_true y
 have G:decide (0≤a)=true:=decide_eq_true y
 clear y
 obtain⟨d,g⟩:∃ j_:Int,(shl .u64 1 a)=j_:=⟨_,rfl⟩
 first|rw[g] at H|simp only[g] at H
 have s:(IntKind.u64.wrap (1*2^min a.toNat 64))=d:=g
 have u:a≤64→(IntKind.u64.wrap (1*2^a.toNat))=d:=shl_small g
 have B:(IntKind.u64.wrap (2^min a.toNat 64))=d:=by have h_:=s;rw[Int.one_mul] at h_;exact h_
 have C:a≤64→(IntKind.u64.wrap (2^a.toNat))=d:=fun hle_=>by have h_:=u hle_;rw[Int.one_mul] at h_;exact h_
 by_cases z:0≤b
 ·rw[if_pos z] at H
  have I:=eq_true z
  have J:decide (0≤b)=true:=decide_eq_true z
  clear z
  obtain⟨v,i⟩:∃ j_:Int,(shl .u64 (IntKind.u64.wrap ((d)-1)) b)=j_:=⟨_,rfl⟩
  first|rw[i] at H|simp only[i] at H
  have D:(IntKind.u64.wrap ((IntKind.u64.wrap ((d)-1))*2^min b.toNat 64))=v:=i
  have E:b≤64→(IntKind.u64.wrap ((IntKind.u64.wrap ((d)-1))*2^b.toNat))=v:=shl_small i
  obtain rfl:=Option.some.inj H
  go_enter Try.func86,Try.ntmps86
  go_wp2_with (first|((with_reducible refine gate_dst (N:=1) rfl ?_);refine zbox (N:=1) (cs:=#[.int .i64 b,.int .i64 a]) (t:=23) ?_;intro o hg K hbox hb;have c:=Aside0.mk hbox;have p:=zge hg HB;have q:=zge hg HB;replace HB:=zbs HB hb;clear hb hbox hg;obtain⟨j,l,m,n⟩:=zc2 c))
  repeat (go_quiet (first|((with_reducible refine gate_dst (N:=1) rfl ?_);refine zbox (N:=1) (cs:=#[.int .i64 b,.int .i64 a]) (t:=23) ?_;intro o hg K hbox hb;have c:=Aside0.mk hbox;have p:=zge hg HB;have q:=zge hg HB;replace HB:=zbs HB hb;clear hb hbox hg;obtain⟨j,l,m,n⟩:=zc2 c));try go_wp2_with (first|((with_reducible refine gate_dst (N:=1) rfl ?_);refine zbox (N:=1) (cs:=#[.int .i64 b,.int .i64 a]) (t:=23) ?_;intro o hg K hbox hb;have c:=Aside0.mk hbox;have p:=zge hg HB;have q:=zge hg HB;replace HB:=zbs HB hb;clear hb hbox hg;obtain⟨j,l,m,n⟩:=zc2 c)))
  go_ret
  exact⟨by first|rfl|(simp[errW_none,errW_some] <;> rfl)|(simp only[←g,←i];first|rfl|(simp[errW_none,errW_some] <;> rfl))|(simp[*,errW_none,errW_some] <;> rfl),zb HB⟩
 rw[if_neg z] at H
 exact absurd H (by simp)
/-! ### round_sign: function 87 -/
def round_sign.f (a0_0:Int) (a0_1:Int) (a1:Bool):Option (Int):=if a1=true then (if 0≤(wrap64 (a0_1+a0_0)) then (some (shl .u64 1 (wrap64 (a0_1+a0_0)))) else (none)) else (some 0)
set_option maxHeartbeats 8000000 in
set_option maxRecDepth 100000 in
theorem round_sign.calls {a:Int} {b:Int} {s:Bool} {r:Int} {w:World} (h:round_sign.f a b s=some r) :
  Calls Try.prog 87 #[.agg #[.int .i64 a,.int .i64 b],.bool s] w fun e w'=>e=.returned (.int .u64 r)∧Below w.heap.size w w':=by
 have hu23:=Try.underlying23
 have HB:=Aside0.mk (Below.refl w.heap.size w)
 have H:=h
 unfold round_sign.f at H
 clear h
 by_cases u:s=true
 ·subst u
  rw[if_pos rfl] at H
  obtain⟨c,g⟩:∃ j_:Int,(wrap64 (b+a))=j_:=⟨_,rfl⟩
  first|rw[g] at H|simp only[g] at H
  have C:(IntKind.i64.wrap (b+a))=c:=(i64_w _).trans g
  by_cases q:0≤(c)
  ·rw[if_pos q] at H
   have F:=eq_true q
   have G:decide (0≤(c))=true:=decide_eq_true q
   clear q
   obtain⟨i,d⟩:∃ j_:Int,(shl .u64 1 (c))=j_:=⟨_,rfl⟩
   first|rw[d] at H|simp only[d] at H
   have l:(IntKind.u64.wrap (1*2^min (c).toNat 64))=i:=d
   have m:(c)≤64→(IntKind.u64.wrap (1*2^(c).toNat))=i:=shl_small d
   have D:(IntKind.u64.wrap (2^min (c).toNat 64))=i:=by have h_:=l;rw[Int.one_mul] at h_;exact h_
   have E:(c)≤64→(IntKind.u64.wrap (2^(c).toNat))=i:=fun hle_=>by have h_:=m hle_;rw[Int.one_mul] at h_;exact h_
   obtain rfl:=Option.some.inj H
   go_enter Try.func87,Try.ntmps87
   go_wp2_with (first|((with_reducible refine gate_dst (N:=2) rfl ?_);refine zbox (N:=2) (cs:=#[.int .i64 a,.int .i64 b]) (t:=23) ?_;intro n hg I hbox hb;have j:=Aside0.mk hbox;have o:=zge hg HB;have p:=zge hg HB;replace HB:=zbs HB hb;clear hb hbox hg;obtain⟨v,y,z,B⟩:=zc2 j))
   go_ret
   exact⟨by first|rfl|(simp[errW_none,errW_some] <;> rfl)|(simp only[←g,←d];first|rfl|(simp[errW_none,errW_some] <;> rfl))|(simp[*,errW_none,errW_some] <;> rfl),zb HB⟩
  rw[if_neg q] at H
  exact absurd H (by simp)
 replace u:=Bool.eq_false_iff.mpr u
 subst u
 rw[if_neg nft] at H
 obtain rfl:=Option.some.inj H
 go_enter Try.func87,Try.ntmps87
 go_wp2_with (first|((with_reducible refine gate_dst (N:=2) rfl ?_);refine zbox (N:=2) (cs:=#[.int .i64 a,.int .i64 b]) (t:=23) ?_;intro n hg J hbox hb;have j:=Aside0.mk hbox;have o:=zge hg HB;have p:=zge hg HB;replace HB:=zbs HB hb;clear hb hbox hg))
 go_ret
 exact zr HB

/-! ### round_bias: function 89 -/
def round_bias.f (a0_0:Int) (a0_1:Int):Option (Int):=if 0≤(wrap64 (a0_1-1)) then (some (wrap64 ((shl .i64 1 (wrap64 (a0_1-1)))-1))) else (none)
set_option maxHeartbeats 8000000 in
set_option maxRecDepth 100000 in
theorem round_bias.calls {i:Int} {b:Int} {r:Int} {w:World} (h:round_bias.f i b=some r) :
  Calls Try.prog 89 #[.agg #[.int .i64 i,.int .i64 b]] w fun e w'=>e=.returned (.int .i64 r)∧Below w.heap.size w w':=by
 have hu23:=Try.underlying23
 have HB:=Aside0.mk (Below.refl w.heap.size w)
 have H:=h
 unfold round_bias.f at H
 clear h
 obtain⟨a,g⟩:∃ j_:Int,(wrap64 (b-1))=j_:=⟨_,rfl⟩
 first|rw[g] at H|simp only[g] at H
 have u:(IntKind.i64.wrap (b-1))=a:=(i64_w _).trans g
 by_cases n:0≤(a)
 ·rw[if_pos n] at H
  have F:=eq_true n
  have G:decide (0≤(a))=true:=decide_eq_true n
  clear n
  obtain⟨d,c⟩:∃ j_:Int,(shl .i64 1 (a))=j_:=⟨_,rfl⟩
  first|rw[c] at H|simp only[c] at H
  have j:(IntKind.i64.wrap (1*2^min (a).toNat 64))=d:=c
  have l:(a)≤64→(IntKind.i64.wrap (1*2^(a).toNat))=d:=shl_small c
  have v:(IntKind.i64.wrap (2^min (a).toNat 64))=d:=by have h_:=j;rw[Int.one_mul] at h_;exact h_
  have y:(a)≤64→(IntKind.i64.wrap (2^(a).toNat))=d:=fun hle_=>by have h_:=l hle_;rw[Int.one_mul] at h_;exact h_
  have z:(wrap64 (1*2^min (a).toNat 64))=d:=(i64_w _).symm.trans j
  have B:(a)≤64→(wrap64 (1*2^(a).toNat))=d:=fun h_=>(i64_w _).symm.trans (l h_)
  obtain rfl:=Option.some.inj H
  go_enter Try.func89,Try.ntmps89
  go_wp2_with (first|((with_reducible refine gate_dst (N:=1) rfl ?_);refine zbox (N:=1) (cs:=#[.int .i64 i,.int .i64 b]) (t:=23) ?_;intro C hg I hbox hb;have m:=Aside0.mk hbox;have D:=zge hg HB;have E:=zge hg HB;replace HB:=zbs HB hb;clear hb hbox hg;obtain⟨o,p,q,s⟩:=zc2 m))
  go_ret
  exact⟨by first|rfl|(simp[errW_none,errW_some] <;> rfl)|(simp only[←g,←c];first|rfl|(simp[errW_none,errW_some] <;> rfl))|(simp[*,errW_none,errW_some] <;> rfl),zb HB⟩
 rw[if_neg n] at H
 exact absurd H (by simp)

/-! ### bits_Len64: function 95 -/
def bits_Len64.j0:Nat→Int→Int→Option (Int)
 | 0,_,_=>none
 | k+1,a,b=>if a≥65536 then (if (a/65536)≥256 then (if 0≤(((a/65536)/256)%256) then (if (((a/65536)/256)%256)<256 then (some (wrap64 ((wrap64 ((wrap64 (b+16))+8))+(wrap64 (bt (⟨#[0,1,2,2,3,3,3,3,4,4,4,4,4,4,4,4,5,5,5,5,5,5,5,5,5,5,5,5,5,5,5,5,6,6,6,6,6,6,6,6,6,6,6,6,6,6,6,6,6,6,6,6,6,6,6,6,6,6,6,6,6,6,6,6,7,7,7,7,7,7,7,7,7,7,7,7,7,7,7,7,7,7,7,7,7,7,7,7,7,7,7,7,7,7,7,7,7,7,7,7,7,7,7,7,7,7,7,7,7,7,7,7,7,7,7,7,7,7,7,7,7,7,7,7,7,7,7,7,8,8,8,8,8,8,8,8,8,8,8,8,8,8,8,8,8,8,8,8,8,8,8,8,8,8,8,8,8,8,8,8,8,8,8,8,8,8,8,8,8,8,8,8,8,8,8,8,8,8,8,8,8,8,8,8,8,8,8,8,8,8,8,8,8,8,8,8,8,8,8,8,8,8,8,8,8,8,8,8,8,8,8,8,8,8,8,8,8,8,8,8,8,8,8,8,8,8,8,8,8,8,8,8,8,8,8,8,8,8,8,8,8,8,8,8,8,8,8,8,8,8,8,8,8,8,8,8]⟩:ByteArray) (((a/65536)/256)%256)))))) else (none)) else (none)) else (if 0≤((a/65536)%256) then (if ((a/65536)%256)<256 then (some (wrap64 ((wrap64 (b+16))+(wrap64 (bt (⟨#[0,1,2,2,3,3,3,3,4,4,4,4,4,4,4,4,5,5,5,5,5,5,5,5,5,5,5,5,5,5,5,5,6,6,6,6,6,6,6,6,6,6,6,6,6,6,6,6,6,6,6,6,6,6,6,6,6,6,6,6,6,6,6,6,7,7,7,7,7,7,7,7,7,7,7,7,7,7,7,7,7,7,7,7,7,7,7,7,7,7,7,7,7,7,7,7,7,7,7,7,7,7,7,7,7,7,7,7,7,7,7,7,7,7,7,7,7,7,7,7,7,7,7,7,7,7,7,7,8,8,8,8,8,8,8,8,8,8,8,8,8,8,8,8,8,8,8,8,8,8,8,8,8,8,8,8,8,8,8,8,8,8,8,8,8,8,8,8,8,8,8,8,8,8,8,8,8,8,8,8,8,8,8,8,8,8,8,8,8,8,8,8,8,8,8,8,8,8,8,8,8,8,8,8,8,8,8,8,8,8,8,8,8,8,8,8,8,8,8,8,8,8,8,8,8,8,8,8,8,8,8,8,8,8,8,8,8,8,8,8,8,8,8,8,8,8,8,8,8,8,8,8,8,8,8,8]⟩:ByteArray) ((a/65536)%256)))))) else (none)) else (none))) else (if a≥256 then (if 0≤((a/256)%256) then (if ((a/256)%256)<256 then (some (wrap64 ((wrap64 (b+8))+(wrap64 (bt (⟨#[0,1,2,2,3,3,3,3,4,4,4,4,4,4,4,4,5,5,5,5,5,5,5,5,5,5,5,5,5,5,5,5,6,6,6,6,6,6,6,6,6,6,6,6,6,6,6,6,6,6,6,6,6,6,6,6,6,6,6,6,6,6,6,6,7,7,7,7,7,7,7,7,7,7,7,7,7,7,7,7,7,7,7,7,7,7,7,7,7,7,7,7,7,7,7,7,7,7,7,7,7,7,7,7,7,7,7,7,7,7,7,7,7,7,7,7,7,7,7,7,7,7,7,7,7,7,7,7,8,8,8,8,8,8,8,8,8,8,8,8,8,8,8,8,8,8,8,8,8,8,8,8,8,8,8,8,8,8,8,8,8,8,8,8,8,8,8,8,8,8,8,8,8,8,8,8,8,8,8,8,8,8,8,8,8,8,8,8,8,8,8,8,8,8,8,8,8,8,8,8,8,8,8,8,8,8,8,8,8,8,8,8,8,8,8,8,8,8,8,8,8,8,8,8,8,8,8,8,8,8,8,8,8,8,8,8,8,8,8,8,8,8,8,8,8,8,8,8,8,8,8,8,8,8,8,8]⟩:ByteArray) ((a/256)%256)))))) else (none)) else (none)) else (if 0≤((a)%256) then (if ((a)%256)<256 then (some (wrap64 (b+(wrap64 (bt (⟨#[0,1,2,2,3,3,3,3,4,4,4,4,4,4,4,4,5,5,5,5,5,5,5,5,5,5,5,5,5,5,5,5,6,6,6,6,6,6,6,6,6,6,6,6,6,6,6,6,6,6,6,6,6,6,6,6,6,6,6,6,6,6,6,6,7,7,7,7,7,7,7,7,7,7,7,7,7,7,7,7,7,7,7,7,7,7,7,7,7,7,7,7,7,7,7,7,7,7,7,7,7,7,7,7,7,7,7,7,7,7,7,7,7,7,7,7,7,7,7,7,7,7,7,7,7,7,7,7,8,8,8,8,8,8,8,8,8,8,8,8,8,8,8,8,8,8,8,8,8,8,8,8,8,8,8,8,8,8,8,8,8,8,8,8,8,8,8,8,8,8,8,8,8,8,8,8,8,8,8,8,8,8,8,8,8,8,8,8,8,8,8,8,8,8,8,8,8,8,8,8,8,8,8,8,8,8,8,8,8,8,8,8,8,8,8,8,8,8,8,8,8,8,8,8,8,8,8,8,8,8,8,8,8,8,8,8,8,8,8,8,8,8,8,8,8,8,8,8,8,8,8,8,8,8,8,8]⟩:ByteArray) ((a)%256)))))) else (none)) else (none)))
def bits_Len64.f (k:Nat) (a0:Int):Option (Int):=if a0≥4294967296 then (bits_Len64.j0 k (a0/4294967296) 32) else (bits_Len64.j0 k a0 0)
theorem bits_Len64.mono_l:∀ k,(∀ y0 y1,LeO (bits_Len64.j0 k y0 y1) (bits_Len64.j0 (k+1) y0 y1))
 | 0=>fun _ _ r h=>by simp[bits_Len64.j0] at h
 | k+1=>by
  have ih0:=bits_Len64.mono_l k
  intros;unfold bits_Len64.j0;repeat' first|(with_reducible first|apply ih0|exact LeO.refl _|exact LeO.none _|refine LeO.ite ?_ ?_|refine LeO.bind ?_ (fun _=>?_))|refine LeO.ite ?_ ?_|refine LeO.bind ?_ (fun _=>?_)
theorem bits_Len64.mono:∀ a0 k,LeO (bits_Len64.f k a0) (bits_Len64.f (k+1) a0):=by
 intro a0 k
 have ih0:=bits_Len64.mono_l k
 unfold bits_Len64.f
 repeat' first|(with_reducible first|apply ih0|exact LeO.refl _|exact LeO.none _|refine LeO.ite ?_ ?_|refine LeO.bind ?_ (fun _=>?_))|refine LeO.ite ?_ ?_|refine LeO.bind ?_ (fun _=>?_)
set_option maxHeartbeats 8000000 in
set_option maxRecDepth 100000 in
theorem bits_Len64.calls {k:Nat} {q:Int} {r:Int} {w:World} (h:bits_Len64.f k q=some r) :
  Calls Try.prog 95 #[.int .u64 q] w fun e w'=>e=.returned (.int .i64 r)∧Drawn0 w w':=by
 have H:=h
 unfold bits_Len64.f at H
 clear h
 have C:=Aside0.mk H
 clear H
 go_enter Try.func95,Try.ntmps95
 go_upto_if 4 with (fail)
 go_cut [0,2] (fun v0 v2 wc=>∃ (kq:Nat) (a:Int) (g:Int),v0=.int .u64 a∧v2=.int .i64 g∧Aside0 (bits_Len64.j0 kq a g=some r)∧Aside0 (kq≤k)∧Drawn0 w wc)
 case first =>
  have H:=C.out
  clear C
  by_cases E:q≥4294967296
  ·rw[if_pos E] at H
   have j:decide (4294967296≤q)=true:=decide_eq_true E
   clear E
   (first|rw[j]|(simp only[i64_w,i32_w];rw[j])|skip)
   have H':=Aside0.mk H
   clear H
   go_wp2
   go_meet
   case rel=>exact⟨_,(q/4294967296),(32),(by first|rfl|(simp[*];done)),(by first|rfl|(simp[*];done)),H',⟨by omega⟩,by repeat (first|exact Drawn0.refl _|apply Drawn0.step)⟩
  rw[if_neg E] at H
  have j:decide (4294967296≤q)=false:=decide_eq_false E
  clear E
  (first|rw[j]|(simp only[i64_w,i32_w];rw[j])|skip)
  have H':=Aside0.mk H
  clear H
  go_wp2
  go_meet
  case rel=>exact⟨_,(q),(0),(by first|rfl|(simp[*];done)),(by first|rfl|(simp[*];done)),H',⟨by omega⟩,by repeat (first|exact Drawn0.refl _|apply Drawn0.step)⟩
 case rest =>
  clear C
  obtain⟨kq,a,g,rfl,rfl,HA,ac,⟨mc1,rfl⟩⟩:=hcut
  cases kq with
  | zero=>exact absurd HA.out (by simp[bits_Len64.j0])
  | succ ad =>
   have H:=HA.out
   clear HA
   simp only[bits_Len64.j0] at H
   by_cases F:a≥65536
   ·rw[if_pos F] at H
    have I:decide (65536≤a)=true:=decide_eq_true F
    clear F
    by_cases G:(a/65536)≥256
    ·rw[if_pos G] at H
     have J:decide (256≤(a/65536))=true:=decide_eq_true G
     clear G
     obtain⟨i,p⟩:∃ j_:Int,(((a/65536)/256)%256)=j_:=⟨_,rfl⟩
     first|rw[p] at H|simp only[p] at H
     by_cases Q:0≤(i)
     ·rw[if_pos Q] at H
      have Y:decide (0≤(i))=true:=decide_eq_true Q
      clear Q
      by_cases R:(i)<256
      ·rw[if_pos R] at H
       have Z:decide ((i)<256)=true:=decide_eq_true R
       clear R
       obtain rfl:=Option.some.inj H
       have p9:0≤((i):Int):=of_decide_eq_true (by first|(with_reducible assumption)|assumption)
       have q9:(i)<(256:Int):=of_decide_eq_true (by first|(with_reducible assumption)|assumption)
       have hx9:=bt_at (⟨#[0,1,2,2,3,3,3,3,4,4,4,4,4,4,4,4,5,5,5,5,5,5,5,5,5,5,5,5,5,5,5,5,6,6,6,6,6,6,6,6,6,6,6,6,6,6,6,6,6,6,6,6,6,6,6,6,6,6,6,6,6,6,6,6,7,7,7,7,7,7,7,7,7,7,7,7,7,7,7,7,7,7,7,7,7,7,7,7,7,7,7,7,7,7,7,7,7,7,7,7,7,7,7,7,7,7,7,7,7,7,7,7,7,7,7,7,7,7,7,7,7,7,7,7,7,7,7,7,8,8,8,8,8,8,8,8,8,8,8,8,8,8,8,8,8,8,8,8,8,8,8,8,8,8,8,8,8,8,8,8,8,8,8,8,8,8,8,8,8,8,8,8,8,8,8,8,8,8,8,8,8,8,8,8,8,8,8,8,8,8,8,8,8,8,8,8,8,8,8,8,8,8,8,8,8,8,8,8,8,8,8,8,8,8,8,8,8,8,8,8,8,8,8,8,8,8,8,8,8,8,8,8,8,8,8,8,8,8,8,8,8,8,8,8,8,8,8,8,8,8,8,8,8,8,8,8]⟩:ByteArray) (i)
       replace p9:=eq_true p9
       replace q9:=eq_true q9
       go_wp2
       go_ret
       exact⟨by first|rfl|(simp;done)|(simp only[←p] <;> (first|rfl|simp))|(simp[*];done),by repeat (first|exact Drawn0.refl _|apply Drawn0.step)⟩
      rw[if_neg R] at H
      exact absurd H (by simp)
     rw[if_neg Q] at H
     exact absurd H (by simp)
    rw[if_neg G] at H
    have J:decide (256≤(a/65536))=false:=decide_eq_false G
    clear G
    obtain⟨b,l⟩:∃ j_:Int,((a/65536)%256)=j_:=⟨_,rfl⟩
    first|rw[l] at H|simp only[l] at H
    by_cases s:0≤(b)
    ·rw[if_pos s] at H
     have S:decide (0≤(b))=true:=decide_eq_true s
     clear s
     by_cases u:(b)<256
     ·rw[if_pos u] at H
      have T:decide ((b)<256)=true:=decide_eq_true u
      clear u
      obtain rfl:=Option.some.inj H
      have K:0≤((b):Int):=of_decide_eq_true (by first|(with_reducible assumption)|assumption)
      have L:(b)<(256:Int):=of_decide_eq_true (by first|(with_reducible assumption)|assumption)
      have hx13:=bt_at (⟨#[0,1,2,2,3,3,3,3,4,4,4,4,4,4,4,4,5,5,5,5,5,5,5,5,5,5,5,5,5,5,5,5,6,6,6,6,6,6,6,6,6,6,6,6,6,6,6,6,6,6,6,6,6,6,6,6,6,6,6,6,6,6,6,6,7,7,7,7,7,7,7,7,7,7,7,7,7,7,7,7,7,7,7,7,7,7,7,7,7,7,7,7,7,7,7,7,7,7,7,7,7,7,7,7,7,7,7,7,7,7,7,7,7,7,7,7,7,7,7,7,7,7,7,7,7,7,7,7,8,8,8,8,8,8,8,8,8,8,8,8,8,8,8,8,8,8,8,8,8,8,8,8,8,8,8,8,8,8,8,8,8,8,8,8,8,8,8,8,8,8,8,8,8,8,8,8,8,8,8,8,8,8,8,8,8,8,8,8,8,8,8,8,8,8,8,8,8,8,8,8,8,8,8,8,8,8,8,8,8,8,8,8,8,8,8,8,8,8,8,8,8,8,8,8,8,8,8,8,8,8,8,8,8,8,8,8,8,8,8,8,8,8,8,8,8,8,8,8,8,8,8,8,8,8,8,8]⟩:ByteArray) (b)
      replace K:=eq_true K
      replace L:=eq_true L
      go_wp2
      go_ret
      exact⟨by first|rfl|(simp;done)|(simp only[←l] <;> (first|rfl|simp))|(simp[*];done),by repeat (first|exact Drawn0.refl _|apply Drawn0.step)⟩
     rw[if_neg u] at H
     exact absurd H (by simp)
    rw[if_neg s] at H
    exact absurd H (by simp)
   rw[if_neg F] at H
   have I:decide (65536≤a)=false:=decide_eq_false F
   clear F
   by_cases o:a≥256
   ·rw[if_pos o] at H
    have D:decide (256≤a)=true:=decide_eq_true o
    clear o
    obtain⟨c,m⟩:∃ j_:Int,((a/256)%256)=j_:=⟨_,rfl⟩
    first|rw[m] at H|simp only[m] at H
    by_cases v:0≤(c)
    ·rw[if_pos v] at H
     have U:decide (0≤(c))=true:=decide_eq_true v
     clear v
     by_cases y:(c)<256
     ·rw[if_pos y] at H
      have V:decide ((c)<256)=true:=decide_eq_true y
      clear y
      obtain rfl:=Option.some.inj H
      have M:0≤((c):Int):=of_decide_eq_true (by first|(with_reducible assumption)|assumption)
      have N:(c)<(256:Int):=of_decide_eq_true (by first|(with_reducible assumption)|assumption)
      have hx18:=bt_at (⟨#[0,1,2,2,3,3,3,3,4,4,4,4,4,4,4,4,5,5,5,5,5,5,5,5,5,5,5,5,5,5,5,5,6,6,6,6,6,6,6,6,6,6,6,6,6,6,6,6,6,6,6,6,6,6,6,6,6,6,6,6,6,6,6,6,7,7,7,7,7,7,7,7,7,7,7,7,7,7,7,7,7,7,7,7,7,7,7,7,7,7,7,7,7,7,7,7,7,7,7,7,7,7,7,7,7,7,7,7,7,7,7,7,7,7,7,7,7,7,7,7,7,7,7,7,7,7,7,7,8,8,8,8,8,8,8,8,8,8,8,8,8,8,8,8,8,8,8,8,8,8,8,8,8,8,8,8,8,8,8,8,8,8,8,8,8,8,8,8,8,8,8,8,8,8,8,8,8,8,8,8,8,8,8,8,8,8,8,8,8,8,8,8,8,8,8,8,8,8,8,8,8,8,8,8,8,8,8,8,8,8,8,8,8,8,8,8,8,8,8,8,8,8,8,8,8,8,8,8,8,8,8,8,8,8,8,8,8,8,8,8,8,8,8,8,8,8,8,8,8,8,8,8,8,8,8,8]⟩:ByteArray) (c)
      replace M:=eq_true M
      replace N:=eq_true N
      go_wp2
      go_ret
      exact⟨by first|rfl|(simp;done)|(simp only[←m] <;> (first|rfl|simp))|(simp[*];done),by repeat (first|exact Drawn0.refl _|apply Drawn0.step)⟩
     rw[if_neg y] at H
     exact absurd H (by simp)
    rw[if_neg v] at H
    exact absurd H (by simp)
   rw[if_neg o] at H
   have D:decide (256≤a)=false:=decide_eq_false o
   clear o
   obtain⟨d,n⟩:∃ j_:Int,((a)%256)=j_:=⟨_,rfl⟩
   first|rw[n] at H|simp only[n] at H
   by_cases z:0≤(d)
   ·rw[if_pos z] at H
    have W:decide (0≤(d))=true:=decide_eq_true z
    clear z
    by_cases B:(d)<256
    ·rw[if_pos B] at H
     have X:decide ((d)<256)=true:=decide_eq_true B
     clear B
     obtain rfl:=Option.some.inj H
     have O:0≤((d):Int):=of_decide_eq_true (by first|(with_reducible assumption)|assumption)
     have P:(d)<(256:Int):=of_decide_eq_true (by first|(with_reducible assumption)|assumption)
     have hx22:=bt_at (⟨#[0,1,2,2,3,3,3,3,4,4,4,4,4,4,4,4,5,5,5,5,5,5,5,5,5,5,5,5,5,5,5,5,6,6,6,6,6,6,6,6,6,6,6,6,6,6,6,6,6,6,6,6,6,6,6,6,6,6,6,6,6,6,6,6,7,7,7,7,7,7,7,7,7,7,7,7,7,7,7,7,7,7,7,7,7,7,7,7,7,7,7,7,7,7,7,7,7,7,7,7,7,7,7,7,7,7,7,7,7,7,7,7,7,7,7,7,7,7,7,7,7,7,7,7,7,7,7,7,8,8,8,8,8,8,8,8,8,8,8,8,8,8,8,8,8,8,8,8,8,8,8,8,8,8,8,8,8,8,8,8,8,8,8,8,8,8,8,8,8,8,8,8,8,8,8,8,8,8,8,8,8,8,8,8,8,8,8,8,8,8,8,8,8,8,8,8,8,8,8,8,8,8,8,8,8,8,8,8,8,8,8,8,8,8,8,8,8,8,8,8,8,8,8,8,8,8,8,8,8,8,8,8,8,8,8,8,8,8,8,8,8,8,8,8,8,8,8,8,8,8,8,8,8,8,8,8]⟩:ByteArray) (d)
     replace O:=eq_true O
     replace P:=eq_true P
     go_wp2
     go_ret
     exact⟨by first|rfl|(simp;done)|(simp only[←n] <;> (first|rfl|simp))|(simp[*];done),by repeat (first|exact Drawn0.refl _|apply Drawn0.step)⟩
    rw[if_neg B] at H
    exact absurd H (by simp)
   rw[if_neg z] at H
   exact absurd H (by simp)

/-! ### round_Open: function 68 -/
mutual
def round_Open.j0:Nat→Int→Bool→Int→Int→Option (Int×Bool×Int×Int×Int)
 | 0,_,_,_,_=>none
 | k+1,b,g,a,c=>if g=true then (some (0,false,0,0,1)) else ((round_sign.f a c true).bind fun d=>(if 0≤a then ((round_top.f a c).bind fun e=>((round_top.f a c).bind fun h=>((round_top.f a c).bind fun i=>(if (Go.bits .and .u64 b h)=i then (round_Open.j1 k b (Go.bits .and .u64 b (IntKind.u64.wrap ((shl .u64 1 a)-1))) (shr .i64 (wrap64 (Go.bits .and .u64 b e)) a) ((Go.bits .and .u64 b (IntKind.u64.wrap ((shl .u64 1 a)-1)))==0) a c 0 ((Go.bits .and .u64 b d) != 0) 0 0) else (round_Open.j1 k b (Go.bits .and .u64 b (IntKind.u64.wrap ((shl .u64 1 a)-1))) (shr .i64 (wrap64 (Go.bits .and .u64 b e)) a) false a c 0 ((Go.bits .and .u64 b d) != 0) 0 0))))) else (none)))
def round_Open.j1:Nat→Int→Int→Int→Bool→Int→Int→Int→Bool→Int→Int→Option (Int×Bool×Int×Int×Int)
 | 0,_,_,_,_,_,_,_,_,_,_=>none
 | k+1,j,g,h,l,a,b,i,c,d,e=>if l=true then (some (3,c,d,e,0)) else ((round_top.f a b).bind fun m=>((round_top.f a b).bind fun n=>(if (Go.bits .and .u64 j m)=n then (some (4,c,d,e,0)) else (if h=0 then (round_Open.j2 k g h (g==0) a b i c d e) else (round_Open.j2 k g h false a b i c d e)))))
def round_Open.j2:Nat→Int→Int→Bool→Int→Int→Int→Bool→Int→Int→Option (Int×Bool×Int×Int×Int)
 | 0,_,_,_,_,_,_,_,_,_=>none
 | k+1,c,d,g,a,e,m,b,h,i=>if g=true then (some (1,b,h,i,0)) else (if d=0 then ((round_bias.f a e).bind fun j=>(some (2,b,wrap64 ((wrap64 (1-j))-a),c,0))) else (if 0≤a then ((round_bias.f a e).bind fun l=>(some (2,b,wrap64 ((wrap64 (d-l))-a),Go.bits .or .u64 c (shl .u64 1 a),0))) else (none)))
end
def round_Open.f (k:Nat) (a0_0:Int) (a0_1:Int) (a1:Int):Option (Int×Bool×Int×Int×Int):=(round_Check.f a0_0 a0_1).bind fun a=>(if a=0 then ((bits_Len64.f k a1).bind fun b=>(round_Open.j0 k a1 (decide (b>(wrap64 ((wrap64 (1+a0_1))+a0_0)))) a0_0 a0_1)) else (round_Open.j0 k a1 true a0_0 a0_1))
theorem round_Open.mono_l:∀ k,(∀ y0 y1 y2 y3,LeO (round_Open.j0 k y0 y1 y2 y3) (round_Open.j0 (k+1) y0 y1 y2 y3))∧(∀ y0 y1 y2 y3 y4 y5 y6 y7 y8 y9,LeO (round_Open.j1 k y0 y1 y2 y3 y4 y5 y6 y7 y8 y9) (round_Open.j1 (k+1) y0 y1 y2 y3 y4 y5 y6 y7 y8 y9))∧(∀ y0 y1 y2 y3 y4 y5 y6 y7 y8,LeO (round_Open.j2 k y0 y1 y2 y3 y4 y5 y6 y7 y8) (round_Open.j2 (k+1) y0 y1 y2 y3 y4 y5 y6 y7 y8))
 | 0=>⟨fun _ _ _ _ r h=>by simp[round_Open.j0] at h,fun _ _ _ _ _ _ _ _ _ _ r h=>by simp[round_Open.j1] at h,fun _ _ _ _ _ _ _ _ _ r h=>by simp[round_Open.j2] at h⟩
 | k+1=>by
  obtain⟨ih0,ih1,ih2⟩:=round_Open.mono_l k
  refine⟨?_,?_,?_⟩ <;> intros <;> (first|unfold round_Open.j0|unfold round_Open.j1|unfold round_Open.j2) <;> (repeat' first|(with_reducible first|apply ih0|apply ih1|apply ih2|apply bits_Len64.mono|exact LeO.refl _|exact LeO.none _|refine LeO.ite ?_ ?_|refine LeO.bind ?_ (fun _=>?_))|refine LeO.ite ?_ ?_|refine LeO.bind ?_ (fun _=>?_))
theorem round_Open.mono:∀ a0 a1 a2 k,LeO (round_Open.f k a0 a1 a2) (round_Open.f (k+1) a0 a1 a2):=by
 intro a0 a1 a2 k
 obtain⟨ih0,ih1,ih2⟩:=round_Open.mono_l k
 unfold round_Open.f
 repeat' first|(with_reducible first|apply ih0|apply ih1|apply ih2|apply bits_Len64.mono|exact LeO.refl _|exact LeO.none _|refine LeO.ite ?_ ?_|refine LeO.bind ?_ (fun _=>?_))|refine LeO.ite ?_ ?_|refine LeO.bind ?_ (fun _=>?_)
def round_Open.T1:Bool×List (List Nat×List Nat):=(true,[([],[]),([0],[0]),([1],[1]),([2,1],[2]),([3],[3]),([4,3,3],[3,4]),([3],[3]),([6,3],[3,6]),([7,3],[3,7]),([3],[3]),([9,3],[3,9]),([8,10,3],[3,8,10]),([5,11,3],[3,5,11]),([3,12],[3,12])])
def round_Open.B1:List Nat:=[0,1,3,7,15,31,15,79,207,15,527,1999,4095,8191]
theorem round_Open.tab1:rtab .any (opsOf Try.f68 1)=round_Open.T1:=by kernel_rfl
theorem round_Open.bits1:waitsOk round_Open.T1.2 round_Open.B1=true:=by kernel_rfl
def round_Open.T5:Bool×List (List Nat×List Nat):=(true,[([],[]),([],[]),([1],[1]),([0,2],[0,2]),([3],[3]),([],[]),([5],[5]),([4,6],[4,6]),([7,2,0,1,2,3,4,5,6,7],[7])])
def round_Open.B5:List Nat:=[0,0,2,7,15,0,32,127,255]
theorem round_Open.tab5:rtab .any (opsOf Try.f68 5)=round_Open.T5:=by kernel_rfl
theorem round_Open.bits5:waitsOk round_Open.T5.2 round_Open.B5=true:=by kernel_rfl
def round_Open.T6:Bool×List (List Nat×List Nat):=(true,[([],[]),([],[]),([1],[1]),([2],[2]),([0,3],[0,3]),([],[]),([],[]),([6],[6]),([5,7],[5,7]),([],[]),([9],[9]),([8,10],[8,10]),([],[]),([12,7],[12]),([0,1,2,3,4,12,13],[]),([14,4,13,0,1,2,3,4,12,13],[4,14]),([0,1,2,3,4,5,6,7,8,9,10,11,12,13,14,15],[]),([16,11,15,0,1,2,3,4,5,6,7,8,9,10,11,12,13,14,15],[11,16])])
def round_Open.B6:List Nat:=[0,0,2,6,15,0,0,64,224,0,512,2016,0,4288,12511,28895,65535,131071]
theorem round_Open.tab6:rtab .any (opsOf Try.f68 6)=round_Open.T6:=by kernel_rfl
theorem round_Open.bits6:waitsOk round_Open.T6.2 round_Open.B6=true:=by kernel_rfl
def round_Open.T7:Bool×List (List Nat×List Nat):=(true,[([],[]),([],[]),([1],[1]),([0,2],[0,2]),([],[]),([4,2],[4]),([3,5],[3,5]),([6,5],[6]),([7],[7]),([8,7],[7,8]),([7,9],[7,9]),([10,7],[10])])
def round_Open.B7:List Nat:=[0,0,2,7,0,22,63,127,255,511,1023,2047]
theorem round_Open.tab7:rtab .any (opsOf Try.f68 7)=round_Open.T7:=by kernel_rfl
theorem round_Open.bits7:waitsOk round_Open.T7.2 round_Open.B7=true:=by kernel_rfl
def round_Open.T9:Bool×List (List Nat×List Nat):=(true,[([],[]),([],[]),([1],[1]),([0,2],[0,2]),([],[]),([4,2],[4]),([3,5],[3,5]),([6,5],[6])])
def round_Open.B9:List Nat:=[0,0,2,7,0,22,63,127]
theorem round_Open.tab9:rtab .any (opsOf Try.f68 9)=round_Open.T9:=by kernel_rfl
theorem round_Open.bits9:waitsOk round_Open.T9.2 round_Open.B9=true:=by kernel_rfl
def round_Open.T14:Bool×List (List Nat×List Nat):=(true,[([],[]),([],[]),([1],[1]),([2],[2]),([],[]),([4],[4]),([3,5],[3,5]),([],[]),([7,2],[7]),([0,7,8],[]),([9,0,8,0,7,8],[0,9]),([0,1,2,3,4,5,6,7,8,9,10],[]),([11,6,10,0,1,2,3,4,5,6,7,8,9,10],[6,11])])
def round_Open.B14:List Nat:=[0,0,2,6,0,16,62,0,134,391,903,2047,4095]
theorem round_Open.tab14:rtab .any (opsOf Try.f68 14)=round_Open.T14:=by kernel_rfl
theorem round_Open.bits14:waitsOk round_Open.T14.2 round_Open.B14=true:=by kernel_rfl
set_option maxHeartbeats 8000000 in
set_option maxRecDepth 100000 in
theorem round_Open.calls {k:Nat} {d:Int} {l:Int} {C:Int} {r1:Int} {r2:Bool} {r3:Int} {r4:Int} {r5:Int} {w:World} (h:round_Open.f k d l C=some (r1,r2,r3,r4,r5)) :
  Calls Try.prog 68 #[.agg #[.int .i64 d,.int .i64 l],.int .u64 C] w fun e w'=>e=.returned (.tuple #[.agg #[.int .i64 r1,.bool r2,.int .i64 r3,.int .u64 r4],.int .i64 r5])∧Below w.heap.size w w':=by
 have hu23:=Try.underlying23
 have hu34:=Try.underlying34
 have HB:=Aside0.mk (Below.refl w.heap.size w)
 have H:=h
 unfold round_Open.f at H
 clear h
 have a0:=Aside0.mk H
 clear H
 go_enter Try.func68,Try.ntmps68
 go_upto_region 1 with (first|((with_reducible refine gate_dst (N:=2) rfl ?_);refine zbox (N:=2) (cs:=#[.int .i64 d,.int .i64 l]) (t:=23) ?_;intro q hg w4 hbox hb;have a:=Aside0.mk hbox;have dc:=zge hg HB;have dd:=zge hg HB;replace HB:=zbs HB hb;clear hb hbox hg)|((with_reducible refine gate_dst (N:=4) rfl ?_);refine zbox (N:=4) (cs:=#[.int .i64 0,.bool false,.int .i64 0,.int .u64 0]) (t:=34) ?_;intro E hg w5 hbox hb;have b:=Aside0.mk hbox;have de:=zge hg HB;have df:=zge hg HB;have aj:=znl hg a;have z:=zng hg a;obtain⟨a,HB⟩:=zu1 a HB hb;clear hb hbox hg))
 (try simp only[Act.put,List.setIfInBounds_toArray,List.set_cons_zero,List.set_cons_succ])
 go_cut [22] (fun v22 wc=>∃ (kq:Nat) (P:Bool),v22=.bool P∧Aside0 (round_Open.j0 kq C P d l=some (r1,r2,r3,r4,r5))∧Aside0 (kq≤k)∧Aside0 (wc.heap[q]?=some (.cells #[.int .i64 d,.int .i64 l] 23 (0,0)))∧Aside0 (wc.heap[E]?=some (.cells #[.int .i64 0,.bool false,.int .i64 0,.int .u64 0] 34 (0,0)))∧Aside0 (Below w.heap.size w wc))
 case first =>
  have H:=a0.out
  clear a0
  obtain⟨an,A6,H⟩:=oB H
  by_cases c7:an=0
  ·rw[if_pos c7] at H
   obtain⟨L,ap⟩:=zt c7
   clear c7
   (first|rw[L]|(simp only[i64_w,i32_w];rw[L])|skip)
   obtain⟨ao,A8,H⟩:=oB H
   have H':=Aside0.mk H
   clear H
   try go_wp2
   replace a:=Aside0.mk (blk_drew a.out)
   replace b:=Aside0.mk (blk_drew b.out)
   replace HB:=Aside0.mk (below_drew1 HB.out)
   refine start_ (n:=14) (S:=fun w'=>w'.cell? ⟨q,0,none⟩=some (.int .i64 d)∧w'.cell? ⟨q,1,none⟩=some (.int .i64 l)) (ds:=[]) #[false,false,false,false,false,false,false,false,false,false,false,false,false,false] (by kernel_rfl) rfl rfl ⟨(blk_cell a.out 0).trans rfl,(blk_cell a.out 1).trans rfl⟩ (fun hHeld=>?_);refine with_tabW round_Open.tab1 round_Open.bits1 (fun HT_ HW_=>?_)
   generalize w5.drew=w9 at a b HB hHeld ⊢
   refine ztake_ (i:=0) (N:=some 9) #[true,false,false,false,false,false,false,false,false,false,false,false,false,false] rfl (take_ofW HT_.out HW_.out (by kernel_rfl)) hHeld (Or.inl ⟨by rfl,by rintro w' ⟨s0,s1⟩;go_simp;with_reducible rfl⟩) ?_
   refine one_ (i:=1) (N:=some 10) #[true,true,false,false,false,false,false,false,false,false,false,false,false,false] rfl rfl (one_of HT_.out (by kernel_rfl)) (by decide) (fun K hK=>?_)
   refine goes_ Try.func77 (by kernel_rfl) rfl #[.agg #[.int .i64 d,.int .i64 l]] (by rfl) rfl rfl (by (try simp only[List.map_toArray,List.map_cons,List.map_nil]);first|done|rfl|(simp only[List.length_drop,List.length_take];rfl)) ?_
   with_reducible refine (round_Check.calls A6.out).mono ?_
   rintro e d8 ⟨rfl,hb⟩
   refine⟨_,rfl,?_⟩
   obtain⟨a,b,HB⟩:=zu2 a b HB hb
   try clear hb
   refine hK.out _ _ ⟨(blk_cell a.out 0).trans rfl,(blk_cell a.out 1).trans rfl⟩ (fun hHeld=>?_)
   clear hK K
   refine norm_ (a':=?_) ?_ ?_
   rotate_left
   ·show Act.put _ (some 10) _=_
    simp only[Act.put,List.setIfInBounds_toArray,List.set_cons_zero,List.set_cons_succ,i64_w,i32_w]
    rfl
   refine zpure_ (i:=2) (N:=some 11) #[true,true,true,false,false,false,false,false,false,false,false,false,false,false] (any_of HT_.out (by kernel_rfl)) ?_
   refine zpure_ (i:=3) (N:=some 12) #[true,true,true,true,false,false,false,false,false,false,false,false,false,false] (any_of HT_.out (by kernel_rfl)) ?_
   refine zpure_ (i:=4) (N:=some 13) #[true,true,true,true,true,false,false,false,false,false,false,false,false,false] (any_of HT_.out (by kernel_rfl)) ?_
   refine zpure_ (i:=6) (N:=some 15) #[true,true,true,true,true,false,true,false,false,false,false,false,false,false] (any_of HT_.out (by kernel_rfl)) ?_
   refine zpure_ (i:=9) (N:=some 18) #[true,true,true,true,true,false,true,false,false,true,false,false,false,false] (any_of HT_.out (by kernel_rfl)) ?_
   refine ztake_ (i:=7) (N:=some 16) #[true,true,true,true,true,false,true,true,false,true,false,false,false,false] rfl (take_ofW HT_.out HW_.out (by kernel_rfl)) hHeld (Or.inl ⟨by rfl,by rintro w' ⟨s0,s1⟩;go_simp;with_reducible rfl⟩) ?_
   refine zpure_ (i:=8) (N:=some 17) #[true,true,true,true,true,false,true,true,true,true,false,false,false,false] (any_of HT_.out (by kernel_rfl)) ?_
   refine ztake_ (i:=10) (N:=some 19) #[true,true,true,true,true,false,true,true,true,true,true,false,false,false] rfl (take_ofW HT_.out HW_.out (by kernel_rfl)) hHeld (Or.inl ⟨by rfl,by rintro w' ⟨s0,s1⟩;go_simp;with_reducible rfl⟩) ?_
   refine zpure_ (i:=11) (N:=some 20) #[true,true,true,true,true,false,true,true,true,true,true,true,false,false] (any_of HT_.out (by kernel_rfl)) ?_
   refine one_ (i:=5) (N:=some 14) #[true,true,true,true,true,true,true,true,true,true,true,true,false,false] rfl rfl (one_of HT_.out (by kernel_rfl)) (by decide) (fun K hK=>?_)
   refine goes_ Try.func95 (by kernel_rfl) rfl #[.int .u64 C] (by rfl) rfl rfl (by (try simp only[List.map_toArray,List.map_cons,List.map_nil]);first|done|rfl|(simp only[List.length_drop,List.length_take];rfl)) ?_
   with_reducible refine (bits_Len64.calls A8.out).mono ?_
   rintro e w' ⟨rfl,⟨nd,rfl⟩⟩
   refine⟨_,rfl,?_⟩
   refine hK.out _ _ ⟨(blk_cell a.out 0).trans rfl,(blk_cell a.out 1).trans rfl⟩ (fun hHeld=>?_)
   clear hK K
   refine norm_ (a':=?_) ?_ ?_
   rotate_left
   ·show Act.put _ (some 14) _=_
    simp only[Act.put,List.setIfInBounds_toArray,List.set_cons_zero,List.set_cons_succ,i64_w,i32_w]
    rfl
   refine zpure_ (i:=12) (N:=some 21) #[true,true,true,true,true,true,true,true,true,true,true,true,true,false] (any_of HT_.out (by kernel_rfl)) ?_
   refine zpure_ (i:=13) (N:=some 22) #[true,true,true,true,true,true,true,true,true,true,true,true,true,true] (any_of HT_.out (by kernel_rfl)) ?_
   refine done_ (done_of HT_.out (by kernel_rfl)) ?_
   try go_wp2
   go_meet
   case rel=>exact⟨_,(decide (ao>(wrap64 ((wrap64 (1+l))+d)))),(by first|rfl|(simp[*];done)),H',⟨by omega⟩,⟨zk a⟩,⟨zk b⟩,⟨zb HB⟩⟩
  rw[if_neg c7] at H
  obtain⟨L,ap⟩:=zf c7
  (first|rw[L]|(simp only[i64_w,i32_w];rw[L])|skip)
  have H':=Aside0.mk H
  clear H
  try go_wp2
  replace a:=Aside0.mk (blk_drew a.out)
  replace b:=Aside0.mk (blk_drew b.out)
  replace HB:=Aside0.mk (below_drew1 HB.out)
  refine start_ (n:=14) (S:=fun w'=>w'.cell? ⟨q,0,none⟩=some (.int .i64 d)∧w'.cell? ⟨q,1,none⟩=some (.int .i64 l)) (ds:=[]) #[false,false,false,false,false,false,false,false,false,false,false,false,false,false] (by kernel_rfl) rfl rfl ⟨(blk_cell a.out 0).trans rfl,(blk_cell a.out 1).trans rfl⟩ (fun hHeld=>?_);refine with_tabW round_Open.tab1 round_Open.bits1 (fun HT_ HW_=>?_)
  generalize w5.drew=d9 at a b HB hHeld ⊢
  refine ztake_ (i:=0) (N:=some 9) #[true,false,false,false,false,false,false,false,false,false,false,false,false,false] rfl (take_ofW HT_.out HW_.out (by kernel_rfl)) hHeld (Or.inl ⟨by rfl,by rintro w' ⟨s0,s1⟩;go_simp;with_reducible rfl⟩) ?_
  refine one_ (i:=1) (N:=some 10) #[true,true,false,false,false,false,false,false,false,false,false,false,false,false] rfl rfl (one_of HT_.out (by kernel_rfl)) (by decide) (fun K hK=>?_)
  refine goes_ Try.func77 (by kernel_rfl) rfl #[.agg #[.int .i64 d,.int .i64 l]] (by rfl) rfl rfl (by (try simp only[List.map_toArray,List.map_cons,List.map_nil]);first|done|rfl|(simp only[List.length_drop,List.length_take];rfl)) ?_
  with_reducible refine (round_Check.calls A6.out).mono ?_
  rintro e ea ⟨rfl,hb⟩
  refine⟨_,rfl,?_⟩
  obtain⟨a,b,HB⟩:=zu2 a b HB hb
  try clear hb
  refine hK.out _ _ ⟨(blk_cell a.out 0).trans rfl,(blk_cell a.out 1).trans rfl⟩ (fun hHeld=>?_)
  clear hK K
  refine norm_ (a':=?_) ?_ ?_
  rotate_left
  ·show Act.put _ (some 10) _=_
   simp only[Act.put,List.setIfInBounds_toArray,List.set_cons_zero,List.set_cons_succ,i64_w,i32_w]
   rfl
  refine zpure_ (i:=2) (N:=some 11) #[true,true,true,false,false,false,false,false,false,false,false,false,false,false] (any_of HT_.out (by kernel_rfl)) ?_
  refine zpure_ (i:=3) (N:=some 12) #[true,true,true,true,false,false,false,false,false,false,false,false,false,false] (any_of HT_.out (by kernel_rfl)) ?_
  refine pure_ (i:=4) (N:=some 13) (v:=undef) (a':=?_) #[true,true,true,true,true,false,false,false,false,false,false,false,false,false] rfl rfl (any_of HT_.out (by kernel_rfl)) (fun _ _ _ h=>h) (Or.inr ⟨by rfl,rfl⟩) ?_ ?_
  rotate_left
  ·simp only[Act.put,List.setIfInBounds_toArray,List.set_cons_zero,List.set_cons_succ,i64_w,i32_w]
   rfl
  refine pure_ (i:=5) (N:=some 14) (v:=undef) (a':=?_) #[true,true,true,true,true,true,false,false,false,false,false,false,false,false] rfl rfl (any_of HT_.out (by kernel_rfl)) (fun _ _ _ h=>h) (Or.inr ⟨by rfl,rfl⟩) ?_ ?_
  rotate_left
  ·simp only[Act.put,List.setIfInBounds_toArray,List.set_cons_zero,List.set_cons_succ,i64_w,i32_w]
   rfl
  refine pure_ (i:=6) (N:=some 15) (v:=undef) (a':=?_) #[true,true,true,true,true,true,true,false,false,false,false,false,false,false] rfl rfl (any_of HT_.out (by kernel_rfl)) (fun _ _ _ h=>h) (Or.inr ⟨by rfl,rfl⟩) ?_ ?_
  rotate_left
  ·simp only[Act.put,List.setIfInBounds_toArray,List.set_cons_zero,List.set_cons_succ,i64_w,i32_w]
   rfl
  refine pure_ (i:=7) (N:=some 16) (v:=undef) (a':=?_) #[true,true,true,true,true,true,true,true,false,false,false,false,false,false] rfl rfl (any_of HT_.out (by kernel_rfl)) (fun _ _ _ h=>h) (Or.inr ⟨by rfl,rfl⟩) ?_ ?_
  rotate_left
  ·simp only[Act.put,List.setIfInBounds_toArray,List.set_cons_zero,List.set_cons_succ,i64_w,i32_w]
   rfl
  refine pure_ (i:=8) (N:=some 17) (v:=undef) (a':=?_) #[true,true,true,true,true,true,true,true,true,false,false,false,false,false] rfl rfl (any_of HT_.out (by kernel_rfl)) (fun _ _ _ h=>h) (Or.inr ⟨by rfl,rfl⟩) ?_ ?_
  rotate_left
  ·simp only[Act.put,List.setIfInBounds_toArray,List.set_cons_zero,List.set_cons_succ,i64_w,i32_w]
   rfl
  refine pure_ (i:=9) (N:=some 18) (v:=undef) (a':=?_) #[true,true,true,true,true,true,true,true,true,true,false,false,false,false] rfl rfl (any_of HT_.out (by kernel_rfl)) (fun _ _ _ h=>h) (Or.inr ⟨by rfl,rfl⟩) ?_ ?_
  rotate_left
  ·simp only[Act.put,List.setIfInBounds_toArray,List.set_cons_zero,List.set_cons_succ,i64_w,i32_w]
   rfl
  refine pure_ (i:=10) (N:=some 19) (v:=undef) (a':=?_) #[true,true,true,true,true,true,true,true,true,true,true,false,false,false] rfl rfl (any_of HT_.out (by kernel_rfl)) (fun _ _ _ h=>h) (Or.inr ⟨by rfl,rfl⟩) ?_ ?_
  rotate_left
  ·simp only[Act.put,List.setIfInBounds_toArray,List.set_cons_zero,List.set_cons_succ,i64_w,i32_w]
   rfl
  refine pure_ (i:=11) (N:=some 20) (v:=undef) (a':=?_) #[true,true,true,true,true,true,true,true,true,true,true,true,false,false] rfl rfl (any_of HT_.out (by kernel_rfl)) (fun _ _ _ h=>h) (Or.inr ⟨by rfl,rfl⟩) ?_ ?_
  rotate_left
  ·simp only[Act.put,List.setIfInBounds_toArray,List.set_cons_zero,List.set_cons_succ,i64_w,i32_w]
   rfl
  refine pure_ (i:=12) (N:=some 21) (v:=undef) (a':=?_) #[true,true,true,true,true,true,true,true,true,true,true,true,true,false] rfl rfl (any_of HT_.out (by kernel_rfl)) (fun _ _ _ h=>h) (Or.inr ⟨by rfl,rfl⟩) ?_ ?_
  rotate_left
  ·simp only[Act.put,List.setIfInBounds_toArray,List.set_cons_zero,List.set_cons_succ,i64_w,i32_w]
   rfl
  refine zpure_ (i:=13) (N:=some 22) #[true,true,true,true,true,true,true,true,true,true,true,true,true,true] (any_of HT_.out (by kernel_rfl)) ?_
  refine done_ (done_of HT_.out (by kernel_rfl)) ?_
  try go_wp2
  go_meet
  case rel=>exact⟨_,(true),(by first|rfl|(simp[*];done)),H',⟨by omega⟩,⟨zk a⟩,⟨zk b⟩,⟨zb HB⟩⟩
 case rest =>
  clear a0
  obtain⟨kq,P,rfl,HA,aV,a,b,HB⟩:=hcut
  cases kq with
  | zero=>exact absurd HA.out (by simp[round_Open.j0])
  | succ aq =>
   have H:=HA.out
   clear HA
   simp only[round_Open.j0] at H
   by_cases ak:P=true
   ·subst ak
    rw[if_pos rfl] at H
    simp only[Option.some.injEq,Prod.mk.injEq] at H
    obtain⟨rfl,rfl,rfl,rfl,rfl⟩:=H
    obtain⟨dg,dh⟩:=z2 z
    obtain⟨ar,au,av,aw,ax,ay,az,aA⟩:=zc4 b
    go_wp2
    refine bodyPost_ret (results_ct rfl _ _ E 34 #[.int .i64 0,.bool false,.int .i64 0,.int .u64 0] (0,0) _ rfl (zkp b) Try.underlying34 rfl (by kernel_rfl)) rfl ?_
    exact zr HB
   replace ak:=Bool.eq_false_iff.mpr ak
   subst ak
   rw[if_neg nft] at H
   obtain⟨u,a3,H⟩:=oB H
   by_cases aB:0≤d
   rotate_left
   ·rw[if_neg aB] at H
    exact absurd H (by simp)

   rw[if_pos aB] at H
   have aC:=eq_true aB
   have aD:decide (0≤d)=true:=decide_eq_true aB
   clear aB
   obtain⟨y,s⟩:∃ j_:Int,(shl .u64 1 d)=j_:=⟨_,rfl⟩
   first|rw[s] at H|simp only[s] at H
   (try rw[s] at a3)
   have aW:(IntKind.u64.wrap (1*2^min d.toNat 64))=y:=s
   have aX:d≤64→(IntKind.u64.wrap (1*2^d.toNat))=y:=shl_small s
   have c4:(IntKind.u64.wrap (2^min d.toNat 64))=y:=by have h_:=aW;rw[Int.one_mul] at h_;exact h_
   have c5:d≤64→(IntKind.u64.wrap (2^d.toNat))=y:=fun hle_=>by have h_:=aX hle_;rw[Int.one_mul] at h_;exact h_
   obtain⟨O,a9,H⟩:=oB H
   have aE:=eq_true (of_decide_eq_true (by first|(with_reducible assumption)|assumption):0≤d)
   obtain⟨F,D⟩:∃ j_:Int,(shr .i64 (wrap64 (Go.bits .and .u64 C O)) d)=j_:=⟨_,rfl⟩
   first|rw[D] at H|simp only[D] at H
   (try rw[D] at a3)
   (try rw[D] at a9)
   have da:((wrap64 (Go.bits .and .u64 C O))/2^min d.toNat 64)=F:=D
   have db:d≤64→((wrap64 (Go.bits .and .u64 C O))/2^d.toNat)=F:=shr_small D
   have aF:=Aside0.mk H
   clear H
   obtain⟨di,dj⟩:=z2 aj
   obtain⟨T,U,V,W⟩:=zc2 a
   try go_wp2_with (first|((with_reducible refine gate_callee (f:=87) rfl ?_);refine zgc (some 26) Try.func87 (round_sign.calls a3.out) ?_;intro eb hb;obtain⟨a,b,HB⟩:=zu2 a b HB hb;clear hb)|((with_reducible refine gate_dst (N:=6) rfl ?_);refine zbox (N:=6) (cs:=#[.int .i64 0,.bool false,.int .i64 0,.int .u64 0]) (t:=34) ?_;intro g hg aG hbox hb;have c:=Aside0.mk hbox;have dk:=zge hg HB;have dl:=zge hg HB;have j:=znl hg a;have m:=zng hg a;have B:=znl hg b;have o:=zng hg b;obtain⟨a,b,HB⟩:=zu2 a b HB hb;clear hb hbox hg;obtain⟨dm,dn⟩:=z2 m;obtain⟨dp,dq⟩:=z2 o;obtain⟨X,Y,Z,aa,ab,ac,ad,ae⟩:=zc4 c;obtain⟨af,ag,ah,ai⟩:=zc2 a))
   have n0_:Aside0 (((((aG.setCell ⟨g,0,none⟩ (.int .i64 0)).setCell ⟨g,1,none⟩ (.bool ((Go.bits .and .u64 C u) != 0))).setCell ⟨g,2,none⟩ (.int .i64 0)).setCell ⟨g,3,none⟩ (.int .u64 0)).heap[q]?=some (.cells #[.int .i64 d,.int .i64 l] 23 (0,0))):=⟨zk a⟩
   have n1_:Aside0 (((((aG.setCell ⟨g,0,none⟩ (.int .i64 0)).setCell ⟨g,1,none⟩ (.bool ((Go.bits .and .u64 C u) != 0))).setCell ⟨g,2,none⟩ (.int .i64 0)).setCell ⟨g,3,none⟩ (.int .u64 0)).heap[E]?=some (.cells #[.int .i64 0,.bool false,.int .i64 0,.int .u64 0] 34 (0,0))):=⟨zk b⟩
   have n2_:Aside0 (((((aG.setCell ⟨g,0,none⟩ (.int .i64 0)).setCell ⟨g,1,none⟩ (.bool ((Go.bits .and .u64 C u) != 0))).setCell ⟨g,2,none⟩ (.int .i64 0)).setCell ⟨g,3,none⟩ (.int .u64 0)).heap[g]?=some (.cells #[.int .i64 0,.bool ((Go.bits .and .u64 C u) != 0),.int .i64 0,.int .u64 0] 34 (0,0))):=⟨zkp c⟩
   have n3_:Aside0 (Below w.heap.size w ((((aG.setCell ⟨g,0,none⟩ (.int .i64 0)).setCell ⟨g,1,none⟩ (.bool ((Go.bits .and .u64 C u) != 0))).setCell ⟨g,2,none⟩ (.int .i64 0)).setCell ⟨g,3,none⟩ (.int .u64 0))):=⟨zb HB⟩
   (try clear a)
   (try clear b)
   (try clear c)
   (try clear HB)
   generalize ((((aG.setCell ⟨g,0,none⟩ (.int .i64 0)).setCell ⟨g,1,none⟩ (.bool ((Go.bits .and .u64 C u) != 0))).setCell ⟨g,2,none⟩ (.int .i64 0)).setCell ⟨g,3,none⟩ (.int .u64 0))=dr at n0_ n1_ n2_ n3_ ⊢
   have a:=n0_
   have b:=n1_
   have c:=n2_
   have HB:=n3_
   clear n0_ n1_ n2_ n3_
   replace a:=Aside0.mk (blk_drew a.out)
   replace b:=Aside0.mk (blk_drew b.out)
   replace c:=Aside0.mk (blk_drew c.out)
   replace HB:=Aside0.mk (below_drew1 HB.out)
   refine start_ (n:=9) (S:=fun w'=>w'.cell? ⟨q,0,none⟩=some (.int .i64 d)∧w'.cell? ⟨q,1,none⟩=some (.int .i64 l)) (ds:=[]) #[false,false,false,false,false,false,false,false,false] (by kernel_rfl) rfl rfl ⟨(blk_cell a.out 0).trans rfl,(blk_cell a.out 1).trans rfl⟩ (fun hHeld=>?_);refine with_tabW round_Open.tab5 round_Open.bits5 (fun HT_ HW_=>?_)
   generalize dr.drew=ec at a b c HB hHeld ⊢
   refine zpure_ (i:=0) (N:=some 36) #[true,false,false,false,false,false,false,false,false] (any_of HT_.out (by kernel_rfl)) ?_
   refine zpure_ (i:=5) (N:=some 41) #[true,false,false,false,false,true,false,false,false] (any_of HT_.out (by kernel_rfl)) ?_
   refine ztake_ (i:=1) (N:=some 37) #[true,true,false,false,false,true,false,false,false] rfl (take_ofW HT_.out HW_.out (by kernel_rfl)) hHeld (Or.inl ⟨by rfl,by rintro w' ⟨s0,s1⟩;go_simp;with_reducible rfl⟩) ?_
   refine ztake_ (i:=6) (N:=some 42) #[true,true,false,false,false,true,true,false,false] rfl (take_ofW HT_.out HW_.out (by kernel_rfl)) hHeld (Or.inl ⟨by rfl,by rintro w' ⟨s0,s1⟩;go_simp;with_reducible rfl⟩) ?_
   refine one_ (i:=2) (N:=some 38) #[true,true,true,false,false,true,true,false,false] rfl rfl (one_of HT_.out (by kernel_rfl)) (by decide) (fun K hK=>?_)
   refine goes_ Try.func86 (by kernel_rfl) rfl #[.agg #[.int .i64 d,.int .i64 l]] (by rfl) rfl rfl (by (try simp only[List.map_toArray,List.map_cons,List.map_nil]);first|done|rfl|(simp only[List.length_drop,List.length_take];rfl)) ?_
   with_reducible refine (round_top.calls a9.out).mono ?_
   rintro e ba ⟨rfl,hb⟩
   refine⟨_,rfl,?_⟩
   obtain⟨a,b,c,HB⟩:=zu3 a b c HB hb
   try clear hb
   refine hK.out _ _ ⟨(blk_cell a.out 0).trans rfl,(blk_cell a.out 1).trans rfl⟩ (fun hHeld=>?_)
   clear hK K
   refine norm_ (a':=?_) ?_ ?_
   rotate_left
   ·show Act.put _ (some 38) _=_
    simp only[Act.put,List.setIfInBounds_toArray,List.set_cons_zero,List.set_cons_succ,i64_w,i32_w]
    rfl
   refine zpure_ (i:=3) (N:=some 39) #[true,true,true,true,false,true,true,false,false] (any_of HT_.out (by kernel_rfl)) ?_
   refine zpure_ (i:=4) (N:=some 40) #[true,true,true,true,true,true,true,false,false] (any_of HT_.out (by kernel_rfl)) ?_
   refine zpure_ (i:=7) (N:=some 43) #[true,true,true,true,true,true,true,true,false] (any_of HT_.out (by kernel_rfl)) ?_
   refine zpure_ (i:=8) (N:=some 8) #[true,true,true,true,true,true,true,true,true] (any_of HT_.out (by kernel_rfl)) ?_
   refine done_ (done_of HT_.out (by kernel_rfl)) ?_
   go_upto_region 7 with (fail)
   go_cut [59] (fun v59 wc=>∃ (kq:Nat) (I:Bool),v59=.bool I∧Aside0 (round_Open.j1 kq C (Go.bits .and .u64 C (IntKind.u64.wrap ((y)-1))) F I d l 0 ((Go.bits .and .u64 C u) != 0) 0 0=some (r1,r2,r3,r4,r5))∧Aside0 (kq≤aq)∧Aside0 (wc.heap[q]?=some (.cells #[.int .i64 d,.int .i64 l] 23 (0,0)))∧Aside0 (wc.heap[E]?=some (.cells #[.int .i64 0,.bool false,.int .i64 0,.int .u64 0] 34 (0,0)))∧Aside0 (wc.heap[g]?=some (.cells #[.int .i64 0,.bool ((Go.bits .and .u64 C u) != 0),.int .i64 0,.int .u64 0] 34 (0,0)))∧Aside0 (Below w.heap.size w wc))
   case first =>
    have H:=aF.out
    clear aF
    obtain⟨Q,bb,H⟩:=oB H
    obtain⟨R,bc,H⟩:=oB H
    by_cases al:(Go.bits .and .u64 C Q)=R
    ·rw[if_pos al] at H
     obtain⟨G,aH⟩:=zt al
     clear al
     (first|rw[G]|(simp only[i64_w,i32_w];rw[G])|skip)
     have H':=Aside0.mk H
     clear H
     try go_wp2
     replace a:=Aside0.mk (blk_drew a.out)
     replace b:=Aside0.mk (blk_drew b.out)
     replace c:=Aside0.mk (blk_drew c.out)
     replace HB:=Aside0.mk (below_drew1 HB.out)
     refine start_ (n:=12) (S:=fun w'=>w'.cell? ⟨q,0,none⟩=some (.int .i64 d)∧w'.cell? ⟨q,1,none⟩=some (.int .i64 l)) (ds:=[]) #[false,false,false,false,false,false,false,false,false,false,false,false] (by kernel_rfl) rfl rfl ⟨(blk_cell a.out 0).trans rfl,(blk_cell a.out 1).trans rfl⟩ (fun hHeld=>?_);refine with_tabW round_Open.tab7 round_Open.bits7 (fun HT_ HW_=>?_)
     generalize ba.drew=ed at a b c HB hHeld ⊢
     refine zpure_ (i:=0) (N:=some 60) #[true,false,false,false,false,false,false,false,false,false,false,false] (any_of HT_.out (by kernel_rfl)) ?_
     refine ztake_ (i:=1) (N:=some 61) #[true,true,false,false,false,false,false,false,false,false,false,false] rfl (take_ofW HT_.out HW_.out (by kernel_rfl)) hHeld (Or.inl ⟨by rfl,by rintro w' ⟨s0,s1⟩;go_simp;with_reducible rfl⟩) ?_
     refine ztake_ (i:=4) (N:=some 64) #[true,true,false,false,true,false,false,false,false,false,false,false] rfl (take_ofW HT_.out HW_.out (by kernel_rfl)) hHeld (Or.inl ⟨by rfl,by rintro w' ⟨s0,s1⟩;go_simp;with_reducible rfl⟩) ?_
     refine one_ (i:=2) (N:=some 62) #[true,true,true,false,true,false,false,false,false,false,false,false] rfl rfl (one_of HT_.out (by kernel_rfl)) (by decide) (fun K hK=>?_)
     refine goes_ Try.func86 (by kernel_rfl) rfl #[.agg #[.int .i64 d,.int .i64 l]] (by rfl) rfl rfl (by (try simp only[List.map_toArray,List.map_cons,List.map_nil]);first|done|rfl|(simp only[List.length_drop,List.length_take];rfl)) ?_
     with_reducible refine (round_top.calls bb.out).mono ?_
     rintro e ee ⟨rfl,hb⟩
     refine⟨_,rfl,?_⟩
     obtain⟨a,b,c,HB⟩:=zu3 a b c HB hb
     try clear hb
     refine hK.out _ _ ⟨(blk_cell a.out 0).trans rfl,(blk_cell a.out 1).trans rfl⟩ (fun hHeld=>?_)
     clear hK K
     refine norm_ (a':=?_) ?_ ?_
     rotate_left
     ·show Act.put _ (some 62) _=_
      simp only[Act.put,List.setIfInBounds_toArray,List.set_cons_zero,List.set_cons_succ,i64_w,i32_w]
      rfl
     refine zpure_ (i:=3) (N:=some 63) #[true,true,true,true,true,false,false,false,false,false,false,false] (any_of HT_.out (by kernel_rfl)) ?_
     refine one_ (i:=5) (N:=some 65) #[true,true,true,true,true,true,false,false,false,false,false,false] rfl rfl (one_of HT_.out (by kernel_rfl)) (by decide) (fun K hK=>?_)
     refine goes_ Try.func86 (by kernel_rfl) rfl #[.agg #[.int .i64 d,.int .i64 l]] (by rfl) rfl rfl (by (try simp only[List.map_toArray,List.map_cons,List.map_nil]);first|done|rfl|(simp only[List.length_drop,List.length_take];rfl)) ?_
     with_reducible refine (round_top.calls bc.out).mono ?_
     rintro e ef ⟨rfl,hb⟩
     refine⟨_,rfl,?_⟩
     obtain⟨a,b,c,HB⟩:=zu3 a b c HB hb
     try clear hb
     refine hK.out _ _ ⟨(blk_cell a.out 0).trans rfl,(blk_cell a.out 1).trans rfl⟩ (fun hHeld=>?_)
     clear hK K
     refine norm_ (a':=?_) ?_ ?_
     rotate_left
     ·show Act.put _ (some 65) _=_
      simp only[Act.put,List.setIfInBounds_toArray,List.set_cons_zero,List.set_cons_succ,i64_w,i32_w]
      rfl
     refine zpure_ (i:=6) (N:=some 66) #[true,true,true,true,true,true,true,false,false,false,false,false] (any_of HT_.out (by kernel_rfl)) ?_
     refine zpure_ (i:=7) (N:=some 67) #[true,true,true,true,true,true,true,true,false,false,false,false] (any_of HT_.out (by kernel_rfl)) ?_
     refine zpure_ (i:=8) (N:=some 68) #[true,true,true,true,true,true,true,true,true,false,false,false] (any_of HT_.out (by kernel_rfl)) ?_
     refine zpure_ (i:=9) (N:=some 69) #[true,true,true,true,true,true,true,true,true,true,false,false] (any_of HT_.out (by kernel_rfl)) ?_
     refine zpure_ (i:=10) (N:=some 70) #[true,true,true,true,true,true,true,true,true,true,true,false] (any_of HT_.out (by kernel_rfl)) ?_
     refine zpure_ (i:=11) (N:=some 59) #[true,true,true,true,true,true,true,true,true,true,true,true] (any_of HT_.out (by kernel_rfl)) ?_
     refine done_ (done_of HT_.out (by kernel_rfl)) ?_
     try go_wp2
     go_meet
     case rel=>exact⟨_,(((Go.bits .and .u64 C (IntKind.u64.wrap ((y)-1)))==0)),(by first|rfl|(simp;done)|(simp only[←s] <;> (first|rfl|simp))|(simp[*];done)),H',⟨by have:=aV.out;first|omega|exact Nat.le_refl _⟩,⟨zk a⟩,⟨zk b⟩,⟨zk c⟩,⟨zb HB⟩⟩
    rw[if_neg al] at H
    obtain⟨G,aH⟩:=zf al
    (first|rw[G]|(simp only[i64_w,i32_w];rw[G])|skip)
    have H':=Aside0.mk H
    clear H
    try go_wp2
    replace a:=Aside0.mk (blk_drew a.out)
    replace b:=Aside0.mk (blk_drew b.out)
    replace c:=Aside0.mk (blk_drew c.out)
    replace HB:=Aside0.mk (below_drew1 HB.out)
    refine start_ (n:=12) (S:=fun w'=>w'.cell? ⟨q,0,none⟩=some (.int .i64 d)∧w'.cell? ⟨q,1,none⟩=some (.int .i64 l)) (ds:=[]) #[false,false,false,false,false,false,false,false,false,false,false,false] (by kernel_rfl) rfl rfl ⟨(blk_cell a.out 0).trans rfl,(blk_cell a.out 1).trans rfl⟩ (fun hHeld=>?_);refine with_tabW round_Open.tab7 round_Open.bits7 (fun HT_ HW_=>?_)
    generalize ba.drew=eg at a b c HB hHeld ⊢
    refine zpure_ (i:=0) (N:=some 60) #[true,false,false,false,false,false,false,false,false,false,false,false] (any_of HT_.out (by kernel_rfl)) ?_
    refine ztake_ (i:=1) (N:=some 61) #[true,true,false,false,false,false,false,false,false,false,false,false] rfl (take_ofW HT_.out HW_.out (by kernel_rfl)) hHeld (Or.inl ⟨by rfl,by rintro w' ⟨s0,s1⟩;go_simp;with_reducible rfl⟩) ?_
    refine ztake_ (i:=4) (N:=some 64) #[true,true,false,false,true,false,false,false,false,false,false,false] rfl (take_ofW HT_.out HW_.out (by kernel_rfl)) hHeld (Or.inl ⟨by rfl,by rintro w' ⟨s0,s1⟩;go_simp;with_reducible rfl⟩) ?_
    refine one_ (i:=2) (N:=some 62) #[true,true,true,false,true,false,false,false,false,false,false,false] rfl rfl (one_of HT_.out (by kernel_rfl)) (by decide) (fun K hK=>?_)
    refine goes_ Try.func86 (by kernel_rfl) rfl #[.agg #[.int .i64 d,.int .i64 l]] (by rfl) rfl rfl (by (try simp only[List.map_toArray,List.map_cons,List.map_nil]);first|done|rfl|(simp only[List.length_drop,List.length_take];rfl)) ?_
    with_reducible refine (round_top.calls bb.out).mono ?_
    rintro e eh ⟨rfl,hb⟩
    refine⟨_,rfl,?_⟩
    obtain⟨a,b,c,HB⟩:=zu3 a b c HB hb
    try clear hb
    refine hK.out _ _ ⟨(blk_cell a.out 0).trans rfl,(blk_cell a.out 1).trans rfl⟩ (fun hHeld=>?_)
    clear hK K
    refine norm_ (a':=?_) ?_ ?_
    rotate_left
    ·show Act.put _ (some 62) _=_
     simp only[Act.put,List.setIfInBounds_toArray,List.set_cons_zero,List.set_cons_succ,i64_w,i32_w]
     rfl
    refine zpure_ (i:=3) (N:=some 63) #[true,true,true,true,true,false,false,false,false,false,false,false] (any_of HT_.out (by kernel_rfl)) ?_
    refine one_ (i:=5) (N:=some 65) #[true,true,true,true,true,true,false,false,false,false,false,false] rfl rfl (one_of HT_.out (by kernel_rfl)) (by decide) (fun K hK=>?_)
    refine goes_ Try.func86 (by kernel_rfl) rfl #[.agg #[.int .i64 d,.int .i64 l]] (by rfl) rfl rfl (by (try simp only[List.map_toArray,List.map_cons,List.map_nil]);first|done|rfl|(simp only[List.length_drop,List.length_take];rfl)) ?_
    with_reducible refine (round_top.calls bc.out).mono ?_
    rintro e ei ⟨rfl,hb⟩
    refine⟨_,rfl,?_⟩
    obtain⟨a,b,c,HB⟩:=zu3 a b c HB hb
    try clear hb
    refine hK.out _ _ ⟨(blk_cell a.out 0).trans rfl,(blk_cell a.out 1).trans rfl⟩ (fun hHeld=>?_)
    clear hK K
    refine norm_ (a':=?_) ?_ ?_
    rotate_left
    ·show Act.put _ (some 65) _=_
     simp only[Act.put,List.setIfInBounds_toArray,List.set_cons_zero,List.set_cons_succ,i64_w,i32_w]
     rfl
    refine zpure_ (i:=6) (N:=some 66) #[true,true,true,true,true,true,true,false,false,false,false,false] (any_of HT_.out (by kernel_rfl)) ?_
    refine zpure_ (i:=7) (N:=some 67) #[true,true,true,true,true,true,true,true,false,false,false,false] (any_of HT_.out (by kernel_rfl)) ?_
    refine pure_ (i:=8) (N:=some 68) (v:=undef) (a':=?_) #[true,true,true,true,true,true,true,true,true,false,false,false] rfl rfl (any_of HT_.out (by kernel_rfl)) (fun _ _ _ h=>h) (Or.inr ⟨by rfl,rfl⟩) ?_ ?_
    rotate_left
    ·simp only[Act.put,List.setIfInBounds_toArray,List.set_cons_zero,List.set_cons_succ,i64_w,i32_w]
     rfl
    refine pure_ (i:=9) (N:=some 69) (v:=undef) (a':=?_) #[true,true,true,true,true,true,true,true,true,true,false,false] rfl rfl (any_of HT_.out (by kernel_rfl)) (fun _ _ _ h=>h) (Or.inr ⟨by rfl,rfl⟩) ?_ ?_
    rotate_left
    ·simp only[Act.put,List.setIfInBounds_toArray,List.set_cons_zero,List.set_cons_succ,i64_w,i32_w]
     rfl
    refine zpure_ (i:=10) (N:=some 70) #[true,true,true,true,true,true,true,true,true,true,true,false] (any_of HT_.out (by kernel_rfl)) ?_
    refine zpure_ (i:=11) (N:=some 59) #[true,true,true,true,true,true,true,true,true,true,true,true] (any_of HT_.out (by kernel_rfl)) ?_
    refine done_ (done_of HT_.out (by kernel_rfl)) ?_
    try go_wp2
    go_meet
    case rel=>exact⟨_,(false),(by first|rfl|(simp[*];done)),H',⟨by have:=aV.out;first|omega|exact Nat.le_refl _⟩,⟨zk a⟩,⟨zk b⟩,⟨zk c⟩,⟨zb HB⟩⟩
   case rest =>
    clear aF
    try clear p2 c6 p6 c7 L ap c9 ak aC aD aE T U X Y Z aa af ag V W ab ac ad ae ah ai p2 p6
    obtain⟨kq,I,rfl,HA,aZ,a,b,c,HB⟩:=hcut
    cases kq with
    | zero=>exact absurd HA.out (by simp[round_Open.j1])
    | succ bd =>
     have H:=HA.out
     clear HA
     simp only[round_Open.j1] at H
     by_cases aI:I=true
     ·subst aI
      rw[if_pos rfl] at H
      simp only[Option.some.injEq,Prod.mk.injEq] at H
      obtain⟨rfl,rfl,rfl,rfl,rfl⟩:=H
      obtain⟨dv,dw⟩:=z2 m
      obtain⟨dx,dy⟩:=z2 o
      obtain⟨be,bf,bg,bh,bi,bj,bk,bl⟩:=zc4 c
      obtain⟨dz,dA⟩:=z2 z
      obtain⟨bm,bn,bo,bp,bq,br,bs,bt⟩:=zc4 b
      go_wp2
      refine bodyPost_ret (results_ct rfl _ _ E 34 #[.int .i64 3,.bool ((Go.bits .and .u64 C u) != 0),.int .i64 0,.int .u64 0] (0,0) _ rfl (zkp b) Try.underlying34 rfl (by kernel_rfl)) rfl ?_
      exact⟨by first|rfl|(simp[errW_none,errW_some] <;> rfl)|(simp only[←s,←D];first|rfl|(simp[errW_none,errW_some] <;> rfl))|(simp[*,errW_none,errW_some] <;> rfl),zb HB⟩
     replace aI:=Bool.eq_false_iff.mpr aI
     subst aI
     rw[if_neg nft] at H
     obtain⟨bu,bv,H⟩:=oB H
     obtain⟨bw,bx,H⟩:=oB H
     by_cases am:(Go.bits .and .u64 C bu)=bw
     ·rw[if_pos am] at H
      obtain⟨aJ,aK⟩:=zt am
      clear am
      simp only[Option.some.injEq,Prod.mk.injEq] at H
      obtain⟨rfl,rfl,rfl,rfl,rfl⟩:=H
      try go_wp2
      replace a:=Aside0.mk (blk_drew a.out)
      replace b:=Aside0.mk (blk_drew b.out)
      replace c:=Aside0.mk (blk_drew c.out)
      replace HB:=Aside0.mk (below_drew1 HB.out)
      refine start_ (n:=8) (S:=fun w'=>w'.cell? ⟨q,0,none⟩=some (.int .i64 d)∧w'.cell? ⟨q,1,none⟩=some (.int .i64 l)) (ds:=[]) #[false,false,false,false,false,false,false,false] (by kernel_rfl) rfl rfl ⟨(blk_cell a.out 0).trans rfl,(blk_cell a.out 1).trans rfl⟩ (fun hHeld=>?_);refine with_tabW round_Open.tab9 round_Open.bits9 (fun HT_ HW_=>?_)
      generalize wc.drew=el at a b c HB hHeld ⊢
      refine zpure_ (i:=0) (N:=some 73) #[true,false,false,false,false,false,false,false] (any_of HT_.out (by kernel_rfl)) ?_
      refine ztake_ (i:=1) (N:=some 74) #[true,true,false,false,false,false,false,false] rfl (take_ofW HT_.out HW_.out (by kernel_rfl)) hHeld (Or.inl ⟨by rfl,by rintro w' ⟨s0,s1⟩;go_simp;with_reducible rfl⟩) ?_
      refine ztake_ (i:=4) (N:=some 77) #[true,true,false,false,true,false,false,false] rfl (take_ofW HT_.out HW_.out (by kernel_rfl)) hHeld (Or.inl ⟨by rfl,by rintro w' ⟨s0,s1⟩;go_simp;with_reducible rfl⟩) ?_
      refine one_ (i:=2) (N:=some 75) #[true,true,true,false,true,false,false,false] rfl rfl (one_of HT_.out (by kernel_rfl)) (by decide) (fun K hK=>?_)
      refine goes_ Try.func86 (by kernel_rfl) rfl #[.agg #[.int .i64 d,.int .i64 l]] (by rfl) rfl rfl (by (try simp only[List.map_toArray,List.map_cons,List.map_nil]);first|done|rfl|(simp only[List.length_drop,List.length_take];rfl)) ?_
      with_reducible refine (round_top.calls bv.out).mono ?_
      rintro e em ⟨rfl,hb⟩
      refine⟨_,rfl,?_⟩
      obtain⟨a,b,c,HB⟩:=zu3 a b c HB hb
      try clear hb
      refine hK.out _ _ ⟨(blk_cell a.out 0).trans rfl,(blk_cell a.out 1).trans rfl⟩ (fun hHeld=>?_)
      clear hK K
      refine norm_ (a':=?_) ?_ ?_
      rotate_left
      ·show Act.put _ (some 75) _=_
       simp only[Act.put,List.setIfInBounds_toArray,List.set_cons_zero,List.set_cons_succ,i64_w,i32_w]
       rfl
      refine zpure_ (i:=3) (N:=some 76) #[true,true,true,true,true,false,false,false] (any_of HT_.out (by kernel_rfl)) ?_
      refine one_ (i:=5) (N:=some 78) #[true,true,true,true,true,true,false,false] rfl rfl (one_of HT_.out (by kernel_rfl)) (by decide) (fun K hK=>?_)
      refine goes_ Try.func86 (by kernel_rfl) rfl #[.agg #[.int .i64 d,.int .i64 l]] (by rfl) rfl rfl (by (try simp only[List.map_toArray,List.map_cons,List.map_nil]);first|done|rfl|(simp only[List.length_drop,List.length_take];rfl)) ?_
      with_reducible refine (round_top.calls bx.out).mono ?_
      rintro e en ⟨rfl,hb⟩
      refine⟨_,rfl,?_⟩
      obtain⟨a,b,c,HB⟩:=zu3 a b c HB hb
      try clear hb
      refine hK.out _ _ ⟨(blk_cell a.out 0).trans rfl,(blk_cell a.out 1).trans rfl⟩ (fun hHeld=>?_)
      clear hK K
      refine norm_ (a':=?_) ?_ ?_
      rotate_left
      ·show Act.put _ (some 78) _=_
       simp only[Act.put,List.setIfInBounds_toArray,List.set_cons_zero,List.set_cons_succ,i64_w,i32_w]
       rfl
      refine zpure_ (i:=6) (N:=some 79) #[true,true,true,true,true,true,true,false] (any_of HT_.out (by kernel_rfl)) ?_
      refine zpure_ (i:=7) (N:=some 72) #[true,true,true,true,true,true,true,true] (any_of HT_.out (by kernel_rfl)) ?_
      refine done_ (done_of HT_.out (by kernel_rfl)) ?_
      obtain⟨dB,dC⟩:=z2 m
      obtain⟨dD,dE⟩:=z2 o
      obtain⟨bz,bA,bB,bC,bD,bE,bF,bG⟩:=zc4 c
      obtain⟨dF,dG⟩:=z2 z
      obtain⟨bH,bI,bJ,bK,bL,bM,bN,bO⟩:=zc4 b
      try go_wp2
      refine bodyPost_ret (results_ct rfl _ _ E 34 #[.int .i64 4,.bool ((Go.bits .and .u64 C u) != 0),.int .i64 0,.int .u64 0] (0,0) _ rfl (zkp b) Try.underlying34 rfl (by kernel_rfl)) rfl ?_
      exact⟨by first|rfl|(simp[errW_none,errW_some] <;> rfl)|(simp only[←s,←D];first|rfl|(simp[errW_none,errW_some] <;> rfl))|(simp[*,errW_none,errW_some] <;> rfl),zb HB⟩
     rw[if_neg am] at H
     obtain⟨aJ,aK⟩:=zf am
     have aL:=Aside0.mk H
     clear H
     try go_wp2
     replace a:=Aside0.mk (blk_drew a.out)
     replace b:=Aside0.mk (blk_drew b.out)
     replace c:=Aside0.mk (blk_drew c.out)
     replace HB:=Aside0.mk (below_drew1 HB.out)
     refine start_ (n:=8) (S:=fun w'=>w'.cell? ⟨q,0,none⟩=some (.int .i64 d)∧w'.cell? ⟨q,1,none⟩=some (.int .i64 l)) (ds:=[]) #[false,false,false,false,false,false,false,false] (by kernel_rfl) rfl rfl ⟨(blk_cell a.out 0).trans rfl,(blk_cell a.out 1).trans rfl⟩ (fun hHeld=>?_);refine with_tabW round_Open.tab9 round_Open.bits9 (fun HT_ HW_=>?_)
     generalize wc.drew=eo at a b c HB hHeld ⊢
     refine zpure_ (i:=0) (N:=some 73) #[true,false,false,false,false,false,false,false] (any_of HT_.out (by kernel_rfl)) ?_
     refine ztake_ (i:=1) (N:=some 74) #[true,true,false,false,false,false,false,false] rfl (take_ofW HT_.out HW_.out (by kernel_rfl)) hHeld (Or.inl ⟨by rfl,by rintro w' ⟨s0,s1⟩;go_simp;with_reducible rfl⟩) ?_
     refine ztake_ (i:=4) (N:=some 77) #[true,true,false,false,true,false,false,false] rfl (take_ofW HT_.out HW_.out (by kernel_rfl)) hHeld (Or.inl ⟨by rfl,by rintro w' ⟨s0,s1⟩;go_simp;with_reducible rfl⟩) ?_
     refine one_ (i:=2) (N:=some 75) #[true,true,true,false,true,false,false,false] rfl rfl (one_of HT_.out (by kernel_rfl)) (by decide) (fun K hK=>?_)
     refine goes_ Try.func86 (by kernel_rfl) rfl #[.agg #[.int .i64 d,.int .i64 l]] (by rfl) rfl rfl (by (try simp only[List.map_toArray,List.map_cons,List.map_nil]);first|done|rfl|(simp only[List.length_drop,List.length_take];rfl)) ?_
     with_reducible refine (round_top.calls bv.out).mono ?_
     rintro e ep ⟨rfl,hb⟩
     refine⟨_,rfl,?_⟩
     obtain⟨a,b,c,HB⟩:=zu3 a b c HB hb
     try clear hb
     refine hK.out _ _ ⟨(blk_cell a.out 0).trans rfl,(blk_cell a.out 1).trans rfl⟩ (fun hHeld=>?_)
     clear hK K
     refine norm_ (a':=?_) ?_ ?_
     rotate_left
     ·show Act.put _ (some 75) _=_
      simp only[Act.put,List.setIfInBounds_toArray,List.set_cons_zero,List.set_cons_succ,i64_w,i32_w]
      rfl
     refine zpure_ (i:=3) (N:=some 76) #[true,true,true,true,true,false,false,false] (any_of HT_.out (by kernel_rfl)) ?_
     refine one_ (i:=5) (N:=some 78) #[true,true,true,true,true,true,false,false] rfl rfl (one_of HT_.out (by kernel_rfl)) (by decide) (fun K hK=>?_)
     refine goes_ Try.func86 (by kernel_rfl) rfl #[.agg #[.int .i64 d,.int .i64 l]] (by rfl) rfl rfl (by (try simp only[List.map_toArray,List.map_cons,List.map_nil]);first|done|rfl|(simp only[List.length_drop,List.length_take];rfl)) ?_
     with_reducible refine (round_top.calls bx.out).mono ?_
     rintro e eq ⟨rfl,hb⟩
     refine⟨_,rfl,?_⟩
     obtain⟨a,b,c,HB⟩:=zu3 a b c HB hb
     try clear hb
     refine hK.out _ _ ⟨(blk_cell a.out 0).trans rfl,(blk_cell a.out 1).trans rfl⟩ (fun hHeld=>?_)
     clear hK K
     refine norm_ (a':=?_) ?_ ?_
     rotate_left
     ·show Act.put _ (some 78) _=_
      simp only[Act.put,List.setIfInBounds_toArray,List.set_cons_zero,List.set_cons_succ,i64_w,i32_w]
      rfl
     refine zpure_ (i:=6) (N:=some 79) #[true,true,true,true,true,true,true,false] (any_of HT_.out (by kernel_rfl)) ?_
     refine zpure_ (i:=7) (N:=some 72) #[true,true,true,true,true,true,true,true] (any_of HT_.out (by kernel_rfl)) ?_
     refine done_ (done_of HT_.out (by kernel_rfl)) ?_
     go_upto_region 11 with (fail)
     go_cut [81] (fun v81 wc=>∃ (kq:Nat) (J:Bool),v81=.bool J∧Aside0 (round_Open.j2 kq (Go.bits .and .u64 C (IntKind.u64.wrap ((y)-1))) F J d l 0 ((Go.bits .and .u64 C u) != 0) 0 0=some (r1,r2,r3,r4,r5))∧Aside0 (kq≤bd)∧Aside0 (wc.heap[q]?=some (.cells #[.int .i64 d,.int .i64 l] 23 (0,0)))∧Aside0 (wc.heap[E]?=some (.cells #[.int .i64 0,.bool false,.int .i64 0,.int .u64 0] 34 (0,0)))∧Aside0 (wc.heap[g]?=some (.cells #[.int .i64 0,.bool ((Go.bits .and .u64 C u) != 0),.int .i64 0,.int .u64 0] 34 (0,0)))∧Aside0 (Below w.heap.size w wc))
     case first =>
      have H:=aL.out
      clear aL
      by_cases aM:F=0
      ·rw[if_pos aM] at H
       obtain⟨M,a4⟩:=zt aM
       clear aM
       (first|rw[M]|(simp only[i64_w,i32_w];rw[M])|skip)
       have H':=Aside0.mk H
       clear H
       go_wp2
       go_meet
       case rel=>exact⟨_,(((Go.bits .and .u64 C (IntKind.u64.wrap ((y)-1)))==0)),(by first|rfl|(simp;done)|(simp only[←s] <;> (first|rfl|simp))|(simp[*];done)),H',⟨by have:=aV.out;have:=aZ.out;first|omega|exact Nat.le_refl _⟩,⟨zk a⟩,⟨zk b⟩,⟨zk c⟩,⟨zb HB⟩⟩
      rw[if_neg aM] at H
      obtain⟨M,a4⟩:=zf aM
      (first|rw[M]|(simp only[i64_w,i32_w];rw[M])|skip)
      have H':=Aside0.mk H
      clear H
      go_wp2
      go_meet
      case rel=>exact⟨_,(false),(by first|rfl|(simp[*];done)),H',⟨by have:=aV.out;have:=aZ.out;first|omega|exact Nat.le_refl _⟩,⟨zk a⟩,⟨zk b⟩,⟨zk c⟩,⟨zb HB⟩⟩
     case rest =>
      clear aL
      try clear c1 c2 p2 c3 c6 p6 c7 L ap c8 c9 ak er aC aD es aE et eu ev al G aH aI am aJ aK ar au av aw T U X Y Z aa af ag ax ay az aA V W ab ac ad ae ah ai p2 p6
      obtain⟨kq,J,rfl,HA,d5,a,b,c,HB⟩:=hcut
      cases kq with
      | zero=>exact absurd HA.out (by simp[round_Open.j2])
      | succ d6 =>
       have H:=HA.out
       clear HA
       simp only[round_Open.j2] at H
       by_cases aY:J=true
       ·subst aY
        rw[if_pos rfl] at H
        simp only[Option.some.injEq,Prod.mk.injEq] at H
        obtain⟨rfl,rfl,rfl,rfl,rfl⟩:=H
        obtain⟨dH,dI⟩:=z2 m
        obtain⟨dJ,dK⟩:=z2 o
        obtain⟨bP,bQ,bR,bS,bT,bU,bV,bW⟩:=zc4 c
        obtain⟨dL,dM⟩:=z2 z
        obtain⟨bX,bY,bZ,b0,b1,b2,b3,b4⟩:=zc4 b
        go_wp2
        refine bodyPost_ret (results_ct rfl _ _ E 34 #[.int .i64 1,.bool ((Go.bits .and .u64 C u) != 0),.int .i64 0,.int .u64 0] (0,0) _ rfl (zkp b) Try.underlying34 rfl (by kernel_rfl)) rfl ?_
        exact⟨by first|rfl|(simp[errW_none,errW_some] <;> rfl)|(simp only[←s,←D];first|rfl|(simp[errW_none,errW_some] <;> rfl))|(simp[*,errW_none,errW_some] <;> rfl),zb HB⟩
       replace aY:=Bool.eq_false_iff.mpr aY
       subst aY
       rw[if_neg nft] at H
       by_cases aN:F=0
       ·rw[if_pos aN] at H
        obtain⟨a5,a6⟩:=zt aN
        clear aN
        obtain⟨b5,dN,H⟩:=oB H
        simp only[Option.some.injEq,Prod.mk.injEq] at H
        obtain⟨rfl,rfl,rfl,rfl,rfl⟩:=H
        try go_wp2
        replace a:=Aside0.mk (blk_drew a.out)
        replace b:=Aside0.mk (blk_drew b.out)
        replace c:=Aside0.mk (blk_drew c.out)
        replace HB:=Aside0.mk (below_drew1 HB.out)
        refine start_ (n:=13) (S:=fun w'=>w'.cell? ⟨q,0,none⟩=some (.int .i64 d)∧w'.cell? ⟨q,1,none⟩=some (.int .i64 l)) (ds:=[]) #[false,false,false,false,false,false,false,false,false,false,false,false,false] (by kernel_rfl) rfl rfl ⟨(blk_cell a.out 0).trans rfl,(blk_cell a.out 1).trans rfl⟩ (fun hHeld=>?_);refine with_tabW round_Open.tab14 round_Open.bits14 (fun HT_ HW_=>?_)
        generalize wc.drew=ew at a b c HB hHeld ⊢
        refine zpure_ (i:=0) (N:=some 92) #[true,false,false,false,false,false,false,false,false,false,false,false,false] (any_of HT_.out (by kernel_rfl)) ?_
        refine zpure_ (i:=4) (N:=some 96) #[true,false,false,false,true,false,false,false,false,false,false,false,false] (any_of HT_.out (by kernel_rfl)) ?_
        refine zpure_ (i:=7) (N:=some 99) #[true,false,false,false,true,false,false,true,false,false,false,false,false] (any_of HT_.out (by kernel_rfl)) ?_
        refine ztake_ (i:=1) (N:=some 93) #[true,true,false,false,true,false,false,true,false,false,false,false,false] rfl (take_ofW HT_.out HW_.out (by kernel_rfl)) hHeld (Or.inl ⟨by rfl,by rintro w' ⟨s0,s1⟩;go_simp;with_reducible rfl⟩) ?_
        refine ztake_ (i:=5) (N:=some 97) #[true,true,false,false,true,true,false,true,false,false,false,false,false] rfl (take_ofW HT_.out HW_.out (by kernel_rfl)) hHeld (Or.inl ⟨by rfl,by rintro w' ⟨s0,s1⟩;go_simp;with_reducible rfl⟩) ?_
        refine one_ (i:=2) (N:=some 94) #[true,true,true,false,true,true,false,true,false,false,false,false,false] rfl rfl (one_of HT_.out (by kernel_rfl)) (by decide) (fun K hK=>?_)
        refine goes_ Try.func89 (by kernel_rfl) rfl #[.agg #[.int .i64 d,.int .i64 l]] (by rfl) rfl rfl (by (try simp only[List.map_toArray,List.map_cons,List.map_nil]);first|done|rfl|(simp only[List.length_drop,List.length_take];rfl)) ?_
        with_reducible refine (round_bias.calls dN.out).mono ?_
        rintro e a7 ⟨rfl,hb⟩
        refine⟨_,rfl,?_⟩
        obtain⟨a,b,c,HB⟩:=zu3 a b c HB hb
        try clear hb
        refine hK.out _ _ ⟨(blk_cell a.out 0).trans rfl,(blk_cell a.out 1).trans rfl⟩ (fun hHeld=>?_)
        clear hK K
        refine norm_ (a':=?_) ?_ ?_
        rotate_left
        ·show Act.put _ (some 94) _=_
         simp only[Act.put,List.setIfInBounds_toArray,List.set_cons_zero,List.set_cons_succ,i64_w,i32_w]
         rfl
        refine zpure_ (i:=3) (N:=some 95) #[true,true,true,true,true,true,false,true,false,false,false,false,false] (any_of HT_.out (by kernel_rfl)) ?_
        refine zpure_ (i:=6) (N:=some 98) #[true,true,true,true,true,true,true,true,false,false,false,false,false] (any_of HT_.out (by kernel_rfl)) ?_
        refine one_ (i:=8) (N:=none) #[true,true,true,true,true,true,true,true,true,false,false,false,false] rfl rfl (one_of HT_.out (by kernel_rfl)) (by decide) (fun K hK=>?_)
        have hs75:a7.cell? ⟨g,0,none⟩=some (.int .i64 0):=(blk_cell c.out 0).trans rfl
        have hfs75:=blk_frozen c.out 0
        have b6:=j.out
        have b7:=B.out
        have b8:=m.out
        have b9:=o.out
        refine skip_ (w1:=?_) (by rfl) rfl ?_ ?_
        rotate_left
        ·go_simp
         rfl
        refine hK.out _ _ ⟨((cell_far (p:=⟨g,_,none⟩) j.out _).trans (hHeld.1)),((cell_far (p:=⟨g,_,none⟩) j.out _).trans (hHeld.2))⟩ (fun hHeld=>?_)
        clear hK K
        refine zpure_ (i:=9) (N:=some 100) #[true,true,true,true,true,true,true,true,true,true,false,false,false] (any_of HT_.out (by kernel_rfl)) ?_
        refine one_ (i:=10) (N:=none) #[true,true,true,true,true,true,true,true,true,true,true,false,false] rfl rfl (one_of HT_.out (by kernel_rfl)) (by decide) (fun K hK=>?_)
        have hs76:a7.cell? ⟨g,3,none⟩=some (.int .u64 0):=(blk_cell c.out 3).trans rfl
        have hfs76:=blk_frozen c.out 3
        have ca:=j.out
        have cb:=B.out
        have cc:=m.out
        have cd:=o.out
        refine skip_ (w1:=?_) (by rfl) rfl ?_ ?_
        rotate_left
        ·go_simp
         rfl
        refine hK.out _ _ ⟨((cell_far (p:=⟨g,_,none⟩) j.out _).trans (hHeld.1)),((cell_far (p:=⟨g,_,none⟩) j.out _).trans (hHeld.2))⟩ (fun hHeld=>?_)
        clear hK K
        refine zpure_ (i:=11) (N:=some 101) #[true,true,true,true,true,true,true,true,true,true,true,true,false] (any_of HT_.out (by kernel_rfl)) ?_
        refine one_ (i:=12) (N:=none) #[true,true,true,true,true,true,true,true,true,true,true,true,true] rfl rfl (one_of HT_.out (by kernel_rfl)) (by decide) (fun K hK=>?_)
        have hs77:a7.cell? ⟨g,2,none⟩=some (.int .i64 0):=(blk_cell c.out 2).trans rfl
        have hfs77:=blk_frozen c.out 2
        have ce:=j.out
        have cf:=B.out
        have cg:=m.out
        have ch:=o.out
        refine skip_ (w1:=?_) (by rfl) rfl ?_ ?_
        rotate_left
        ·go_simp
         rfl
        refine hK.out _ _ ⟨((cell_far (p:=⟨g,_,none⟩) j.out _).trans (hHeld.1)),((cell_far (p:=⟨g,_,none⟩) j.out _).trans (hHeld.2))⟩ (fun hHeld=>?_)
        clear hK K
        refine done_ (done_of HT_.out (by kernel_rfl)) ?_
        obtain⟨dO,dP⟩:=z2 m
        obtain⟨dQ,dR⟩:=z2 o
        obtain⟨ci,cj,ck,cl,cm,cn,co,cp⟩:=zc4 c
        obtain⟨dS,dT⟩:=z2 z
        obtain⟨cq,cr,ct,cu,cv,cw,cx,cy⟩:=zc4 b
        try go_wp2
        refine bodyPost_ret (results_ct rfl _ _ E 34 #[.int .i64 2,.bool ((Go.bits .and .u64 C u) != 0),.int .i64 (wrap64 ((wrap64 (1-b5))-d)),.int .u64 (Go.bits .and .u64 C (IntKind.u64.wrap ((y)-1)))] (0,0) _ rfl (zkp b) Try.underlying34 rfl (by kernel_rfl)) rfl ?_
        exact⟨by first|rfl|(simp[errW_none,errW_some] <;> rfl)|(simp only[←s,←D];first|rfl|(simp[errW_none,errW_some] <;> rfl))|(simp[*,errW_none,errW_some] <;> rfl),zb HB⟩
       rw[if_neg aN] at H
       obtain⟨a5,a6⟩:=zf aN
       by_cases aO:0≤d
       rotate_left
       ·rw[if_neg aO] at H
        exact absurd H (by simp)
       rw[if_pos aO] at H
       have dU:=eq_true aO
       have dV:decide (0≤d)=true:=decide_eq_true aO
       clear aO
       first|rw[s] at H|simp only[s] at H
       obtain⟨aP,dW,H⟩:=oB H
       simp only[Option.some.injEq,Prod.mk.injEq] at H
       obtain⟨rfl,rfl,rfl,rfl,rfl⟩:=H
       try go_wp2
       replace a:=Aside0.mk (blk_drew a.out)
       replace b:=Aside0.mk (blk_drew b.out)
       replace c:=Aside0.mk (blk_drew c.out)
       replace HB:=Aside0.mk (below_drew1 HB.out)
       refine start_ (n:=18) (S:=fun w'=>w'.cell? ⟨q,0,none⟩=some (.int .i64 d)∧w'.cell? ⟨q,1,none⟩=some (.int .i64 l)) (ds:=[]) #[false,false,false,false,false,false,false,false,false,false,false,false,false,false,false,false,false,false] (by kernel_rfl) rfl rfl ⟨(blk_cell a.out 0).trans rfl,(blk_cell a.out 1).trans rfl⟩ (fun hHeld=>?_);refine with_tabW round_Open.tab6 round_Open.bits6 (fun HT_ HW_=>?_)
       generalize wc.drew=ex at a b c HB hHeld ⊢
       refine zpure_ (i:=0) (N:=some 44) #[true,false,false,false,false,false,false,false,false,false,false,false,false,false,false,false,false,false] (any_of HT_.out (by kernel_rfl)) ?_
       refine zpure_ (i:=1) (N:=some 45) #[true,true,false,false,false,false,false,false,false,false,false,false,false,false,false,false,false,false] (any_of HT_.out (by kernel_rfl)) ?_
       refine zpure_ (i:=5) (N:=some 49) #[true,true,false,false,false,true,false,false,false,false,false,false,false,false,false,false,false,false] (any_of HT_.out (by kernel_rfl)) ?_
       refine zpure_ (i:=9) (N:=some 53) #[true,true,false,false,false,true,false,false,false,true,false,false,false,false,false,false,false,false] (any_of HT_.out (by kernel_rfl)) ?_
       refine zpure_ (i:=12) (N:=some 56) #[true,true,false,false,false,true,false,false,false,true,false,false,true,false,false,false,false,false] (any_of HT_.out (by kernel_rfl)) ?_
       refine ztake_ (i:=2) (N:=some 46) #[true,true,true,false,false,true,false,false,false,true,false,false,true,false,false,false,false,false] rfl (take_ofW HT_.out HW_.out (by kernel_rfl)) hHeld (Or.inl ⟨by rfl,by rintro w' ⟨s0,s1⟩;go_simp;with_reducible rfl⟩) ?_
       refine zpure_ (i:=3) (N:=some 47) #[true,true,true,true,false,true,false,false,false,true,false,false,true,false,false,false,false,false] (any_of HT_.out (by kernel_rfl)) ?_
       refine zpure_ (i:=4) (N:=some 48) #[true,true,true,true,true,true,false,false,false,true,false,false,true,false,false,false,false,false] (any_of HT_.out (by kernel_rfl)) ?_
       refine ztake_ (i:=6) (N:=some 50) #[true,true,true,true,true,true,true,false,false,true,false,false,true,false,false,false,false,false] rfl (take_ofW HT_.out HW_.out (by kernel_rfl)) hHeld (Or.inl ⟨by rfl,by rintro w' ⟨s0,s1⟩;go_simp;with_reducible rfl⟩) ?_
       refine ztake_ (i:=10) (N:=some 54) #[true,true,true,true,true,true,true,false,false,true,true,false,true,false,false,false,false,false] rfl (take_ofW HT_.out HW_.out (by kernel_rfl)) hHeld (Or.inl ⟨by rfl,by rintro w' ⟨s0,s1⟩;go_simp;with_reducible rfl⟩) ?_
       refine one_ (i:=7) (N:=some 51) #[true,true,true,true,true,true,true,true,false,true,true,false,true,false,false,false,false,false] rfl rfl (one_of HT_.out (by kernel_rfl)) (by decide) (fun K hK=>?_)
       refine goes_ Try.func89 (by kernel_rfl) rfl #[.agg #[.int .i64 d,.int .i64 l]] (by rfl) rfl rfl (by (try simp only[List.map_toArray,List.map_cons,List.map_nil]);first|done|rfl|(simp only[List.length_drop,List.length_take];rfl)) ?_
       with_reducible refine (round_bias.calls dW.out).mono ?_
       rintro e a8 ⟨rfl,hb⟩
       refine⟨_,rfl,?_⟩
       obtain⟨a,b,c,HB⟩:=zu3 a b c HB hb
       try clear hb
       refine hK.out _ _ ⟨(blk_cell a.out 0).trans rfl,(blk_cell a.out 1).trans rfl⟩ (fun hHeld=>?_)
       clear hK K
       refine norm_ (a':=?_) ?_ ?_
       rotate_left
       ·show Act.put _ (some 51) _=_
        simp only[Act.put,List.setIfInBounds_toArray,List.set_cons_zero,List.set_cons_succ,i64_w,i32_w]
        rfl
       refine zpure_ (i:=8) (N:=some 52) #[true,true,true,true,true,true,true,true,true,true,true,false,true,false,false,false,false,false] (any_of HT_.out (by kernel_rfl)) ?_
       refine zpure_ (i:=11) (N:=some 55) #[true,true,true,true,true,true,true,true,true,true,true,true,true,false,false,false,false,false] (any_of HT_.out (by kernel_rfl)) ?_
       refine one_ (i:=13) (N:=none) #[true,true,true,true,true,true,true,true,true,true,true,true,true,true,false,false,false,false] rfl rfl (one_of HT_.out (by kernel_rfl)) (by decide) (fun K hK=>?_)
       have hs88:a8.cell? ⟨g,0,none⟩=some (.int .i64 0):=(blk_cell c.out 0).trans rfl
       have hfs88:=blk_frozen c.out 0
       have cz:=j.out
       have cA:=B.out
       have cB:=m.out
       have cC:=o.out
       refine skip_ (w1:=?_) (by rfl) rfl ?_ ?_
       rotate_left
       ·go_simp
        rfl
       refine hK.out _ _ ⟨((cell_far (p:=⟨g,_,none⟩) j.out _).trans (hHeld.1)),((cell_far (p:=⟨g,_,none⟩) j.out _).trans (hHeld.2))⟩ (fun hHeld=>?_)
       clear hK K
       refine zpure_ (i:=14) (N:=some 57) #[true,true,true,true,true,true,true,true,true,true,true,true,true,true,true,false,false,false] (any_of HT_.out (by kernel_rfl)) ?_
       refine one_ (i:=15) (N:=none) #[true,true,true,true,true,true,true,true,true,true,true,true,true,true,true,true,false,false] rfl rfl (one_of HT_.out (by kernel_rfl)) (by decide) (fun K hK=>?_)
       have hs89:a8.cell? ⟨g,3,none⟩=some (.int .u64 0):=(blk_cell c.out 3).trans rfl
       have hfs89:=blk_frozen c.out 3
       have cD:=j.out
       have cE:=B.out
       have cF:=m.out
       have cG:=o.out
       refine skip_ (w1:=?_) (by rfl) rfl ?_ ?_
       rotate_left
       ·go_simp
        rfl
       refine hK.out _ _ ⟨((cell_far (p:=⟨g,_,none⟩) j.out _).trans (hHeld.1)),((cell_far (p:=⟨g,_,none⟩) j.out _).trans (hHeld.2))⟩ (fun hHeld=>?_)
       clear hK K
       refine zpure_ (i:=16) (N:=some 58) #[true,true,true,true,true,true,true,true,true,true,true,true,true,true,true,true,true,false] (any_of HT_.out (by kernel_rfl)) ?_
       refine one_ (i:=17) (N:=none) #[true,true,true,true,true,true,true,true,true,true,true,true,true,true,true,true,true,true] rfl rfl (one_of HT_.out (by kernel_rfl)) (by decide) (fun K hK=>?_)
       have hs90:a8.cell? ⟨g,2,none⟩=some (.int .i64 0):=(blk_cell c.out 2).trans rfl
       have hfs90:=blk_frozen c.out 2
       have cH:=j.out
       have cI:=B.out
       have cJ:=m.out
       have cK:=o.out
       refine skip_ (w1:=?_) (by rfl) rfl ?_ ?_
       rotate_left
       ·go_simp
        rfl
       refine hK.out _ _ ⟨((cell_far (p:=⟨g,_,none⟩) j.out _).trans (hHeld.1)),((cell_far (p:=⟨g,_,none⟩) j.out _).trans (hHeld.2))⟩ (fun hHeld=>?_)
       clear hK K
       refine done_ (done_of HT_.out (by kernel_rfl)) ?_
       obtain⟨dX,dY⟩:=z2 m
       obtain⟨dZ,d0⟩:=z2 o
       obtain⟨cL,cM,cN,cO,cP,cQ,cR,cS⟩:=zc4 c
       obtain⟨d1,d2⟩:=z2 z
       obtain⟨cT,cU,cV,cW,cX,cY,cZ,c0⟩:=zc4 b
       try go_wp2
       refine bodyPost_ret (results_ct rfl _ _ E 34 #[.int .i64 2,.bool ((Go.bits .and .u64 C u) != 0),.int .i64 (wrap64 ((wrap64 (F-aP))-d)),.int .u64 (Go.bits .or .u64 (Go.bits .and .u64 C (IntKind.u64.wrap ((y)-1))) (y))] (0,0) _ rfl (zkp b) Try.underlying34 rfl (by kernel_rfl)) rfl ?_
       exact⟨by first|rfl|(simp[errW_none,errW_some] <;> rfl)|(simp only[←s,←D,←s];first|rfl|(simp[errW_none,errW_some] <;> rfl))|(simp[*,errW_none,errW_some] <;> rfl),zb HB⟩
end Go.Proofs.Ytmmbgbchimangaa.PQ
