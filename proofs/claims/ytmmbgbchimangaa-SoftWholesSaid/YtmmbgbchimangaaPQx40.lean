-- by a program of this claim
import Derived.Test.YtmmbgbchimangaaPQx0
import Derived.Test.YtmmbgbchimangaaPQx1
import Derived.Test.YtmmbgbchimangaaPQx4
import Derived.Test.YtmmbgbchimangaaPQx6
namespace Go.Proofs.Ytmmbgbchimangaa.PQ
open Go.RowKit Go.Proofs.YtmmbgbchimangaaW.PrintWords Go.Proofs.YtmmbgbchimangaaW.PrintLast Go.Proofs.YtmmbgbchimangaaW.PrintMore Go.Proofs.Ytmmbgbchimangaa.Z
attribute [local go_sem] max2_int min2_int max_two min_two max_three min_three max_four min_four   -- for this text's walks alone
set_option linter.unusedVariables false
set_option linter.unusedSimpArgs false

/-! ### soft_Whole: function 44 -/
def soft_Whole.j0:Nat→Bool→Bool→Int→Bool→Int→Int→Option (Int×Bool×Int)
 | 0,_,_,_,_,_,_=>none
 | k+1,g,h,i,a,b,d=>if h=true then (some (1099511627776,a,0)) else (if b≥0 then (if 0≤b then ((bits_Mul64.f d (shl .u64 1 b)).bind fun e=>(if e.1>0 then (some (mn 1099511627776 1099511627776,a,0)) else (some (mn e.2 1099511627776,a,0)))) else (none)) else ((soft_whole.f i a b d).bind fun c=>(if g=true then (if c.2≥2 then (some (mn (IntKind.u64.wrap (c.1+1)) 1099511627776,a,0)) else (some (mn c.1 1099511627776,a,0))) else (some (mn c.1 1099511627776,a,0)))))
def soft_Whole.f (k:Nat) (a0_0:Int) (a0_1:Int) (a1:Int) (a2:Bool):Option (Int×Bool×Int):=(round_Open.f k a0_0 a0_1 a1).bind fun a=>(if a.2.2.2.2=0 then (if a.1=1 then (some (0,a.2.1,0)) else (if a.1=2 then (soft_Whole.j0 k a2 (decide (a.2.2.1>40)) a.1 a.2.1 a.2.2.1 a.2.2.2.1) else (soft_Whole.j0 k a2 true a.1 a.2.1 a.2.2.1 a.2.2.2.1))) else (some (0,false,a.2.2.2.2)))
theorem soft_Whole.mono_l:∀ k,(∀ y0 y1 y2 y3 y4 y5,LeO (soft_Whole.j0 k y0 y1 y2 y3 y4 y5) (soft_Whole.j0 (k+1) y0 y1 y2 y3 y4 y5))
 | 0=>fun _ _ _ _ _ _ r h=>by simp[soft_Whole.j0] at h
 | k+1=>by
  have ih0:=soft_Whole.mono_l k
  intros;unfold soft_Whole.j0;repeat' first|(with_reducible first|apply ih0|apply round_Open.mono|exact LeO.refl _|exact LeO.none _|refine LeO.ite ?_ ?_|refine LeO.bind ?_ (fun _=>?_))|refine LeO.ite ?_ ?_|refine LeO.bind ?_ (fun _=>?_)
theorem soft_Whole.mono:∀ a0 a1 a2 a3 k,LeO (soft_Whole.f k a0 a1 a2 a3) (soft_Whole.f (k+1) a0 a1 a2 a3):=by
 intro a0 a1 a2 a3 k
 have ih0:=soft_Whole.mono_l k
 unfold soft_Whole.f
 repeat' first|(with_reducible first|apply ih0|apply round_Open.mono|exact LeO.refl _|exact LeO.none _|refine LeO.ite ?_ ?_|refine LeO.bind ?_ (fun _=>?_))|refine LeO.ite ?_ ?_|refine LeO.bind ?_ (fun _=>?_)
set_option maxHeartbeats 8000000 in
set_option maxRecDepth 100000 in
theorem soft_Whole.calls {k:Nat} {q:Int} {s:Int} {a1:Int} {a2:Bool} {r1:Int} {r2:Bool} {r3:Int} {w:World} (h:soft_Whole.f k q s a1 a2=some (r1,r2,r3)) :
  Calls Try.prog 44 #[.agg #[.int .i64 q,.int .i64 s],.int .u64 a1,.bool a2] w fun e w'=>e=.returned (.tuple #[.int .u64 r1,.bool r2,.int .i64 r3])∧Below w.heap.size w w':=by
 have hu23:=Try.underlying23
 have hu34:=Try.underlying34
 have HB:=Aside0.mk (Below.refl w.heap.size w)
 have H:=h
 unfold soft_Whole.f at H
 clear h
 obtain⟨⟨X,u,i,aU,bx⟩,A4,H⟩:=oB H
 try dsimp only at H
 by_cases c5:bx=0
 rotate_left
 ·rw[if_neg c5] at H
  obtain⟨bt,bu⟩:=zf c5
  simp only[Option.some.injEq,Prod.mk.injEq] at H
  obtain⟨rfl,rfl,rfl⟩:=H
  go_enter Try.func44,Try.ntmps44
  go_wp2_with (first|((with_reducible refine gate_dst (N:=3) rfl ?_);refine zbox (N:=3) (cs:=#[.int .i64 q,.int .i64 s]) (t:=23) ?_;intro j hg cQ hbox hb;have a:=Aside0.mk hbox;have m:=zge hg HB;have n:=zge hg HB;replace HB:=zbs HB hb;clear hb hbox hg;obtain⟨aI,aJ,aK,aL⟩:=zc2 a)|(go_at_call 68;(with_reducible refine (round_Open.calls A4.out).mono ?_);rintro e cR ⟨rfl,hb⟩;obtain⟨a,HB⟩:=zu1 a HB hb;clear hb)|((with_reducible refine gate_dst (N:=9) rfl ?_);refine zbox (N:=9) (cs:=#[.int .i64 0,.bool false,.int .i64 0,.int .u64 0]) (t:=34) ?_;intro l hg cS hbox hb;have b:=Aside0.mk hbox;have o:=zge hg HB;have p:=zge hg HB;have d:=znl hg a;have c:=zng hg a;obtain⟨a,HB⟩:=zu1 a HB hb;clear hb hbox hg;obtain⟨bj,bk⟩:=z2 c;obtain⟨aM,aN,aO,aP,aQ,aR,aS,aT⟩:=zc4 b))
  repeat (go_quiet (first|((with_reducible refine gate_dst (N:=3) rfl ?_);refine zbox (N:=3) (cs:=#[.int .i64 q,.int .i64 s]) (t:=23) ?_;intro j hg cQ hbox hb;have a:=Aside0.mk hbox;have m:=zge hg HB;have n:=zge hg HB;replace HB:=zbs HB hb;clear hb hbox hg;obtain⟨aI,aJ,aK,aL⟩:=zc2 a)|(go_at_call 68;(with_reducible refine (round_Open.calls A4.out).mono ?_);rintro e cR ⟨rfl,hb⟩;obtain⟨a,HB⟩:=zu1 a HB hb;clear hb)|((with_reducible refine gate_dst (N:=9) rfl ?_);refine zbox (N:=9) (cs:=#[.int .i64 0,.bool false,.int .i64 0,.int .u64 0]) (t:=34) ?_;intro l hg cS hbox hb;have b:=Aside0.mk hbox;have o:=zge hg HB;have p:=zge hg HB;have d:=znl hg a;have c:=zng hg a;obtain⟨a,HB⟩:=zu1 a HB hb;clear hb hbox hg;obtain⟨bj,bk⟩:=z2 c;obtain⟨aM,aN,aO,aP,aQ,aR,aS,aT⟩:=zc4 b));try go_wp2_with (first|((with_reducible refine gate_dst (N:=3) rfl ?_);refine zbox (N:=3) (cs:=#[.int .i64 q,.int .i64 s]) (t:=23) ?_;intro j hg cQ hbox hb;have a:=Aside0.mk hbox;have m:=zge hg HB;have n:=zge hg HB;replace HB:=zbs HB hb;clear hb hbox hg;obtain⟨aI,aJ,aK,aL⟩:=zc2 a)|(go_at_call 68;(with_reducible refine (round_Open.calls A4.out).mono ?_);rintro e cR ⟨rfl,hb⟩;obtain⟨a,HB⟩:=zu1 a HB hb;clear hb)|((with_reducible refine gate_dst (N:=9) rfl ?_);refine zbox (N:=9) (cs:=#[.int .i64 0,.bool false,.int .i64 0,.int .u64 0]) (t:=34) ?_;intro l hg cS hbox hb;have b:=Aside0.mk hbox;have o:=zge hg HB;have p:=zge hg HB;have d:=znl hg a;have c:=zng hg a;obtain⟨a,HB⟩:=zu1 a HB hb;clear hb hbox hg;obtain⟨bj,bk⟩:=z2 c;obtain⟨aM,aN,aO,aP,aQ,aR,aS,aT⟩:=zc4 b)))
  go_ret3
  exact zr HB

 rw[if_pos c5] at H
 obtain⟨bt,bu⟩:=zt c5
 clear c5
 by_cases c6:X=1
 ·rw[if_pos c6] at H
  obtain⟨bv,bw⟩:=zt c6
  clear c6
  simp only[Option.some.injEq,Prod.mk.injEq] at H
  obtain⟨rfl,rfl,rfl⟩:=H
  go_enter Try.func44,Try.ntmps44
  go_wp2_with (first|((with_reducible refine gate_dst (N:=3) rfl ?_);refine zbox (N:=3) (cs:=#[.int .i64 q,.int .i64 s]) (t:=23) ?_;intro j hg w7 hbox hb;have a:=Aside0.mk hbox;have m:=zge hg HB;have n:=zge hg HB;replace HB:=zbs HB hb;clear hb hbox hg;obtain⟨aY,aZ,a0,a3⟩:=zc2 a)|(go_at_call 68;(with_reducible refine (round_Open.calls A4.out).mono ?_);rintro e w9 ⟨rfl,hb⟩;obtain⟨a,HB⟩:=zu1 a HB hb;clear hb)|((with_reducible refine gate_dst (N:=9) rfl ?_);refine zbox (N:=9) (cs:=#[.int .i64 0,.bool false,.int .i64 0,.int .u64 0]) (t:=34) ?_;intro l hg bG hbox hb;have b:=Aside0.mk hbox;have o:=zge hg HB;have p:=zge hg HB;have d:=znl hg a;have c:=zng hg a;obtain⟨a,HB⟩:=zu1 a HB hb;clear hb hbox hg;obtain⟨bc,bd⟩:=z2 c;obtain⟨Y,Z,aa,ab,ac,ad,ae,af⟩:=zc4 b))
  repeat (go_quiet (first|((with_reducible refine gate_dst (N:=3) rfl ?_);refine zbox (N:=3) (cs:=#[.int .i64 q,.int .i64 s]) (t:=23) ?_;intro j hg w7 hbox hb;have a:=Aside0.mk hbox;have m:=zge hg HB;have n:=zge hg HB;replace HB:=zbs HB hb;clear hb hbox hg;obtain⟨aY,aZ,a0,a3⟩:=zc2 a)|(go_at_call 68;(with_reducible refine (round_Open.calls A4.out).mono ?_);rintro e w9 ⟨rfl,hb⟩;obtain⟨a,HB⟩:=zu1 a HB hb;clear hb)|((with_reducible refine gate_dst (N:=9) rfl ?_);refine zbox (N:=9) (cs:=#[.int .i64 0,.bool false,.int .i64 0,.int .u64 0]) (t:=34) ?_;intro l hg bG hbox hb;have b:=Aside0.mk hbox;have o:=zge hg HB;have p:=zge hg HB;have d:=znl hg a;have c:=zng hg a;obtain⟨a,HB⟩:=zu1 a HB hb;clear hb hbox hg;obtain⟨bc,bd⟩:=z2 c;obtain⟨Y,Z,aa,ab,ac,ad,ae,af⟩:=zc4 b));try go_wp2_with (first|((with_reducible refine gate_dst (N:=3) rfl ?_);refine zbox (N:=3) (cs:=#[.int .i64 q,.int .i64 s]) (t:=23) ?_;intro j hg w7 hbox hb;have a:=Aside0.mk hbox;have m:=zge hg HB;have n:=zge hg HB;replace HB:=zbs HB hb;clear hb hbox hg;obtain⟨aY,aZ,a0,a3⟩:=zc2 a)|(go_at_call 68;(with_reducible refine (round_Open.calls A4.out).mono ?_);rintro e w9 ⟨rfl,hb⟩;obtain⟨a,HB⟩:=zu1 a HB hb;clear hb)|((with_reducible refine gate_dst (N:=9) rfl ?_);refine zbox (N:=9) (cs:=#[.int .i64 0,.bool false,.int .i64 0,.int .u64 0]) (t:=34) ?_;intro l hg bG hbox hb;have b:=Aside0.mk hbox;have o:=zge hg HB;have p:=zge hg HB;have d:=znl hg a;have c:=zng hg a;obtain⟨a,HB⟩:=zu1 a HB hb;clear hb hbox hg;obtain⟨bc,bd⟩:=z2 c;obtain⟨Y,Z,aa,ab,ac,ad,ae,af⟩:=zc4 b)))
  go_ret3
  exact zr HB
 rw[if_neg c6] at H
 obtain⟨bv,bw⟩:=zf c6
 have be:=Aside0.mk H
 clear H
 go_enter Try.func44,Try.ntmps44
 go_upto_region 6 with (first|((with_reducible refine gate_dst (N:=3) rfl ?_);refine zbox (N:=3) (cs:=#[.int .i64 q,.int .i64 s]) (t:=23) ?_;intro j hg bH hbox hb;have a:=Aside0.mk hbox;have m:=zge hg HB;have n:=zge hg HB;replace HB:=zbs HB hb;clear hb hbox hg;obtain⟨I,J,K,L⟩:=zc2 a)|(go_at_call 68;(with_reducible refine (round_Open.calls A4.out).mono ?_);rintro e bI ⟨rfl,hb⟩;obtain⟨a,HB⟩:=zu1 a HB hb;clear hb)|((with_reducible refine gate_dst (N:=9) rfl ?_);refine zbox (N:=9) (cs:=#[.int .i64 0,.bool false,.int .i64 0,.int .u64 0]) (t:=34) ?_;intro l hg bJ hbox hb;have b:=Aside0.mk hbox;have o:=zge hg HB;have p:=zge hg HB;have d:=znl hg a;have c:=zng hg a;obtain⟨a,HB⟩:=zu1 a HB hb;clear hb hbox hg;obtain⟨bf,bg⟩:=z2 c;obtain⟨M,O,P,Q,R,S,T,U⟩:=zc4 b))
 repeat (go_quiet (first|((with_reducible refine gate_dst (N:=3) rfl ?_);refine zbox (N:=3) (cs:=#[.int .i64 q,.int .i64 s]) (t:=23) ?_;intro j hg bH hbox hb;have a:=Aside0.mk hbox;have m:=zge hg HB;have n:=zge hg HB;replace HB:=zbs HB hb;clear hb hbox hg;obtain⟨I,J,K,L⟩:=zc2 a)|(go_at_call 68;(with_reducible refine (round_Open.calls A4.out).mono ?_);rintro e bI ⟨rfl,hb⟩;obtain⟨a,HB⟩:=zu1 a HB hb;clear hb)|((with_reducible refine gate_dst (N:=9) rfl ?_);refine zbox (N:=9) (cs:=#[.int .i64 0,.bool false,.int .i64 0,.int .u64 0]) (t:=34) ?_;intro l hg bJ hbox hb;have b:=Aside0.mk hbox;have o:=zge hg HB;have p:=zge hg HB;have d:=znl hg a;have c:=zng hg a;obtain⟨a,HB⟩:=zu1 a HB hb;clear hb hbox hg;obtain⟨bf,bg⟩:=z2 c;obtain⟨M,O,P,Q,R,S,T,U⟩:=zc4 b));go_upto_region 6 with (first|((with_reducible refine gate_dst (N:=3) rfl ?_);refine zbox (N:=3) (cs:=#[.int .i64 q,.int .i64 s]) (t:=23) ?_;intro j hg bH hbox hb;have a:=Aside0.mk hbox;have m:=zge hg HB;have n:=zge hg HB;replace HB:=zbs HB hb;clear hb hbox hg;obtain⟨I,J,K,L⟩:=zc2 a)|(go_at_call 68;(with_reducible refine (round_Open.calls A4.out).mono ?_);rintro e bI ⟨rfl,hb⟩;obtain⟨a,HB⟩:=zu1 a HB hb;clear hb)|((with_reducible refine gate_dst (N:=9) rfl ?_);refine zbox (N:=9) (cs:=#[.int .i64 0,.bool false,.int .i64 0,.int .u64 0]) (t:=34) ?_;intro l hg bJ hbox hb;have b:=Aside0.mk hbox;have o:=zge hg HB;have p:=zge hg HB;have d:=znl hg a;have c:=zng hg a;obtain⟨a,HB⟩:=zu1 a HB hb;clear hb hbox hg;obtain⟨bf,bg⟩:=z2 c;obtain⟨M,O,P,Q,R,S,T,U⟩:=zc4 b)))
 (try simp only[Act.put,List.setIfInBounds_toArray,List.set_cons_zero,List.set_cons_succ])
 go_cut [28] (fun v28 wc=>∃ (kq:Nat) (G:Bool),v28=.bool G∧Aside0 (soft_Whole.j0 kq a2 G X u i aU=some (r1,r2,r3))∧Aside0 (kq≤k)∧Aside0 (wc.heap[j]?=some (.cells #[.int .i64 q,.int .i64 s] 23 (0,0)))∧Aside0 (wc.heap[l]?=some (.cells #[.int .i64 X,.bool u,.int .i64 i,.int .u64 aU] 34 (0,0)))∧Aside0 (Below w.heap.size w wc))
 case first =>
  have H:=be.out
  clear be
  by_cases bh:X=2
  ·rw[if_pos bh] at H
   obtain⟨V,bz⟩:=zt bh
   clear bh
   (first|rw[V]|(simp only[i64_w,i32_w];rw[V])|skip)
   have H':=Aside0.mk H
   clear H
   obtain⟨df,dg⟩:=z2 c
   obtain⟨bK,bL,bM,bN,bO,bP,bQ,bR⟩:=zc4 b
   go_wp2
   repeat (go_quiet (fail);try go_wp2)
   go_meet
   case rel=>exact⟨_,(decide (i>40)),(by first|rfl|(simp[*];done)),H',⟨by omega⟩,⟨zk a⟩,⟨zkp b⟩,⟨zb HB⟩⟩
  rw[if_neg bh] at H
  obtain⟨V,bz⟩:=zf bh
  (first|rw[V]|(simp only[i64_w,i32_w];rw[V])|skip)
  have H':=Aside0.mk H
  clear H
  obtain⟨dh,di⟩:=z2 c
  obtain⟨bS,bT,bU,bV,bW,bX,bY,bZ⟩:=zc4 b
  go_wp2
  repeat (go_quiet (fail);try go_wp2)
  go_meet
  case rel=>exact⟨_,(true),(by first|rfl|(simp[*];done)),H',⟨by omega⟩,⟨zk a⟩,⟨zkp b⟩,⟨zb HB⟩⟩
 case rest =>
  clear be
  try clear bt bu c6 bv bw I J M O P Q K L R S T U
  obtain⟨kq,G,rfl,HA,dA,a,b,HB⟩:=hcut
  cases kq with
  | zero=>exact absurd HA.out (by simp[soft_Whole.j0])
  | succ dB =>
   have H:=HA.out
   clear HA
   simp only[soft_Whole.j0] at H
   by_cases bp:G=true
   ·subst bp
    rw[if_pos rfl] at H
    simp only[Option.some.injEq,Prod.mk.injEq] at H
    obtain⟨rfl,rfl,rfl⟩:=H
    obtain⟨dj,dk⟩:=z2 c
    obtain⟨b0,b1,b2,b3,b4,b5,b6,b7⟩:=zc4 b
    go_wp2
    repeat (go_quiet (fail);try go_wp2)
    go_ret3
    exact zr HB
   replace bp:=Bool.eq_false_iff.mpr bp
   subst bp
   rw[if_neg nft] at H
   by_cases a9:i≥0
   ·rw[if_pos a9] at H
    have bA:decide (0≤i)=true:=decide_eq_true a9
    clear a9
    by_cases bi:0≤i
    rotate_left
    ·rw[if_neg bi] at H
     exact absurd H (by simp)
    rw[if_pos bi] at H
    have dl:=eq_true bi
    have dm:decide (0≤i)=true:=decide_eq_true bi
    clear bi
    obtain⟨ag,z⟩:∃ j_:Int,(shl .u64 1 i)=j_:=⟨_,rfl⟩
    first|rw[z] at H|simp only[z] at H
    have bq:(IntKind.u64.wrap (1*2^min i.toNat 64))=ag:=z
    have br:i≤64→(IntKind.u64.wrap (1*2^i.toNat))=ag:=shl_small z
    have cT:(IntKind.u64.wrap (2^min i.toNat 64))=ag:=by have h_:=bq;rw[Int.one_mul] at h_;exact h_
    have cU:i≤64→(IntKind.u64.wrap (2^i.toNat))=ag:=fun hle_=>by have h_:=br hle_;rw[Int.one_mul] at h_;exact h_
    obtain⟨⟨aV,aW⟩,ah,H⟩:=oB H
    try dsimp only at H
    by_cases ba:aV>0
    ·rw[if_pos ba] at H
     have bB:decide (0<aV)=true:=decide_eq_true ba
     clear ba
     obtain⟨W,y⟩:∃ j_:Int,(mn 1099511627776 1099511627776)=j_:=⟨_,rfl⟩
     first|rw[y] at H|simp only[y] at H
     (try rw[y] at ah)
     (try (have cV:W≤1099511627776:=by (rw[←y];unfold mn;(repeat' split) <;> omega)))
     (try (have cW:W≤64:=by omega))
     (try (have cX:1099511627776≤W:=by (rw[←y];unfold mn;(repeat' split) <;> omega)))
     (try (have cY:0≤W:=by omega))
     have cZ:(if 1099511627776<1099511627776 then 1099511627776 else 1099511627776)=W:=y
     simp only[Option.some.injEq,Prod.mk.injEq] at H
     obtain⟨rfl,rfl,rfl⟩:=H
     obtain⟨dn,dp⟩:=z2 c
     obtain⟨b8,b9,ca,cb,cc,cd,ce,cf⟩:=zc4 b
     go_wp2_with (first|(go_at_call 71;(with_reducible refine (bits_Mul64.calls ah.out).mono ?_);rintro e w' ⟨rfl,⟨nd,rfl⟩⟩;(try first|exact⟨rfl,_,World.drewN_drewN _ _ _⟩|exact⟨rfl,_,Eq.trans (World.drewN_drewN _ _ _) (congrArg (World.drewN _) (Nat.add_assoc _ _ _))⟩)))
     repeat (go_quiet (first|(go_at_call 71;(with_reducible refine (bits_Mul64.calls ah.out).mono ?_);rintro e w' ⟨rfl,⟨nd,rfl⟩⟩;(try first|exact⟨rfl,_,World.drewN_drewN _ _ _⟩|exact⟨rfl,_,Eq.trans (World.drewN_drewN _ _ _) (congrArg (World.drewN _) (Nat.add_assoc _ _ _))⟩)));try go_wp2_with (first|(go_at_call 71;(with_reducible refine (bits_Mul64.calls ah.out).mono ?_);rintro e w' ⟨rfl,⟨nd,rfl⟩⟩;(try first|exact⟨rfl,_,World.drewN_drewN _ _ _⟩|exact⟨rfl,_,Eq.trans (World.drewN_drewN _ _ _) (congrArg (World.drewN _) (Nat.add_assoc _ _ _))⟩))))
     go_ret3
     exact⟨by first|rfl|(simp[errW_none,errW_some] <;> rfl)|(simp only[←z,←y];first|rfl|(simp[errW_none,errW_some] <;> rfl))|(simp[*,errW_none,errW_some] <;> rfl),zb HB⟩
    rw[if_neg ba] at H
    have bB:decide (0<aV)=false:=decide_eq_false ba
    clear ba
    obtain⟨a5,B⟩:∃ j_:Int,(mn aW 1099511627776)=j_:=⟨_,rfl⟩
    first|rw[B] at H|simp only[B] at H
    (try rw[B] at ah)
    (try (have c0:a5≤1099511627776:=by (rw[←B];unfold mn;(repeat' split) <;> omega)))
    (try (have c1:a5≤64:=by omega))
    have c2:(if 1099511627776<aW then 1099511627776 else aW)=a5:=B
    simp only[Option.some.injEq,Prod.mk.injEq] at H
    obtain⟨rfl,rfl,rfl⟩:=H
    obtain⟨dq,dr⟩:=z2 c
    obtain⟨cg,ch,ci,cj,ck,cl,cm,cn⟩:=zc4 b
    go_wp2_with (first|(go_at_call 71;(with_reducible refine (bits_Mul64.calls ah.out).mono ?_);rintro e w' ⟨rfl,⟨nd,rfl⟩⟩;(try first|exact⟨rfl,_,World.drewN_drewN _ _ _⟩|exact⟨rfl,_,Eq.trans (World.drewN_drewN _ _ _) (congrArg (World.drewN _) (Nat.add_assoc _ _ _))⟩)))
    repeat (go_quiet (first|(go_at_call 71;(with_reducible refine (bits_Mul64.calls ah.out).mono ?_);rintro e w' ⟨rfl,⟨nd,rfl⟩⟩;(try first|exact⟨rfl,_,World.drewN_drewN _ _ _⟩|exact⟨rfl,_,Eq.trans (World.drewN_drewN _ _ _) (congrArg (World.drewN _) (Nat.add_assoc _ _ _))⟩)));try go_wp2_with (first|(go_at_call 71;(with_reducible refine (bits_Mul64.calls ah.out).mono ?_);rintro e w' ⟨rfl,⟨nd,rfl⟩⟩;(try first|exact⟨rfl,_,World.drewN_drewN _ _ _⟩|exact⟨rfl,_,Eq.trans (World.drewN_drewN _ _ _) (congrArg (World.drewN _) (Nat.add_assoc _ _ _))⟩))))
    go_ret3
    exact⟨by first|rfl|(simp[errW_none,errW_some] <;> rfl)|(simp only[←z,←B];first|rfl|(simp[errW_none,errW_some] <;> rfl))|(simp[*,errW_none,errW_some] <;> rfl),zb HB⟩
   rw[if_neg a9] at H
   have bA:decide (0≤i)=false:=decide_eq_false a9
   clear a9
   obtain⟨⟨v,aX⟩,F,H⟩:=oB H
   try dsimp only at H
   by_cases bs:a2=true
   ·subst bs
    rw[if_pos rfl] at H
    by_cases bb:aX≥2
    ·rw[if_pos bb] at H
     have bC:decide (2≤aX)=true:=decide_eq_true bb
     clear bb
     obtain⟨a6,C⟩:∃ j_:Int,(mn (IntKind.u64.wrap (v+1)) 1099511627776)=j_:=⟨_,rfl⟩
     first|rw[C] at H|simp only[C] at H
     (try rw[C] at F)
     (try (have c3:a6≤1099511627776:=by (rw[←C];unfold mn;(repeat' split) <;> omega)))
     (try (have c4:a6≤64:=by omega))
     have c7:(if 1099511627776<(IntKind.u64.wrap (v+1)) then 1099511627776 else (IntKind.u64.wrap (v+1)))=a6:=C
     simp only[Option.some.injEq,Prod.mk.injEq] at H
     obtain⟨rfl,rfl,rfl⟩:=H
     obtain⟨ds,dt⟩:=z2 c
     obtain⟨co,cp,cq,cr,ct,cu,cv,cw⟩:=zc4 b
     go_wp2_with (first|(go_at_call 83;(with_reducible refine (soft_whole.calls F.out).mono ?_);rintro e cx ⟨rfl,hb⟩;obtain⟨a,b,HB⟩:=zu2 a b HB hb;clear hb;obtain⟨ai,aj,ak,al,am,an,ao,ap⟩:=zc4 b))
     repeat (go_quiet (first|(go_at_call 83;(with_reducible refine (soft_whole.calls F.out).mono ?_);rintro e cx ⟨rfl,hb⟩;obtain⟨a,b,HB⟩:=zu2 a b HB hb;clear hb;obtain⟨ai,aj,ak,al,am,an,ao,ap⟩:=zc4 b));try go_wp2_with (first|(go_at_call 83;(with_reducible refine (soft_whole.calls F.out).mono ?_);rintro e cx ⟨rfl,hb⟩;obtain⟨a,b,HB⟩:=zu2 a b HB hb;clear hb;obtain⟨ai,aj,ak,al,am,an,ao,ap⟩:=zc4 b)))
     go_ret3
     exact⟨by first|rfl|(simp[errW_none,errW_some] <;> rfl)|(simp only[←C];first|rfl|(simp[errW_none,errW_some] <;> rfl))|(simp[*,errW_none,errW_some] <;> rfl),zb HB⟩
    rw[if_neg bb] at H
    have bC:decide (2≤aX)=false:=decide_eq_false bb
    clear bb
    obtain⟨a7,D⟩:∃ j_:Int,(mn v 1099511627776)=j_:=⟨_,rfl⟩
    first|rw[D] at H|simp only[D] at H
    (try rw[D] at F)
    (try (have c8:a7≤1099511627776:=by (rw[←D];unfold mn;(repeat' split) <;> omega)))
    (try (have c9:a7≤64:=by omega))
    have da:(if 1099511627776<v then 1099511627776 else v)=a7:=D
    simp only[Option.some.injEq,Prod.mk.injEq] at H
    obtain⟨rfl,rfl,rfl⟩:=H
    obtain⟨du,dv⟩:=z2 c
    obtain⟨cy,cz,cA,cB,cC,cD,cE,cF⟩:=zc4 b
    go_wp2_with (first|(go_at_call 83;(with_reducible refine (soft_whole.calls F.out).mono ?_);rintro e cG ⟨rfl,hb⟩;obtain⟨a,b,HB⟩:=zu2 a b HB hb;clear hb;obtain⟨aq,ar,au,av,aw,ax,ay,az⟩:=zc4 b))
    repeat (go_quiet (first|(go_at_call 83;(with_reducible refine (soft_whole.calls F.out).mono ?_);rintro e cG ⟨rfl,hb⟩;obtain⟨a,b,HB⟩:=zu2 a b HB hb;clear hb;obtain⟨aq,ar,au,av,aw,ax,ay,az⟩:=zc4 b));try go_wp2_with (first|(go_at_call 83;(with_reducible refine (soft_whole.calls F.out).mono ?_);rintro e cG ⟨rfl,hb⟩;obtain⟨a,b,HB⟩:=zu2 a b HB hb;clear hb;obtain⟨aq,ar,au,av,aw,ax,ay,az⟩:=zc4 b)))
    go_ret3
    exact⟨by first|rfl|(simp[errW_none,errW_some] <;> rfl)|(simp only[←D];first|rfl|(simp[errW_none,errW_some] <;> rfl))|(simp[*,errW_none,errW_some] <;> rfl),zb HB⟩
   replace bs:=Bool.eq_false_iff.mpr bs
   subst bs
   rw[if_neg nft] at H
   obtain⟨a8,E⟩:∃ j_:Int,(mn v 1099511627776)=j_:=⟨_,rfl⟩
   first|rw[E] at H|simp only[E] at H
   (try rw[E] at F)
   (try (have db:a8≤1099511627776:=by (rw[←E];unfold mn;(repeat' split) <;> omega)))
   (try (have dc:a8≤64:=by omega))
   have dd:(if 1099511627776<v then 1099511627776 else v)=a8:=E
   simp only[Option.some.injEq,Prod.mk.injEq] at H
   obtain⟨rfl,rfl,rfl⟩:=H
   obtain⟨dw,dx⟩:=z2 c
   obtain⟨cH,cI,cJ,cK,cL,cM,cN,cO⟩:=zc4 b
   go_wp2_with (first|(go_at_call 83;(with_reducible refine (soft_whole.calls F.out).mono ?_);rintro e cP ⟨rfl,hb⟩;obtain⟨a,b,HB⟩:=zu2 a b HB hb;clear hb;obtain⟨aA,aB,aC,aD,aE,aF,aG,aH⟩:=zc4 b))
   repeat (go_quiet (first|(go_at_call 83;(with_reducible refine (soft_whole.calls F.out).mono ?_);rintro e cP ⟨rfl,hb⟩;obtain⟨a,b,HB⟩:=zu2 a b HB hb;clear hb;obtain⟨aA,aB,aC,aD,aE,aF,aG,aH⟩:=zc4 b));try go_wp2_with (first|(go_at_call 83;(with_reducible refine (soft_whole.calls F.out).mono ?_);rintro e cP ⟨rfl,hb⟩;obtain⟨a,b,HB⟩:=zu2 a b HB hb;clear hb;obtain⟨aA,aB,aC,aD,aE,aF,aG,aH⟩:=zc4 b)))
   go_ret3
   exact⟨by first|rfl|(simp[errW_none,errW_some] <;> rfl)|(simp only[←E];first|rfl|(simp[errW_none,errW_some] <;> rfl))|(simp[*,errW_none,errW_some] <;> rfl),zb HB⟩
end Go.Proofs.Ytmmbgbchimangaa.PQ
