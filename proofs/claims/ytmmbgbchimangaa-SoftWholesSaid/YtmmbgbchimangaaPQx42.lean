-- by a program of this claim
import Derived.Test.YtmmbgbchimangaaPQx0
import Derived.Test.YtmmbgbchimangaaPQx3
import Derived.Test.YtmmbgbchimangaaPQx7
import Derived.Test.YtmmbgbchimangaaPQx39
import Derived.Test.YtmmbgbchimangaaPQx40
import Derived.Test.YtmmbgbchimangaaPQx41
namespace Go.Proofs.Ytmmbgbchimangaa.PQ
open Go.RowKit Go.Proofs.YtmmbgbchimangaaW.PrintWords Go.Proofs.YtmmbgbchimangaaW.PrintLast Go.Proofs.YtmmbgbchimangaaW.PrintMore Go.Proofs.Ytmmbgbchimangaa.Z
attribute [local go_sem] max2_int min2_int max_two min_two max_three min_three max_four min_four   -- for this text's walks alone
set_option linter.unusedVariables false
set_option linter.unusedSimpArgs false

/-! ### grottolaw03_SoftWholes: function 13 -/
def grottolaw03_SoftWholes.f (k:Nat) (a0_0:Int) (a0_1:Int) (a1:Int) (a2:Bool):Option (Bool):=(soft_Ceil.f k a0_0 a0_1 a1).bind fun c=>((grottoref03_Ceil.f k a0_0 a0_1 a1).bind fun d=>((soft_Floor.f k a0_0 a0_1 a1).bind fun e=>((grottoref03_Floor.f k a0_0 a0_1 a1).bind fun g=>((soft_Whole.f k a0_0 a0_1 a1 a2).bind fun a=>((grottoref03_Whole.f k a0_0 a0_1 a1 a2).bind fun b=>(if c.1=d.1 then ((grottolaw03_num.f c.2).bind fun h=>(if h=d.2 then (if e.1=g.1 then ((grottolaw03_num.f e.2).bind fun i=>(if i=g.2 then (if a.1=b.1 then (if (a.2.1==b.2.1)=true then ((grottolaw03_num.f a.2.2).bind fun j=>(if j=b.2.2 then ((grottolaw03_live.f k).bind fun l=>(some l)) else (some false))) else (some false)) else (some false)) else (some false))) else (some false)) else (some false))) else (some false)))))))
theorem grottolaw03_SoftWholes.mono:∀ a0 a1 a2 a3 k,LeO (grottolaw03_SoftWholes.f k a0 a1 a2 a3) (grottolaw03_SoftWholes.f (k+1) a0 a1 a2 a3):=by
 intro a0 a1 a2 a3 k
 unfold grottolaw03_SoftWholes.f
 repeat' first|(with_reducible first|apply grottolaw03_live.mono|apply grottoref03_Ceil.mono|apply grottoref03_Floor.mono|apply grottoref03_Whole.mono|apply soft_Ceil.mono|apply soft_Floor.mono|apply soft_Whole.mono|exact LeO.refl _|exact LeO.none _|refine LeO.ite ?_ ?_|refine LeO.bind ?_ (fun _=>?_))|refine LeO.ite ?_ ?_|refine LeO.bind ?_ (fun _=>?_)
set_option maxHeartbeats 8000000 in
set_option maxRecDepth 100000 in
theorem grottolaw03_SoftWholes.calls {k:Nat} {b:Int} {c:Int} {L:Int} {a2:Bool} {r:Bool} {w:World} (h:grottolaw03_SoftWholes.f k b c L a2=some r) :
  Calls Try.prog 13 #[.agg #[.int .i64 b,.int .i64 c],.int .u64 L,.bool a2] w fun e w'=>e=.returned (.bool r)∧Below w.heap.size w w':=by
 have hu23:=Try.underlying23
 have HB:=Aside0.mk (Below.refl w.heap.size w)
 have H:=h
 unfold grottolaw03_SoftWholes.f at H
 clear h
 obtain⟨⟨T,dG⟩,M,H⟩:=oB H
 try dsimp only at H
 obtain⟨⟨U,V⟩,O,H⟩:=oB H
 try dsimp only at H
 obtain⟨⟨W,dH⟩,P,H⟩:=oB H
 try dsimp only at H
 obtain⟨⟨X,Y⟩,Q,H⟩:=oB H
 try dsimp only at H
 obtain⟨⟨Z,j,dI⟩,R,H⟩:=oB H
 try dsimp only at H
 obtain⟨⟨aa,l,ab⟩,S,H⟩:=oB H
 try dsimp only at H
 by_cases D:T=U
 rotate_left
 ·rw[if_neg D] at H
  obtain⟨ac,ad⟩:=zf D
  obtain rfl:=Option.some.inj H
  go_enter Try.func13,Try.ntmps13
  go_wp2_with (first|((with_reducible refine gate_dst (N:=3) rfl ?_);refine zbox (N:=3) (cs:=#[.int .i64 b,.int .i64 c]) (t:=23) ?_;intro d hg dS hbox hb;have a:=Aside0.mk hbox;have g:=zge hg HB;have i:=zge hg HB;replace HB:=zbs HB hb;clear hb hbox hg;obtain⟨aR,aS,aT,aU⟩:=zc2 a)|((with_reducible refine gate_callee (f:=40) rfl ?_);refine zgc (some 24) Try.func40 (soft_Ceil.calls M.out) ?_;intro dT hb;obtain⟨a,HB⟩:=zu1 a HB hb;clear hb;obtain⟨aV,aW,aX,aY⟩:=zc2 a)|((with_reducible refine gate_callee (f:=42) rfl ?_);refine zgc (some 30) Try.func42 (grottoref03_Ceil.calls O.out) ?_;intro dU hb;obtain⟨a,HB⟩:=zu1 a HB hb;clear hb;obtain⟨aZ,a0,a3,a4⟩:=zc2 a)|((with_reducible refine gate_callee (f:=39) rfl ?_);refine zgc (some 36) Try.func39 (soft_Floor.calls P.out) ?_;intro dV hb;obtain⟨a,HB⟩:=zu1 a HB hb;clear hb;obtain⟨a5,a6,a7,a8⟩:=zc2 a)|((with_reducible refine gate_callee (f:=43) rfl ?_);refine zgc (some 42) Try.func43 (grottoref03_Floor.calls Q.out) ?_;intro dW hb;obtain⟨a,HB⟩:=zu1 a HB hb;clear hb;obtain⟨a9,ba,bb,bc⟩:=zc2 a)|((with_reducible refine gate_callee (f:=44) rfl ?_);refine zgc (some 49) Try.func44 (soft_Whole.calls R.out) ?_;intro dX hb;obtain⟨a,HB⟩:=zu1 a HB hb;clear hb;obtain⟨bd,be,bf,bg⟩:=zc2 a)|((with_reducible refine gate_callee (f:=45) rfl ?_);refine zgc (some 57) Try.func45 (grottoref03_Whole.calls S.out) ?_;intro dY hb;obtain⟨a,HB⟩:=zu1 a HB hb;clear hb))
  go_ret
  exact zr HB

 rw[if_pos D] at H
 obtain⟨ac,ad⟩:=zt D
 clear D
 obtain⟨p,v,H⟩:=oB H
 by_cases E:p=V
 rotate_left
 ·rw[if_neg E] at H
  obtain⟨ae,af⟩:=zf E
  obtain rfl:=Option.some.inj H
  go_enter Try.func13,Try.ntmps13
  go_wp2_with (first|((with_reducible refine gate_dst (N:=3) rfl ?_);refine zbox (N:=3) (cs:=#[.int .i64 b,.int .i64 c]) (t:=23) ?_;intro d hg dL hbox hb;have a:=Aside0.mk hbox;have g:=zge hg HB;have i:=zge hg HB;replace HB:=zbs HB hb;clear hb hbox hg;obtain⟨ar,au,av,aw⟩:=zc2 a)|((with_reducible refine gate_callee (f:=40) rfl ?_);refine zgc (some 24) Try.func40 (soft_Ceil.calls M.out) ?_;intro dM hb;obtain⟨a,HB⟩:=zu1 a HB hb;clear hb;obtain⟨ax,ay,az,aA⟩:=zc2 a)|((with_reducible refine gate_callee (f:=42) rfl ?_);refine zgc (some 30) Try.func42 (grottoref03_Ceil.calls O.out) ?_;intro dN hb;obtain⟨a,HB⟩:=zu1 a HB hb;clear hb;obtain⟨aB,aC,aD,aE⟩:=zc2 a)|((with_reducible refine gate_callee (f:=39) rfl ?_);refine zgc (some 36) Try.func39 (soft_Floor.calls P.out) ?_;intro dO hb;obtain⟨a,HB⟩:=zu1 a HB hb;clear hb;obtain⟨aF,aG,aH,aI⟩:=zc2 a)|((with_reducible refine gate_callee (f:=43) rfl ?_);refine zgc (some 42) Try.func43 (grottoref03_Floor.calls Q.out) ?_;intro dP hb;obtain⟨a,HB⟩:=zu1 a HB hb;clear hb;obtain⟨aJ,aK,aL,aM⟩:=zc2 a)|((with_reducible refine gate_callee (f:=44) rfl ?_);refine zgc (some 49) Try.func44 (soft_Whole.calls R.out) ?_;intro dQ hb;obtain⟨a,HB⟩:=zu1 a HB hb;clear hb;obtain⟨aN,aO,aP,aQ⟩:=zc2 a)|((with_reducible refine gate_callee (f:=45) rfl ?_);refine zgc (some 57) Try.func45 (grottoref03_Whole.calls S.out) ?_;intro dR hb;obtain⟨a,HB⟩:=zu1 a HB hb;clear hb)|(go_at_call 18;(with_reducible refine (grottolaw03_num.calls v.out).mono ?_);rintro e w' ⟨rfl,⟨nd,rfl⟩⟩))
  go_ret
  exact zr HB
 rw[if_pos E] at H
 obtain⟨ae,af⟩:=zt E
 clear E
 by_cases F:W=X
 rotate_left
 ·rw[if_neg F] at H
  obtain⟨ag,ah⟩:=zf F
  obtain rfl:=Option.some.inj H
  go_enter Try.func13,Try.ntmps13
  go_wp2_with (first|((with_reducible refine gate_dst (N:=3) rfl ?_);refine zbox (N:=3) (cs:=#[.int .i64 b,.int .i64 c]) (t:=23) ?_;intro d hg ez hbox hb;have a:=Aside0.mk hbox;have g:=zge hg HB;have i:=zge hg HB;replace HB:=zbs HB hb;clear hb hbox hg;obtain⟨dg,dh,di,dj⟩:=zc2 a)|((with_reducible refine gate_callee (f:=40) rfl ?_);refine zgc (some 24) Try.func40 (soft_Ceil.calls M.out) ?_;intro eA hb;obtain⟨a,HB⟩:=zu1 a HB hb;clear hb;obtain⟨dk,dl,dm,dn⟩:=zc2 a)|((with_reducible refine gate_callee (f:=42) rfl ?_);refine zgc (some 30) Try.func42 (grottoref03_Ceil.calls O.out) ?_;intro eB hb;obtain⟨a,HB⟩:=zu1 a HB hb;clear hb;obtain⟨dp,dq,dr,ds⟩:=zc2 a)|((with_reducible refine gate_callee (f:=39) rfl ?_);refine zgc (some 36) Try.func39 (soft_Floor.calls P.out) ?_;intro eC hb;obtain⟨a,HB⟩:=zu1 a HB hb;clear hb;obtain⟨dt,du,dv,dw⟩:=zc2 a)|((with_reducible refine gate_callee (f:=43) rfl ?_);refine zgc (some 42) Try.func43 (grottoref03_Floor.calls Q.out) ?_;intro eD hb;obtain⟨a,HB⟩:=zu1 a HB hb;clear hb;obtain⟨dx,dy,dz,dA⟩:=zc2 a)|((with_reducible refine gate_callee (f:=44) rfl ?_);refine zgc (some 49) Try.func44 (soft_Whole.calls R.out) ?_;intro eE hb;obtain⟨a,HB⟩:=zu1 a HB hb;clear hb;obtain⟨dB,dC,dD,dE⟩:=zc2 a)|((with_reducible refine gate_callee (f:=45) rfl ?_);refine zgc (some 57) Try.func45 (grottoref03_Whole.calls S.out) ?_;intro eF hb;obtain⟨a,HB⟩:=zu1 a HB hb;clear hb)|(go_at_call 18;(with_reducible refine (grottolaw03_num.calls v.out).mono ?_);rintro e w' ⟨rfl,⟨nd,rfl⟩⟩))
  go_ret
  exact zr HB
 rw[if_pos F] at H
 obtain⟨ag,ah⟩:=zt F
 clear F
 obtain⟨q,G,H⟩:=oB H
 by_cases I:q=Y
 rotate_left
 ·rw[if_neg I] at H
  obtain⟨ai,aj⟩:=zf I
  obtain rfl:=Option.some.inj H
  go_enter Try.func13,Try.ntmps13
  go_wp2_with (first|((with_reducible refine gate_dst (N:=3) rfl ?_);refine zbox (N:=3) (cs:=#[.int .i64 b,.int .i64 c]) (t:=23) ?_;intro d hg es hbox hb;have a:=Aside0.mk hbox;have g:=zge hg HB;have i:=zge hg HB;replace HB:=zbs HB hb;clear hb hbox hg;obtain⟨cS,cT,cU,cV⟩:=zc2 a)|((with_reducible refine gate_callee (f:=40) rfl ?_);refine zgc (some 24) Try.func40 (soft_Ceil.calls M.out) ?_;intro et hb;obtain⟨a,HB⟩:=zu1 a HB hb;clear hb;obtain⟨cW,cX,cY,cZ⟩:=zc2 a)|((with_reducible refine gate_callee (f:=42) rfl ?_);refine zgc (some 30) Try.func42 (grottoref03_Ceil.calls O.out) ?_;intro eu hb;obtain⟨a,HB⟩:=zu1 a HB hb;clear hb;obtain⟨c0,c1,c2,c3⟩:=zc2 a)|((with_reducible refine gate_callee (f:=39) rfl ?_);refine zgc (some 36) Try.func39 (soft_Floor.calls P.out) ?_;intro ev hb;obtain⟨a,HB⟩:=zu1 a HB hb;clear hb;obtain⟨c4,c5,c6,c7⟩:=zc2 a)|((with_reducible refine gate_callee (f:=43) rfl ?_);refine zgc (some 42) Try.func43 (grottoref03_Floor.calls Q.out) ?_;intro ew hb;obtain⟨a,HB⟩:=zu1 a HB hb;clear hb;obtain⟨c8,c9,da,db⟩:=zc2 a)|((with_reducible refine gate_callee (f:=44) rfl ?_);refine zgc (some 49) Try.func44 (soft_Whole.calls R.out) ?_;intro ex hb;obtain⟨a,HB⟩:=zu1 a HB hb;clear hb;obtain⟨dc,dd,de,df⟩:=zc2 a)|((with_reducible refine gate_callee (f:=45) rfl ?_);refine zgc (some 57) Try.func45 (grottoref03_Whole.calls S.out) ?_;intro ey hb;obtain⟨a,HB⟩:=zu1 a HB hb;clear hb)|(go_at_call 18;(with_reducible refine (grottolaw03_num.calls v.out).mono ?_);rintro e w' ⟨rfl,⟨nd,rfl⟩⟩)|(go_at_call 18;(with_reducible refine (grottolaw03_num.calls G.out).mono ?_);rintro e w' ⟨rfl,⟨nd,rfl⟩⟩))
  go_ret
  exact zr HB
 rw[if_pos I] at H
 obtain⟨ai,aj⟩:=zt I
 clear I
 by_cases J:Z=aa
 rotate_left
 ·rw[if_neg J] at H
  obtain⟨ak,al⟩:=zf J
  obtain rfl:=Option.some.inj H
  go_enter Try.func13,Try.ntmps13
  go_wp2_with (first|((with_reducible refine gate_dst (N:=3) rfl ?_);refine zbox (N:=3) (cs:=#[.int .i64 b,.int .i64 c]) (t:=23) ?_;intro d hg el hbox hb;have a:=Aside0.mk hbox;have g:=zge hg HB;have i:=zge hg HB;replace HB:=zbs HB hb;clear hb hbox hg;obtain⟨cu,cv,cw,cx⟩:=zc2 a)|((with_reducible refine gate_callee (f:=40) rfl ?_);refine zgc (some 24) Try.func40 (soft_Ceil.calls M.out) ?_;intro em hb;obtain⟨a,HB⟩:=zu1 a HB hb;clear hb;obtain⟨cy,cz,cA,cB⟩:=zc2 a)|((with_reducible refine gate_callee (f:=42) rfl ?_);refine zgc (some 30) Try.func42 (grottoref03_Ceil.calls O.out) ?_;intro en hb;obtain⟨a,HB⟩:=zu1 a HB hb;clear hb;obtain⟨cC,cD,cE,cF⟩:=zc2 a)|((with_reducible refine gate_callee (f:=39) rfl ?_);refine zgc (some 36) Try.func39 (soft_Floor.calls P.out) ?_;intro eo hb;obtain⟨a,HB⟩:=zu1 a HB hb;clear hb;obtain⟨cG,cH,cI,cJ⟩:=zc2 a)|((with_reducible refine gate_callee (f:=43) rfl ?_);refine zgc (some 42) Try.func43 (grottoref03_Floor.calls Q.out) ?_;intro ep hb;obtain⟨a,HB⟩:=zu1 a HB hb;clear hb;obtain⟨cK,cL,cM,cN⟩:=zc2 a)|((with_reducible refine gate_callee (f:=44) rfl ?_);refine zgc (some 49) Try.func44 (soft_Whole.calls R.out) ?_;intro eq hb;obtain⟨a,HB⟩:=zu1 a HB hb;clear hb;obtain⟨cO,cP,cQ,cR⟩:=zc2 a)|((with_reducible refine gate_callee (f:=45) rfl ?_);refine zgc (some 57) Try.func45 (grottoref03_Whole.calls S.out) ?_;intro er hb;obtain⟨a,HB⟩:=zu1 a HB hb;clear hb)|(go_at_call 18;(with_reducible refine (grottolaw03_num.calls v.out).mono ?_);rintro e w' ⟨rfl,⟨nd,rfl⟩⟩)|(go_at_call 18;(with_reducible refine (grottolaw03_num.calls G.out).mono ?_);rintro e w' ⟨rfl,⟨nd,rfl⟩⟩))
  go_ret
  exact zr HB
 rw[if_pos J] at H
 obtain⟨ak,al⟩:=zt J
 clear J
 by_cases m:(j==l)=true
 ·rw[if_pos m] at H
  have am:(j==l)=true:=m
  (try (have an:decide (j=l)=true:=by simpa using m))
  (try (have ao:(j==l)=true:=by simpa using m))
  clear m
  obtain⟨s,bh,H⟩:=oB H
  by_cases K:s=ab
  ·rw[if_pos K] at H
   obtain⟨ap,aq⟩:=zt K
   clear K
   obtain⟨u,dJ,H⟩:=oB H
   obtain rfl:=Option.some.inj H
   go_enter Try.func13,Try.ntmps13
   go_wp2_with (first|((with_reducible refine gate_dst (N:=3) rfl ?_);refine zbox (N:=3) (cs:=#[.int .i64 b,.int .i64 c]) (t:=23) ?_;intro d hg dZ hbox hb;have a:=Aside0.mk hbox;have g:=zge hg HB;have i:=zge hg HB;replace HB:=zbs HB hb;clear hb hbox hg;obtain⟨bi,bj,bk,bl⟩:=zc2 a)|((with_reducible refine gate_callee (f:=40) rfl ?_);refine zgc (some 24) Try.func40 (soft_Ceil.calls M.out) ?_;intro d0 hb;obtain⟨a,HB⟩:=zu1 a HB hb;clear hb;obtain⟨bm,bn,bo,bp⟩:=zc2 a)|((with_reducible refine gate_callee (f:=42) rfl ?_);refine zgc (some 30) Try.func42 (grottoref03_Ceil.calls O.out) ?_;intro d1 hb;obtain⟨a,HB⟩:=zu1 a HB hb;clear hb;obtain⟨bq,br,bs,bt⟩:=zc2 a)|((with_reducible refine gate_callee (f:=39) rfl ?_);refine zgc (some 36) Try.func39 (soft_Floor.calls P.out) ?_;intro d2 hb;obtain⟨a,HB⟩:=zu1 a HB hb;clear hb;obtain⟨bu,bv,bw,bx⟩:=zc2 a)|((with_reducible refine gate_callee (f:=43) rfl ?_);refine zgc (some 42) Try.func43 (grottoref03_Floor.calls Q.out) ?_;intro d3 hb;obtain⟨a,HB⟩:=zu1 a HB hb;clear hb;obtain⟨bz,bA,bB,bC⟩:=zc2 a)|((with_reducible refine gate_callee (f:=44) rfl ?_);refine zgc (some 49) Try.func44 (soft_Whole.calls R.out) ?_;intro d4 hb;obtain⟨a,HB⟩:=zu1 a HB hb;clear hb;obtain⟨bD,bE,bF,bG⟩:=zc2 a)|((with_reducible refine gate_callee (f:=45) rfl ?_);refine zgc (some 57) Try.func45 (grottoref03_Whole.calls S.out) ?_;intro d5 hb;obtain⟨a,HB⟩:=zu1 a HB hb;clear hb)|(go_at_call 18;(with_reducible refine (grottolaw03_num.calls v.out).mono ?_);rintro e w' ⟨rfl,⟨nd,rfl⟩⟩)|(go_at_call 18;(with_reducible refine (grottolaw03_num.calls G.out).mono ?_);rintro e w' ⟨rfl,⟨nd,rfl⟩⟩)|(go_at_call 18;(with_reducible refine (grottolaw03_num.calls bh.out).mono ?_);rintro e w' ⟨rfl,⟨nd,rfl⟩⟩)|(go_at_call 19;(with_reducible refine (grottolaw03_live.calls k  u _ dJ.out).mono ?_);rintro e d6 ⟨rfl,hb⟩;obtain⟨a,HB⟩:=zu1 a HB hb;clear hb))
   go_ret
   exact zr HB
  rw[if_neg K] at H
  obtain⟨ap,aq⟩:=zf K
  obtain rfl:=Option.some.inj H
  go_enter Try.func13,Try.ntmps13
  go_wp2_with (first|((with_reducible refine gate_dst (N:=3) rfl ?_);refine zbox (N:=3) (cs:=#[.int .i64 b,.int .i64 c]) (t:=23) ?_;intro d hg d7 hbox hb;have a:=Aside0.mk hbox;have g:=zge hg HB;have i:=zge hg HB;replace HB:=zbs HB hb;clear hb hbox hg;obtain⟨bH,bI,bJ,bK⟩:=zc2 a)|((with_reducible refine gate_callee (f:=40) rfl ?_);refine zgc (some 24) Try.func40 (soft_Ceil.calls M.out) ?_;intro d8 hb;obtain⟨a,HB⟩:=zu1 a HB hb;clear hb;obtain⟨bL,bM,bN,bO⟩:=zc2 a)|((with_reducible refine gate_callee (f:=42) rfl ?_);refine zgc (some 30) Try.func42 (grottoref03_Ceil.calls O.out) ?_;intro d9 hb;obtain⟨a,HB⟩:=zu1 a HB hb;clear hb;obtain⟨bP,bQ,bR,bS⟩:=zc2 a)|((with_reducible refine gate_callee (f:=39) rfl ?_);refine zgc (some 36) Try.func39 (soft_Floor.calls P.out) ?_;intro ea hb;obtain⟨a,HB⟩:=zu1 a HB hb;clear hb;obtain⟨bT,bU,bV,bW⟩:=zc2 a)|((with_reducible refine gate_callee (f:=43) rfl ?_);refine zgc (some 42) Try.func43 (grottoref03_Floor.calls Q.out) ?_;intro eb hb;obtain⟨a,HB⟩:=zu1 a HB hb;clear hb;obtain⟨bX,bY,bZ,b0⟩:=zc2 a)|((with_reducible refine gate_callee (f:=44) rfl ?_);refine zgc (some 49) Try.func44 (soft_Whole.calls R.out) ?_;intro ec hb;obtain⟨a,HB⟩:=zu1 a HB hb;clear hb;obtain⟨b1,b2,b3,b4⟩:=zc2 a)|((with_reducible refine gate_callee (f:=45) rfl ?_);refine zgc (some 57) Try.func45 (grottoref03_Whole.calls S.out) ?_;intro ed hb;obtain⟨a,HB⟩:=zu1 a HB hb;clear hb)|(go_at_call 18;(with_reducible refine (grottolaw03_num.calls v.out).mono ?_);rintro e w' ⟨rfl,⟨nd,rfl⟩⟩)|(go_at_call 18;(with_reducible refine (grottolaw03_num.calls G.out).mono ?_);rintro e w' ⟨rfl,⟨nd,rfl⟩⟩)|(go_at_call 18;(with_reducible refine (grottolaw03_num.calls bh.out).mono ?_);rintro e w' ⟨rfl,⟨nd,rfl⟩⟩))
  go_ret
  exact zr HB
 rw[if_neg m] at H
 have am:(j==l)=false:=by simpa using m
 (try (have an:decide (j=l)=false:=by simpa using m))
 (try (have ao:(j==l)=false:=by simpa using m))
 (try (have dK:¬ (j=l):=by simpa using m))
 clear m
 obtain rfl:=Option.some.inj H
 go_enter Try.func13,Try.ntmps13
 go_wp2_with (first|((with_reducible refine gate_dst (N:=3) rfl ?_);refine zbox (N:=3) (cs:=#[.int .i64 b,.int .i64 c]) (t:=23) ?_;intro d hg ee hbox hb;have a:=Aside0.mk hbox;have g:=zge hg HB;have i:=zge hg HB;replace HB:=zbs HB hb;clear hb hbox hg;obtain⟨b5,b6,b7,b8⟩:=zc2 a)|((with_reducible refine gate_callee (f:=40) rfl ?_);refine zgc (some 24) Try.func40 (soft_Ceil.calls M.out) ?_;intro ef hb;obtain⟨a,HB⟩:=zu1 a HB hb;clear hb;obtain⟨b9,ca,cb,cc⟩:=zc2 a)|((with_reducible refine gate_callee (f:=42) rfl ?_);refine zgc (some 30) Try.func42 (grottoref03_Ceil.calls O.out) ?_;intro eg hb;obtain⟨a,HB⟩:=zu1 a HB hb;clear hb;obtain⟨cd,ce,cf,cg⟩:=zc2 a)|((with_reducible refine gate_callee (f:=39) rfl ?_);refine zgc (some 36) Try.func39 (soft_Floor.calls P.out) ?_;intro eh hb;obtain⟨a,HB⟩:=zu1 a HB hb;clear hb;obtain⟨ch,ci,cj,ck⟩:=zc2 a)|((with_reducible refine gate_callee (f:=43) rfl ?_);refine zgc (some 42) Try.func43 (grottoref03_Floor.calls Q.out) ?_;intro ei hb;obtain⟨a,HB⟩:=zu1 a HB hb;clear hb;obtain⟨cl,cm,cn,co⟩:=zc2 a)|((with_reducible refine gate_callee (f:=44) rfl ?_);refine zgc (some 49) Try.func44 (soft_Whole.calls R.out) ?_;intro ej hb;obtain⟨a,HB⟩:=zu1 a HB hb;clear hb;obtain⟨cp,cq,cr,ct⟩:=zc2 a)|((with_reducible refine gate_callee (f:=45) rfl ?_);refine zgc (some 57) Try.func45 (grottoref03_Whole.calls S.out) ?_;intro ek hb;obtain⟨a,HB⟩:=zu1 a HB hb;clear hb)|(go_at_call 18;(with_reducible refine (grottolaw03_num.calls v.out).mono ?_);rintro e w' ⟨rfl,⟨nd,rfl⟩⟩)|(go_at_call 18;(with_reducible refine (grottolaw03_num.calls G.out).mono ?_);rintro e w' ⟨rfl,⟨nd,rfl⟩⟩))
 go_ret
 exact zr HB
end Go.Proofs.Ytmmbgbchimangaa.PQ
