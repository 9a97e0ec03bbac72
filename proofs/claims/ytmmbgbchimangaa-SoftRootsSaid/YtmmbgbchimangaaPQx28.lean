-- by a program of this claim
import Derived.Test.YtmmbgbchimangaaPQx0
import Derived.Test.YtmmbgbchimangaaPQx3
import Derived.Test.YtmmbgbchimangaaPQx5
import Derived.Test.YtmmbgbchimangaaPQx7
import Derived.Test.YtmmbgbchimangaaPQx25
import Derived.Test.YtmmbgbchimangaaPQx26
import Derived.Test.YtmmbgbchimangaaPQx27
namespace Go.Proofs.Ytmmbgbchimangaa.PQ
open Go.RowKit Go.Proofs.YtmmbgbchimangaaW.PrintWords Go.Proofs.YtmmbgbchimangaaW.PrintLast Go.Proofs.YtmmbgbchimangaaW.PrintMore Go.Proofs.Ytmmbgbchimangaa.Z
attribute [local go_sem] max2_int min2_int max_two min_two max_three min_three max_four min_four   -- for this text's walks alone
set_option linter.unusedVariables false
set_option linter.unusedSimpArgs false

/-! ### grottolaw03_SoftRoots: function 7 -/
def grottolaw03_SoftRoots.f (k:Nat) (a0_0:Int) (a0_1:Int) (a1_0:Int) (a1_1:Int) (a2:Int):Option (Bool):=(soft_Sqrt.f k a0_0 a0_1 a2).bind fun a=>((grottoref03_Sqrt.f k a0_0 a0_1 a2).bind fun b=>((soft_Convert.f k a0_0 a0_1 a1_0 a1_1 a2).bind fun c=>((grottoref03_Convert.f k a0_0 a0_1 a1_0 a1_1 a2).bind fun d=>(if a.1=b.1 then ((grottolaw03_num.f a.2).bind fun e=>(if e=b.2 then (if c.1=d.1 then ((grottolaw03_num.f c.2).bind fun g=>(if g=d.2 then ((grottolaw03_live.f k).bind fun h=>(some h)) else (some false))) else (some false)) else (some false))) else (some false)))))
theorem grottolaw03_SoftRoots.mono:∀ a0 a1 a2 a3 a4 k,LeO (grottolaw03_SoftRoots.f k a0 a1 a2 a3 a4) (grottolaw03_SoftRoots.f (k+1) a0 a1 a2 a3 a4):=by
 intro a0 a1 a2 a3 a4 k
 unfold grottolaw03_SoftRoots.f
 repeat' first|(with_reducible first|apply grottolaw03_live.mono|apply grottoref03_Convert.mono|apply grottoref03_Sqrt.mono|apply soft_Convert.mono|apply soft_Sqrt.mono|exact LeO.refl _|exact LeO.none _|refine LeO.ite ?_ ?_|refine LeO.bind ?_ (fun _=>?_))|refine LeO.ite ?_ ?_|refine LeO.bind ?_ (fun _=>?_)
set_option maxHeartbeats 8000000 in
set_option maxRecDepth 100000 in
theorem grottolaw03_SoftRoots.calls {k:Nat} {g:Int} {i:Int} {j:Int} {l:Int} {P:Int} {r:Bool} {w:World} (h:grottolaw03_SoftRoots.f k g i j l P=some r) :
  Calls Try.prog 7 #[.agg #[.int .i64 g,.int .i64 i],.agg #[.int .i64 j,.int .i64 l],.int .u64 P] w fun e w'=>e=.returned (.bool r)∧Below w.heap.size w w':=by
 have hu23:=Try.underlying23
 have HB:=Aside0.mk (Below.refl w.heap.size w)
 have H:=h
 unfold grottolaw03_SoftRoots.f at H
 clear h
 obtain⟨⟨Q,cq⟩,R,H⟩:=oB H
 try dsimp only at H
 obtain⟨⟨S,T⟩,U,H⟩:=oB H
 try dsimp only at H
 obtain⟨⟨V,cr⟩,W,H⟩:=oB H
 try dsimp only at H
 obtain⟨⟨X,Y⟩,Z,H⟩:=oB H
 try dsimp only at H
 by_cases c8:Q=S
 rotate_left
 ·rw[if_neg c8] at H
  obtain⟨ab,ac⟩:=zf c8
  obtain rfl:=Option.some.inj H
  go_enter Try.func7,Try.ntmps7
  go_wp2_with (first|((with_reducible refine gate_dst (N:=3) rfl ?_);refine zbox (N:=3) (cs:=#[.int .i64 g,.int .i64 i]) (t:=23) ?_;intro m hg cS hbox hb;have a:=Aside0.mk hbox;have n:=zge hg HB;have o:=zge hg HB;replace HB:=zbs HB hb;clear hb hbox hg)|((with_reducible refine gate_dst (N:=4) rfl ?_);refine zbox (N:=4) (cs:=#[.int .i64 j,.int .i64 l]) (t:=23) ?_;intro p hg cT hbox hb;have b:=Aside0.mk hbox;have q:=zge hg HB;have s:=zge hg HB;have c:=znl hg a;have d:=zng hg a;obtain⟨a,HB⟩:=zu1 a HB hb;clear hb hbox hg;obtain⟨co,cp⟩:=z2 c;obtain⟨bQ,bR,bS,bT⟩:=zc2 a)|((with_reducible refine gate_callee (f:=28) rfl ?_);refine zgc (some 18) Try.func28 (soft_Sqrt.calls R.out) ?_;intro cU hb;obtain⟨a,b,HB⟩:=zu2 a b HB hb;clear hb;obtain⟨bU,bV,bW,bX⟩:=zc2 a)|((with_reducible refine gate_callee (f:=29) rfl ?_);refine zgc (some 24) Try.func29 (grottoref03_Sqrt.calls U.out) ?_;intro cV hb;obtain⟨a,b,HB⟩:=zu2 a b HB hb;clear hb;obtain⟨bY,bZ,b0,b1⟩:=zc2 a;obtain⟨b2,b3,b4,b5⟩:=zc2 b)|((with_reducible refine gate_callee (f:=30) rfl ?_);refine zgc (some 31) Try.func30 (soft_Convert.calls W.out) ?_;intro cW hb;obtain⟨a,b,HB⟩:=zu2 a b HB hb;clear hb;obtain⟨b6,b7,b8,b9⟩:=zc2 a;obtain⟨ca,cb,cc,cd⟩:=zc2 b)|((with_reducible refine gate_callee (f:=31) rfl ?_);refine zgc (some 38) Try.func31 (grottoref03_Convert.calls Z.out) ?_;intro cX hb;obtain⟨a,b,HB⟩:=zu2 a b HB hb;clear hb))
  go_ret
  exact zr HB

 rw[if_pos c8] at H
 obtain⟨ab,ac⟩:=zt c8
 clear c8
 obtain⟨B,A9,H⟩:=oB H
 by_cases E:B=T
 rotate_left
 ·rw[if_neg E] at H
  obtain⟨I,J⟩:=zf E
  obtain rfl:=Option.some.inj H
  go_enter Try.func7,Try.ntmps7
  go_wp2_with (first|((with_reducible refine gate_dst (N:=3) rfl ?_);refine zbox (N:=3) (cs:=#[.int .i64 g,.int .i64 i]) (t:=23) ?_;intro m hg cM hbox hb;have a:=Aside0.mk hbox;have n:=zge hg HB;have o:=zge hg HB;replace HB:=zbs HB hb;clear hb hbox hg)|((with_reducible refine gate_dst (N:=4) rfl ?_);refine zbox (N:=4) (cs:=#[.int .i64 j,.int .i64 l]) (t:=23) ?_;intro p hg cN hbox hb;have b:=Aside0.mk hbox;have q:=zge hg HB;have s:=zge hg HB;have c:=znl hg a;have d:=zng hg a;obtain⟨a,HB⟩:=zu1 a HB hb;clear hb hbox hg;obtain⟨cm,cn⟩:=z2 c;obtain⟨br,bs,bt,bu⟩:=zc2 a)|((with_reducible refine gate_callee (f:=28) rfl ?_);refine zgc (some 18) Try.func28 (soft_Sqrt.calls R.out) ?_;intro cO hb;obtain⟨a,b,HB⟩:=zu2 a b HB hb;clear hb;obtain⟨bv,bw,bx,bz⟩:=zc2 a)|((with_reducible refine gate_callee (f:=29) rfl ?_);refine zgc (some 24) Try.func29 (grottoref03_Sqrt.calls U.out) ?_;intro cP hb;obtain⟨a,b,HB⟩:=zu2 a b HB hb;clear hb;obtain⟨bA,bB,bC,bD⟩:=zc2 a;obtain⟨bE,bF,bG,bH⟩:=zc2 b)|((with_reducible refine gate_callee (f:=30) rfl ?_);refine zgc (some 31) Try.func30 (soft_Convert.calls W.out) ?_;intro cQ hb;obtain⟨a,b,HB⟩:=zu2 a b HB hb;clear hb;obtain⟨bI,bJ,bK,bL⟩:=zc2 a;obtain⟨bM,bN,bO,bP⟩:=zc2 b)|((with_reducible refine gate_callee (f:=31) rfl ?_);refine zgc (some 38) Try.func31 (grottoref03_Convert.calls Z.out) ?_;intro cR hb;obtain⟨a,b,HB⟩:=zu2 a b HB hb;clear hb)|(go_at_call 18;(with_reducible refine (grottolaw03_num.calls A9.out).mono ?_);rintro e w' ⟨rfl,⟨nd,rfl⟩⟩))
  go_ret
  exact zr HB
 rw[if_pos E] at H
 obtain⟨I,J⟩:=zt E
 clear E
 by_cases F:V=X
 ·rw[if_pos F] at H
  obtain⟨K,L⟩:=zt F
  clear F
  obtain⟨C,ad,H⟩:=oB H
  by_cases G:C=Y
  ·rw[if_pos G] at H
   obtain⟨M,O⟩:=zt G
   clear G
   obtain⟨D,cf,H⟩:=oB H
   obtain rfl:=Option.some.inj H
   go_enter Try.func7,Try.ntmps7
   go_wp2_with (first|((with_reducible refine gate_dst (N:=3) rfl ?_);refine zbox (N:=3) (cs:=#[.int .i64 g,.int .i64 i]) (t:=23) ?_;intro m hg ct hbox hb;have a:=Aside0.mk hbox;have n:=zge hg HB;have o:=zge hg HB;replace HB:=zbs HB hb;clear hb hbox hg)|((with_reducible refine gate_dst (N:=4) rfl ?_);refine zbox (N:=4) (cs:=#[.int .i64 j,.int .i64 l]) (t:=23) ?_;intro p hg cu hbox hb;have b:=Aside0.mk hbox;have q:=zge hg HB;have s:=zge hg HB;have c:=znl hg a;have d:=zng hg a;obtain⟨a,HB⟩:=zu1 a HB hb;clear hb hbox hg;obtain⟨cg,ch⟩:=z2 c;obtain⟨ae,af,ag,ah⟩:=zc2 a)|((with_reducible refine gate_callee (f:=28) rfl ?_);refine zgc (some 18) Try.func28 (soft_Sqrt.calls R.out) ?_;intro cv hb;obtain⟨a,b,HB⟩:=zu2 a b HB hb;clear hb;obtain⟨ai,aj,ak,al⟩:=zc2 a)|((with_reducible refine gate_callee (f:=29) rfl ?_);refine zgc (some 24) Try.func29 (grottoref03_Sqrt.calls U.out) ?_;intro cw hb;obtain⟨a,b,HB⟩:=zu2 a b HB hb;clear hb;obtain⟨am,an,ao,ap⟩:=zc2 a;obtain⟨aq,ar,au,av⟩:=zc2 b)|((with_reducible refine gate_callee (f:=30) rfl ?_);refine zgc (some 31) Try.func30 (soft_Convert.calls W.out) ?_;intro cx hb;obtain⟨a,b,HB⟩:=zu2 a b HB hb;clear hb;obtain⟨aw,ax,ay,az⟩:=zc2 a;obtain⟨aA,aB,aC,aD⟩:=zc2 b)|((with_reducible refine gate_callee (f:=31) rfl ?_);refine zgc (some 38) Try.func31 (grottoref03_Convert.calls Z.out) ?_;intro cy hb;obtain⟨a,b,HB⟩:=zu2 a b HB hb;clear hb)|(go_at_call 18;(with_reducible refine (grottolaw03_num.calls A9.out).mono ?_);rintro e w' ⟨rfl,⟨nd,rfl⟩⟩)|(go_at_call 18;(with_reducible refine (grottolaw03_num.calls ad.out).mono ?_);rintro e w' ⟨rfl,⟨nd,rfl⟩⟩)|(go_at_call 19;(with_reducible refine (grottolaw03_live.calls k  D _ cf.out).mono ?_);rintro e cz ⟨rfl,hb⟩;obtain⟨a,b,HB⟩:=zu2 a b HB hb;clear hb))
   go_ret
   exact zr HB
  rw[if_neg G] at H
  obtain⟨M,O⟩:=zf G
  obtain rfl:=Option.some.inj H
  go_enter Try.func7,Try.ntmps7
  go_wp2_with (first|((with_reducible refine gate_dst (N:=3) rfl ?_);refine zbox (N:=3) (cs:=#[.int .i64 g,.int .i64 i]) (t:=23) ?_;intro m hg cA hbox hb;have a:=Aside0.mk hbox;have n:=zge hg HB;have o:=zge hg HB;replace HB:=zbs HB hb;clear hb hbox hg)|((with_reducible refine gate_dst (N:=4) rfl ?_);refine zbox (N:=4) (cs:=#[.int .i64 j,.int .i64 l]) (t:=23) ?_;intro p hg cB hbox hb;have b:=Aside0.mk hbox;have q:=zge hg HB;have s:=zge hg HB;have c:=znl hg a;have d:=zng hg a;obtain⟨a,HB⟩:=zu1 a HB hb;clear hb hbox hg;obtain⟨ci,cj⟩:=z2 c;obtain⟨aE,aF,aG,aH⟩:=zc2 a)|((with_reducible refine gate_callee (f:=28) rfl ?_);refine zgc (some 18) Try.func28 (soft_Sqrt.calls R.out) ?_;intro cC hb;obtain⟨a,b,HB⟩:=zu2 a b HB hb;clear hb;obtain⟨aI,aJ,aK,aL⟩:=zc2 a)|((with_reducible refine gate_callee (f:=29) rfl ?_);refine zgc (some 24) Try.func29 (grottoref03_Sqrt.calls U.out) ?_;intro cD hb;obtain⟨a,b,HB⟩:=zu2 a b HB hb;clear hb;obtain⟨aM,aN,aO,aP⟩:=zc2 a;obtain⟨aQ,aR,aS,aT⟩:=zc2 b)|((with_reducible refine gate_callee (f:=30) rfl ?_);refine zgc (some 31) Try.func30 (soft_Convert.calls W.out) ?_;intro cE hb;obtain⟨a,b,HB⟩:=zu2 a b HB hb;clear hb;obtain⟨aU,aV,aW,aX⟩:=zc2 a;obtain⟨aY,aZ,a0,a1⟩:=zc2 b)|((with_reducible refine gate_callee (f:=31) rfl ?_);refine zgc (some 38) Try.func31 (grottoref03_Convert.calls Z.out) ?_;intro cF hb;obtain⟨a,b,HB⟩:=zu2 a b HB hb;clear hb)|(go_at_call 18;(with_reducible refine (grottolaw03_num.calls A9.out).mono ?_);rintro e w' ⟨rfl,⟨nd,rfl⟩⟩)|(go_at_call 18;(with_reducible refine (grottolaw03_num.calls ad.out).mono ?_);rintro e w' ⟨rfl,⟨nd,rfl⟩⟩))
  go_ret
  exact zr HB
 rw[if_neg F] at H
 obtain⟨K,L⟩:=zf F
 obtain rfl:=Option.some.inj H
 go_enter Try.func7,Try.ntmps7
 go_wp2_with (first|((with_reducible refine gate_dst (N:=3) rfl ?_);refine zbox (N:=3) (cs:=#[.int .i64 g,.int .i64 i]) (t:=23) ?_;intro m hg cG hbox hb;have a:=Aside0.mk hbox;have n:=zge hg HB;have o:=zge hg HB;replace HB:=zbs HB hb;clear hb hbox hg)|((with_reducible refine gate_dst (N:=4) rfl ?_);refine zbox (N:=4) (cs:=#[.int .i64 j,.int .i64 l]) (t:=23) ?_;intro p hg cH hbox hb;have b:=Aside0.mk hbox;have q:=zge hg HB;have s:=zge hg HB;have c:=znl hg a;have d:=zng hg a;obtain⟨a,HB⟩:=zu1 a HB hb;clear hb hbox hg;obtain⟨ck,cl⟩:=z2 c;obtain⟨a3,a4,a5,a6⟩:=zc2 a)|((with_reducible refine gate_callee (f:=28) rfl ?_);refine zgc (some 18) Try.func28 (soft_Sqrt.calls R.out) ?_;intro cI hb;obtain⟨a,b,HB⟩:=zu2 a b HB hb;clear hb;obtain⟨a7,a8,a9,ba⟩:=zc2 a)|((with_reducible refine gate_callee (f:=29) rfl ?_);refine zgc (some 24) Try.func29 (grottoref03_Sqrt.calls U.out) ?_;intro cJ hb;obtain⟨a,b,HB⟩:=zu2 a b HB hb;clear hb;obtain⟨bb,bc,bd,be⟩:=zc2 a;obtain⟨bf,bg,bh,bi⟩:=zc2 b)|((with_reducible refine gate_callee (f:=30) rfl ?_);refine zgc (some 31) Try.func30 (soft_Convert.calls W.out) ?_;intro cK hb;obtain⟨a,b,HB⟩:=zu2 a b HB hb;clear hb;obtain⟨bj,bk,bl,bm⟩:=zc2 a;obtain⟨bn,bo,bp,bq⟩:=zc2 b)|((with_reducible refine gate_callee (f:=31) rfl ?_);refine zgc (some 38) Try.func31 (grottoref03_Convert.calls Z.out) ?_;intro cL hb;obtain⟨a,b,HB⟩:=zu2 a b HB hb;clear hb)|(go_at_call 18;(with_reducible refine (grottolaw03_num.calls A9.out).mono ?_);rintro e w' ⟨rfl,⟨nd,rfl⟩⟩))
 go_ret
 exact zr HB
end Go.Proofs.Ytmmbgbchimangaa.PQ
