-- by a program of this claim
import Derived.Test.YtmmbgbchimangaaPQx0
import Derived.Test.YtmmbgbchimangaaPQx1
import Derived.Test.YtmmbgbchimangaaPQx2
import Derived.Test.YtmmbgbchimangaaPQx3
import Derived.Test.YtmmbgbchimangaaPQx4
import Derived.Test.YtmmbgbchimangaaPQx5
import Derived.Test.YtmmbgbchimangaaPQx6
namespace Go.Proofs.Ytmmbgbchimangaa.PQ
open Go.RowKit Go.Proofs.YtmmbgbchimangaaW.PrintWords Go.Proofs.YtmmbgbchimangaaW.PrintLast Go.Proofs.YtmmbgbchimangaaW.PrintMore Go.Proofs.Ytmmbgbchimangaa.Z
attribute [local go_sem] max2_int min2_int max_two min_two max_three min_three max_four min_four   -- for this text's walks alone
set_option linter.unusedVariables false
set_option linter.unusedSimpArgs false

/-! ### soft_step: function 81 -/
def soft_step.f (k:Nat) (a0_0:Int) (a0_1:Int) (a1:Int) (a2:Bool):Option (Int×Int):=(round_Open.f k a0_0 a0_1 a1).bind fun a=>(if a.2.2.2.2=0 then (if a.1=4 then ((round_NaN.f a0_0 a0_1).bind fun g=>(some (g,0))) else (if a.1=2 then (if a.2.2.1≥0 then (some (a1,0)) else ((soft_whole.f a.1 a.2.1 a.2.2.1 a.2.2.2.1).bind fun b=>(if b.2>0 then (if (a.2.1 != a2)=true then ((round_Pack.f k a0_0 a0_1 a.2.1 0 (IntKind.u64.wrap (b.1+1)) 0 false).bind fun c=>(some (c.1,c.2))) else ((round_Pack.f k a0_0 a0_1 a.2.1 0 b.1 0 false).bind fun d=>(some (d.1,d.2)))) else ((round_Pack.f k a0_0 a0_1 a.2.1 0 b.1 0 false).bind fun e=>(some (e.1,e.2)))))) else (some (a1,0)))) else (some (0,a.2.2.2.2)))
theorem soft_step.mono:∀ a0 a1 a2 a3 k,LeO (soft_step.f k a0 a1 a2 a3) (soft_step.f (k+1) a0 a1 a2 a3):=by
 intro a0 a1 a2 a3 k
 unfold soft_step.f
 repeat' first|(with_reducible first|apply round_Open.mono|apply round_Pack.mono|exact LeO.refl _|exact LeO.none _|refine LeO.ite ?_ ?_|refine LeO.bind ?_ (fun _=>?_))|refine LeO.ite ?_ ?_|refine LeO.bind ?_ (fun _=>?_)
set_option maxHeartbeats 8000000 in
set_option maxRecDepth 100000 in
theorem soft_step.calls {k:Nat} {i:Int} {j:Int} {X:Int} {F:Bool} {r1:Int} {r2:Int} {w:World} (h:soft_step.f k i j X F=some (r1,r2)) :
  Calls Try.prog 81 #[.agg #[.int .i64 i,.int .i64 j],.int .u64 X,.bool F] w fun e w'=>e=.returned (.tuple #[.int .u64 r1,.int .i64 r2])∧Below w.heap.size w w':=by
 have hu23:=Try.underlying23
 have hu34:=Try.underlying34
 have HB:=Aside0.mk (Below.refl w.heap.size w)
 have H:=h
 unfold soft_step.f at H
 clear h
 obtain⟨⟨z,l,v,C,Y⟩,O,H⟩:=oB H
 try dsimp only at H
 by_cases Z:Y=0
 rotate_left
 ·rw[if_neg Z] at H
  obtain⟨aa,ab⟩:=zf Z
  simp only[Option.some.injEq,Prod.mk.injEq] at H
  obtain⟨rfl,rfl⟩:=H
  go_enter Try.func81,Try.ntmps81
  go_wp2_with (first|((with_reducible refine gate_dst (N:=3) rfl ?_);refine zbox (N:=3) (cs:=#[.int .i64 i,.int .i64 j]) (t:=23) ?_;intro m hg dd hbox hb;have a:=Aside0.mk hbox;have n:=zge hg HB;have p:=zge hg HB;replace HB:=zbs HB hb;clear hb hbox hg;obtain⟨b4,b5,b6,b7⟩:=zc2 a)|((with_reducible refine gate_callee (f:=68) rfl ?_);refine zgc (some 15) Try.func68 (round_Open.calls O.out) ?_;intro de hb;obtain⟨a,HB⟩:=zu1 a HB hb;clear hb)|((with_reducible refine gate_dst (N:=8) rfl ?_);refine zbox (N:=8) (cs:=#[.int .i64 0,.bool false,.int .i64 0,.int .u64 0]) (t:=34) ?_;intro q hg df hbox hb;have b:=Aside0.mk hbox;have s:=zge hg HB;have u:=zge hg HB;have g:=znl hg a;have c:=zng hg a;obtain⟨a,HB⟩:=zu1 a HB hb;clear hb hbox hg;obtain⟨cD,cE⟩:=z2 c;obtain⟨b8,b9,ca,cb,cc,cd,ce,cf⟩:=zc4 b))
  go_ret2
  exact zr HB

 rw[if_pos Z] at H
 obtain⟨aa,ab⟩:=zt Z
 clear Z
 by_cases c6:z=4
 ·rw[if_pos c6] at H
  obtain⟨ad,ae⟩:=zt c6
  clear c6
  obtain⟨M,A7,H⟩:=oB H
  simp only[Option.some.injEq,Prod.mk.injEq] at H
  obtain⟨rfl,rfl⟩:=H
  go_enter Try.func81,Try.ntmps81
  go_wp2_with (first|((with_reducible refine gate_dst (N:=3) rfl ?_);refine zbox (N:=3) (cs:=#[.int .i64 i,.int .i64 j]) (t:=23) ?_;intro m hg w8 hbox hb;have a:=Aside0.mk hbox;have n:=zge hg HB;have p:=zge hg HB;replace HB:=zbs HB hb;clear hb hbox hg;obtain⟨cg,ch,ci,cj⟩:=zc2 a)|((with_reducible refine gate_callee (f:=68) rfl ?_);refine zgc (some 15) Try.func68 (round_Open.calls O.out) ?_;intro cN hb;obtain⟨a,HB⟩:=zu1 a HB hb;clear hb)|((with_reducible refine gate_dst (N:=8) rfl ?_);refine zbox (N:=8) (cs:=#[.int .i64 0,.bool false,.int .i64 0,.int .u64 0]) (t:=34) ?_;intro q hg cO hbox hb;have b:=Aside0.mk hbox;have s:=zge hg HB;have u:=zge hg HB;have g:=znl hg a;have c:=zng hg a;obtain⟨a,HB⟩:=zu1 a HB hb;clear hb hbox hg;obtain⟨cm,cn⟩:=z2 c;obtain⟨af,ag,ah,ai,aj,ak,al,am⟩:=zc4 b;obtain⟨an,ao,ap,aq⟩:=zc2 a)|((with_reducible refine gate_callee (f:=49) rfl ?_);refine zgc (some 27) Try.func49 (round_NaN.calls A7.out) ?_;intro cP hb;replace a:=zkb a hb;replace b:=zkbo (o:=.cells #[.int .i64 z,.bool l,.int .i64 v,.int .u64 C] 34 (0,0)) b hb;replace HB:=zbs HB hb;clear hb))
  go_ret2
  exact zr HB
 rw[if_neg c6] at H
 obtain⟨ad,ae⟩:=zf c6
 by_cases K:z=2
 rotate_left
 ·rw[if_neg K] at H
  obtain⟨P,Q⟩:=zf K
  simp only[Option.some.injEq,Prod.mk.injEq] at H
  obtain⟨rfl,rfl⟩:=H
  go_enter Try.func81,Try.ntmps81
  go_wp2_with (first|((with_reducible refine gate_dst (N:=3) rfl ?_);refine zbox (N:=3) (cs:=#[.int .i64 i,.int .i64 j]) (t:=23) ?_;intro m hg da hbox hb;have a:=Aside0.mk hbox;have n:=zge hg HB;have p:=zge hg HB;replace HB:=zbs HB hb;clear hb hbox hg;obtain⟨bS,bT,bU,bV⟩:=zc2 a)|((with_reducible refine gate_callee (f:=68) rfl ?_);refine zgc (some 15) Try.func68 (round_Open.calls O.out) ?_;intro db hb;obtain⟨a,HB⟩:=zu1 a HB hb;clear hb)|((with_reducible refine gate_dst (N:=8) rfl ?_);refine zbox (N:=8) (cs:=#[.int .i64 0,.bool false,.int .i64 0,.int .u64 0]) (t:=34) ?_;intro q hg dc hbox hb;have b:=Aside0.mk hbox;have s:=zge hg HB;have u:=zge hg HB;have g:=znl hg a;have c:=zng hg a;obtain⟨a,HB⟩:=zu1 a HB hb;clear hb hbox hg;obtain⟨cB,cC⟩:=z2 c;obtain⟨bW,bX,bY,bZ,b0,b1,b2,b3⟩:=zc4 b))
  go_ret2
  exact zr HB
 rw[if_pos K] at H
 obtain⟨P,Q⟩:=zt K
 clear K
 by_cases D:v≥0
 ·rw[if_pos D] at H
  have R:decide (0≤v)=true:=decide_eq_true D
  clear D
  simp only[Option.some.injEq,Prod.mk.injEq] at H
  obtain⟨rfl,rfl⟩:=H
  go_enter Try.func81,Try.ntmps81
  go_wp2_with (first|((with_reducible refine gate_dst (N:=3) rfl ?_);refine zbox (N:=3) (cs:=#[.int .i64 i,.int .i64 j]) (t:=23) ?_;intro m hg cQ hbox hb;have a:=Aside0.mk hbox;have n:=zge hg HB;have p:=zge hg HB;replace HB:=zbs HB hb;clear hb hbox hg;obtain⟨ar,au,av,aw⟩:=zc2 a)|((with_reducible refine gate_callee (f:=68) rfl ?_);refine zgc (some 15) Try.func68 (round_Open.calls O.out) ?_;intro cR hb;obtain⟨a,HB⟩:=zu1 a HB hb;clear hb)|((with_reducible refine gate_dst (N:=8) rfl ?_);refine zbox (N:=8) (cs:=#[.int .i64 0,.bool false,.int .i64 0,.int .u64 0]) (t:=34) ?_;intro q hg cS hbox hb;have b:=Aside0.mk hbox;have s:=zge hg HB;have u:=zge hg HB;have g:=znl hg a;have c:=zng hg a;obtain⟨a,HB⟩:=zu1 a HB hb;clear hb hbox hg;obtain⟨co,cp⟩:=z2 c;obtain⟨ax,ay,az,aA,aB,aC,aD,aE⟩:=zc4 b))
  go_ret2
  exact zr HB
 rw[if_neg D] at H
 have R:decide (0≤v)=false:=decide_eq_false D
 clear D
 obtain⟨⟨cF,L⟩,S,H⟩:=oB H
 try dsimp only at H
 by_cases E:L>0
 ·rw[if_pos E] at H
  have T:decide (0<L)=true:=decide_eq_true E
  clear E
  by_cases y:(l != F)=true
  ·rw[if_pos y] at H
   have U:(l != F)=true:=y
   (try (have V:decide (l=F)=false:=by simpa using y))
   (try (have W:(l==F)=false:=by simpa using y))
   (try (have cq:¬ (l=F):=by simpa using y))
   clear y
   obtain⟨⟨cG,cH⟩,cr,H⟩:=oB H
   try dsimp only at H
   simp only[Option.some.injEq,Prod.mk.injEq] at H
   obtain⟨rfl,rfl⟩:=H
   go_enter Try.func81,Try.ntmps81
   go_wp2_with (first|((with_reducible refine gate_dst (N:=3) rfl ?_);refine zbox (N:=3) (cs:=#[.int .i64 i,.int .i64 j]) (t:=23) ?_;intro m hg cT hbox hb;have a:=Aside0.mk hbox;have n:=zge hg HB;have p:=zge hg HB;replace HB:=zbs HB hb;clear hb hbox hg;obtain⟨aF,aG,aH,aI⟩:=zc2 a)|((with_reducible refine gate_callee (f:=68) rfl ?_);refine zgc (some 15) Try.func68 (round_Open.calls O.out) ?_;intro cU hb;obtain⟨a,HB⟩:=zu1 a HB hb;clear hb)|((with_reducible refine gate_dst (N:=8) rfl ?_);refine zbox (N:=8) (cs:=#[.int .i64 0,.bool false,.int .i64 0,.int .u64 0]) (t:=34) ?_;intro q hg cV hbox hb;have b:=Aside0.mk hbox;have s:=zge hg HB;have u:=zge hg HB;have g:=znl hg a;have c:=zng hg a;obtain⟨a,HB⟩:=zu1 a HB hb;clear hb hbox hg;obtain⟨ct,cu⟩:=z2 c;obtain⟨aJ,aK,aL,aM,aN,aO,aP,aQ⟩:=zc4 b)|((with_reducible refine gate_callee (f:=83) rfl ?_);refine zgc (some 40) Try.func83 (soft_whole.calls S.out) ?_;intro cW hb;replace a:=zkb a hb;replace b:=zkbo (o:=.cells #[.int .i64 z,.bool l,.int .i64 v,.int .u64 C] 34 (0,0)) b hb;replace HB:=zbs HB hb;clear hb;obtain⟨aR,aS,aT,aU,aV,aW,aX,aY⟩:=zc4 b;obtain⟨aZ,a0,a3,a4⟩:=zc2 a)|((with_reducible refine gate_callee (f:=51) rfl ?_);refine zgc (some 57) Try.func51 (round_Pack.calls cr.out) ?_;intro cX hb;obtain⟨a,b,HB⟩:=zu2 a b HB hb;clear hb))
   go_ret2
   exact zr HB
  rw[if_neg y] at H
  have U:(l != F)=false:=by simpa using y
  (try (have V:decide (l=F)=true:=by simpa using y))
  (try (have W:(l==F)=true:=by simpa using y))
  clear y
  obtain⟨⟨cI,cJ⟩,cv,H⟩:=oB H
  try dsimp only at H
  simp only[Option.some.injEq,Prod.mk.injEq] at H
  obtain⟨rfl,rfl⟩:=H
  go_enter Try.func81,Try.ntmps81
  go_wp2_with (first|((with_reducible refine gate_dst (N:=3) rfl ?_);refine zbox (N:=3) (cs:=#[.int .i64 i,.int .i64 j]) (t:=23) ?_;intro m hg cY hbox hb;have a:=Aside0.mk hbox;have n:=zge hg HB;have p:=zge hg HB;replace HB:=zbs HB hb;clear hb hbox hg;obtain⟨a5,a6,a7,a8⟩:=zc2 a)|((with_reducible refine gate_callee (f:=68) rfl ?_);refine zgc (some 15) Try.func68 (round_Open.calls O.out) ?_;intro cZ hb;obtain⟨a,HB⟩:=zu1 a HB hb;clear hb)|((with_reducible refine gate_dst (N:=8) rfl ?_);refine zbox (N:=8) (cs:=#[.int .i64 0,.bool false,.int .i64 0,.int .u64 0]) (t:=34) ?_;intro q hg c0 hbox hb;have b:=Aside0.mk hbox;have s:=zge hg HB;have u:=zge hg HB;have g:=znl hg a;have c:=zng hg a;obtain⟨a,HB⟩:=zu1 a HB hb;clear hb hbox hg;obtain⟨cw,cx⟩:=z2 c;obtain⟨a9,ba,bb,bc,bd,be,bf,bg⟩:=zc4 b)|((with_reducible refine gate_callee (f:=83) rfl ?_);refine zgc (some 40) Try.func83 (soft_whole.calls S.out) ?_;intro c1 hb;replace a:=zkb a hb;replace b:=zkbo (o:=.cells #[.int .i64 z,.bool l,.int .i64 v,.int .u64 C] 34 (0,0)) b hb;replace HB:=zbs HB hb;clear hb;obtain⟨bh,bi,bj,bk,bl,bm,bn,bo⟩:=zc4 b;obtain⟨bp,bq,br,bs⟩:=zc2 a)|((with_reducible refine gate_callee (f:=51) rfl ?_);refine zgc (some 57) Try.func51 (round_Pack.calls cv.out) ?_;intro c2 hb;obtain⟨a,b,HB⟩:=zu2 a b HB hb;clear hb))
  go_ret2
  exact zr HB
 rw[if_neg E] at H
 have T:decide (0<L)=false:=decide_eq_false E
 clear E
 obtain⟨⟨cK,cL⟩,cy,H⟩:=oB H
 try dsimp only at H
 simp only[Option.some.injEq,Prod.mk.injEq] at H
 obtain⟨rfl,rfl⟩:=H
 go_enter Try.func81,Try.ntmps81
 go_wp2_with (first|((with_reducible refine gate_dst (N:=3) rfl ?_);refine zbox (N:=3) (cs:=#[.int .i64 i,.int .i64 j]) (t:=23) ?_;intro m hg c3 hbox hb;have a:=Aside0.mk hbox;have n:=zge hg HB;have p:=zge hg HB;replace HB:=zbs HB hb;clear hb hbox hg;obtain⟨bt,bu,bv,bw⟩:=zc2 a)|((with_reducible refine gate_callee (f:=68) rfl ?_);refine zgc (some 15) Try.func68 (round_Open.calls O.out) ?_;intro c4 hb;obtain⟨a,HB⟩:=zu1 a HB hb;clear hb)|((with_reducible refine gate_dst (N:=8) rfl ?_);refine zbox (N:=8) (cs:=#[.int .i64 0,.bool false,.int .i64 0,.int .u64 0]) (t:=34) ?_;intro q hg c7 hbox hb;have b:=Aside0.mk hbox;have s:=zge hg HB;have u:=zge hg HB;have g:=znl hg a;have c:=zng hg a;obtain⟨a,HB⟩:=zu1 a HB hb;clear hb hbox hg;obtain⟨cz,cA⟩:=z2 c;obtain⟨bx,bz,bA,bB,bC,bD,bE,bF⟩:=zc4 b)|((with_reducible refine gate_callee (f:=83) rfl ?_);refine zgc (some 40) Try.func83 (soft_whole.calls S.out) ?_;intro c8 hb;replace a:=zkb a hb;replace b:=zkbo (o:=.cells #[.int .i64 z,.bool l,.int .i64 v,.int .u64 C] 34 (0,0)) b hb;replace HB:=zbs HB hb;clear hb;obtain⟨bG,bH,bI,bJ⟩:=zc2 a;obtain⟨bK,bL,bM,bN,bO,bP,bQ,bR⟩:=zc4 b)|((with_reducible refine gate_callee (f:=51) rfl ?_);refine zgc (some 57) Try.func51 (round_Pack.calls cy.out) ?_;intro c9 hb;obtain⟨a,b,HB⟩:=zu2 a b HB hb;clear hb))
 go_ret2
 exact zr HB
/-! ### soft_Floor: function 39 -/
def soft_Floor.f (k:Nat) (a0_0:Int) (a0_1:Int) (a1:Int):Option (Int×Int):=(soft_step.f k a0_0 a0_1 a1 false).bind fun a=>(some (a.1,a.2))
theorem soft_Floor.mono:∀ a0 a1 a2 k,LeO (soft_Floor.f k a0 a1 a2) (soft_Floor.f (k+1) a0 a1 a2):=by
 intro a0 a1 a2 k
 unfold soft_Floor.f
 repeat' first|(with_reducible first|apply soft_step.mono|exact LeO.refl _|exact LeO.none _|refine LeO.ite ?_ ?_|refine LeO.bind ?_ (fun _=>?_))|refine LeO.ite ?_ ?_|refine LeO.bind ?_ (fun _=>?_)
set_option maxHeartbeats 8000000 in
set_option maxRecDepth 100000 in
theorem soft_Floor.calls {k:Nat} {b:Int} {c:Int} {m:Int} {n:Int} {o:Int} {w:World} (h:soft_Floor.f k b c m=some (n,o)) :
  Calls Try.prog 39 #[.agg #[.int .i64 b,.int .i64 c],.int .u64 m] w fun e w'=>e=.returned (.tuple #[.int .u64 n,.int .i64 o])∧Below w.heap.size w w':=by
 have hu23:=Try.underlying23
 have HB:=Aside0.mk (Below.refl w.heap.size w)
 have H:=h
 unfold soft_Floor.f at H
 clear h
 obtain⟨⟨u,v⟩,y,H⟩:=oB H
 try dsimp only at H
 simp only[Option.some.injEq,Prod.mk.injEq] at H
 obtain⟨rfl,rfl⟩:=H
 go_enter Try.func39,Try.ntmps39
 go_wp2_with (first|((with_reducible refine gate_dst (N:=2) rfl ?_);refine zbox (N:=2) (cs:=#[.int .i64 b,.int .i64 c]) (t:=23) ?_;intro p hg z hbox hb;have a:=Aside0.mk hbox;have q:=zge hg HB;have s:=zge hg HB;replace HB:=zbs HB hb;clear hb hbox hg;obtain⟨g,i,j,l⟩:=zc2 a)|((with_reducible refine gate_callee (f:=81) rfl ?_);refine zgc (some 8) Try.func81 (soft_step.calls y.out) ?_;intro B hb;obtain⟨a,HB⟩:=zu1 a HB hb;clear hb))
 go_ret2
 exact zr HB

/-! ### soft_Ceil: function 40 -/
def soft_Ceil.f (k:Nat) (a0_0:Int) (a0_1:Int) (a1:Int):Option (Int×Int):=(soft_step.f k a0_0 a0_1 a1 true).bind fun a=>(some (a.1,a.2))
theorem soft_Ceil.mono:∀ a0 a1 a2 k,LeO (soft_Ceil.f k a0 a1 a2) (soft_Ceil.f (k+1) a0 a1 a2):=by
 intro a0 a1 a2 k
 unfold soft_Ceil.f
 repeat' first|(with_reducible first|apply soft_step.mono|exact LeO.refl _|exact LeO.none _|refine LeO.ite ?_ ?_|refine LeO.bind ?_ (fun _=>?_))|refine LeO.ite ?_ ?_|refine LeO.bind ?_ (fun _=>?_)
set_option maxHeartbeats 8000000 in
set_option maxRecDepth 100000 in
theorem soft_Ceil.calls {k:Nat} {b:Int} {c:Int} {m:Int} {n:Int} {o:Int} {w:World} (h:soft_Ceil.f k b c m=some (n,o)) :
  Calls Try.prog 40 #[.agg #[.int .i64 b,.int .i64 c],.int .u64 m] w fun e w'=>e=.returned (.tuple #[.int .u64 n,.int .i64 o])∧Below w.heap.size w w':=by
 have hu23:=Try.underlying23
 have HB:=Aside0.mk (Below.refl w.heap.size w)
 have H:=h
 unfold soft_Ceil.f at H
 clear h
 obtain⟨⟨u,v⟩,y,H⟩:=oB H
 try dsimp only at H
 simp only[Option.some.injEq,Prod.mk.injEq] at H
 obtain⟨rfl,rfl⟩:=H
 go_enter Try.func40,Try.ntmps40
 go_wp2_with (first|((with_reducible refine gate_dst (N:=2) rfl ?_);refine zbox (N:=2) (cs:=#[.int .i64 b,.int .i64 c]) (t:=23) ?_;intro p hg z hbox hb;have a:=Aside0.mk hbox;have q:=zge hg HB;have s:=zge hg HB;replace HB:=zbs HB hb;clear hb hbox hg;obtain⟨g,i,j,l⟩:=zc2 a)|((with_reducible refine gate_callee (f:=81) rfl ?_);refine zgc (some 8) Try.func81 (soft_step.calls y.out) ?_;intro B hb;obtain⟨a,HB⟩:=zu1 a HB hb;clear hb))
 go_ret2
 exact zr HB

/-! ### grottolaw03_single: function 59 -/
def grottolaw03_single.f :Option (Int×Int):=some (23,8)
set_option maxHeartbeats 8000000 in
set_option maxRecDepth 100000 in
theorem grottolaw03_single.calls  (j:Int) (l:Int) (w:World) (h:grottolaw03_single.f =some (j,l)) :
  Calls Try.prog 59 #[] w fun e w'=>e=.returned (.agg #[.int .i64 j,.int .i64 l])∧Below w.heap.size w w':=by
 have hu23:=Try.underlying23
 have HB:=Aside0.mk (Below.refl w.heap.size w)
 have H:=h
 unfold grottolaw03_single.f at H
 clear h
 simp only[Option.some.injEq,Prod.mk.injEq] at H
 obtain⟨rfl,rfl⟩:=H
 go_enter Try.func59,Try.ntmps59
 go_wp2_with (first|((with_reducible refine gate_dst (N:=0) rfl ?_);refine zbox (N:=0) (cs:=#[.int .i64 0,.int .i64 0]) (t:=23) ?_;intro b hg o hbox hb;have a:=Aside0.mk hbox;have m:=zge hg HB;have n:=zge hg HB;replace HB:=zbs HB hb;clear hb hbox hg;obtain⟨c,d,g,i⟩:=zc2 a))
 refine bodyPost_ret (results_cell_row rfl _ _ b 23 #[.int .i64 23,.int .i64 8] (0,0) _ rfl (zkp a) Try.underlying23 rfl (by kernel_rfl)) rfl ?_
 exact zr HB

/-! ### grottolaw03_live: function 19 -/
def grottolaw03_live.f (k:Nat) :Option (Bool):=(grottolaw03_single.f).bind fun a=>((soft_Add.f k a.1 a.2 1065353216 1065353216).bind fun c=>((soft_Div.f k a.1 a.2 1065353216 1077936128).bind fun d=>((soft_Sqrt.f k a.1 a.2 1073741824).bind fun e=>((soft_Mod.f k a.1 a.2 1088421888 3221225472).bind fun b=>((soft_Floor.f k a.1 a.2 3204448256).bind fun g=>((soft_Ceil.f k a.1 a.2 3204448256).bind fun h=>((grottolaw03_num.f c.2).bind fun i=>((grottolaw03_num.f d.2).bind fun j=>((grottolaw03_num.f e.2).bind fun l=>((grottolaw03_num.f b.2.2).bind fun m=>((grottolaw03_num.f g.2).bind fun n=>((grottolaw03_num.f h.2).bind fun o=>(if (wrap64 ((wrap64 ((wrap64 ((wrap64 ((wrap64 (i+j))+l))+m))+n))+o))=0 then (if c.1=1073741824 then (if d.1=1051372203 then (if e.1=1068827891 then (if b.1=1065353216 then (if b.2.1=3225419776 then (if g.1=3212836864 then (some (h.1==2147483648)) else (some false)) else (some false)) else (some false)) else (some false)) else (some false)) else (some false)) else (some false))))))))))))))
theorem grottolaw03_live.mono:∀ k,LeO (grottolaw03_live.f k ) (grottolaw03_live.f (k+1) ):=by
 intro  k
 unfold grottolaw03_live.f
 repeat' first|(with_reducible first|apply soft_Add.mono|apply soft_Ceil.mono|apply soft_Div.mono|apply soft_Floor.mono|apply soft_Mod.mono|apply soft_Sqrt.mono|exact LeO.refl _|exact LeO.none _|refine LeO.ite ?_ ?_|refine LeO.bind ?_ (fun _=>?_))|refine LeO.ite ?_ ?_|refine LeO.bind ?_ (fun _=>?_)
set_option maxHeartbeats 8000000 in
set_option maxRecDepth 100000 in
theorem grottolaw03_live.calls (k:Nat)  (r:Bool) (w:World) (h:grottolaw03_live.f k =some r) :
  Calls Try.prog 19 #[] w fun e w'=>e=.returned (.bool r)∧Below w.heap.size w w':=by
 have hu23:=Try.underlying23
 have HB:=Aside0.mk (Below.refl w.heap.size w)
 have H:=h
 unfold grottolaw03_live.f at H
 clear h
 obtain⟨⟨c,d⟩,W,H⟩:=oB H
 try dsimp only at H
 obtain⟨⟨bp,l⟩,X,H⟩:=oB H
 try dsimp only at H
 obtain⟨⟨bq,m⟩,Y,H⟩:=oB H
 try dsimp only at H
 obtain⟨⟨br,n⟩,Z,H⟩:=oB H
 try dsimp only at H
 obtain⟨⟨bs,bt,p⟩,A5,H⟩:=oB H
 try dsimp only at H
 obtain⟨⟨bu,q⟩,A6,H⟩:=oB H
 try dsimp only at H
 obtain⟨⟨dK,s⟩,A7,H⟩:=oB H
 try dsimp only at H
 obtain⟨I,A8,H⟩:=oB H
 obtain⟨J,A9,H⟩:=oB H
 obtain⟨K,u,H⟩:=oB H
 obtain⟨L,v,H⟩:=oB H
 obtain⟨M,y,H⟩:=oB H
 obtain⟨O,z,H⟩:=oB H
 by_cases P:(wrap64 ((wrap64 ((wrap64 ((wrap64 ((wrap64 (I+J))+K))+L))+M))+O))=0
 rotate_left
 ·rw[if_neg P] at H
  obtain⟨af,ag⟩:=zf P
  obtain rfl:=Option.some.inj H
  go_enter Try.func19,Try.ntmps19
  go_wp2_with (first|((with_reducible refine gate_callee (f:=59) rfl ?_);refine zgc (some 15) Try.func59 (grottolaw03_single.calls  c d _ W.out) ?_;intro dW hb;replace HB:=zbs HB hb;clear hb)|((with_reducible refine gate_dst (N:=1) rfl ?_);refine zbox (N:=1) (cs:=#[.int .i64 0,.int .i64 0]) (t:=23) ?_;intro g hg dX hbox hb;have a:=Aside0.mk hbox;have i:=zge hg HB;have j:=zge hg HB;replace HB:=zbs HB hb;clear hb hbox hg;obtain⟨a1,a2,a3,a4⟩:=zc2 a)|((with_reducible refine gate_callee (f:=24) rfl ?_);refine zgc (some 18) Try.func24 (soft_Add.calls X.out) ?_;intro dY hb;replace a:=zkbo (o:=.cells #[.int .i64 c,.int .i64 d] 23 (0,0)) a hb;replace HB:=zbs HB hb;clear hb;obtain⟨a5,a6,a7,a8⟩:=zc2 a)|((with_reducible refine gate_callee (f:=34) rfl ?_);refine zgc (some 23) Try.func34 (soft_Div.calls Y.out) ?_;intro dZ hb;obtain⟨a,HB⟩:=zu1 a HB hb;clear hb;obtain⟨a9,ba,bb,bc⟩:=zc2 a)|((with_reducible refine gate_callee (f:=28) rfl ?_);refine zgc (some 28) Try.func28 (soft_Sqrt.calls Z.out) ?_;intro d0 hb;obtain⟨a,HB⟩:=zu1 a HB hb;clear hb;obtain⟨bd,be,bf,bg⟩:=zc2 a)|((with_reducible refine gate_callee (f:=16) rfl ?_);refine zgc (some 33) Try.func16 (soft_Mod.calls A5.out) ?_;intro d1 hb;obtain⟨a,HB⟩:=zu1 a HB hb;clear hb;obtain⟨bh,bi,bj,bk⟩:=zc2 a)|((with_reducible refine gate_callee (f:=39) rfl ?_);refine zgc (some 39) Try.func39 (soft_Floor.calls A6.out) ?_;intro d2 hb;obtain⟨a,HB⟩:=zu1 a HB hb;clear hb;obtain⟨bl,bm,bn,bo⟩:=zc2 a)|((with_reducible refine gate_callee (f:=40) rfl ?_);refine zgc (some 44) Try.func40 (soft_Ceil.calls A7.out) ?_;intro d3 hb;obtain⟨a,HB⟩:=zu1 a HB hb;clear hb)|((with_reducible refine gate_callee (f:=18) rfl ?_);refine zgo (some 48) Try.func18 #[.int .i64 l] ?_;(with_reducible refine (grottolaw03_num.calls A8.out).mono ?_);rintro e w' ⟨rfl,⟨nd,rfl⟩⟩;refine⟨_,rfl,?_⟩)|((with_reducible refine gate_callee (f:=18) rfl ?_);refine zgo (some 50) Try.func18 #[.int .i64 m] ?_;(with_reducible refine (grottolaw03_num.calls A9.out).mono ?_);rintro e w' ⟨rfl,⟨nd,rfl⟩⟩;refine⟨_,rfl,?_⟩)|((with_reducible refine gate_callee (f:=18) rfl ?_);refine zgo (some 53) Try.func18 #[.int .i64 n] ?_;(with_reducible refine (grottolaw03_num.calls u.out).mono ?_);rintro e w' ⟨rfl,⟨nd,rfl⟩⟩;refine⟨_,rfl,?_⟩)|((with_reducible refine gate_callee (f:=18) rfl ?_);refine zgo (some 56) Try.func18 #[.int .i64 p] ?_;(with_reducible refine (grottolaw03_num.calls v.out).mono ?_);rintro e w' ⟨rfl,⟨nd,rfl⟩⟩;refine⟨_,rfl,?_⟩)|((with_reducible refine gate_callee (f:=18) rfl ?_);refine zgo (some 59) Try.func18 #[.int .i64 q] ?_;(with_reducible refine (grottolaw03_num.calls y.out).mono ?_);rintro e w' ⟨rfl,⟨nd,rfl⟩⟩;refine⟨_,rfl,?_⟩)|((with_reducible refine gate_callee (f:=18) rfl ?_);refine zgo (some 62) Try.func18 #[.int .i64 s] ?_;(with_reducible refine (grottolaw03_num.calls z.out).mono ?_);rintro e w' ⟨rfl,⟨nd,rfl⟩⟩;refine⟨_,rfl,?_⟩))
  go_ret
  exact zr HB

 rw[if_pos P] at H
 obtain⟨af,ag⟩:=zt P
 clear P
 by_cases Q:bp=1073741824
 rotate_left
 ·rw[if_neg Q] at H
  obtain⟨ah,ai⟩:=zf Q
  obtain rfl:=Option.some.inj H
  go_enter Try.func19,Try.ntmps19
  go_wp2_with (first|((with_reducible refine gate_callee (f:=59) rfl ?_);refine zgc (some 15) Try.func59 (grottolaw03_single.calls  c d _ W.out) ?_;intro dO hb;replace HB:=zbs HB hb;clear hb)|((with_reducible refine gate_dst (N:=1) rfl ?_);refine zbox (N:=1) (cs:=#[.int .i64 0,.int .i64 0]) (t:=23) ?_;intro g hg dP hbox hb;have a:=Aside0.mk hbox;have i:=zge hg HB;have j:=zge hg HB;replace HB:=zbs HB hb;clear hb hbox hg;obtain⟨aD,aE,aF,aG⟩:=zc2 a)|((with_reducible refine gate_callee (f:=24) rfl ?_);refine zgc (some 18) Try.func24 (soft_Add.calls X.out) ?_;intro dQ hb;replace a:=zkbo (o:=.cells #[.int .i64 c,.int .i64 d] 23 (0,0)) a hb;replace HB:=zbs HB hb;clear hb;obtain⟨aH,aI,aJ,aK⟩:=zc2 a)|((with_reducible refine gate_callee (f:=34) rfl ?_);refine zgc (some 23) Try.func34 (soft_Div.calls Y.out) ?_;intro dR hb;obtain⟨a,HB⟩:=zu1 a HB hb;clear hb;obtain⟨aL,aM,aN,aO⟩:=zc2 a)|((with_reducible refine gate_callee (f:=28) rfl ?_);refine zgc (some 28) Try.func28 (soft_Sqrt.calls Z.out) ?_;intro dS hb;obtain⟨a,HB⟩:=zu1 a HB hb;clear hb;obtain⟨aP,aQ,aR,aS⟩:=zc2 a)|((with_reducible refine gate_callee (f:=16) rfl ?_);refine zgc (some 33) Try.func16 (soft_Mod.calls A5.out) ?_;intro dT hb;obtain⟨a,HB⟩:=zu1 a HB hb;clear hb;obtain⟨aT,aU,aV,aW⟩:=zc2 a)|((with_reducible refine gate_callee (f:=39) rfl ?_);refine zgc (some 39) Try.func39 (soft_Floor.calls A6.out) ?_;intro dU hb;obtain⟨a,HB⟩:=zu1 a HB hb;clear hb;obtain⟨aX,aY,aZ,a0⟩:=zc2 a)|((with_reducible refine gate_callee (f:=40) rfl ?_);refine zgc (some 44) Try.func40 (soft_Ceil.calls A7.out) ?_;intro dV hb;obtain⟨a,HB⟩:=zu1 a HB hb;clear hb)|((with_reducible refine gate_callee (f:=18) rfl ?_);refine zgo (some 48) Try.func18 #[.int .i64 l] ?_;(with_reducible refine (grottolaw03_num.calls A8.out).mono ?_);rintro e w' ⟨rfl,⟨nd,rfl⟩⟩;refine⟨_,rfl,?_⟩)|((with_reducible refine gate_callee (f:=18) rfl ?_);refine zgo (some 50) Try.func18 #[.int .i64 m] ?_;(with_reducible refine (grottolaw03_num.calls A9.out).mono ?_);rintro e w' ⟨rfl,⟨nd,rfl⟩⟩;refine⟨_,rfl,?_⟩)|((with_reducible refine gate_callee (f:=18) rfl ?_);refine zgo (some 53) Try.func18 #[.int .i64 n] ?_;(with_reducible refine (grottolaw03_num.calls u.out).mono ?_);rintro e w' ⟨rfl,⟨nd,rfl⟩⟩;refine⟨_,rfl,?_⟩)|((with_reducible refine gate_callee (f:=18) rfl ?_);refine zgo (some 56) Try.func18 #[.int .i64 p] ?_;(with_reducible refine (grottolaw03_num.calls v.out).mono ?_);rintro e w' ⟨rfl,⟨nd,rfl⟩⟩;refine⟨_,rfl,?_⟩)|((with_reducible refine gate_callee (f:=18) rfl ?_);refine zgo (some 59) Try.func18 #[.int .i64 q] ?_;(with_reducible refine (grottolaw03_num.calls y.out).mono ?_);rintro e w' ⟨rfl,⟨nd,rfl⟩⟩;refine⟨_,rfl,?_⟩)|((with_reducible refine gate_callee (f:=18) rfl ?_);refine zgo (some 62) Try.func18 #[.int .i64 s] ?_;(with_reducible refine (grottolaw03_num.calls z.out).mono ?_);rintro e w' ⟨rfl,⟨nd,rfl⟩⟩;refine⟨_,rfl,?_⟩))
  go_ret
  exact zr HB
 rw[if_pos Q] at H
 obtain⟨ah,ai⟩:=zt Q
 clear Q
 by_cases R:bq=1051372203
 rotate_left
 ·rw[if_neg R] at H
  obtain⟨aj,ak⟩:=zf R
  obtain rfl:=Option.some.inj H
  go_enter Try.func19,Try.ntmps19
  go_wp2_with (first|((with_reducible refine gate_callee (f:=59) rfl ?_);refine zgc (some 15) Try.func59 (grottolaw03_single.calls  c d _ W.out) ?_;intro eI hb;replace HB:=zbs HB hb;clear hb)|((with_reducible refine gate_dst (N:=1) rfl ?_);refine zbox (N:=1) (cs:=#[.int .i64 0,.int .i64 0]) (t:=23) ?_;intro g hg eJ hbox hb;have a:=Aside0.mk hbox;have i:=zge hg HB;have j:=zge hg HB;replace HB:=zbs HB hb;clear hb hbox hg;obtain⟨du,dv,dw,dx⟩:=zc2 a)|((with_reducible refine gate_callee (f:=24) rfl ?_);refine zgc (some 18) Try.func24 (soft_Add.calls X.out) ?_;intro eK hb;replace a:=zkbo (o:=.cells #[.int .i64 c,.int .i64 d] 23 (0,0)) a hb;replace HB:=zbs HB hb;clear hb;obtain⟨dy,dz,dA,dB⟩:=zc2 a)|((with_reducible refine gate_callee (f:=34) rfl ?_);refine zgc (some 23) Try.func34 (soft_Div.calls Y.out) ?_;intro eL hb;obtain⟨a,HB⟩:=zu1 a HB hb;clear hb;obtain⟨dC,dD,dE,dF⟩:=zc2 a)|((with_reducible refine gate_callee (f:=28) rfl ?_);refine zgc (some 28) Try.func28 (soft_Sqrt.calls Z.out) ?_;intro eM hb;obtain⟨a,HB⟩:=zu1 a HB hb;clear hb;obtain⟨dG,dH,dI,dJ⟩:=zc2 a)|((with_reducible refine gate_callee (f:=16) rfl ?_);refine zgc (some 33) Try.func16 (soft_Mod.calls A5.out) ?_;intro dL hb;obtain⟨a,HB⟩:=zu1 a HB hb;clear hb;obtain⟨av,aw,ax,ay⟩:=zc2 a)|((with_reducible refine gate_callee (f:=39) rfl ?_);refine zgc (some 39) Try.func39 (soft_Floor.calls A6.out) ?_;intro dM hb;obtain⟨a,HB⟩:=zu1 a HB hb;clear hb;obtain⟨az,aA,aB,aC⟩:=zc2 a)|((with_reducible refine gate_callee (f:=40) rfl ?_);refine zgc (some 44) Try.func40 (soft_Ceil.calls A7.out) ?_;intro dN hb;obtain⟨a,HB⟩:=zu1 a HB hb;clear hb)|((with_reducible refine gate_callee (f:=18) rfl ?_);refine zgo (some 48) Try.func18 #[.int .i64 l] ?_;(with_reducible refine (grottolaw03_num.calls A8.out).mono ?_);rintro e w' ⟨rfl,⟨nd,rfl⟩⟩;refine⟨_,rfl,?_⟩)|((with_reducible refine gate_callee (f:=18) rfl ?_);refine zgo (some 50) Try.func18 #[.int .i64 m] ?_;(with_reducible refine (grottolaw03_num.calls A9.out).mono ?_);rintro e w' ⟨rfl,⟨nd,rfl⟩⟩;refine⟨_,rfl,?_⟩)|((with_reducible refine gate_callee (f:=18) rfl ?_);refine zgo (some 53) Try.func18 #[.int .i64 n] ?_;(with_reducible refine (grottolaw03_num.calls u.out).mono ?_);rintro e w' ⟨rfl,⟨nd,rfl⟩⟩;refine⟨_,rfl,?_⟩)|((with_reducible refine gate_callee (f:=18) rfl ?_);refine zgo (some 56) Try.func18 #[.int .i64 p] ?_;(with_reducible refine (grottolaw03_num.calls v.out).mono ?_);rintro e w' ⟨rfl,⟨nd,rfl⟩⟩;refine⟨_,rfl,?_⟩)|((with_reducible refine gate_callee (f:=18) rfl ?_);refine zgo (some 59) Try.func18 #[.int .i64 q] ?_;(with_reducible refine (grottolaw03_num.calls y.out).mono ?_);rintro e w' ⟨rfl,⟨nd,rfl⟩⟩;refine⟨_,rfl,?_⟩)|((with_reducible refine gate_callee (f:=18) rfl ?_);refine zgo (some 62) Try.func18 #[.int .i64 s] ?_;(with_reducible refine (grottolaw03_num.calls z.out).mono ?_);rintro e w' ⟨rfl,⟨nd,rfl⟩⟩;refine⟨_,rfl,?_⟩))
  go_ret
  exact zr HB
 rw[if_pos R] at H
 obtain⟨aj,ak⟩:=zt R
 clear R
 by_cases S:br=1068827891
 rotate_left
 ·rw[if_neg S] at H
  obtain⟨al,am⟩:=zf S
  obtain rfl:=Option.some.inj H
  go_enter Try.func19,Try.ntmps19
  go_wp2_with (first|((with_reducible refine gate_callee (f:=59) rfl ?_);refine zgc (some 15) Try.func59 (grottolaw03_single.calls  c d _ W.out) ?_;intro eA hb;replace HB:=zbs HB hb;clear hb)|((with_reducible refine gate_dst (N:=1) rfl ?_);refine zbox (N:=1) (cs:=#[.int .i64 0,.int .i64 0]) (t:=23) ?_;intro g hg eB hbox hb;have a:=Aside0.mk hbox;have i:=zge hg HB;have j:=zge hg HB;replace HB:=zbs HB hb;clear hb hbox hg;obtain⟨c5,c6,c7,c8⟩:=zc2 a)|((with_reducible refine gate_callee (f:=24) rfl ?_);refine zgc (some 18) Try.func24 (soft_Add.calls X.out) ?_;intro eC hb;replace a:=zkbo (o:=.cells #[.int .i64 c,.int .i64 d] 23 (0,0)) a hb;replace HB:=zbs HB hb;clear hb;obtain⟨c9,da,db,dc⟩:=zc2 a)|((with_reducible refine gate_callee (f:=34) rfl ?_);refine zgc (some 23) Try.func34 (soft_Div.calls Y.out) ?_;intro eD hb;obtain⟨a,HB⟩:=zu1 a HB hb;clear hb;obtain⟨dd,de,df,dg⟩:=zc2 a)|((with_reducible refine gate_callee (f:=28) rfl ?_);refine zgc (some 28) Try.func28 (soft_Sqrt.calls Z.out) ?_;intro eE hb;obtain⟨a,HB⟩:=zu1 a HB hb;clear hb;obtain⟨dh,di,dj,dk⟩:=zc2 a)|((with_reducible refine gate_callee (f:=16) rfl ?_);refine zgc (some 33) Try.func16 (soft_Mod.calls A5.out) ?_;intro eF hb;obtain⟨a,HB⟩:=zu1 a HB hb;clear hb;obtain⟨dl,dm,dn,dp⟩:=zc2 a)|((with_reducible refine gate_callee (f:=39) rfl ?_);refine zgc (some 39) Try.func39 (soft_Floor.calls A6.out) ?_;intro eG hb;obtain⟨a,HB⟩:=zu1 a HB hb;clear hb;obtain⟨dq,dr,ds,dt⟩:=zc2 a)|((with_reducible refine gate_callee (f:=40) rfl ?_);refine zgc (some 44) Try.func40 (soft_Ceil.calls A7.out) ?_;intro eH hb;obtain⟨a,HB⟩:=zu1 a HB hb;clear hb)|((with_reducible refine gate_callee (f:=18) rfl ?_);refine zgo (some 48) Try.func18 #[.int .i64 l] ?_;(with_reducible refine (grottolaw03_num.calls A8.out).mono ?_);rintro e w' ⟨rfl,⟨nd,rfl⟩⟩;refine⟨_,rfl,?_⟩)|((with_reducible refine gate_callee (f:=18) rfl ?_);refine zgo (some 50) Try.func18 #[.int .i64 m] ?_;(with_reducible refine (grottolaw03_num.calls A9.out).mono ?_);rintro e w' ⟨rfl,⟨nd,rfl⟩⟩;refine⟨_,rfl,?_⟩)|((with_reducible refine gate_callee (f:=18) rfl ?_);refine zgo (some 53) Try.func18 #[.int .i64 n] ?_;(with_reducible refine (grottolaw03_num.calls u.out).mono ?_);rintro e w' ⟨rfl,⟨nd,rfl⟩⟩;refine⟨_,rfl,?_⟩)|((with_reducible refine gate_callee (f:=18) rfl ?_);refine zgo (some 56) Try.func18 #[.int .i64 p] ?_;(with_reducible refine (grottolaw03_num.calls v.out).mono ?_);rintro e w' ⟨rfl,⟨nd,rfl⟩⟩;refine⟨_,rfl,?_⟩)|((with_reducible refine gate_callee (f:=18) rfl ?_);refine zgo (some 59) Try.func18 #[.int .i64 q] ?_;(with_reducible refine (grottolaw03_num.calls y.out).mono ?_);rintro e w' ⟨rfl,⟨nd,rfl⟩⟩;refine⟨_,rfl,?_⟩)|((with_reducible refine gate_callee (f:=18) rfl ?_);refine zgo (some 62) Try.func18 #[.int .i64 s] ?_;(with_reducible refine (grottolaw03_num.calls z.out).mono ?_);rintro e w' ⟨rfl,⟨nd,rfl⟩⟩;refine⟨_,rfl,?_⟩))
  go_ret
  exact zr HB
 rw[if_pos S] at H
 obtain⟨al,am⟩:=zt S
 clear S
 by_cases T:bs=1065353216
 ·rw[if_pos T] at H
  obtain⟨an,ao⟩:=zt T
  clear T
  by_cases U:bt=3225419776
  ·rw[if_pos U] at H
   obtain⟨ap,aq⟩:=zt U
   clear U
   by_cases V:bu=3212836864
   ·rw[if_pos V] at H
    obtain⟨ar,au⟩:=zt V
    clear V
    obtain rfl:=Option.some.inj H
    go_enter Try.func19,Try.ntmps19
    go_wp2_with (first|((with_reducible refine gate_callee (f:=59) rfl ?_);refine zgc (some 15) Try.func59 (grottolaw03_single.calls  c d _ W.out) ?_;intro d4 hb;replace HB:=zbs HB hb;clear hb)|((with_reducible refine gate_dst (N:=1) rfl ?_);refine zbox (N:=1) (cs:=#[.int .i64 0,.int .i64 0]) (t:=23) ?_;intro g hg d5 hbox hb;have a:=Aside0.mk hbox;have i:=zge hg HB;have j:=zge hg HB;replace HB:=zbs HB hb;clear hb hbox hg;obtain⟨bv,bw,bx,bz⟩:=zc2 a)|((with_reducible refine gate_callee (f:=24) rfl ?_);refine zgc (some 18) Try.func24 (soft_Add.calls X.out) ?_;intro d6 hb;replace a:=zkbo (o:=.cells #[.int .i64 c,.int .i64 d] 23 (0,0)) a hb;replace HB:=zbs HB hb;clear hb;obtain⟨bA,bB,bC,bD⟩:=zc2 a)|((with_reducible refine gate_callee (f:=34) rfl ?_);refine zgc (some 23) Try.func34 (soft_Div.calls Y.out) ?_;intro d7 hb;obtain⟨a,HB⟩:=zu1 a HB hb;clear hb;obtain⟨bE,bF,bG,bH⟩:=zc2 a)|((with_reducible refine gate_callee (f:=28) rfl ?_);refine zgc (some 28) Try.func28 (soft_Sqrt.calls Z.out) ?_;intro d8 hb;obtain⟨a,HB⟩:=zu1 a HB hb;clear hb;obtain⟨bI,bJ,bK,bL⟩:=zc2 a)|((with_reducible refine gate_callee (f:=16) rfl ?_);refine zgc (some 33) Try.func16 (soft_Mod.calls A5.out) ?_;intro d9 hb;obtain⟨a,HB⟩:=zu1 a HB hb;clear hb;obtain⟨bM,bN,bO,bP⟩:=zc2 a)|((with_reducible refine gate_callee (f:=39) rfl ?_);refine zgc (some 39) Try.func39 (soft_Floor.calls A6.out) ?_;intro ea hb;obtain⟨a,HB⟩:=zu1 a HB hb;clear hb;obtain⟨bQ,bR,bS,bT⟩:=zc2 a)|((with_reducible refine gate_callee (f:=40) rfl ?_);refine zgc (some 44) Try.func40 (soft_Ceil.calls A7.out) ?_;intro eb hb;obtain⟨a,HB⟩:=zu1 a HB hb;clear hb)|((with_reducible refine gate_callee (f:=18) rfl ?_);refine zgo (some 48) Try.func18 #[.int .i64 l] ?_;(with_reducible refine (grottolaw03_num.calls A8.out).mono ?_);rintro e w' ⟨rfl,⟨nd,rfl⟩⟩;refine⟨_,rfl,?_⟩)|((with_reducible refine gate_callee (f:=18) rfl ?_);refine zgo (some 50) Try.func18 #[.int .i64 m] ?_;(with_reducible refine (grottolaw03_num.calls A9.out).mono ?_);rintro e w' ⟨rfl,⟨nd,rfl⟩⟩;refine⟨_,rfl,?_⟩)|((with_reducible refine gate_callee (f:=18) rfl ?_);refine zgo (some 53) Try.func18 #[.int .i64 n] ?_;(with_reducible refine (grottolaw03_num.calls u.out).mono ?_);rintro e w' ⟨rfl,⟨nd,rfl⟩⟩;refine⟨_,rfl,?_⟩)|((with_reducible refine gate_callee (f:=18) rfl ?_);refine zgo (some 56) Try.func18 #[.int .i64 p] ?_;(with_reducible refine (grottolaw03_num.calls v.out).mono ?_);rintro e w' ⟨rfl,⟨nd,rfl⟩⟩;refine⟨_,rfl,?_⟩)|((with_reducible refine gate_callee (f:=18) rfl ?_);refine zgo (some 59) Try.func18 #[.int .i64 q] ?_;(with_reducible refine (grottolaw03_num.calls y.out).mono ?_);rintro e w' ⟨rfl,⟨nd,rfl⟩⟩;refine⟨_,rfl,?_⟩)|((with_reducible refine gate_callee (f:=18) rfl ?_);refine zgo (some 62) Try.func18 #[.int .i64 s] ?_;(with_reducible refine (grottolaw03_num.calls z.out).mono ?_);rintro e w' ⟨rfl,⟨nd,rfl⟩⟩;refine⟨_,rfl,?_⟩))
    go_ret
    exact zr HB
   rw[if_neg V] at H
   obtain⟨ar,au⟩:=zf V
   obtain rfl:=Option.some.inj H
   go_enter Try.func19,Try.ntmps19
   go_wp2_with (first|((with_reducible refine gate_callee (f:=59) rfl ?_);refine zgc (some 15) Try.func59 (grottolaw03_single.calls  c d _ W.out) ?_;intro ec hb;replace HB:=zbs HB hb;clear hb)|((with_reducible refine gate_dst (N:=1) rfl ?_);refine zbox (N:=1) (cs:=#[.int .i64 0,.int .i64 0]) (t:=23) ?_;intro g hg ed hbox hb;have a:=Aside0.mk hbox;have i:=zge hg HB;have j:=zge hg HB;replace HB:=zbs HB hb;clear hb hbox hg;obtain⟨bU,bV,bW,bX⟩:=zc2 a)|((with_reducible refine gate_callee (f:=24) rfl ?_);refine zgc (some 18) Try.func24 (soft_Add.calls X.out) ?_;intro ee hb;replace a:=zkbo (o:=.cells #[.int .i64 c,.int .i64 d] 23 (0,0)) a hb;replace HB:=zbs HB hb;clear hb;obtain⟨bY,bZ,b0,b1⟩:=zc2 a)|((with_reducible refine gate_callee (f:=34) rfl ?_);refine zgc (some 23) Try.func34 (soft_Div.calls Y.out) ?_;intro ef hb;obtain⟨a,HB⟩:=zu1 a HB hb;clear hb;obtain⟨b2,b3,b4,b5⟩:=zc2 a)|((with_reducible refine gate_callee (f:=28) rfl ?_);refine zgc (some 28) Try.func28 (soft_Sqrt.calls Z.out) ?_;intro eg hb;obtain⟨a,HB⟩:=zu1 a HB hb;clear hb;obtain⟨b6,b7,b8,b9⟩:=zc2 a)|((with_reducible refine gate_callee (f:=16) rfl ?_);refine zgc (some 33) Try.func16 (soft_Mod.calls A5.out) ?_;intro eh hb;obtain⟨a,HB⟩:=zu1 a HB hb;clear hb;obtain⟨ca,cb,cc,cd⟩:=zc2 a)|((with_reducible refine gate_callee (f:=39) rfl ?_);refine zgc (some 39) Try.func39 (soft_Floor.calls A6.out) ?_;intro ei hb;obtain⟨a,HB⟩:=zu1 a HB hb;clear hb;obtain⟨ce,cf,cg,ch⟩:=zc2 a)|((with_reducible refine gate_callee (f:=40) rfl ?_);refine zgc (some 44) Try.func40 (soft_Ceil.calls A7.out) ?_;intro ej hb;obtain⟨a,HB⟩:=zu1 a HB hb;clear hb)|((with_reducible refine gate_callee (f:=18) rfl ?_);refine zgo (some 48) Try.func18 #[.int .i64 l] ?_;(with_reducible refine (grottolaw03_num.calls A8.out).mono ?_);rintro e w' ⟨rfl,⟨nd,rfl⟩⟩;refine⟨_,rfl,?_⟩)|((with_reducible refine gate_callee (f:=18) rfl ?_);refine zgo (some 50) Try.func18 #[.int .i64 m] ?_;(with_reducible refine (grottolaw03_num.calls A9.out).mono ?_);rintro e w' ⟨rfl,⟨nd,rfl⟩⟩;refine⟨_,rfl,?_⟩)|((with_reducible refine gate_callee (f:=18) rfl ?_);refine zgo (some 53) Try.func18 #[.int .i64 n] ?_;(with_reducible refine (grottolaw03_num.calls u.out).mono ?_);rintro e w' ⟨rfl,⟨nd,rfl⟩⟩;refine⟨_,rfl,?_⟩)|((with_reducible refine gate_callee (f:=18) rfl ?_);refine zgo (some 56) Try.func18 #[.int .i64 p] ?_;(with_reducible refine (grottolaw03_num.calls v.out).mono ?_);rintro e w' ⟨rfl,⟨nd,rfl⟩⟩;refine⟨_,rfl,?_⟩)|((with_reducible refine gate_callee (f:=18) rfl ?_);refine zgo (some 59) Try.func18 #[.int .i64 q] ?_;(with_reducible refine (grottolaw03_num.calls y.out).mono ?_);rintro e w' ⟨rfl,⟨nd,rfl⟩⟩;refine⟨_,rfl,?_⟩)|((with_reducible refine gate_callee (f:=18) rfl ?_);refine zgo (some 62) Try.func18 #[.int .i64 s] ?_;(with_reducible refine (grottolaw03_num.calls z.out).mono ?_);rintro e w' ⟨rfl,⟨nd,rfl⟩⟩;refine⟨_,rfl,?_⟩))
   go_ret
   exact zr HB
  rw[if_neg U] at H
  obtain⟨ap,aq⟩:=zf U
  obtain rfl:=Option.some.inj H
  go_enter Try.func19,Try.ntmps19
  go_wp2_with (first|((with_reducible refine gate_callee (f:=59) rfl ?_);refine zgc (some 15) Try.func59 (grottolaw03_single.calls  c d _ W.out) ?_;intro ek hb;replace HB:=zbs HB hb;clear hb)|((with_reducible refine gate_dst (N:=1) rfl ?_);refine zbox (N:=1) (cs:=#[.int .i64 0,.int .i64 0]) (t:=23) ?_;intro g hg el hbox hb;have a:=Aside0.mk hbox;have i:=zge hg HB;have j:=zge hg HB;replace HB:=zbs HB hb;clear hb hbox hg;obtain⟨ci,cj,ck,cl⟩:=zc2 a)|((with_reducible refine gate_callee (f:=24) rfl ?_);refine zgc (some 18) Try.func24 (soft_Add.calls X.out) ?_;intro em hb;replace a:=zkbo (o:=.cells #[.int .i64 c,.int .i64 d] 23 (0,0)) a hb;replace HB:=zbs HB hb;clear hb;obtain⟨cm,cn,co,cp⟩:=zc2 a)|((with_reducible refine gate_callee (f:=34) rfl ?_);refine zgc (some 23) Try.func34 (soft_Div.calls Y.out) ?_;intro en hb;obtain⟨a,HB⟩:=zu1 a HB hb;clear hb;obtain⟨cq,cr,ct,cu⟩:=zc2 a)|((with_reducible refine gate_callee (f:=28) rfl ?_);refine zgc (some 28) Try.func28 (soft_Sqrt.calls Z.out) ?_;intro eo hb;obtain⟨a,HB⟩:=zu1 a HB hb;clear hb;obtain⟨cv,cw,cx,cy⟩:=zc2 a)|((with_reducible refine gate_callee (f:=16) rfl ?_);refine zgc (some 33) Try.func16 (soft_Mod.calls A5.out) ?_;intro ep hb;obtain⟨a,HB⟩:=zu1 a HB hb;clear hb;obtain⟨cz,cA,cB,cC⟩:=zc2 a)|((with_reducible refine gate_callee (f:=39) rfl ?_);refine zgc (some 39) Try.func39 (soft_Floor.calls A6.out) ?_;intro eq hb;obtain⟨a,HB⟩:=zu1 a HB hb;clear hb;obtain⟨cD,cE,cF,cG⟩:=zc2 a)|((with_reducible refine gate_callee (f:=40) rfl ?_);refine zgc (some 44) Try.func40 (soft_Ceil.calls A7.out) ?_;intro er hb;obtain⟨a,HB⟩:=zu1 a HB hb;clear hb)|((with_reducible refine gate_callee (f:=18) rfl ?_);refine zgo (some 48) Try.func18 #[.int .i64 l] ?_;(with_reducible refine (grottolaw03_num.calls A8.out).mono ?_);rintro e w' ⟨rfl,⟨nd,rfl⟩⟩;refine⟨_,rfl,?_⟩)|((with_reducible refine gate_callee (f:=18) rfl ?_);refine zgo (some 50) Try.func18 #[.int .i64 m] ?_;(with_reducible refine (grottolaw03_num.calls A9.out).mono ?_);rintro e w' ⟨rfl,⟨nd,rfl⟩⟩;refine⟨_,rfl,?_⟩)|((with_reducible refine gate_callee (f:=18) rfl ?_);refine zgo (some 53) Try.func18 #[.int .i64 n] ?_;(with_reducible refine (grottolaw03_num.calls u.out).mono ?_);rintro e w' ⟨rfl,⟨nd,rfl⟩⟩;refine⟨_,rfl,?_⟩)|((with_reducible refine gate_callee (f:=18) rfl ?_);refine zgo (some 56) Try.func18 #[.int .i64 p] ?_;(with_reducible refine (grottolaw03_num.calls v.out).mono ?_);rintro e w' ⟨rfl,⟨nd,rfl⟩⟩;refine⟨_,rfl,?_⟩)|((with_reducible refine gate_callee (f:=18) rfl ?_);refine zgo (some 59) Try.func18 #[.int .i64 q] ?_;(with_reducible refine (grottolaw03_num.calls y.out).mono ?_);rintro e w' ⟨rfl,⟨nd,rfl⟩⟩;refine⟨_,rfl,?_⟩)|((with_reducible refine gate_callee (f:=18) rfl ?_);refine zgo (some 62) Try.func18 #[.int .i64 s] ?_;(with_reducible refine (grottolaw03_num.calls z.out).mono ?_);rintro e w' ⟨rfl,⟨nd,rfl⟩⟩;refine⟨_,rfl,?_⟩))
  go_ret
  exact zr HB
 rw[if_neg T] at H
 obtain⟨an,ao⟩:=zf T
 obtain rfl:=Option.some.inj H
 go_enter Try.func19,Try.ntmps19
 go_wp2_with (first|((with_reducible refine gate_callee (f:=59) rfl ?_);refine zgc (some 15) Try.func59 (grottolaw03_single.calls  c d _ W.out) ?_;intro es hb;replace HB:=zbs HB hb;clear hb)|((with_reducible refine gate_dst (N:=1) rfl ?_);refine zbox (N:=1) (cs:=#[.int .i64 0,.int .i64 0]) (t:=23) ?_;intro g hg et hbox hb;have a:=Aside0.mk hbox;have i:=zge hg HB;have j:=zge hg HB;replace HB:=zbs HB hb;clear hb hbox hg;obtain⟨cH,cI,cJ,cK⟩:=zc2 a)|((with_reducible refine gate_callee (f:=24) rfl ?_);refine zgc (some 18) Try.func24 (soft_Add.calls X.out) ?_;intro eu hb;replace a:=zkbo (o:=.cells #[.int .i64 c,.int .i64 d] 23 (0,0)) a hb;replace HB:=zbs HB hb;clear hb;obtain⟨cL,cM,cN,cO⟩:=zc2 a)|((with_reducible refine gate_callee (f:=34) rfl ?_);refine zgc (some 23) Try.func34 (soft_Div.calls Y.out) ?_;intro ev hb;obtain⟨a,HB⟩:=zu1 a HB hb;clear hb;obtain⟨cP,cQ,cR,cS⟩:=zc2 a)|((with_reducible refine gate_callee (f:=28) rfl ?_);refine zgc (some 28) Try.func28 (soft_Sqrt.calls Z.out) ?_;intro ew hb;obtain⟨a,HB⟩:=zu1 a HB hb;clear hb;obtain⟨cT,cU,cV,cW⟩:=zc2 a)|((with_reducible refine gate_callee (f:=16) rfl ?_);refine zgc (some 33) Try.func16 (soft_Mod.calls A5.out) ?_;intro ex hb;obtain⟨a,HB⟩:=zu1 a HB hb;clear hb;obtain⟨cX,cY,cZ,c0⟩:=zc2 a)|((with_reducible refine gate_callee (f:=39) rfl ?_);refine zgc (some 39) Try.func39 (soft_Floor.calls A6.out) ?_;intro ey hb;obtain⟨a,HB⟩:=zu1 a HB hb;clear hb;obtain⟨c1,c2,c3,c4⟩:=zc2 a)|((with_reducible refine gate_callee (f:=40) rfl ?_);refine zgc (some 44) Try.func40 (soft_Ceil.calls A7.out) ?_;intro ez hb;obtain⟨a,HB⟩:=zu1 a HB hb;clear hb)|((with_reducible refine gate_callee (f:=18) rfl ?_);refine zgo (some 48) Try.func18 #[.int .i64 l] ?_;(with_reducible refine (grottolaw03_num.calls A8.out).mono ?_);rintro e w' ⟨rfl,⟨nd,rfl⟩⟩;refine⟨_,rfl,?_⟩)|((with_reducible refine gate_callee (f:=18) rfl ?_);refine zgo (some 50) Try.func18 #[.int .i64 m] ?_;(with_reducible refine (grottolaw03_num.calls A9.out).mono ?_);rintro e w' ⟨rfl,⟨nd,rfl⟩⟩;refine⟨_,rfl,?_⟩)|((with_reducible refine gate_callee (f:=18) rfl ?_);refine zgo (some 53) Try.func18 #[.int .i64 n] ?_;(with_reducible refine (grottolaw03_num.calls u.out).mono ?_);rintro e w' ⟨rfl,⟨nd,rfl⟩⟩;refine⟨_,rfl,?_⟩)|((with_reducible refine gate_callee (f:=18) rfl ?_);refine zgo (some 56) Try.func18 #[.int .i64 p] ?_;(with_reducible refine (grottolaw03_num.calls v.out).mono ?_);rintro e w' ⟨rfl,⟨nd,rfl⟩⟩;refine⟨_,rfl,?_⟩)|((with_reducible refine gate_callee (f:=18) rfl ?_);refine zgo (some 59) Try.func18 #[.int .i64 q] ?_;(with_reducible refine (grottolaw03_num.calls y.out).mono ?_);rintro e w' ⟨rfl,⟨nd,rfl⟩⟩;refine⟨_,rfl,?_⟩)|((with_reducible refine gate_callee (f:=18) rfl ?_);refine zgo (some 62) Try.func18 #[.int .i64 s] ?_;(with_reducible refine (grottolaw03_num.calls z.out).mono ?_);rintro e w' ⟨rfl,⟨nd,rfl⟩⟩;refine⟨_,rfl,?_⟩))
 go_ret
 exact zr HB
end Go.Proofs.Ytmmbgbchimangaa.PQ
