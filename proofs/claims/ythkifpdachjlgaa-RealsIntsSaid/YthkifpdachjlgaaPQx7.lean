-- by a program of this claim
import Derived.Test.YthkifpdachjlgaaPQx0
import Derived.Test.YthkifpdachjlgaaPQx1
import Derived.Test.YthkifpdachjlgaaPQx2
import Derived.Test.YthkifpdachjlgaaPQx3
import Derived.Test.YthkifpdachjlgaaPQx4
import Derived.Test.YthkifpdachjlgaaPQx5
import Derived.Test.YthkifpdachjlgaaPQx6
namespace Go.Proofs.Ythkifpdachjlgaa.PQ
open Go.RowKit Go.Proofs.YthkifpdachjlgaaW.PrintWords Go.Proofs.YthkifpdachjlgaaW.PrintLast Go.Proofs.YthkifpdachjlgaaW.PrintMore Go.Proofs.Ythkifpdachjlgaa.Z
attribute [local go_sem] max2_int min2_int max_two min_two max_three min_three max_four min_four   -- for this text's walks alone
set_option linter.unusedVariables false
set_option linter.unusedSimpArgs false

/-! ### soft_step: function 109 -/
def soft_step.f (k:Nat) (a0_0:Int) (a0_1:Int) (a1:Int) (a2:Bool):Option (Int×Int):=(round_Open.f k a0_0 a0_1 a1).bind fun a=>(if a.2.2.2.2=0 then (if a.1=4 then ((round_NaN.f a0_0 a0_1).bind fun g=>(some (g,0))) else (if a.1=2 then (if a.2.2.1≥0 then (some (a1,0)) else ((soft_whole.f a.1 a.2.1 a.2.2.1 a.2.2.2.1).bind fun b=>(if b.2>0 then (if (a.2.1 != a2)=true then ((round_Pack.f k a0_0 a0_1 a.2.1 0 (IntKind.u64.wrap (b.1+1)) 0 false).bind fun c=>(some (c.1,c.2))) else ((round_Pack.f k a0_0 a0_1 a.2.1 0 b.1 0 false).bind fun d=>(some (d.1,d.2)))) else ((round_Pack.f k a0_0 a0_1 a.2.1 0 b.1 0 false).bind fun e=>(some (e.1,e.2)))))) else (some (a1,0)))) else (some (0,a.2.2.2.2)))
theorem soft_step.mono:∀ a0 a1 a2 a3 k,LeO (soft_step.f k a0 a1 a2 a3) (soft_step.f (k+1) a0 a1 a2 a3):=by
 intro a0 a1 a2 a3 k
 unfold soft_step.f
 repeat' first|(with_reducible first|apply round_Open.mono|apply round_Pack.mono|exact LeO.refl _|exact LeO.none _|refine LeO.ite ?_ ?_|refine LeO.bind ?_ (fun _=>?_))|refine LeO.ite ?_ ?_|refine LeO.bind ?_ (fun _=>?_)
set_option maxHeartbeats 8000000 in
set_option maxRecDepth 100000 in
theorem soft_step.calls {k:Nat} {i:Int} {j:Int} {X:Int} {F:Bool} {r1:Int} {r2:Int} {w:World} (h:soft_step.f k i j X F=some (r1,r2)) :
  Calls Try.prog 109 #[.agg #[.int .i64 i,.int .i64 j],.int .u64 X,.bool F] w fun e w'=>e=.returned (.tuple #[.int .u64 r1,.int .i64 r2])∧Below w.heap.size w w':=by
 have hu58:=Try.underlying58
 have hu89:=Try.underlying89
 have HB:=Aside0.mk (Below.refl w.heap.size w)
 have H:=h
 unfold soft_step.f at H
 clear h
 obtain⟨⟨z,l,v,C,Y⟩,O,H⟩:=oB H
 try dsimp only at H
 by_cases Z:Y=0
 ·rw[if_pos Z] at H
  obtain⟨aa,ab⟩:=zt Z
  clear Z
  by_cases c6:z=4
  ·rw[if_pos c6] at H
   obtain⟨ad,ae⟩:=zt c6
   clear c6
   obtain⟨M,A7,H⟩:=oB H
   simp only[Option.some.injEq,Prod.mk.injEq] at H
   obtain⟨rfl,rfl⟩:=H
   go_enter Try.func109,Try.ntmps109
   go_wp2_with (first|((with_reducible refine gate_dst (N:=3) rfl ?_);refine zbox (N:=3) (cs:=#[.int .i64 i,.int .i64 j]) (t:=58) ?_;intro m hg w8 hbox hb;have a:=Aside0.mk hbox;have n:=zge hg HB;have p:=zge hg HB;replace HB:=zbs HB hb;clear hb hbox hg;obtain⟨cg,ch,ci,cj⟩:=zc2 a)|((with_reducible refine gate_callee (f:=95) rfl ?_);refine zgc (some 15) Try.func95 (round_Open.calls O.out) ?_;intro cN hb;obtain⟨a,HB⟩:=zu1 a HB hb;clear hb)|((with_reducible refine gate_dst (N:=8) rfl ?_);refine zbox (N:=8) (cs:=#[.int .i64 0,.bool false,.int .i64 0,.int .u64 0]) (t:=89) ?_;intro q hg cO hbox hb;have b:=Aside0.mk hbox;have s:=zge hg HB;have u:=zge hg HB;have g:=znl hg a;have c:=zng hg a;obtain⟨a,HB⟩:=zu1 a HB hb;clear hb hbox hg;obtain⟨cm,cn⟩:=z2 c;obtain⟨af,ag,ah,ai,aj,ak,al,am⟩:=zc4 b;obtain⟨an,ao,ap,aq⟩:=zc2 a)|((with_reducible refine gate_callee (f:=97) rfl ?_);refine zgc (some 27) Try.func97 (round_NaN.calls A7.out) ?_;intro cP hb;replace a:=zkb a hb;replace b:=zkbo (o:=.cells #[.int .i64 z,.bool l,.int .i64 v,.int .u64 C] 89 (0,0)) b hb;replace HB:=zbs HB hb;clear hb))
   go_ret2
   exact zr HB
  rw[if_neg c6] at H
  obtain⟨ad,ae⟩:=zf c6
  by_cases K:z=2
  ·rw[if_pos K] at H
   obtain⟨P,Q⟩:=zt K
   clear K
   by_cases D:v≥0
   ·rw[if_pos D] at H
    have R:decide (0≤v)=true:=decide_eq_true D
    clear D
    simp only[Option.some.injEq,Prod.mk.injEq] at H
    obtain⟨rfl,rfl⟩:=H
    go_enter Try.func109,Try.ntmps109
    go_wp2_with (first|((with_reducible refine gate_dst (N:=3) rfl ?_);refine zbox (N:=3) (cs:=#[.int .i64 i,.int .i64 j]) (t:=58) ?_;intro m hg cQ hbox hb;have a:=Aside0.mk hbox;have n:=zge hg HB;have p:=zge hg HB;replace HB:=zbs HB hb;clear hb hbox hg;obtain⟨ar,au,av,aw⟩:=zc2 a)|((with_reducible refine gate_callee (f:=95) rfl ?_);refine zgc (some 15) Try.func95 (round_Open.calls O.out) ?_;intro cR hb;obtain⟨a,HB⟩:=zu1 a HB hb;clear hb)|((with_reducible refine gate_dst (N:=8) rfl ?_);refine zbox (N:=8) (cs:=#[.int .i64 0,.bool false,.int .i64 0,.int .u64 0]) (t:=89) ?_;intro q hg cS hbox hb;have b:=Aside0.mk hbox;have s:=zge hg HB;have u:=zge hg HB;have g:=znl hg a;have c:=zng hg a;obtain⟨a,HB⟩:=zu1 a HB hb;clear hb hbox hg;obtain⟨co,cp⟩:=z2 c;obtain⟨ax,ay,az,aA,aB,aC,aD,aE⟩:=zc4 b))
    go_ret2
    exact zr HB
   rw[if_neg D] at H
   have R:decide (0≤v)=false:=decide_eq_false D
   clear D
   obtain⟨⟨cF,L⟩,S,H⟩:=oB H
   try dsimp only at H
   by_cases E:L>0
   ·rw[if_pos E] at H
    have T:decide (0<L)=true:=decide_eq_true E
    clear E
    by_cases y:(l != F)=true
    ·rw[if_pos y] at H
     have U:(l != F)=true:=y
     (try (have V:decide (l=F)=false:=by simpa using y))
     (try (have W:(l==F)=false:=by simpa using y))
     (try (have cq:¬ (l=F):=by simpa using y))
     clear y
     obtain⟨⟨cG,cH⟩,cr,H⟩:=oB H
     try dsimp only at H
     simp only[Option.some.injEq,Prod.mk.injEq] at H
     obtain⟨rfl,rfl⟩:=H
     go_enter Try.func109,Try.ntmps109
     go_wp2_with (first|((with_reducible refine gate_dst (N:=3) rfl ?_);refine zbox (N:=3) (cs:=#[.int .i64 i,.int .i64 j]) (t:=58) ?_;intro m hg cT hbox hb;have a:=Aside0.mk hbox;have n:=zge hg HB;have p:=zge hg HB;replace HB:=zbs HB hb;clear hb hbox hg;obtain⟨aF,aG,aH,aI⟩:=zc2 a)|((with_reducible refine gate_callee (f:=95) rfl ?_);refine zgc (some 15) Try.func95 (round_Open.calls O.out) ?_;intro cU hb;obtain⟨a,HB⟩:=zu1 a HB hb;clear hb)|((with_reducible refine gate_dst (N:=8) rfl ?_);refine zbox (N:=8) (cs:=#[.int .i64 0,.bool false,.int .i64 0,.int .u64 0]) (t:=89) ?_;intro q hg cV hbox hb;have b:=Aside0.mk hbox;have s:=zge hg HB;have u:=zge hg HB;have g:=znl hg a;have c:=zng hg a;obtain⟨a,HB⟩:=zu1 a HB hb;clear hb hbox hg;obtain⟨ct,cu⟩:=z2 c;obtain⟨aJ,aK,aL,aM,aN,aO,aP,aQ⟩:=zc4 b)|((with_reducible refine gate_callee (f:=117) rfl ?_);refine zgc (some 40) Try.func117 (soft_whole.calls S.out) ?_;intro cW hb;replace a:=zkb a hb;replace b:=zkbo (o:=.cells #[.int .i64 z,.bool l,.int .i64 v,.int .u64 C] 89 (0,0)) b hb;replace HB:=zbs HB hb;clear hb;obtain⟨aR,aS,aT,aU,aV,aW,aX,aY⟩:=zc4 b;obtain⟨aZ,a0,a3,a4⟩:=zc2 a)|((with_reducible refine gate_callee (f:=87) rfl ?_);refine zgc (some 57) Try.func87 (round_Pack.calls cr.out) ?_;intro cX hb;obtain⟨a,b,HB⟩:=zu2 a b HB hb;clear hb))
     go_ret2
     exact zr HB
    rw[if_neg y] at H
    have U:(l != F)=false:=by simpa using y
    (try (have V:decide (l=F)=true:=by simpa using y))
    (try (have W:(l==F)=true:=by simpa using y))
    clear y
    obtain⟨⟨cI,cJ⟩,cv,H⟩:=oB H
    try dsimp only at H
    simp only[Option.some.injEq,Prod.mk.injEq] at H
    obtain⟨rfl,rfl⟩:=H
    go_enter Try.func109,Try.ntmps109
    go_wp2_with (first|((with_reducible refine gate_dst (N:=3) rfl ?_);refine zbox (N:=3) (cs:=#[.int .i64 i,.int .i64 j]) (t:=58) ?_;intro m hg cY hbox hb;have a:=Aside0.mk hbox;have n:=zge hg HB;have p:=zge hg HB;replace HB:=zbs HB hb;clear hb hbox hg;obtain⟨a5,a6,a7,a8⟩:=zc2 a)|((with_reducible refine gate_callee (f:=95) rfl ?_);refine zgc (some 15) Try.func95 (round_Open.calls O.out) ?_;intro cZ hb;obtain⟨a,HB⟩:=zu1 a HB hb;clear hb)|((with_reducible refine gate_dst (N:=8) rfl ?_);refine zbox (N:=8) (cs:=#[.int .i64 0,.bool false,.int .i64 0,.int .u64 0]) (t:=89) ?_;intro q hg c0 hbox hb;have b:=Aside0.mk hbox;have s:=zge hg HB;have u:=zge hg HB;have g:=znl hg a;have c:=zng hg a;obtain⟨a,HB⟩:=zu1 a HB hb;clear hb hbox hg;obtain⟨cw,cx⟩:=z2 c;obtain⟨a9,ba,bb,bc,bd,be,bf,bg⟩:=zc4 b)|((with_reducible refine gate_callee (f:=117) rfl ?_);refine zgc (some 40) Try.func117 (soft_whole.calls S.out) ?_;intro c1 hb;replace a:=zkb a hb;replace b:=zkbo (o:=.cells #[.int .i64 z,.bool l,.int .i64 v,.int .u64 C] 89 (0,0)) b hb;replace HB:=zbs HB hb;clear hb;obtain⟨bh,bi,bj,bk,bl,bm,bn,bo⟩:=zc4 b;obtain⟨bp,bq,br,bs⟩:=zc2 a)|((with_reducible refine gate_callee (f:=87) rfl ?_);refine zgc (some 57) Try.func87 (round_Pack.calls cv.out) ?_;intro c2 hb;obtain⟨a,b,HB⟩:=zu2 a b HB hb;clear hb))
    go_ret2
    exact zr HB
   rw[if_neg E] at H
   have T:decide (0<L)=false:=decide_eq_false E
   clear E
   obtain⟨⟨cK,cL⟩,cy,H⟩:=oB H
   try dsimp only at H
   simp only[Option.some.injEq,Prod.mk.injEq] at H
   obtain⟨rfl,rfl⟩:=H
   go_enter Try.func109,Try.ntmps109
   go_wp2_with (first|((with_reducible refine gate_dst (N:=3) rfl ?_);refine zbox (N:=3) (cs:=#[.int .i64 i,.int .i64 j]) (t:=58) ?_;intro m hg c3 hbox hb;have a:=Aside0.mk hbox;have n:=zge hg HB;have p:=zge hg HB;replace HB:=zbs HB hb;clear hb hbox hg;obtain⟨bt,bu,bv,bw⟩:=zc2 a)|((with_reducible refine gate_callee (f:=95) rfl ?_);refine zgc (some 15) Try.func95 (round_Open.calls O.out) ?_;intro c4 hb;obtain⟨a,HB⟩:=zu1 a HB hb;clear hb)|((with_reducible refine gate_dst (N:=8) rfl ?_);refine zbox (N:=8) (cs:=#[.int .i64 0,.bool false,.int .i64 0,.int .u64 0]) (t:=89) ?_;intro q hg c7 hbox hb;have b:=Aside0.mk hbox;have s:=zge hg HB;have u:=zge hg HB;have g:=znl hg a;have c:=zng hg a;obtain⟨a,HB⟩:=zu1 a HB hb;clear hb hbox hg;obtain⟨cz,cA⟩:=z2 c;obtain⟨bx,bz,bA,bB,bC,bD,bE,bF⟩:=zc4 b)|((with_reducible refine gate_callee (f:=117) rfl ?_);refine zgc (some 40) Try.func117 (soft_whole.calls S.out) ?_;intro c8 hb;replace a:=zkb a hb;replace b:=zkbo (o:=.cells #[.int .i64 z,.bool l,.int .i64 v,.int .u64 C] 89 (0,0)) b hb;replace HB:=zbs HB hb;clear hb;obtain⟨bG,bH,bI,bJ⟩:=zc2 a;obtain⟨bK,bL,bM,bN,bO,bP,bQ,bR⟩:=zc4 b)|((with_reducible refine gate_callee (f:=87) rfl ?_);refine zgc (some 57) Try.func87 (round_Pack.calls cy.out) ?_;intro c9 hb;obtain⟨a,b,HB⟩:=zu2 a b HB hb;clear hb))
   go_ret2
   exact zr HB
  rw[if_neg K] at H
  obtain⟨P,Q⟩:=zf K
  simp only[Option.some.injEq,Prod.mk.injEq] at H
  obtain⟨rfl,rfl⟩:=H
  go_enter Try.func109,Try.ntmps109
  go_wp2_with (first|((with_reducible refine gate_dst (N:=3) rfl ?_);refine zbox (N:=3) (cs:=#[.int .i64 i,.int .i64 j]) (t:=58) ?_;intro m hg da hbox hb;have a:=Aside0.mk hbox;have n:=zge hg HB;have p:=zge hg HB;replace HB:=zbs HB hb;clear hb hbox hg;obtain⟨bS,bT,bU,bV⟩:=zc2 a)|((with_reducible refine gate_callee (f:=95) rfl ?_);refine zgc (some 15) Try.func95 (round_Open.calls O.out) ?_;intro db hb;obtain⟨a,HB⟩:=zu1 a HB hb;clear hb)|((with_reducible refine gate_dst (N:=8) rfl ?_);refine zbox (N:=8) (cs:=#[.int .i64 0,.bool false,.int .i64 0,.int .u64 0]) (t:=89) ?_;intro q hg dc hbox hb;have b:=Aside0.mk hbox;have s:=zge hg HB;have u:=zge hg HB;have g:=znl hg a;have c:=zng hg a;obtain⟨a,HB⟩:=zu1 a HB hb;clear hb hbox hg;obtain⟨cB,cC⟩:=z2 c;obtain⟨bW,bX,bY,bZ,b0,b1,b2,b3⟩:=zc4 b))
  go_ret2
  exact zr HB
 rw[if_neg Z] at H
 obtain⟨aa,ab⟩:=zf Z
 simp only[Option.some.injEq,Prod.mk.injEq] at H
 obtain⟨rfl,rfl⟩:=H
 go_enter Try.func109,Try.ntmps109
 go_wp2_with (first|((with_reducible refine gate_dst (N:=3) rfl ?_);refine zbox (N:=3) (cs:=#[.int .i64 i,.int .i64 j]) (t:=58) ?_;intro m hg dd hbox hb;have a:=Aside0.mk hbox;have n:=zge hg HB;have p:=zge hg HB;replace HB:=zbs HB hb;clear hb hbox hg;obtain⟨b4,b5,b6,b7⟩:=zc2 a)|((with_reducible refine gate_callee (f:=95) rfl ?_);refine zgc (some 15) Try.func95 (round_Open.calls O.out) ?_;intro de hb;obtain⟨a,HB⟩:=zu1 a HB hb;clear hb)|((with_reducible refine gate_dst (N:=8) rfl ?_);refine zbox (N:=8) (cs:=#[.int .i64 0,.bool false,.int .i64 0,.int .u64 0]) (t:=89) ?_;intro q hg df hbox hb;have b:=Aside0.mk hbox;have s:=zge hg HB;have u:=zge hg HB;have g:=znl hg a;have c:=zng hg a;obtain⟨a,HB⟩:=zu1 a HB hb;clear hb hbox hg;obtain⟨cD,cE⟩:=z2 c;obtain⟨b8,b9,ca,cb,cc,cd,ce,cf⟩:=zc4 b))
 go_ret2
 exact zr HB

/-! ### soft_Ceil: function 64 -/
def soft_Ceil.f (k:Nat) (a0_0:Int) (a0_1:Int) (a1:Int):Option (Int×Int):=(soft_step.f k a0_0 a0_1 a1 true).bind fun a=>(some (a.1,a.2))
theorem soft_Ceil.mono:∀ a0 a1 a2 k,LeO (soft_Ceil.f k a0 a1 a2) (soft_Ceil.f (k+1) a0 a1 a2):=by
 intro a0 a1 a2 k
 unfold soft_Ceil.f
 repeat' first|(with_reducible first|apply soft_step.mono|exact LeO.refl _|exact LeO.none _|refine LeO.ite ?_ ?_|refine LeO.bind ?_ (fun _=>?_))|refine LeO.ite ?_ ?_|refine LeO.bind ?_ (fun _=>?_)
set_option maxHeartbeats 8000000 in
set_option maxRecDepth 100000 in
theorem soft_Ceil.calls {k:Nat} {b:Int} {c:Int} {m:Int} {n:Int} {o:Int} {w:World} (h:soft_Ceil.f k b c m=some (n,o)) :
  Calls Try.prog 64 #[.agg #[.int .i64 b,.int .i64 c],.int .u64 m] w fun e w'=>e=.returned (.tuple #[.int .u64 n,.int .i64 o])∧Below w.heap.size w w':=by
 have hu58:=Try.underlying58
 have HB:=Aside0.mk (Below.refl w.heap.size w)
 have H:=h
 unfold soft_Ceil.f at H
 clear h
 obtain⟨⟨u,v⟩,y,H⟩:=oB H
 try dsimp only at H
 simp only[Option.some.injEq,Prod.mk.injEq] at H
 obtain⟨rfl,rfl⟩:=H
 go_enter Try.func64,Try.ntmps64
 go_wp2_with (first|((with_reducible refine gate_dst (N:=2) rfl ?_);refine zbox (N:=2) (cs:=#[.int .i64 b,.int .i64 c]) (t:=58) ?_;intro p hg z hbox hb;have a:=Aside0.mk hbox;have q:=zge hg HB;have s:=zge hg HB;replace HB:=zbs HB hb;clear hb hbox hg;obtain⟨g,i,j,l⟩:=zc2 a)|((with_reducible refine gate_callee (f:=109) rfl ?_);refine zgc (some 8) Try.func109 (soft_step.calls y.out) ?_;intro B hb;obtain⟨a,HB⟩:=zu1 a HB hb;clear hb))
 go_ret2
 exact zr HB

/-! ### soft_Floor: function 65 -/
def soft_Floor.f (k:Nat) (a0_0:Int) (a0_1:Int) (a1:Int):Option (Int×Int):=(soft_step.f k a0_0 a0_1 a1 false).bind fun a=>(some (a.1,a.2))
theorem soft_Floor.mono:∀ a0 a1 a2 k,LeO (soft_Floor.f k a0 a1 a2) (soft_Floor.f (k+1) a0 a1 a2):=by
 intro a0 a1 a2 k
 unfold soft_Floor.f
 repeat' first|(with_reducible first|apply soft_step.mono|exact LeO.refl _|exact LeO.none _|refine LeO.ite ?_ ?_|refine LeO.bind ?_ (fun _=>?_))|refine LeO.ite ?_ ?_|refine LeO.bind ?_ (fun _=>?_)
set_option maxHeartbeats 8000000 in
set_option maxRecDepth 100000 in
theorem soft_Floor.calls {k:Nat} {b:Int} {c:Int} {m:Int} {n:Int} {o:Int} {w:World} (h:soft_Floor.f k b c m=some (n,o)) :
  Calls Try.prog 65 #[.agg #[.int .i64 b,.int .i64 c],.int .u64 m] w fun e w'=>e=.returned (.tuple #[.int .u64 n,.int .i64 o])∧Below w.heap.size w w':=by
 have hu58:=Try.underlying58
 have HB:=Aside0.mk (Below.refl w.heap.size w)
 have H:=h
 unfold soft_Floor.f at H
 clear h
 obtain⟨⟨u,v⟩,y,H⟩:=oB H
 try dsimp only at H
 simp only[Option.some.injEq,Prod.mk.injEq] at H
 obtain⟨rfl,rfl⟩:=H
 go_enter Try.func65,Try.ntmps65
 go_wp2_with (first|((with_reducible refine gate_dst (N:=2) rfl ?_);refine zbox (N:=2) (cs:=#[.int .i64 b,.int .i64 c]) (t:=58) ?_;intro p hg z hbox hb;have a:=Aside0.mk hbox;have q:=zge hg HB;have s:=zge hg HB;replace HB:=zbs HB hb;clear hb hbox hg;obtain⟨g,i,j,l⟩:=zc2 a)|((with_reducible refine gate_callee (f:=109) rfl ?_);refine zgc (some 8) Try.func109 (soft_step.calls y.out) ?_;intro B hb;obtain⟨a,HB⟩:=zu1 a HB hb;clear hb))
 go_ret2
 exact zr HB

/-! ### reals_reckon_uint32: function 31 -/
def reals_reckon_uint32.f (k:Nat) (a0_0:Int) (a0_1:Int) (a1:Int) (a2:Int) (a3:Int):Option (Int×Int):=if a1=1 then ((soft_Add.f k a0_0 a0_1 (IntKind.u64.wrap (a2)) (IntKind.u64.wrap (a3))).bind fun a=>(some ((a.1)%4294967296,0))) else (if a1=2 then ((soft_Sub.f k a0_0 a0_1 (IntKind.u64.wrap (a2)) (IntKind.u64.wrap (a3))).bind fun b=>(some ((b.1)%4294967296,0))) else (if a1=3 then ((soft_Mul.f k a0_0 a0_1 (IntKind.u64.wrap (a2)) (IntKind.u64.wrap (a3))).bind fun c=>(some ((c.1)%4294967296,0))) else (if a1=4 then ((soft_Div.f k a0_0 a0_1 (IntKind.u64.wrap (a2)) (IntKind.u64.wrap (a3))).bind fun d=>(some ((d.1)%4294967296,0))) else (if a1=5 then ((soft_Mod.f k a0_0 a0_1 (IntKind.u64.wrap (a2)) (IntKind.u64.wrap (a3))).bind fun e=>(some ((e.1)%4294967296,0))) else (if a1=6 then ((soft_Mod.f k a0_0 a0_1 (IntKind.u64.wrap (a2)) (IntKind.u64.wrap (a3))).bind fun g=>(some ((g.2.1)%4294967296,0))) else (if a1=7 then ((soft_Sqrt.f k a0_0 a0_1 (IntKind.u64.wrap (a2))).bind fun h=>(some ((h.1)%4294967296,0))) else (if a1=8 then ((soft_Ceil.f k a0_0 a0_1 (IntKind.u64.wrap (a2))).bind fun i=>(some ((i.1)%4294967296,0))) else (if a1=9 then ((soft_Floor.f k a0_0 a0_1 (IntKind.u64.wrap (a2))).bind fun j=>(some ((j.1)%4294967296,0))) else (some (0,1))))))))))
theorem reals_reckon_uint32.mono:∀ a0 a1 a2 a3 a4 k,LeO (reals_reckon_uint32.f k a0 a1 a2 a3 a4) (reals_reckon_uint32.f (k+1) a0 a1 a2 a3 a4):=by
 intro a0 a1 a2 a3 a4 k
 unfold reals_reckon_uint32.f
 repeat' first|(with_reducible first|apply soft_Add.mono|apply soft_Ceil.mono|apply soft_Div.mono|apply soft_Floor.mono|apply soft_Mod.mono|apply soft_Mul.mono|apply soft_Sqrt.mono|apply soft_Sub.mono|exact LeO.refl _|exact LeO.none _|refine LeO.ite ?_ ?_|refine LeO.bind ?_ (fun _=>?_))|refine LeO.ite ?_ ?_|refine LeO.bind ?_ (fun _=>?_)
set_option maxHeartbeats 8000000 in
set_option maxRecDepth 100000 in
theorem reals_reckon_uint32.calls {k:Nat} {b:Int} {c:Int} {j:Int} {l:Int} {y:Int} {r1:Int} {r2:Int} {w:World} (h:reals_reckon_uint32.f k b c j l y=some (r1,r2)) :
  Calls Try.prog 31 #[.agg #[.int .i64 b,.int .i64 c],.int .i64 j,.int .u32 l,.int .u32 y] w fun e w'=>e=.returned (.tuple #[.int .u32 r1,.int .i64 r2])∧Below w.heap.size w w':=by
 have hu58:=Try.underlying58
 have HB:=Aside0.mk (Below.refl w.heap.size w)
 have H:=h
 unfold reals_reckon_uint32.f at H
 clear h
 by_cases c5:j=1
 ·rw[if_pos c5] at H
  obtain⟨ac,ad⟩:=zt c5
  clear c5
  obtain⟨⟨a0,a4⟩,A6,H⟩:=oB H
  try dsimp only at H
  simp only[Option.some.injEq,Prod.mk.injEq] at H
  obtain⟨rfl,rfl⟩:=H
  go_enter Try.func31,Try.ntmps31
  go_wp2_with (first|((with_reducible refine gate_dst (N:=4) rfl ?_);refine zbox (N:=4) (cs:=#[.int .i64 b,.int .i64 c]) (t:=58) ?_;intro d hg w7 hbox hb;have a:=Aside0.mk hbox;have g:=zge hg HB;have i:=zge hg HB;replace HB:=zbs HB hb;clear hb hbox hg;obtain⟨aM,aN,aO,aP⟩:=zc2 a)|((with_reducible refine gate_callee (f:=58) rfl ?_);refine zgc (some 24) Try.func58 (soft_Add.calls A6.out) ?_;intro w9 hb;obtain⟨a,HB⟩:=zu1 a HB hb;clear hb))
  go_ret2
  exact zr HB
 rw[if_neg c5] at H
 obtain⟨ac,ad⟩:=zf c5
 by_cases m:j=2
 ·rw[if_pos m] at H
  obtain⟨K,L⟩:=zt m
  clear m
  obtain⟨⟨a5,a6⟩,aS,H⟩:=oB H
  try dsimp only at H
  simp only[Option.some.injEq,Prod.mk.injEq] at H
  obtain⟨rfl,rfl⟩:=H
  go_enter Try.func31,Try.ntmps31
  go_wp2_with (first|((with_reducible refine gate_dst (N:=4) rfl ?_);refine zbox (N:=4) (cs:=#[.int .i64 b,.int .i64 c]) (t:=58) ?_;intro d hg bo hbox hb;have a:=Aside0.mk hbox;have g:=zge hg HB;have i:=zge hg HB;replace HB:=zbs HB hb;clear hb hbox hg;obtain⟨ae,af,ag,ah⟩:=zc2 a)|((with_reducible refine gate_callee (f:=59) rfl ?_);refine zgc (some 33) Try.func59 (soft_Sub.calls aS.out) ?_;intro bp hb;obtain⟨a,HB⟩:=zu1 a HB hb;clear hb))
  go_ret2
  exact zr HB
 rw[if_neg m] at H
 obtain⟨K,L⟩:=zf m
 by_cases n:j=3
 ·rw[if_pos n] at H
  obtain⟨M,O⟩:=zt n
  clear n
  obtain⟨⟨a7,a8⟩,aT,H⟩:=oB H
  try dsimp only at H
  simp only[Option.some.injEq,Prod.mk.injEq] at H
  obtain⟨rfl,rfl⟩:=H
  go_enter Try.func31,Try.ntmps31
  go_wp2_with (first|((with_reducible refine gate_dst (N:=4) rfl ?_);refine zbox (N:=4) (cs:=#[.int .i64 b,.int .i64 c]) (t:=58) ?_;intro d hg bq hbox hb;have a:=Aside0.mk hbox;have g:=zge hg HB;have i:=zge hg HB;replace HB:=zbs HB hb;clear hb hbox hg;obtain⟨ai,aj,ak,al⟩:=zc2 a)|((with_reducible refine gate_callee (f:=60) rfl ?_);refine zgc (some 42) Try.func60 (soft_Mul.calls aT.out) ?_;intro br hb;obtain⟨a,HB⟩:=zu1 a HB hb;clear hb))
  go_ret2
  exact zr HB
 rw[if_neg n] at H
 obtain⟨M,O⟩:=zf n
 by_cases o:j=4
 ·rw[if_pos o] at H
  obtain⟨P,Q⟩:=zt o
  clear o
  obtain⟨⟨a9,ba⟩,aU,H⟩:=oB H
  try dsimp only at H
  simp only[Option.some.injEq,Prod.mk.injEq] at H
  obtain⟨rfl,rfl⟩:=H
  go_enter Try.func31,Try.ntmps31
  go_wp2_with (first|((with_reducible refine gate_dst (N:=4) rfl ?_);refine zbox (N:=4) (cs:=#[.int .i64 b,.int .i64 c]) (t:=58) ?_;intro d hg bs hbox hb;have a:=Aside0.mk hbox;have g:=zge hg HB;have i:=zge hg HB;replace HB:=zbs HB hb;clear hb hbox hg;obtain⟨am,an,ao,ap⟩:=zc2 a)|((with_reducible refine gate_callee (f:=61) rfl ?_);refine zgc (some 51) Try.func61 (soft_Div.calls aU.out) ?_;intro bt hb;obtain⟨a,HB⟩:=zu1 a HB hb;clear hb))
  go_ret2
  exact zr HB
 rw[if_neg o] at H
 obtain⟨P,Q⟩:=zf o
 by_cases p:j=5
 ·rw[if_pos p] at H
  obtain⟨R,S⟩:=zt p
  clear p
  obtain⟨⟨bb,bc,bd⟩,aV,H⟩:=oB H
  try dsimp only at H
  simp only[Option.some.injEq,Prod.mk.injEq] at H
  obtain⟨rfl,rfl⟩:=H
  go_enter Try.func31,Try.ntmps31
  go_wp2_with (first|((with_reducible refine gate_dst (N:=4) rfl ?_);refine zbox (N:=4) (cs:=#[.int .i64 b,.int .i64 c]) (t:=58) ?_;intro d hg bu hbox hb;have a:=Aside0.mk hbox;have g:=zge hg HB;have i:=zge hg HB;replace HB:=zbs HB hb;clear hb hbox hg;obtain⟨aq,ar,au,av⟩:=zc2 a)|((with_reducible refine gate_callee (f:=62) rfl ?_);refine zgc (some 60) Try.func62 (soft_Mod.calls aV.out) ?_;intro bv hb;obtain⟨a,HB⟩:=zu1 a HB hb;clear hb))
  go_ret2
  exact zr HB
 rw[if_neg p] at H
 obtain⟨R,S⟩:=zf p
 by_cases q:j=6
 ·rw[if_pos q] at H
  obtain⟨T,U⟩:=zt q
  clear q
  obtain⟨⟨be,bf,bg⟩,aW,H⟩:=oB H
  try dsimp only at H
  simp only[Option.some.injEq,Prod.mk.injEq] at H
  obtain⟨rfl,rfl⟩:=H
  go_enter Try.func31,Try.ntmps31
  go_wp2_with (first|((with_reducible refine gate_dst (N:=4) rfl ?_);refine zbox (N:=4) (cs:=#[.int .i64 b,.int .i64 c]) (t:=58) ?_;intro d hg bw hbox hb;have a:=Aside0.mk hbox;have g:=zge hg HB;have i:=zge hg HB;replace HB:=zbs HB hb;clear hb hbox hg;obtain⟨aw,ax,ay,az⟩:=zc2 a)|((with_reducible refine gate_callee (f:=62) rfl ?_);refine zgc (some 70) Try.func62 (soft_Mod.calls aW.out) ?_;intro bx hb;obtain⟨a,HB⟩:=zu1 a HB hb;clear hb))
  go_ret2
  exact zr HB
 rw[if_neg q] at H
 obtain⟨T,U⟩:=zf q
 by_cases s:j=7
 ·rw[if_pos s] at H
  obtain⟨V,W⟩:=zt s
  clear s
  obtain⟨⟨bh,bi⟩,aX,H⟩:=oB H
  try dsimp only at H
  simp only[Option.some.injEq,Prod.mk.injEq] at H
  obtain⟨rfl,rfl⟩:=H
  go_enter Try.func31,Try.ntmps31
  go_wp2_with (first|((with_reducible refine gate_dst (N:=4) rfl ?_);refine zbox (N:=4) (cs:=#[.int .i64 b,.int .i64 c]) (t:=58) ?_;intro d hg bz hbox hb;have a:=Aside0.mk hbox;have g:=zge hg HB;have i:=zge hg HB;replace HB:=zbs HB hb;clear hb hbox hg;obtain⟨aA,aB,aC,aD⟩:=zc2 a)|((with_reducible refine gate_callee (f:=63) rfl ?_);refine zgc (some 79) Try.func63 (soft_Sqrt.calls aX.out) ?_;intro bA hb;obtain⟨a,HB⟩:=zu1 a HB hb;clear hb))
  go_ret2
  exact zr HB
 rw[if_neg s] at H
 obtain⟨V,W⟩:=zf s
 by_cases u:j=8
 ·rw[if_pos u] at H
  obtain⟨X,Y⟩:=zt u
  clear u
  obtain⟨⟨bj,bk⟩,aY,H⟩:=oB H
  try dsimp only at H
  simp only[Option.some.injEq,Prod.mk.injEq] at H
  obtain⟨rfl,rfl⟩:=H
  go_enter Try.func31,Try.ntmps31
  go_wp2_with (first|((with_reducible refine gate_dst (N:=4) rfl ?_);refine zbox (N:=4) (cs:=#[.int .i64 b,.int .i64 c]) (t:=58) ?_;intro d hg bB hbox hb;have a:=Aside0.mk hbox;have g:=zge hg HB;have i:=zge hg HB;replace HB:=zbs HB hb;clear hb hbox hg;obtain⟨aE,aF,aG,aH⟩:=zc2 a)|((with_reducible refine gate_callee (f:=64) rfl ?_);refine zgc (some 87) Try.func64 (soft_Ceil.calls aY.out) ?_;intro bC hb;obtain⟨a,HB⟩:=zu1 a HB hb;clear hb))
  go_ret2
  exact zr HB
 rw[if_neg u] at H
 obtain⟨X,Y⟩:=zf u
 by_cases v:j=9
 ·rw[if_pos v] at H
  obtain⟨Z,aa⟩:=zt v
  clear v
  obtain⟨⟨bl,bm⟩,aZ,H⟩:=oB H
  try dsimp only at H
  simp only[Option.some.injEq,Prod.mk.injEq] at H
  obtain⟨rfl,rfl⟩:=H
  go_enter Try.func31,Try.ntmps31
  go_wp2_with (first|((with_reducible refine gate_dst (N:=4) rfl ?_);refine zbox (N:=4) (cs:=#[.int .i64 b,.int .i64 c]) (t:=58) ?_;intro d hg bD hbox hb;have a:=Aside0.mk hbox;have g:=zge hg HB;have i:=zge hg HB;replace HB:=zbs HB hb;clear hb hbox hg;obtain⟨aI,aJ,aK,aL⟩:=zc2 a)|((with_reducible refine gate_callee (f:=65) rfl ?_);refine zgc (some 95) Try.func65 (soft_Floor.calls aZ.out) ?_;intro bE hb;obtain⟨a,HB⟩:=zu1 a HB hb;clear hb))
  go_ret2
  exact zr HB
 rw[if_neg v] at H
 obtain⟨Z,aa⟩:=zf v
 simp only[Option.some.injEq,Prod.mk.injEq] at H
 obtain⟨rfl,rfl⟩:=H
 go_enter Try.func31,Try.ntmps31
 go_wp2_with (first|((with_reducible refine gate_dst (N:=4) rfl ?_);refine zbox (N:=4) (cs:=#[.int .i64 b,.int .i64 c]) (t:=58) ?_;intro d hg bF hbox hb;have a:=Aside0.mk hbox;have g:=zge hg HB;have i:=zge hg HB;replace HB:=zbs HB hb;clear hb hbox hg))
 go_ret2
 exact zr HB

/-! ### reals_single: function 32 -/
def reals_single.f :Option (Int×Int):=some (23,8)
set_option maxHeartbeats 8000000 in
set_option maxRecDepth 100000 in
theorem reals_single.calls  (j:Int) (l:Int) (w:World) (h:reals_single.f =some (j,l)) :
  Calls Try.prog 32 #[] w fun e w'=>e=.returned (.agg #[.int .i64 j,.int .i64 l])∧Below w.heap.size w w':=by
 have hu58:=Try.underlying58
 have HB:=Aside0.mk (Below.refl w.heap.size w)
 have H:=h
 unfold reals_single.f at H
 clear h
 simp only[Option.some.injEq,Prod.mk.injEq] at H
 obtain⟨rfl,rfl⟩:=H
 go_enter Try.func32,Try.ntmps32
 go_wp2_with (first|((with_reducible refine gate_dst (N:=0) rfl ?_);refine zbox (N:=0) (cs:=#[.int .i64 0,.int .i64 0]) (t:=58) ?_;intro b hg o hbox hb;have a:=Aside0.mk hbox;have m:=zge hg HB;have n:=zge hg HB;replace HB:=zbs HB hb;clear hb hbox hg;obtain⟨c,d,g,i⟩:=zc2 a))
 refine bodyPost_ret (results_cell_row rfl _ _ b 58 #[.int .i64 23,.int .i64 8] (0,0) _ rfl (zkp a) Try.underlying58 rfl (by kernel_rfl)) rfl ?_
 exact zr HB

/-! ### reals_Single: function 12 -/
def reals_Single.f (k:Nat) (a0:Int) (a1:Int) (a2:Int):Option (Int×Int):=(reals_single.f).bind fun a=>((reals_reckon_uint32.f k a.1 a.2 a0 a1 a2).bind fun b=>(some (b.1,b.2)))
theorem reals_Single.mono:∀ a0 a1 a2 k,LeO (reals_Single.f k a0 a1 a2) (reals_Single.f (k+1) a0 a1 a2):=by
 intro a0 a1 a2 k
 unfold reals_Single.f
 repeat' first|(with_reducible first|apply reals_reckon_uint32.mono|exact LeO.refl _|exact LeO.none _|refine LeO.ite ?_ ?_|refine LeO.bind ?_ (fun _=>?_))|refine LeO.ite ?_ ?_|refine LeO.bind ?_ (fun _=>?_)
set_option maxHeartbeats 8000000 in
set_option maxRecDepth 100000 in
theorem reals_Single.calls {k:Nat} {g:Int} {i:Int} {j:Int} {l:Int} {m:Int} {w:World} (h:reals_Single.f k g i j=some (l,m)) :
  Calls Try.prog 12 #[.int .i64 g,.int .u32 i,.int .u32 j] w fun e w'=>e=.returned (.tuple #[.int .u32 l,.int .i64 m])∧Below w.heap.size w w':=by
 have HB:=Aside0.mk (Below.refl w.heap.size w)
 have H:=h
 unfold reals_Single.f at H
 clear h
 obtain⟨⟨c,d⟩,p,H⟩:=oB H
 try dsimp only at H
 obtain⟨⟨n,o⟩,q,H⟩:=oB H
 try dsimp only at H
 simp only[Option.some.injEq,Prod.mk.injEq] at H
 obtain⟨rfl,rfl⟩:=H
 go_enter Try.func12,Try.ntmps12
 go_wp2_with (first|((with_reducible refine gate_callee (f:=32) rfl ?_);refine zgc (some 8) Try.func32 (reals_single.calls  c d _ p.out) ?_;intro s hb;replace HB:=zbs HB hb;clear hb)|((with_reducible refine gate_callee (f:=31) rfl ?_);refine zgc (some 12) Try.func31 (reals_reckon_uint32.calls q.out) ?_;intro u hb;replace HB:=zbs HB hb;clear hb))
 go_ret2
 exact zr HB

/-! ### grottolaw04_num: function 14 -/
def grottolaw04_num.f (a0:Int):Option (Int):=some a0
set_option maxHeartbeats 8000000 in
set_option maxRecDepth 100000 in
theorem grottolaw04_num.calls {a:Int} {r:Int} {w:World} (h:grottolaw04_num.f a=some r) :
  Calls Try.prog 14 #[.int .i64 a] w fun e w'=>e=.returned (.int .i64 r)∧Drawn0 w w':=by
 have H:=h
 unfold grottolaw04_num.f at H
 clear h
 obtain rfl:=Option.some.inj H
 go_enter Try.func14,Try.ntmps14
 go_wp2
 go_ret
 exact⟨by first|rfl|(simp;done)|(simp[*];done),by repeat (first|exact Drawn0.refl _|apply Drawn0.step)⟩

/-! ### reals_reckon_uint64: function 42 -/
def reals_reckon_uint64.f (k:Nat) (a0_0:Int) (a0_1:Int) (a1:Int) (a2:Int) (a3:Int):Option (Int×Int):=if a1=1 then ((soft_Add.f k a0_0 a0_1 a2 a3).bind fun a=>(some (a.1,0))) else (if a1=2 then ((soft_Sub.f k a0_0 a0_1 a2 a3).bind fun b=>(some (b.1,0))) else (if a1=3 then ((soft_Mul.f k a0_0 a0_1 a2 a3).bind fun c=>(some (c.1,0))) else (if a1=4 then ((soft_Div.f k a0_0 a0_1 a2 a3).bind fun d=>(some (d.1,0))) else (if a1=5 then ((soft_Mod.f k a0_0 a0_1 a2 a3).bind fun e=>(some (e.1,0))) else (if a1=6 then ((soft_Mod.f k a0_0 a0_1 a2 a3).bind fun g=>(some (g.2.1,0))) else (if a1=7 then ((soft_Sqrt.f k a0_0 a0_1 a2).bind fun h=>(some (h.1,0))) else (if a1=8 then ((soft_Ceil.f k a0_0 a0_1 a2).bind fun i=>(some (i.1,0))) else (if a1=9 then ((soft_Floor.f k a0_0 a0_1 a2).bind fun j=>(some (j.1,0))) else (some (0,1))))))))))
theorem reals_reckon_uint64.mono:∀ a0 a1 a2 a3 a4 k,LeO (reals_reckon_uint64.f k a0 a1 a2 a3 a4) (reals_reckon_uint64.f (k+1) a0 a1 a2 a3 a4):=by
 intro a0 a1 a2 a3 a4 k
 unfold reals_reckon_uint64.f
 repeat' first|(with_reducible first|apply soft_Add.mono|apply soft_Ceil.mono|apply soft_Div.mono|apply soft_Floor.mono|apply soft_Mod.mono|apply soft_Mul.mono|apply soft_Sqrt.mono|apply soft_Sub.mono|exact LeO.refl _|exact LeO.none _|refine LeO.ite ?_ ?_|refine LeO.bind ?_ (fun _=>?_))|refine LeO.ite ?_ ?_|refine LeO.bind ?_ (fun _=>?_)
set_option maxHeartbeats 8000000 in
set_option maxRecDepth 100000 in
theorem reals_reckon_uint64.calls {k:Nat} {b:Int} {c:Int} {j:Int} {l:Int} {y:Int} {r1:Int} {r2:Int} {w:World} (h:reals_reckon_uint64.f k b c j l y=some (r1,r2)) :
  Calls Try.prog 42 #[.agg #[.int .i64 b,.int .i64 c],.int .i64 j,.int .u64 l,.int .u64 y] w fun e w'=>e=.returned (.tuple #[.int .u64 r1,.int .i64 r2])∧Below w.heap.size w w':=by
 have hu58:=Try.underlying58
 have HB:=Aside0.mk (Below.refl w.heap.size w)
 have H:=h
 unfold reals_reckon_uint64.f at H
 clear h
 by_cases c5:j=1
 ·rw[if_pos c5] at H
  obtain⟨ac,ad⟩:=zt c5
  clear c5
  obtain⟨⟨a0,a4⟩,A6,H⟩:=oB H
  try dsimp only at H
  simp only[Option.some.injEq,Prod.mk.injEq] at H
  obtain⟨rfl,rfl⟩:=H
  go_enter Try.func42,Try.ntmps42
  go_wp2_with (first|((with_reducible refine gate_dst (N:=4) rfl ?_);refine zbox (N:=4) (cs:=#[.int .i64 b,.int .i64 c]) (t:=58) ?_;intro d hg w7 hbox hb;have a:=Aside0.mk hbox;have g:=zge hg HB;have i:=zge hg HB;replace HB:=zbs HB hb;clear hb hbox hg;obtain⟨aM,aN,aO,aP⟩:=zc2 a)|((with_reducible refine gate_callee (f:=58) rfl ?_);refine zgc (some 22) Try.func58 (soft_Add.calls A6.out) ?_;intro w9 hb;obtain⟨a,HB⟩:=zu1 a HB hb;clear hb))
  go_ret2
  exact zr HB
 rw[if_neg c5] at H
 obtain⟨ac,ad⟩:=zf c5
 by_cases m:j=2
 ·rw[if_pos m] at H
  obtain⟨K,L⟩:=zt m
  clear m
  obtain⟨⟨a5,a6⟩,aS,H⟩:=oB H
  try dsimp only at H
  simp only[Option.some.injEq,Prod.mk.injEq] at H
  obtain⟨rfl,rfl⟩:=H
  go_enter Try.func42,Try.ntmps42
  go_wp2_with (first|((with_reducible refine gate_dst (N:=4) rfl ?_);refine zbox (N:=4) (cs:=#[.int .i64 b,.int .i64 c]) (t:=58) ?_;intro d hg bo hbox hb;have a:=Aside0.mk hbox;have g:=zge hg HB;have i:=zge hg HB;replace HB:=zbs HB hb;clear hb hbox hg;obtain⟨ae,af,ag,ah⟩:=zc2 a)|((with_reducible refine gate_callee (f:=59) rfl ?_);refine zgc (some 31) Try.func59 (soft_Sub.calls aS.out) ?_;intro bp hb;obtain⟨a,HB⟩:=zu1 a HB hb;clear hb))
  go_ret2
  exact zr HB
 rw[if_neg m] at H
 obtain⟨K,L⟩:=zf m
 by_cases n:j=3
 ·rw[if_pos n] at H
  obtain⟨M,O⟩:=zt n
  clear n
  obtain⟨⟨a7,a8⟩,aT,H⟩:=oB H
  try dsimp only at H
  simp only[Option.some.injEq,Prod.mk.injEq] at H
  obtain⟨rfl,rfl⟩:=H
  go_enter Try.func42,Try.ntmps42
  go_wp2_with (first|((with_reducible refine gate_dst (N:=4) rfl ?_);refine zbox (N:=4) (cs:=#[.int .i64 b,.int .i64 c]) (t:=58) ?_;intro d hg bq hbox hb;have a:=Aside0.mk hbox;have g:=zge hg HB;have i:=zge hg HB;replace HB:=zbs HB hb;clear hb hbox hg;obtain⟨ai,aj,ak,al⟩:=zc2 a)|((with_reducible refine gate_callee (f:=60) rfl ?_);refine zgc (some 40) Try.func60 (soft_Mul.calls aT.out) ?_;intro br hb;obtain⟨a,HB⟩:=zu1 a HB hb;clear hb))
  go_ret2
  exact zr HB
 rw[if_neg n] at H
 obtain⟨M,O⟩:=zf n
 by_cases o:j=4
 ·rw[if_pos o] at H
  obtain⟨P,Q⟩:=zt o
  clear o
  obtain⟨⟨a9,ba⟩,aU,H⟩:=oB H
  try dsimp only at H
  simp only[Option.some.injEq,Prod.mk.injEq] at H
  obtain⟨rfl,rfl⟩:=H
  go_enter Try.func42,Try.ntmps42
  go_wp2_with (first|((with_reducible refine gate_dst (N:=4) rfl ?_);refine zbox (N:=4) (cs:=#[.int .i64 b,.int .i64 c]) (t:=58) ?_;intro d hg bs hbox hb;have a:=Aside0.mk hbox;have g:=zge hg HB;have i:=zge hg HB;replace HB:=zbs HB hb;clear hb hbox hg;obtain⟨am,an,ao,ap⟩:=zc2 a)|((with_reducible refine gate_callee (f:=61) rfl ?_);refine zgc (some 49) Try.func61 (soft_Div.calls aU.out) ?_;intro bt hb;obtain⟨a,HB⟩:=zu1 a HB hb;clear hb))
  go_ret2
  exact zr HB
 rw[if_neg o] at H
 obtain⟨P,Q⟩:=zf o
 by_cases p:j=5
 ·rw[if_pos p] at H
  obtain⟨R,S⟩:=zt p
  clear p
  obtain⟨⟨bb,bc,bd⟩,aV,H⟩:=oB H
  try dsimp only at H
  simp only[Option.some.injEq,Prod.mk.injEq] at H
  obtain⟨rfl,rfl⟩:=H
  go_enter Try.func42,Try.ntmps42
  go_wp2_with (first|((with_reducible refine gate_dst (N:=4) rfl ?_);refine zbox (N:=4) (cs:=#[.int .i64 b,.int .i64 c]) (t:=58) ?_;intro d hg bu hbox hb;have a:=Aside0.mk hbox;have g:=zge hg HB;have i:=zge hg HB;replace HB:=zbs HB hb;clear hb hbox hg;obtain⟨aq,ar,au,av⟩:=zc2 a)|((with_reducible refine gate_callee (f:=62) rfl ?_);refine zgc (some 58) Try.func62 (soft_Mod.calls aV.out) ?_;intro bv hb;obtain⟨a,HB⟩:=zu1 a HB hb;clear hb))
  go_ret2
  exact zr HB
 rw[if_neg p] at H
 obtain⟨R,S⟩:=zf p
 by_cases q:j=6
 ·rw[if_pos q] at H
  obtain⟨T,U⟩:=zt q
  clear q
  obtain⟨⟨be,bf,bg⟩,aW,H⟩:=oB H
  try dsimp only at H
  simp only[Option.some.injEq,Prod.mk.injEq] at H
  obtain⟨rfl,rfl⟩:=H
  go_enter Try.func42,Try.ntmps42
  go_wp2_with (first|((with_reducible refine gate_dst (N:=4) rfl ?_);refine zbox (N:=4) (cs:=#[.int .i64 b,.int .i64 c]) (t:=58) ?_;intro d hg bw hbox hb;have a:=Aside0.mk hbox;have g:=zge hg HB;have i:=zge hg HB;replace HB:=zbs HB hb;clear hb hbox hg;obtain⟨aw,ax,ay,az⟩:=zc2 a)|((with_reducible refine gate_callee (f:=62) rfl ?_);refine zgc (some 68) Try.func62 (soft_Mod.calls aW.out) ?_;intro bx hb;obtain⟨a,HB⟩:=zu1 a HB hb;clear hb))
  go_ret2
  exact zr HB
 rw[if_neg q] at H
 obtain⟨T,U⟩:=zf q
 by_cases s:j=7
 ·rw[if_pos s] at H
  obtain⟨V,W⟩:=zt s
  clear s
  obtain⟨⟨bh,bi⟩,aX,H⟩:=oB H
  try dsimp only at H
  simp only[Option.some.injEq,Prod.mk.injEq] at H
  obtain⟨rfl,rfl⟩:=H
  go_enter Try.func42,Try.ntmps42
  go_wp2_with (first|((with_reducible refine gate_dst (N:=4) rfl ?_);refine zbox (N:=4) (cs:=#[.int .i64 b,.int .i64 c]) (t:=58) ?_;intro d hg bz hbox hb;have a:=Aside0.mk hbox;have g:=zge hg HB;have i:=zge hg HB;replace HB:=zbs HB hb;clear hb hbox hg;obtain⟨aA,aB,aC,aD⟩:=zc2 a)|((with_reducible refine gate_callee (f:=63) rfl ?_);refine zgc (some 77) Try.func63 (soft_Sqrt.calls aX.out) ?_;intro bA hb;obtain⟨a,HB⟩:=zu1 a HB hb;clear hb))
  go_ret2
  exact zr HB
 rw[if_neg s] at H
 obtain⟨V,W⟩:=zf s
 by_cases u:j=8
 ·rw[if_pos u] at H
  obtain⟨X,Y⟩:=zt u
  clear u
  obtain⟨⟨bj,bk⟩,aY,H⟩:=oB H
  try dsimp only at H
  simp only[Option.some.injEq,Prod.mk.injEq] at H
  obtain⟨rfl,rfl⟩:=H
  go_enter Try.func42,Try.ntmps42
  go_wp2_with (first|((with_reducible refine gate_dst (N:=4) rfl ?_);refine zbox (N:=4) (cs:=#[.int .i64 b,.int .i64 c]) (t:=58) ?_;intro d hg bB hbox hb;have a:=Aside0.mk hbox;have g:=zge hg HB;have i:=zge hg HB;replace HB:=zbs HB hb;clear hb hbox hg;obtain⟨aE,aF,aG,aH⟩:=zc2 a)|((with_reducible refine gate_callee (f:=64) rfl ?_);refine zgc (some 85) Try.func64 (soft_Ceil.calls aY.out) ?_;intro bC hb;obtain⟨a,HB⟩:=zu1 a HB hb;clear hb))
  go_ret2
  exact zr HB
 rw[if_neg u] at H
 obtain⟨X,Y⟩:=zf u
 by_cases v:j=9
 ·rw[if_pos v] at H
  obtain⟨Z,aa⟩:=zt v
  clear v
  obtain⟨⟨bl,bm⟩,aZ,H⟩:=oB H
  try dsimp only at H
  simp only[Option.some.injEq,Prod.mk.injEq] at H
  obtain⟨rfl,rfl⟩:=H
  go_enter Try.func42,Try.ntmps42
  go_wp2_with (first|((with_reducible refine gate_dst (N:=4) rfl ?_);refine zbox (N:=4) (cs:=#[.int .i64 b,.int .i64 c]) (t:=58) ?_;intro d hg bD hbox hb;have a:=Aside0.mk hbox;have g:=zge hg HB;have i:=zge hg HB;replace HB:=zbs HB hb;clear hb hbox hg;obtain⟨aI,aJ,aK,aL⟩:=zc2 a)|((with_reducible refine gate_callee (f:=65) rfl ?_);refine zgc (some 93) Try.func65 (soft_Floor.calls aZ.out) ?_;intro bE hb;obtain⟨a,HB⟩:=zu1 a HB hb;clear hb))
  go_ret2
  exact zr HB
 rw[if_neg v] at H
 obtain⟨Z,aa⟩:=zf v
 simp only[Option.some.injEq,Prod.mk.injEq] at H
 obtain⟨rfl,rfl⟩:=H
 go_enter Try.func42,Try.ntmps42
 go_wp2_with (first|((with_reducible refine gate_dst (N:=4) rfl ?_);refine zbox (N:=4) (cs:=#[.int .i64 b,.int .i64 c]) (t:=58) ?_;intro d hg bF hbox hb;have a:=Aside0.mk hbox;have g:=zge hg HB;have i:=zge hg HB;replace HB:=zbs HB hb;clear hb hbox hg))
 go_ret2
 exact zr HB

/-! ### reals_double: function 43 -/
def reals_double.f :Option (Int×Int):=some (52,11)
set_option maxHeartbeats 8000000 in
set_option maxRecDepth 100000 in
theorem reals_double.calls  (j:Int) (l:Int) (w:World) (h:reals_double.f =some (j,l)) :
  Calls Try.prog 43 #[] w fun e w'=>e=.returned (.agg #[.int .i64 j,.int .i64 l])∧Below w.heap.size w w':=by
 have hu58:=Try.underlying58
 have HB:=Aside0.mk (Below.refl w.heap.size w)
 have H:=h
 unfold reals_double.f at H
 clear h
 simp only[Option.some.injEq,Prod.mk.injEq] at H
 obtain⟨rfl,rfl⟩:=H
 go_enter Try.func43,Try.ntmps43
 go_wp2_with (first|((with_reducible refine gate_dst (N:=0) rfl ?_);refine zbox (N:=0) (cs:=#[.int .i64 0,.int .i64 0]) (t:=58) ?_;intro b hg o hbox hb;have a:=Aside0.mk hbox;have m:=zge hg HB;have n:=zge hg HB;replace HB:=zbs HB hb;clear hb hbox hg;obtain⟨c,d,g,i⟩:=zc2 a))
 refine bodyPost_ret (results_cell_row rfl _ _ b 58 #[.int .i64 52,.int .i64 11] (0,0) _ rfl (zkp a) Try.underlying58 rfl (by kernel_rfl)) rfl ?_
 exact zr HB

/-! ### reals_Double: function 16 -/
def reals_Double.f (k:Nat) (a0:Int) (a1:Int) (a2:Int):Option (Int×Int):=(reals_double.f).bind fun a=>((reals_reckon_uint64.f k a.1 a.2 a0 a1 a2).bind fun b=>(some (b.1,b.2)))
theorem reals_Double.mono:∀ a0 a1 a2 k,LeO (reals_Double.f k a0 a1 a2) (reals_Double.f (k+1) a0 a1 a2):=by
 intro a0 a1 a2 k
 unfold reals_Double.f
 repeat' first|(with_reducible first|apply reals_reckon_uint64.mono|exact LeO.refl _|exact LeO.none _|refine LeO.ite ?_ ?_|refine LeO.bind ?_ (fun _=>?_))|refine LeO.ite ?_ ?_|refine LeO.bind ?_ (fun _=>?_)
set_option maxHeartbeats 8000000 in
set_option maxRecDepth 100000 in
theorem reals_Double.calls {k:Nat} {g:Int} {i:Int} {j:Int} {l:Int} {m:Int} {w:World} (h:reals_Double.f k g i j=some (l,m)) :
  Calls Try.prog 16 #[.int .i64 g,.int .u64 i,.int .u64 j] w fun e w'=>e=.returned (.tuple #[.int .u64 l,.int .i64 m])∧Below w.heap.size w w':=by
 have HB:=Aside0.mk (Below.refl w.heap.size w)
 have H:=h
 unfold reals_Double.f at H
 clear h
 obtain⟨⟨c,d⟩,p,H⟩:=oB H
 try dsimp only at H
 obtain⟨⟨n,o⟩,q,H⟩:=oB H
 try dsimp only at H
 simp only[Option.some.injEq,Prod.mk.injEq] at H
 obtain⟨rfl,rfl⟩:=H
 go_enter Try.func16,Try.ntmps16
 go_wp2_with (first|((with_reducible refine gate_callee (f:=43) rfl ?_);refine zgc (some 8) Try.func43 (reals_double.calls  c d _ p.out) ?_;intro s hb;replace HB:=zbs HB hb;clear hb)|((with_reducible refine gate_callee (f:=42) rfl ?_);refine zgc (some 12) Try.func42 (reals_reckon_uint64.calls q.out) ?_;intro u hb;replace HB:=zbs HB hb;clear hb))
 go_ret2
 exact zr HB

/-! ### soft_place: function 112 -/
def soft_place.f (a0_0:Int) (a0_1:Int) (a1:Int):Option (Int):=(round_Zero.f a0_0 a0_1 true).bind fun a=>(if (Go.bits .and .u64 a1 a)=0 then (some (wrap64 (a1))) else (some (wrap64 (-(wrap64 (Go.bits .xor .u64 a1 a))))))
set_option maxHeartbeats 8000000 in
set_option maxRecDepth 100000 in
theorem soft_place.calls {b:Int} {c:Int} {l:Int} {r:Int} {w:World} (h:soft_place.f b c l=some r) :
  Calls Try.prog 112 #[.agg #[.int .i64 b,.int .i64 c],.int .u64 l] w fun e w'=>e=.returned (.int .i64 r)∧Below w.heap.size w w':=by
 have hu58:=Try.underlying58
 have HB:=Aside0.mk (Below.refl w.heap.size w)
 have H:=h
 unfold soft_place.f at H
 clear h
 obtain⟨d,C,H⟩:=oB H
 by_cases m:(Go.bits .and .u64 l d)=0
 ·rw[if_pos m] at H
  obtain⟨n,o⟩:=zt m
  clear m
  obtain rfl:=Option.some.inj H
  go_enter Try.func112,Try.ntmps112
  go_wp2_with (first|((with_reducible refine gate_dst (N:=2) rfl ?_);refine zbox (N:=2) (cs:=#[.int .i64 b,.int .i64 c]) (t:=58) ?_;intro g hg E hbox hb;have a:=Aside0.mk hbox;have i:=zge hg HB;have j:=zge hg HB;replace HB:=zbs HB hb;clear hb hbox hg;obtain⟨p,q,s,u⟩:=zc2 a)|((with_reducible refine gate_callee (f:=102) rfl ?_);refine zgc (some 7) Try.func102 (round_Zero.calls C.out) ?_;intro F hb;obtain⟨a,HB⟩:=zu1 a HB hb;clear hb))
  go_ret
  exact zr HB
 rw[if_neg m] at H
 obtain⟨n,o⟩:=zf m
 obtain rfl:=Option.some.inj H
 go_enter Try.func112,Try.ntmps112
 go_wp2_with (first|((with_reducible refine gate_dst (N:=2) rfl ?_);refine zbox (N:=2) (cs:=#[.int .i64 b,.int .i64 c]) (t:=58) ?_;intro g hg G hbox hb;have a:=Aside0.mk hbox;have i:=zge hg HB;have j:=zge hg HB;replace HB:=zbs HB hb;clear hb hbox hg;obtain⟨v,y,z,B⟩:=zc2 a)|((with_reducible refine gate_callee (f:=102) rfl ?_);refine zgc (some 7) Try.func102 (round_Zero.calls C.out) ?_;intro D hb;obtain⟨a,HB⟩:=zu1 a HB hb;clear hb))
 go_ret
 exact zr HB

/-! ### soft_Cmp: function 83 -/
def soft_Cmp.j0:Nat→Int→Int→Int→Bool→Int→Int→Option (Int×Bool×Int)
 | 0,_,_,_,_,_,_=>none
 | k+1,e,g,h,i,a,b=>if i=true then (some (0,false,h)) else ((soft_place.f a b e).bind fun c=>((soft_place.f a b g).bind fun d=>(if c<d then (some ((-1),true,0)) else (if c>d then (some (1,true,0)) else (some (0,true,0))))))
def soft_Cmp.f (k:Nat) (a0_0:Int) (a0_1:Int) (a1:Int) (a2:Int):Option (Int×Bool×Int):=(soft_two.f k a0_0 a0_1 a1 a2).bind fun a=>(if a.2.2.2.2.2.2.2.2=0 then ((soft_odd.f a.1 a.2.1 a.2.2.1 a.2.2.2.1 a.2.2.2.2.1 a.2.2.2.2.2.1 a.2.2.2.2.2.2.1 a.2.2.2.2.2.2.2.1).bind fun b=>(soft_Cmp.j0 k a1 a2 a.2.2.2.2.2.2.2.2 b a0_0 a0_1)) else (soft_Cmp.j0 k a1 a2 a.2.2.2.2.2.2.2.2 true a0_0 a0_1))
theorem soft_Cmp.mono_l:∀ k,(∀ y0 y1 y2 y3 y4 y5,LeO (soft_Cmp.j0 k y0 y1 y2 y3 y4 y5) (soft_Cmp.j0 (k+1) y0 y1 y2 y3 y4 y5))
 | 0=>fun _ _ _ _ _ _ r h=>by simp[soft_Cmp.j0] at h
 | k+1=>by
  have ih0:=soft_Cmp.mono_l k
  intros;unfold soft_Cmp.j0;repeat' first|(with_reducible first|apply ih0|apply soft_two.mono|exact LeO.refl _|exact LeO.none _|refine LeO.ite ?_ ?_|refine LeO.bind ?_ (fun _=>?_))|refine LeO.ite ?_ ?_|refine LeO.bind ?_ (fun _=>?_)
theorem soft_Cmp.mono:∀ a0 a1 a2 a3 k,LeO (soft_Cmp.f k a0 a1 a2 a3) (soft_Cmp.f (k+1) a0 a1 a2 a3):=by
 intro a0 a1 a2 a3 k
 have ih0:=soft_Cmp.mono_l k
 unfold soft_Cmp.f
 repeat' first|(with_reducible first|apply ih0|apply soft_two.mono|exact LeO.refl _|exact LeO.none _|refine LeO.ite ?_ ?_|refine LeO.bind ?_ (fun _=>?_))|refine LeO.ite ?_ ?_|refine LeO.bind ?_ (fun _=>?_)
def soft_Cmp.T4:Bool×List (List Nat×List Nat):=(true,[([],[]),([],[]),([0,1],[0,1]),([],[]),([],[]),([3,4,2],[3,4]),([2,5,0,1,2],[2]),([5,6,0,1,2,3,4,5,6],[5])])
def soft_Cmp.B4:List Nat:=[0,0,3,0,0,31,63,127]
theorem soft_Cmp.tab4:rtab .any (opsOf Try.f83 4)=soft_Cmp.T4:=by kernel_rfl
theorem soft_Cmp.bits4:waitsOk soft_Cmp.T4.2 soft_Cmp.B4=true:=by kernel_rfl
set_option maxHeartbeats 8000000 in
set_option maxRecDepth 100000 in
theorem soft_Cmp.calls {k:Nat} {d:Int} {g:Int} {Y:Int} {Z:Int} {r1:Int} {r2:Bool} {r3:Int} {w:World} (h:soft_Cmp.f k d g Y Z=some (r1,r2,r3)) :
  Calls Try.prog 83 #[.agg #[.int .i64 d,.int .i64 g],.int .u64 Y,.int .u64 Z] w fun e w'=>e=.returned (.tuple #[.int .i64 r1,.bool r2,.int .i64 r3])∧Below w.heap.size w w':=by
 have hu58:=Try.underlying58
 have hu89:=Try.underlying89
 have HB:=Aside0.mk (Below.refl w.heap.size w)
 have H:=h
 unfold soft_Cmp.f at H
 clear h
 obtain⟨⟨af,ag,ah,ai,aj,ak,al,am,an⟩,A4,H⟩:=oB H
 try dsimp only at H
 have ao:=Aside0.mk H
 clear H
 go_enter Try.func83,Try.ntmps83
 go_upto_region 2 with (first|((with_reducible refine gate_dst (N:=3) rfl ?_);refine zbox (N:=3) (cs:=#[.int .i64 d,.int .i64 g]) (t:=58) ?_;intro l hg w6 hbox hb;have a:=Aside0.mk hbox;have aU:=zge hg HB;have aV:=zge hg HB;replace HB:=zbs HB hb;clear hb hbox hg;obtain⟨aa,ab,ac,ad⟩:=zc2 a)|((with_reducible refine gate_callee (f:=100) rfl ?_);refine zgc (some 18) Try.func100 (soft_two.calls A4.out) ?_;intro w8 hb;obtain⟨a,HB⟩:=zu1 a HB hb;clear hb)|((with_reducible refine gate_dst (N:=9) rfl ?_);refine zbox (N:=9) (cs:=#[.int .i64 0,.bool false,.int .i64 0,.int .u64 0]) (t:=89) ?_;intro ap hg w9 hbox hb;have b:=Aside0.mk hbox;have aW:=zge hg HB;have aX:=zge hg HB;have aq:=znl hg a;have m:=zng hg a;obtain⟨a,HB⟩:=zu1 a HB hb;clear hb hbox hg)|((with_reducible refine gate_dst (N:=10) rfl ?_);refine zbox (N:=10) (cs:=#[.int .i64 0,.bool false,.int .i64 0,.int .u64 0]) (t:=89) ?_;intro ar hg bg hbox hb;have c:=Aside0.mk hbox;have aY:=zge hg HB;have aZ:=zge hg HB;have au:=znl hg a;have p:=zng hg a;have q:=znl hg b;have av:=zng hg b;obtain⟨a,b,HB⟩:=zu2 a b HB hb;clear hb hbox hg;obtain⟨a0,a3⟩:=z2 m;obtain⟨a4,a5⟩:=z2 q;obtain⟨D,E,F,G,I,J,L,M⟩:=zc4 b;obtain⟨a6,a7⟩:=z2 p;obtain⟨O,P,Q,R,T,U,V,W⟩:=zc4 c))
 (try simp only[Act.put,List.setIfInBounds_toArray,List.set_cons_zero,List.set_cons_succ])
 go_cut [28] (fun v28 wc=>∃ (kq:Nat) (y:Bool),v28=.bool y∧Aside0 (soft_Cmp.j0 kq Y Z an y d g=some (r1,r2,r3))∧Aside0 (kq≤k)∧Aside0 (wc.heap[l]?=some (.cells #[.int .i64 d,.int .i64 g] 58 (0,0)))∧Aside0 (wc.heap[ap]?=some (.cells #[.int .i64 af,.bool ag,.int .i64 ah,.int .u64 ai] 89 (0,0)))∧Aside0 (wc.heap[ar]?=some (.cells #[.int .i64 aj,.bool ak,.int .i64 al,.int .u64 am] 89 (0,0)))∧Aside0 (Below w.heap.size w wc))
 case first =>
  have H:=ao.out
  clear ao
  by_cases X:an=0
  ·rw[if_pos X] at H
   obtain⟨s,aw⟩:=zt X
   clear X
   (first|rw[s]|(simp only[i64_w,i32_w];rw[s])|skip)
   obtain⟨C,a8,H⟩:=oB H
   have H':=Aside0.mk H
   clear H
   obtain⟨a9,ba⟩:=z2 m
   obtain⟨bb,bc⟩:=z2 q
   obtain⟨aB,aC,aD,aE,aF,aG,aH,aI⟩:=zc4 b
   obtain⟨bd,be⟩:=z2 p
   obtain⟨aJ,aK,aL,aM,aN,aO,aP,aQ⟩:=zc4 c
   go_wp2_with (first|(go_at_call 101;(with_reducible refine (soft_odd.calls a8.out).mono ?_);rintro e bh ⟨rfl,hb⟩;replace a:=zkb a hb;replace b:=zkbo (o:=.cells #[.int .i64 af,.bool ag,.int .i64 ah,.int .u64 ai] 89 (0,0)) b hb;replace c:=zkbo (o:=.cells #[.int .i64 aj,.bool ak,.int .i64 al,.int .u64 am] 89 (0,0)) c hb;replace HB:=zbs HB hb;clear hb))
   go_meet
   case rel=>exact⟨_,(C),(by first|rfl|(simp[*];done)),H',⟨by omega⟩,⟨zk a⟩,⟨zk b⟩,⟨zk c⟩,⟨zb HB⟩⟩
  rw[if_neg X] at H
  obtain⟨s,aw⟩:=zf X
  (first|rw[s]|(simp only[i64_w,i32_w];rw[s])|skip)
  have H':=Aside0.mk H
  clear H
  go_wp2
  go_meet
  case rel=>exact⟨_,(true),(by first|rfl|(simp[*];done)),H',⟨by omega⟩,⟨zk a⟩,⟨zkp b⟩,⟨zkp c⟩,⟨zb HB⟩⟩
 case rest =>
  clear ao
  try clear D E F G O P Q R aa ab I J L M T U V W ac ad
  obtain⟨kq,y,rfl,HA,bi,a,b,c,HB⟩:=hcut
  cases kq with
  | zero=>exact absurd HA.out (by simp[soft_Cmp.j0])
  | succ bj =>
   have H:=HA.out
   clear HA
   simp only[soft_Cmp.j0] at H
   by_cases ae:y=true
   ·subst ae
    rw[if_pos rfl] at H
    simp only[Option.some.injEq,Prod.mk.injEq] at H
    obtain⟨rfl,rfl,rfl⟩:=H
    go_wp2
    go_ret3
    exact zr HB
   replace ae:=Bool.eq_false_iff.mpr ae
   subst ae
   rw[if_neg nft] at H
   obtain⟨u,ax,H⟩:=oB H
   obtain⟨v,ay,H⟩:=oB H
   by_cases z:u<v
   ·rw[if_pos z] at H
    have az:decide (u<v)=true:=decide_eq_true z
    clear z
    simp only[Option.some.injEq,Prod.mk.injEq] at H
    obtain⟨rfl,rfl,rfl⟩:=H
    try go_wp2
    replace a:=Aside0.mk (blk_drew a.out)
    replace b:=Aside0.mk (blk_drew b.out)
    replace c:=Aside0.mk (blk_drew c.out)
    replace HB:=Aside0.mk (below_drew1 HB.out)
    refine start_ (n:=8) (S:=fun w'=>w'.cell? ⟨l,0,none⟩=some (.int .i64 d)∧w'.cell? ⟨l,1,none⟩=some (.int .i64 g)) (ds:=[]) #[false,false,false,false,false,false,false,false] (by kernel_rfl) rfl rfl ⟨(blk_cell a.out 0).trans rfl,(blk_cell a.out 1).trans rfl⟩ (fun hHeld=>?_);refine with_tabW soft_Cmp.tab4 soft_Cmp.bits4 (fun HT_ HW_=>?_)
    generalize wc.drew=bk at a b c HB hHeld ⊢
    refine zpure_ (i:=1) (N:=some 31) #[false,true,false,false,false,false,false,false] (any_of HT_.out (by kernel_rfl)) ?_
    refine zpure_ (i:=4) (N:=some 34) #[false,true,false,false,true,false,false,false] (any_of HT_.out (by kernel_rfl)) ?_
    refine ztake_ (i:=0) (N:=some 30) #[true,true,false,false,true,false,false,false] rfl (take_ofW HT_.out HW_.out (by kernel_rfl)) hHeld (Or.inl ⟨by rfl,by rintro w' ⟨s0,s1⟩;go_simp;with_reducible rfl⟩) ?_
    refine ztake_ (i:=3) (N:=some 33) #[true,true,false,true,true,false,false,false] rfl (take_ofW HT_.out HW_.out (by kernel_rfl)) hHeld (Or.inl ⟨by rfl,by rintro w' ⟨s0,s1⟩;go_simp;with_reducible rfl⟩) ?_
    refine one_ (i:=2) (N:=some 32) #[true,true,true,true,true,false,false,false] rfl rfl (one_of HT_.out (by kernel_rfl)) (by decide) (fun K hK=>?_)
    refine goes_ Try.func112 (by kernel_rfl) rfl #[.agg #[.int .i64 d,.int .i64 g],.int .u64 Y] (by rfl) rfl rfl (by (try simp only[List.map_toArray,List.map_cons,List.map_nil]);first|done|rfl|(simp only[List.length_drop,List.length_take];rfl)) ?_
    with_reducible refine (soft_place.calls ax.out).mono ?_
    rintro e bl ⟨rfl,hb⟩
    refine⟨_,rfl,?_⟩
    obtain⟨a,b,c,HB⟩:=zu3 a b c HB hb
    try clear hb
    refine hK.out _ _ ⟨(blk_cell a.out 0).trans rfl,(blk_cell a.out 1).trans rfl⟩ (fun hHeld=>?_)
    clear hK K
    refine norm_ (a':=?_) ?_ ?_
    rotate_left
    ·show Act.put _ (some 32) _=_
     simp only[Act.put,List.setIfInBounds_toArray,List.set_cons_zero,List.set_cons_succ,i64_w,i32_w]
     rfl
    refine one_ (i:=5) (N:=some 35) #[true,true,true,true,true,true,false,false] rfl rfl (one_of HT_.out (by kernel_rfl)) (by decide) (fun K hK=>?_)
    refine goes_ Try.func112 (by kernel_rfl) rfl #[.agg #[.int .i64 d,.int .i64 g],.int .u64 Z] (by rfl) rfl rfl (by (try simp only[List.map_toArray,List.map_cons,List.map_nil]);first|done|rfl|(simp only[List.length_drop,List.length_take];rfl)) ?_
    with_reducible refine (soft_place.calls ay.out).mono ?_
    rintro e bm ⟨rfl,hb⟩
    refine⟨_,rfl,?_⟩
    obtain⟨a,b,c,HB⟩:=zu3 a b c HB hb
    try clear hb
    refine hK.out _ _ ⟨(blk_cell a.out 0).trans rfl,(blk_cell a.out 1).trans rfl⟩ (fun hHeld=>?_)
    clear hK K
    refine norm_ (a':=?_) ?_ ?_
    rotate_left
    ·show Act.put _ (some 35) _=_
     simp only[Act.put,List.setIfInBounds_toArray,List.set_cons_zero,List.set_cons_succ,i64_w,i32_w]
     rfl
    refine zpure_ (i:=6) (N:=some 12) #[true,true,true,true,true,true,true,false] (any_of HT_.out (by kernel_rfl)) ?_
    refine zpure_ (i:=7) (N:=some 13) #[true,true,true,true,true,true,true,true] (any_of HT_.out (by kernel_rfl)) ?_
    refine done_ (done_of HT_.out (by kernel_rfl)) ?_
    try go_wp2
    go_ret3
    exact zr HB
   rw[if_neg z] at H
   have az:decide (u<v)=false:=decide_eq_false z
   clear z
   by_cases B:u>v
   ·rw[if_pos B] at H
    have aA:decide (v<u)=true:=decide_eq_true B
    clear B
    simp only[Option.some.injEq,Prod.mk.injEq] at H
    obtain⟨rfl,rfl,rfl⟩:=H
    try go_wp2
    replace a:=Aside0.mk (blk_drew a.out)
    replace b:=Aside0.mk (blk_drew b.out)
    replace c:=Aside0.mk (blk_drew c.out)
    replace HB:=Aside0.mk (below_drew1 HB.out)
    refine start_ (n:=8) (S:=fun w'=>w'.cell? ⟨l,0,none⟩=some (.int .i64 d)∧w'.cell? ⟨l,1,none⟩=some (.int .i64 g)) (ds:=[]) #[false,false,false,false,false,false,false,false] (by kernel_rfl) rfl rfl ⟨(blk_cell a.out 0).trans rfl,(blk_cell a.out 1).trans rfl⟩ (fun hHeld=>?_);refine with_tabW soft_Cmp.tab4 soft_Cmp.bits4 (fun HT_ HW_=>?_)
    generalize wc.drew=bn at a b c HB hHeld ⊢
    refine zpure_ (i:=1) (N:=some 31) #[false,true,false,false,false,false,false,false] (any_of HT_.out (by kernel_rfl)) ?_
    refine zpure_ (i:=4) (N:=some 34) #[false,true,false,false,true,false,false,false] (any_of HT_.out (by kernel_rfl)) ?_
    refine ztake_ (i:=0) (N:=some 30) #[true,true,false,false,true,false,false,false] rfl (take_ofW HT_.out HW_.out (by kernel_rfl)) hHeld (Or.inl ⟨by rfl,by rintro w' ⟨s0,s1⟩;go_simp;with_reducible rfl⟩) ?_
    refine ztake_ (i:=3) (N:=some 33) #[true,true,false,true,true,false,false,false] rfl (take_ofW HT_.out HW_.out (by kernel_rfl)) hHeld (Or.inl ⟨by rfl,by rintro w' ⟨s0,s1⟩;go_simp;with_reducible rfl⟩) ?_
    refine one_ (i:=2) (N:=some 32) #[true,true,true,true,true,false,false,false] rfl rfl (one_of HT_.out (by kernel_rfl)) (by decide) (fun K hK=>?_)
    refine goes_ Try.func112 (by kernel_rfl) rfl #[.agg #[.int .i64 d,.int .i64 g],.int .u64 Y] (by rfl) rfl rfl (by (try simp only[List.map_toArray,List.map_cons,List.map_nil]);first|done|rfl|(simp only[List.length_drop,List.length_take];rfl)) ?_
    with_reducible refine (soft_place.calls ax.out).mono ?_
    rintro e bo ⟨rfl,hb⟩
    refine⟨_,rfl,?_⟩
    obtain⟨a,b,c,HB⟩:=zu3 a b c HB hb
    try clear hb
    refine hK.out _ _ ⟨(blk_cell a.out 0).trans rfl,(blk_cell a.out 1).trans rfl⟩ (fun hHeld=>?_)
    clear hK K
    refine norm_ (a':=?_) ?_ ?_
    rotate_left
    ·show Act.put _ (some 32) _=_
     simp only[Act.put,List.setIfInBounds_toArray,List.set_cons_zero,List.set_cons_succ,i64_w,i32_w]
     rfl
    refine one_ (i:=5) (N:=some 35) #[true,true,true,true,true,true,false,false] rfl rfl (one_of HT_.out (by kernel_rfl)) (by decide) (fun K hK=>?_)
    refine goes_ Try.func112 (by kernel_rfl) rfl #[.agg #[.int .i64 d,.int .i64 g],.int .u64 Z] (by rfl) rfl rfl (by (try simp only[List.map_toArray,List.map_cons,List.map_nil]);first|done|rfl|(simp only[List.length_drop,List.length_take];rfl)) ?_
    with_reducible refine (soft_place.calls ay.out).mono ?_
    rintro e bp ⟨rfl,hb⟩
    refine⟨_,rfl,?_⟩
    obtain⟨a,b,c,HB⟩:=zu3 a b c HB hb
    try clear hb
    refine hK.out _ _ ⟨(blk_cell a.out 0).trans rfl,(blk_cell a.out 1).trans rfl⟩ (fun hHeld=>?_)
    clear hK K
    refine norm_ (a':=?_) ?_ ?_
    rotate_left
    ·show Act.put _ (some 35) _=_
     simp only[Act.put,List.setIfInBounds_toArray,List.set_cons_zero,List.set_cons_succ,i64_w,i32_w]
     rfl
    refine zpure_ (i:=6) (N:=some 12) #[true,true,true,true,true,true,true,false] (any_of HT_.out (by kernel_rfl)) ?_
    refine zpure_ (i:=7) (N:=some 13) #[true,true,true,true,true,true,true,true] (any_of HT_.out (by kernel_rfl)) ?_
    refine done_ (done_of HT_.out (by kernel_rfl)) ?_
    try go_wp2
    go_ret3
    exact zr HB
   rw[if_neg B] at H
   have aA:decide (v<u)=false:=decide_eq_false B
   clear B
   simp only[Option.some.injEq,Prod.mk.injEq] at H
   obtain⟨rfl,rfl,rfl⟩:=H
   try go_wp2
   replace a:=Aside0.mk (blk_drew a.out)
   replace b:=Aside0.mk (blk_drew b.out)
   replace c:=Aside0.mk (blk_drew c.out)
   replace HB:=Aside0.mk (below_drew1 HB.out)
   refine start_ (n:=8) (S:=fun w'=>w'.cell? ⟨l,0,none⟩=some (.int .i64 d)∧w'.cell? ⟨l,1,none⟩=some (.int .i64 g)) (ds:=[]) #[false,false,false,false,false,false,false,false] (by kernel_rfl) rfl rfl ⟨(blk_cell a.out 0).trans rfl,(blk_cell a.out 1).trans rfl⟩ (fun hHeld=>?_);refine with_tabW soft_Cmp.tab4 soft_Cmp.bits4 (fun HT_ HW_=>?_)
   generalize wc.drew=bq at a b c HB hHeld ⊢
   refine zpure_ (i:=1) (N:=some 31) #[false,true,false,false,false,false,false,false] (any_of HT_.out (by kernel_rfl)) ?_
   refine zpure_ (i:=4) (N:=some 34) #[false,true,false,false,true,false,false,false] (any_of HT_.out (by kernel_rfl)) ?_
   refine ztake_ (i:=0) (N:=some 30) #[true,true,false,false,true,false,false,false] rfl (take_ofW HT_.out HW_.out (by kernel_rfl)) hHeld (Or.inl ⟨by rfl,by rintro w' ⟨s0,s1⟩;go_simp;with_reducible rfl⟩) ?_
   refine ztake_ (i:=3) (N:=some 33) #[true,true,false,true,true,false,false,false] rfl (take_ofW HT_.out HW_.out (by kernel_rfl)) hHeld (Or.inl ⟨by rfl,by rintro w' ⟨s0,s1⟩;go_simp;with_reducible rfl⟩) ?_
   refine one_ (i:=2) (N:=some 32) #[true,true,true,true,true,false,false,false] rfl rfl (one_of HT_.out (by kernel_rfl)) (by decide) (fun K hK=>?_)
   refine goes_ Try.func112 (by kernel_rfl) rfl #[.agg #[.int .i64 d,.int .i64 g],.int .u64 Y] (by rfl) rfl rfl (by (try simp only[List.map_toArray,List.map_cons,List.map_nil]);first|done|rfl|(simp only[List.length_drop,List.length_take];rfl)) ?_
   with_reducible refine (soft_place.calls ax.out).mono ?_
   rintro e br ⟨rfl,hb⟩
   refine⟨_,rfl,?_⟩
   obtain⟨a,b,c,HB⟩:=zu3 a b c HB hb
   try clear hb
   refine hK.out _ _ ⟨(blk_cell a.out 0).trans rfl,(blk_cell a.out 1).trans rfl⟩ (fun hHeld=>?_)
   clear hK K
   refine norm_ (a':=?_) ?_ ?_
   rotate_left
   ·show Act.put _ (some 32) _=_
    simp only[Act.put,List.setIfInBounds_toArray,List.set_cons_zero,List.set_cons_succ,i64_w,i32_w]
    rfl
   refine one_ (i:=5) (N:=some 35) #[true,true,true,true,true,true,false,false] rfl rfl (one_of HT_.out (by kernel_rfl)) (by decide) (fun K hK=>?_)
   refine goes_ Try.func112 (by kernel_rfl) rfl #[.agg #[.int .i64 d,.int .i64 g],.int .u64 Z] (by rfl) rfl rfl (by (try simp only[List.map_toArray,List.map_cons,List.map_nil]);first|done|rfl|(simp only[List.length_drop,List.length_take];rfl)) ?_
   with_reducible refine (soft_place.calls ay.out).mono ?_
   rintro e bs ⟨rfl,hb⟩
   refine⟨_,rfl,?_⟩
   obtain⟨a,b,c,HB⟩:=zu3 a b c HB hb
   try clear hb
   refine hK.out _ _ ⟨(blk_cell a.out 0).trans rfl,(blk_cell a.out 1).trans rfl⟩ (fun hHeld=>?_)
   clear hK K
   refine norm_ (a':=?_) ?_ ?_
   rotate_left
   ·show Act.put _ (some 35) _=_
    simp only[Act.put,List.setIfInBounds_toArray,List.set_cons_zero,List.set_cons_succ,i64_w,i32_w]
    rfl
   refine zpure_ (i:=6) (N:=some 12) #[true,true,true,true,true,true,true,false] (any_of HT_.out (by kernel_rfl)) ?_
   refine zpure_ (i:=7) (N:=some 13) #[true,true,true,true,true,true,true,true] (any_of HT_.out (by kernel_rfl)) ?_
   refine done_ (done_of HT_.out (by kernel_rfl)) ?_
   try go_wp2
   go_ret3
   exact zr HB

/-! ### reals_kind: function 85 -/
def reals_kind.f (k:Nat) (a0_0:Int) (a0_1:Int) (a1:Int):Option (Int):=(round_Open.f k a0_0 a0_1 a1).bind fun a=>(some a.1)
theorem reals_kind.mono:∀ a0 a1 a2 k,LeO (reals_kind.f k a0 a1 a2) (reals_kind.f (k+1) a0 a1 a2):=by
 intro a0 a1 a2 k
 unfold reals_kind.f
 repeat' first|(with_reducible first|apply round_Open.mono|exact LeO.refl _|exact LeO.none _|refine LeO.ite ?_ ?_|refine LeO.bind ?_ (fun _=>?_))|refine LeO.ite ?_ ?_|refine LeO.bind ?_ (fun _=>?_)
set_option maxHeartbeats 8000000 in
set_option maxRecDepth 100000 in
theorem reals_kind.calls {k:Nat} {c:Int} {d:Int} {C:Int} {r:Int} {w:World} (h:reals_kind.f k c d C=some r) :
  Calls Try.prog 85 #[.agg #[.int .i64 c,.int .i64 d],.int .u64 C] w fun e w'=>e=.returned (.int .i64 r)∧Below w.heap.size w w':=by
 have hu58:=Try.underlying58
 have hu89:=Try.underlying89
 have HB:=Aside0.mk (Below.refl w.heap.size w)
 have H:=h
 unfold reals_kind.f at H
 clear h
 obtain⟨⟨K,L,M,O,P⟩,S,H⟩:=oB H
 try dsimp only at H
 obtain rfl:=Option.some.inj H
 go_enter Try.func85,Try.ntmps85
 go_wp2_with (first|((with_reducible refine gate_dst (N:=2) rfl ?_);refine zbox (N:=2) (cs:=#[.int .i64 c,.int .i64 d]) (t:=58) ?_;intro D hg T hbox hb;have a:=Aside0.mk hbox;have E:=zge hg HB;have F:=zge hg HB;replace HB:=zbs HB hb;clear hb hbox hg;obtain⟨l,m,n,o⟩:=zc2 a)|((with_reducible refine gate_callee (f:=95) rfl ?_);refine zgc (some 10) Try.func95 (round_Open.calls S.out) ?_;intro U hb;obtain⟨a,HB⟩:=zu1 a HB hb;clear hb)|((with_reducible refine gate_dst (N:=5) rfl ?_);refine zbox (N:=5) (cs:=#[.int .i64 0,.bool false,.int .i64 0,.int .u64 0]) (t:=89) ?_;intro G hg V hbox hb;have i:=Aside0.mk hbox;have I:=zge hg HB;have J:=zge hg HB;have j:=znl hg a;have b:=zng hg a;obtain⟨a,HB⟩:=zu1 a HB hb;clear hb hbox hg;obtain⟨Q,R⟩:=z2 b;obtain⟨p,q,s,u,v,y,z,B⟩:=zc4 i))
 go_ret
 exact zr HB

/-! ### reals_near: function 84 -/
mutual
def reals_near.j0:Nat→Int→Int→Int→Bool→Int→Int→Option (Bool)
 | 0,_,_,_,_,_,_=>none
 | k+1,c,d,e,g,a,b=>if g=true then (some false) else ((reals_kind.f k a b c).bind fun h=>(if h=3 then ((reals_kind.f k a b d).bind fun i=>(reals_near.j1 k c d e (i==3) a b)) else (reals_near.j1 k c d e false a b)))
def reals_near.j1:Nat→Int→Int→Int→Bool→Int→Int→Option (Bool)
 | 0,_,_,_,_,_,_=>none
 | k+1,c,d,h,i,a,b=>if i=true then (some (c==d)) else ((round_Zero.f a b true).bind fun e=>((soft_Sub.f k a b c d).bind fun j=>((soft_Cmp.f k a b (Go.bits .andNot .u64 j.1 e) (Go.bits .andNot .u64 h e)).bind fun g=>(if g.2.1=true then (some (decide (g.1≤0))) else (some false)))))
end
def reals_near.f (k:Nat) (a0_0:Int) (a0_1:Int) (a1:Int) (a2:Int) (a3:Int):Option (Bool):=(reals_kind.f k a0_0 a0_1 a1).bind fun a=>(if a=4 then (reals_near.j0 k a1 a2 a3 true a0_0 a0_1) else ((reals_kind.f k a0_0 a0_1 a2).bind fun b=>(if b=4 then (reals_near.j0 k a1 a2 a3 true a0_0 a0_1) else ((reals_kind.f k a0_0 a0_1 a3).bind fun c=>(reals_near.j0 k a1 a2 a3 (c==4) a0_0 a0_1)))))
theorem reals_near.mono_l:∀ k,(∀ y0 y1 y2 y3 y4 y5,LeO (reals_near.j0 k y0 y1 y2 y3 y4 y5) (reals_near.j0 (k+1) y0 y1 y2 y3 y4 y5))∧(∀ y0 y1 y2 y3 y4 y5,LeO (reals_near.j1 k y0 y1 y2 y3 y4 y5) (reals_near.j1 (k+1) y0 y1 y2 y3 y4 y5))
 | 0=>⟨fun _ _ _ _ _ _ r h=>by simp[reals_near.j0] at h,fun _ _ _ _ _ _ r h=>by simp[reals_near.j1] at h⟩
 | k+1=>by
  obtain⟨ih0,ih1⟩:=reals_near.mono_l k
  refine⟨?_,?_⟩ <;> intros <;> (first|unfold reals_near.j0|unfold reals_near.j1) <;> (repeat' first|(with_reducible first|apply ih0|apply ih1|apply reals_kind.mono|apply soft_Cmp.mono|apply soft_Sub.mono|exact LeO.refl _|exact LeO.none _|refine LeO.ite ?_ ?_|refine LeO.bind ?_ (fun _=>?_))|refine LeO.ite ?_ ?_|refine LeO.bind ?_ (fun _=>?_))
theorem reals_near.mono:∀ a0 a1 a2 a3 a4 k,LeO (reals_near.f k a0 a1 a2 a3 a4) (reals_near.f (k+1) a0 a1 a2 a3 a4):=by
 intro a0 a1 a2 a3 a4 k
 obtain⟨ih0,ih1⟩:=reals_near.mono_l k
 unfold reals_near.f
 repeat' first|(with_reducible first|apply ih0|apply ih1|apply reals_kind.mono|apply soft_Cmp.mono|apply soft_Sub.mono|exact LeO.refl _|exact LeO.none _|refine LeO.ite ?_ ?_|refine LeO.bind ?_ (fun _=>?_))|refine LeO.ite ?_ ?_|refine LeO.bind ?_ (fun _=>?_)
set_option maxHeartbeats 8000000 in
set_option maxRecDepth 100000 in
theorem reals_near.calls {k:Nat} {b:Int} {c:Int} {a1:Int} {a2:Int} {a3:Int} {r:Bool} {w:World} (h:reals_near.f k b c a1 a2 a3=some r) :
  Calls Try.prog 84 #[.agg #[.int .i64 b,.int .i64 c],.int .u64 a1,.int .u64 a2,.int .u64 a3] w fun e w'=>e=.returned (.bool r)∧Below w.heap.size w w':=by
 have hu58:=Try.underlying58
 have HB:=Aside0.mk (Below.refl w.heap.size w)
 have H:=h
 unfold reals_near.f at H
 clear h
 have ag:=Aside0.mk H
 clear H
 go_enter Try.func84,Try.ntmps84
 go_upto_region 1 with (first|((with_reducible refine gate_dst (N:=4) rfl ?_);refine zbox (N:=4) (cs:=#[.int .i64 b,.int .i64 c]) (t:=58) ?_;intro p hg w6 hbox hb;have a:=Aside0.mk hbox;have a7:=zge hg HB;have a8:=zge hg HB;replace HB:=zbs HB hb;clear hb hbox hg))
 (try simp only[Act.put,List.setIfInBounds_toArray,List.set_cons_zero,List.set_cons_succ])
 go_cut [30] (fun v30 wc=>∃ (kq:Nat) (j:Bool),v30=.bool j∧Aside0 (reals_near.j0 kq a1 a2 a3 j b c=some r)∧Aside0 (kq≤k)∧Aside0 (wc.heap[p]?=some (.cells #[.int .i64 b,.int .i64 c] 58 (0,0)))∧Aside0 (Below w.heap.size w wc))
 case first =>
  have H:=ag.out
  clear ag
  obtain⟨m,A7,H⟩:=oB H
  by_cases c8:m=4
  ·rw[if_pos c8] at H
   obtain⟨i,af⟩:=zt c8
   clear c8
   (first|rw[i]|(simp only[i64_w,i32_w];rw[i])|skip)
   have H':=Aside0.mk H
   clear H
   obtain⟨W,X,Y,Z⟩:=zc2 a
   go_wp2_with (first|((with_reducible refine gate_callee (f:=85) rfl ?_);refine zgc (some 17) Try.func85 (reals_kind.calls A7.out) ?_;intro bk hb;obtain⟨a,HB⟩:=zu1 a HB hb;clear hb))
   go_meet
   case rel=>exact⟨_,(true),(by first|rfl|(simp[*];done)),H',⟨by omega⟩,⟨zk a⟩,⟨zb HB⟩⟩
  rw[if_neg c8] at H
  obtain⟨i,af⟩:=zf c8
  (first|rw[i]|(simp only[i64_w,i32_w];rw[i])|skip)
  obtain⟨n,aj,H⟩:=oB H
  by_cases l:n=4
  ·rw[if_pos l] at H
   obtain⟨q,s⟩:=zt l
   clear l
   have H':=Aside0.mk H
   clear H
   obtain⟨u,v,y,z⟩:=zc2 a
   go_wp2_with (first|((with_reducible refine gate_callee (f:=85) rfl ?_);refine zgc (some 17) Try.func85 (reals_kind.calls A7.out) ?_;intro bl hb;obtain⟨a,HB⟩:=zu1 a HB hb;clear hb;obtain⟨B,C,D,E⟩:=zc2 a)|(go_at_call 85;(with_reducible refine (reals_kind.calls aj.out).mono ?_);rintro e bm ⟨rfl,hb⟩;obtain⟨a,HB⟩:=zu1 a HB hb;clear hb))
   go_meet
   case rel=>exact⟨_,(true),(by first|rfl|(simp[*];done)),H',⟨by omega⟩,⟨zk a⟩,⟨zb HB⟩⟩
  rw[if_neg l] at H
  obtain⟨q,s⟩:=zf l
  obtain⟨o,ba,H⟩:=oB H
  have H':=Aside0.mk H
  clear H
  obtain⟨F,G,I,J⟩:=zc2 a
  go_wp2_with (first|((with_reducible refine gate_callee (f:=85) rfl ?_);refine zgc (some 17) Try.func85 (reals_kind.calls A7.out) ?_;intro bn hb;obtain⟨a,HB⟩:=zu1 a HB hb;clear hb;obtain⟨K,L,M,O⟩:=zc2 a)|(go_at_call 85;(with_reducible refine (reals_kind.calls aj.out).mono ?_);rintro e bo ⟨rfl,hb⟩;obtain⟨a,HB⟩:=zu1 a HB hb;clear hb;obtain⟨P,Q,R,S⟩:=zc2 a)|(go_at_call 85;(with_reducible refine (reals_kind.calls ba.out).mono ?_);rintro e bp ⟨rfl,hb⟩;obtain⟨a,HB⟩:=zu1 a HB hb;clear hb))
  go_meet
  case rel=>exact⟨_,((o==4)),(by first|rfl|(simp[*];done)),H',⟨by omega⟩,⟨zk a⟩,⟨zb HB⟩⟩
 case rest =>
  clear ag
  obtain⟨kq,j,rfl,HA,ak,a,HB⟩:=hcut
  cases kq with
  | zero=>exact absurd HA.out (by simp[reals_near.j0])
  | succ bb =>
   have H:=HA.out
   clear HA
   simp only[reals_near.j0] at H
   by_cases T:j=true
   ·subst T
    rw[if_pos rfl] at H
    obtain rfl:=Option.some.inj H
    go_wp2
    go_ret
    exact zr HB
   replace T:=Bool.eq_false_iff.mpr T
   subst T
   rw[if_neg nft] at H
   have U:=Aside0.mk H
   clear H
   go_upto_region 3 with (fail)
   go_cut [40] (fun v40 wc=>∃ (kq:Nat) (d:Bool),v40=.bool d∧Aside0 (reals_near.j1 kq a1 a2 a3 d b c=some r)∧Aside0 (kq≤bb)∧Aside0 (wc.heap[p]?=some (.cells #[.int .i64 b,.int .i64 c] 58 (0,0)))∧Aside0 (Below w.heap.size w wc))
   case first =>
    have H:=U.out
    clear U
    obtain⟨al,am,H⟩:=oB H
    by_cases V:al=3
    ·rw[if_pos V] at H
     obtain⟨g,ah⟩:=zt V
     clear V
     (first|rw[g]|(simp only[i64_w,i32_w];rw[g])|skip)
     obtain⟨an,bc,H⟩:=oB H
     have H':=Aside0.mk H
     clear H
     obtain⟨ao,ap,aq,ar⟩:=zc2 a
     go_wp2_with (first|((with_reducible refine gate_callee (f:=85) rfl ?_);refine zgc (some 33) Try.func85 (reals_kind.calls am.out) ?_;intro bq hb;obtain⟨a,HB⟩:=zu1 a HB hb;clear hb;obtain⟨au,av,aw,ax⟩:=zc2 a)|(go_at_call 85;(with_reducible refine (reals_kind.calls bc.out).mono ?_);rintro e br ⟨rfl,hb⟩;obtain⟨a,HB⟩:=zu1 a HB hb;clear hb))
     go_meet
     case rel=>exact⟨_,((an==3)),(by first|rfl|(simp[*];done)),H',⟨by have:=ak.out;first|omega|exact Nat.le_refl _⟩,⟨zk a⟩,⟨zb HB⟩⟩
    rw[if_neg V] at H
    obtain⟨g,ah⟩:=zf V
    (first|rw[g]|(simp only[i64_w,i32_w];rw[g])|skip)
    have H':=Aside0.mk H
    clear H
    obtain⟨ay,az,aA,aB⟩:=zc2 a
    go_wp2_with (first|((with_reducible refine gate_callee (f:=85) rfl ?_);refine zgc (some 33) Try.func85 (reals_kind.calls am.out) ?_;intro bs hb;obtain⟨a,HB⟩:=zu1 a HB hb;clear hb))
    go_meet
    case rel=>exact⟨_,(false),(by first|rfl|(simp[*];done)),H',⟨by have:=ak.out;first|omega|exact Nat.le_refl _⟩,⟨zk a⟩,⟨zb HB⟩⟩
   case rest =>
    clear U
    try clear c1 p2 c8 i af l q s T u v B C F G K L P Q W X y z D E I J M O R S Y Z p2
    obtain⟨kq,d,rfl,HA,bd,a,HB⟩:=hcut
    cases kq with
    | zero=>exact absurd HA.out (by simp[reals_near.j1])
    | succ be =>
     have H:=HA.out
     clear HA
     simp only[reals_near.j1] at H
     by_cases aa:d=true
     ·subst aa
      rw[if_pos rfl] at H
      obtain rfl:=Option.some.inj H
      go_wp2
      go_ret
      exact zr HB
     replace aa:=Bool.eq_false_iff.mpr aa
     subst aa
     rw[if_neg nft] at H
     obtain⟨bf,aC,H⟩:=oB H
     obtain⟨⟨bg,bh⟩,aD,H⟩:=oB H
     try dsimp only at H
     obtain⟨⟨bi,aE,bj⟩,aF,H⟩:=oB H
     try dsimp only at H
     by_cases ab:aE=true
     ·subst ab
      rw[if_pos rfl] at H
      obtain rfl:=Option.some.inj H
      obtain⟨aG,aH,aI,aJ⟩:=zc2 a
      go_wp2_with (first|((with_reducible refine gate_callee (f:=102) rfl ?_);refine zgc (some 45) Try.func102 (round_Zero.calls aC.out) ?_;intro bu hb;obtain⟨a,HB⟩:=zu1 a HB hb;clear hb;obtain⟨aK,aL,aM,aN⟩:=zc2 a)|((with_reducible refine gate_callee (f:=59) rfl ?_);refine zgc (some 50) Try.func59 (soft_Sub.calls aD.out) ?_;intro bv hb;obtain⟨a,HB⟩:=zu1 a HB hb;clear hb;obtain⟨aO,aP,aQ,aR⟩:=zc2 a)|((with_reducible refine gate_callee (f:=83) rfl ?_);refine zgc (some 61) Try.func83 (soft_Cmp.calls aF.out) ?_;intro bw hb;obtain⟨a,HB⟩:=zu1 a HB hb;clear hb))
      go_ret
      exact zr HB
     replace ab:=Bool.eq_false_iff.mpr ab
     subst ab
     rw[if_neg nft] at H
     obtain rfl:=Option.some.inj H
     obtain⟨aS,aT,aU,aV⟩:=zc2 a
     go_wp2_with (first|((with_reducible refine gate_callee (f:=102) rfl ?_);refine zgc (some 45) Try.func102 (round_Zero.calls aC.out) ?_;intro bx hb;obtain⟨a,HB⟩:=zu1 a HB hb;clear hb;obtain⟨aW,aX,aY,aZ⟩:=zc2 a)|((with_reducible refine gate_callee (f:=59) rfl ?_);refine zgc (some 50) Try.func59 (soft_Sub.calls aD.out) ?_;intro bz hb;obtain⟨a,HB⟩:=zu1 a HB hb;clear hb;obtain⟨a0,a4,a5,a6⟩:=zc2 a)|((with_reducible refine gate_callee (f:=83) rfl ?_);refine zgc (some 61) Try.func83 (soft_Cmp.calls aF.out) ?_;intro bA hb;obtain⟨a,HB⟩:=zu1 a HB hb;clear hb))
     go_ret
     exact zr HB

end Go.Proofs.Ythkifpdachjlgaa.PQ
