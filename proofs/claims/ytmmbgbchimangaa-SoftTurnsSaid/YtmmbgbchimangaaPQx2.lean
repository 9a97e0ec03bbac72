-- by a program of this claim
import Derived.Test.YtmmbgbchimangaaPQx0
import Derived.Test.YtmmbgbchimangaaPQx1
namespace Go.Proofs.Ytmmbgbchimangaa.PQ
open Go.RowKit Go.Proofs.YtmmbgbchimangaaW.PrintWords Go.Proofs.YtmmbgbchimangaaW.PrintLast Go.Proofs.YtmmbgbchimangaaW.PrintMore Go.Proofs.Ytmmbgbchimangaa.Z
attribute [local go_sem] max2_int min2_int max_two min_two max_three min_three max_four min_four   -- for this text's walks alone
set_option linter.unusedVariables false
set_option linter.unusedSimpArgs false

/-! ### soft_two: function 47 -/
def soft_two.f (k:Nat) (a0_0:Int) (a0_1:Int) (a1:Int) (a2:Int):Option (Int×Bool×Int×Int×Int×Bool×Int×Int×Int):=(round_Open.f k a0_0 a0_1 a1).bind fun a=>(if a.2.2.2.2=0 then ((round_Open.f k a0_0 a0_1 a2).bind fun b=>(if b.2.2.2.2=0 then (some (a.1,a.2.1,a.2.2.1,a.2.2.2.1,b.1,b.2.1,b.2.2.1,b.2.2.2.1,0)) else (some (0,false,0,0,0,false,0,0,b.2.2.2.2)))) else (some (0,false,0,0,0,false,0,0,a.2.2.2.2)))
theorem soft_two.mono:∀ a0 a1 a2 a3 k,LeO (soft_two.f k a0 a1 a2 a3) (soft_two.f (k+1) a0 a1 a2 a3):=by
 intro a0 a1 a2 a3 k
 unfold soft_two.f
 repeat' first|(with_reducible first|apply round_Open.mono|exact LeO.refl _|exact LeO.none _|refine LeO.ite ?_ ?_|refine LeO.bind ?_ (fun _=>?_))|refine LeO.ite ?_ ?_|refine LeO.bind ?_ (fun _=>?_)
set_option maxHeartbeats 8000000 in
set_option maxRecDepth 100000 in
theorem soft_two.calls {k:Nat} {X:Int} {Y:Int} {a1:Int} {a2:Int} {r1:Int} {r2:Bool} {r3:Int} {r4:Int} {r5:Int} {r6:Bool} {r7:Int} {r8:Int} {r9:Int} {w:World} (h:soft_two.f k X Y a1 a2=some (r1,r2,r3,r4,r5,r6,r7,r8,r9)) :
  Calls Try.prog 47 #[.agg #[.int .i64 X,.int .i64 Y],.int .u64 a1,.int .u64 a2] w fun e w'=>e=.returned (.tuple #[.agg #[.int .i64 r1,.bool r2,.int .i64 r3,.int .u64 r4],.agg #[.int .i64 r5,.bool r6,.int .i64 r7,.int .u64 r8],.int .i64 r9])∧Below w.heap.size w w':=by
 have hu23:=Try.underlying23
 have hu34:=Try.underlying34
 have HB:=Aside0.mk (Below.refl w.heap.size w)
 have H:=h
 unfold soft_two.f at H
 clear h
 obtain⟨⟨aa,ab,ac,ad,av⟩,A4,H⟩:=oB H
 try dsimp only at H
 by_cases c5:av=0
 rotate_left
 ·rw[if_neg c5] at H
  obtain⟨ax,ay⟩:=zf c5
  simp only[Option.some.injEq,Prod.mk.injEq] at H
  obtain⟨rfl,rfl,rfl,rfl,rfl,rfl,rfl,rfl,rfl⟩:=H
  go_enter Try.func47,Try.ntmps47
  go_wp2_with (first|((with_reducible refine gate_dst (N:=3) rfl ?_);refine zbox (N:=3) (cs:=#[.int .i64 X,.int .i64 Y]) (t:=23) ?_;intro af hg eu hbox hb;have a:=Aside0.mk hbox;have aj:=zge hg HB;have ak:=zge hg HB;replace HB:=zbs HB hb;clear hb hbox hg)|((with_reducible refine gate_dst (N:=6) rfl ?_);refine zbox (N:=6) (cs:=#[.int .i64 0,.bool false,.int .i64 0,.int .u64 0]) (t:=34) ?_;intro m hg ev hbox hb;have b:=Aside0.mk hbox;have al:=zge hg HB;have am:=zge hg HB;have z:=znl hg a;have C:=zng hg a;obtain⟨a,HB⟩:=zu1 a HB hb;clear hb hbox hg)|((with_reducible refine gate_dst (N:=7) rfl ?_);refine zbox (N:=7) (cs:=#[.int .i64 0,.bool false,.int .i64 0,.int .u64 0]) (t:=34) ?_;intro q hg ew hbox hb;have c:=Aside0.mk hbox;have an:=zge hg HB;have ao:=zge hg HB;have B:=znl hg a;have D:=zng hg a;have v:=znl hg b;have y:=zng hg b;obtain⟨a,b,HB⟩:=zu2 a b HB hb;clear hb hbox hg;obtain⟨d6,d7⟩:=z2 z;obtain⟨d8,d9⟩:=z2 B;obtain⟨cL,cM,cN,cO⟩:=zc2 a)|((with_reducible refine gate_callee (f:=68) rfl ?_);refine zgc (some 15) Try.func68 (round_Open.calls A4.out) ?_;intro ex hb;obtain⟨a,b,c,HB⟩:=zu3 a b c HB hb;clear hb)|((with_reducible refine gate_dst (N:=9) rfl ?_);refine zbox (N:=9) (cs:=#[.int .i64 0,.bool false,.int .i64 0,.int .u64 0]) (t:=34) ?_;intro R hg ey hbox hb;have u:=Aside0.mk hbox;have ap:=zge hg HB;have aq:=zge hg HB;have Z:=znl hg a;have I:=zng hg a;have E:=znl hg b;have d:=zng hg b;have F:=znl hg c;have g:=zng hg c;obtain⟨a,b,c,HB⟩:=zu3 a b c HB hb;clear hb hbox hg;obtain⟨ea,eb⟩:=z2 I;obtain⟨ec,ed⟩:=z2 d;obtain⟨ee,ef⟩:=z2 g;obtain⟨cP,cQ,cR,cS,cT,cU,cV,cW⟩:=zc4 u;obtain⟨eg,eh⟩:=z2 v;obtain⟨cX,cY,cZ,c0,c1,c2,c3,c4⟩:=zc4 b;obtain⟨c6,c8,c9,da,db,dc,dd,de⟩:=zc4 c))
  refine bodyPost_ret (results_list (rs:=[.cell 6 34,.cell 7 34,.tmp 8]) rfl (by simp) (.cell m 34 #[.int .i64 0,.bool false,.int .i64 0,.int .u64 0] (0,0) _ rfl (zkp b) Try.underlying34 rfl (by kernel_rfl) (.cell q 34 #[.int .i64 0,.bool false,.int .i64 0,.int .u64 0] (0,0) _ rfl (zkp c) Try.underlying34 rfl (by kernel_rfl) (.tmp .nil)))) rfl ?_
  exact zr HB

 rw[if_pos c5] at H
 obtain⟨ax,ay⟩:=zt c5
 clear c5
 obtain⟨⟨M,O,P,Q,az⟩,A6,H⟩:=oB H
 try dsimp only at H
 by_cases c7:az=0
 rotate_left
 ·rw[if_neg c7] at H
  obtain⟨aB,aC⟩:=zf c7
  simp only[Option.some.injEq,Prod.mk.injEq] at H
  obtain⟨rfl,rfl,rfl,rfl,rfl,rfl,rfl,rfl,rfl⟩:=H
  go_enter Try.func47,Try.ntmps47
  go_wp2_with (first|((with_reducible refine gate_dst (N:=3) rfl ?_);refine zbox (N:=3) (cs:=#[.int .i64 X,.int .i64 Y]) (t:=23) ?_;intro af hg en hbox hb;have a:=Aside0.mk hbox;have aj:=zge hg HB;have ak:=zge hg HB;replace HB:=zbs HB hb;clear hb hbox hg)|((with_reducible refine gate_dst (N:=6) rfl ?_);refine zbox (N:=6) (cs:=#[.int .i64 0,.bool false,.int .i64 0,.int .u64 0]) (t:=34) ?_;intro m hg eo hbox hb;have b:=Aside0.mk hbox;have al:=zge hg HB;have am:=zge hg HB;have z:=znl hg a;have C:=zng hg a;obtain⟨a,HB⟩:=zu1 a HB hb;clear hb hbox hg)|((with_reducible refine gate_dst (N:=7) rfl ?_);refine zbox (N:=7) (cs:=#[.int .i64 0,.bool false,.int .i64 0,.int .u64 0]) (t:=34) ?_;intro q hg ep hbox hb;have c:=Aside0.mk hbox;have an:=zge hg HB;have ao:=zge hg HB;have B:=znl hg a;have D:=zng hg a;have v:=znl hg b;have y:=zng hg b;obtain⟨a,b,HB⟩:=zu2 a b HB hb;clear hb hbox hg;obtain⟨dM,dN⟩:=z2 z;obtain⟨dO,dP⟩:=z2 B;obtain⟨b6,b7,b8,b9⟩:=zc2 a)|((with_reducible refine gate_callee (f:=68) rfl ?_);refine zgc (some 15) Try.func68 (round_Open.calls A4.out) ?_;intro eq hb;obtain⟨a,b,c,HB⟩:=zu3 a b c HB hb;clear hb)|((with_reducible refine gate_dst (N:=9) rfl ?_);refine zbox (N:=9) (cs:=#[.int .i64 0,.bool false,.int .i64 0,.int .u64 0]) (t:=34) ?_;intro R hg er hbox hb;have u:=Aside0.mk hbox;have ap:=zge hg HB;have aq:=zge hg HB;have Z:=znl hg a;have I:=zng hg a;have E:=znl hg b;have d:=zng hg b;have F:=znl hg c;have g:=zng hg c;obtain⟨a,b,c,HB⟩:=zu3 a b c HB hb;clear hb hbox hg;obtain⟨dQ,dR⟩:=z2 I;obtain⟨dS,dT⟩:=z2 d;obtain⟨dU,dV⟩:=z2 g;obtain⟨ca,cb,cc,cd,ce,cf,cg,ch⟩:=zc4 u;obtain⟨ci,cj,ck,cl⟩:=zc2 a)|((with_reducible refine gate_callee (f:=68) rfl ?_);refine zgc (some 26) Try.func68 (round_Open.calls A6.out) ?_;intro es hb;replace a:=zkb a hb;replace b:=zkb b hb;replace c:=zkb c hb;replace u:=zkbo (o:=.cells #[.int .i64 aa,.bool ab,.int .i64 ac,.int .u64 ad] 34 (0,0)) u hb;replace HB:=zbs HB hb;clear hb)|((with_reducible refine gate_dst (N:=11) rfl ?_);refine zbox (N:=11) (cs:=#[.int .i64 0,.bool false,.int .i64 0,.int .u64 0]) (t:=34) ?_;intro s hg et hbox hb;have G:=Aside0.mk hbox;have ar:=zge hg HB;have au:=zge hg HB;have ah:=znl hg a;have T:=zng hg a;have J:=znl hg b;have j:=zng hg b;have L:=znl hg c;have l:=zng hg c;have ai:=znl hg u;have U:=zng hg u;obtain⟨a,b,c,u,HB⟩:=zu4 a b c u HB hb;clear hb hbox hg;obtain⟨dW,dX⟩:=z2 T;obtain⟨dY,dZ⟩:=z2 j;obtain⟨d0,d1⟩:=z2 l;obtain⟨d2,d3⟩:=z2 U;obtain⟨cm,cn,co,cp,cq,cr,ct,cu⟩:=zc4 G;obtain⟨d4,d5⟩:=z2 v;obtain⟨cv,cw,cx,cy,cz,cA,cB,cC⟩:=zc4 b;obtain⟨cD,cE,cF,cG,cH,cI,cJ,cK⟩:=zc4 c))
  refine bodyPost_ret (results_list (rs:=[.cell 6 34,.cell 7 34,.tmp 8]) rfl (by simp) (.cell m 34 #[.int .i64 0,.bool false,.int .i64 0,.int .u64 0] (0,0) _ rfl (zkp b) Try.underlying34 rfl (by kernel_rfl) (.cell q 34 #[.int .i64 0,.bool false,.int .i64 0,.int .u64 0] (0,0) _ rfl (zkp c) Try.underlying34 rfl (by kernel_rfl) (.tmp .nil)))) rfl ?_
  exact zr HB
 rw[if_pos c7] at H
 obtain⟨aB,aC⟩:=zt c7
 clear c7
 simp only[Option.some.injEq,Prod.mk.injEq] at H
 obtain⟨rfl,rfl,rfl,rfl,rfl,rfl,rfl,rfl,rfl⟩:=H
 go_enter Try.func47,Try.ntmps47
 try go_wp2_with (first|((with_reducible refine gate_dst (N:=3) rfl ?_);refine zbox (N:=3) (cs:=#[.int .i64 X,.int .i64 Y]) (t:=23) ?_;intro af hg w8 hbox hb;have a:=Aside0.mk hbox;have aj:=zge hg HB;have ak:=zge hg HB;replace HB:=zbs HB hb;clear hb hbox hg)|((with_reducible refine gate_dst (N:=6) rfl ?_);refine zbox (N:=6) (cs:=#[.int .i64 0,.bool false,.int .i64 0,.int .u64 0]) (t:=34) ?_;intro m hg w9 hbox hb;have b:=Aside0.mk hbox;have al:=zge hg HB;have am:=zge hg HB;have z:=znl hg a;have C:=zng hg a;obtain⟨a,HB⟩:=zu1 a HB hb;clear hb hbox hg)|((with_reducible refine gate_dst (N:=7) rfl ?_);refine zbox (N:=7) (cs:=#[.int .i64 0,.bool false,.int .i64 0,.int .u64 0]) (t:=34) ?_;intro q hg ej hbox hb;have c:=Aside0.mk hbox;have an:=zge hg HB;have ao:=zge hg HB;have B:=znl hg a;have D:=zng hg a;have v:=znl hg b;have y:=zng hg b;obtain⟨a,b,HB⟩:=zu2 a b HB hb;clear hb hbox hg;obtain⟨dt,du⟩:=z2 z;obtain⟨dv,dw⟩:=z2 B;obtain⟨aD,aE,aF,aG⟩:=zc2 a)|((with_reducible refine gate_callee (f:=68) rfl ?_);refine zgc (some 15) Try.func68 (round_Open.calls A4.out) ?_;intro ek hb;obtain⟨a,b,c,HB⟩:=zu3 a b c HB hb;clear hb)|((with_reducible refine gate_dst (N:=9) rfl ?_);refine zbox (N:=9) (cs:=#[.int .i64 0,.bool false,.int .i64 0,.int .u64 0]) (t:=34) ?_;intro R hg el hbox hb;have u:=Aside0.mk hbox;have ap:=zge hg HB;have aq:=zge hg HB;have Z:=znl hg a;have I:=zng hg a;have E:=znl hg b;have d:=zng hg b;have F:=znl hg c;have g:=zng hg c;obtain⟨a,b,c,HB⟩:=zu3 a b c HB hb;clear hb hbox hg;obtain⟨dx,dy⟩:=z2 I;obtain⟨dz,dA⟩:=z2 d;obtain⟨dB,dC⟩:=z2 g;obtain⟨aH,aI,aJ,aK,aL,aM,aN,aO⟩:=zc4 u;obtain⟨aP,aQ,aR,aS⟩:=zc2 a)|((with_reducible refine gate_callee (f:=68) rfl ?_);refine zgc (some 26) Try.func68 (round_Open.calls A6.out) ?_;intro em hb;replace a:=zkb a hb;replace b:=zkb b hb;replace c:=zkb c hb;replace u:=zkbo (o:=.cells #[.int .i64 aa,.bool ab,.int .i64 ac,.int .u64 ad] 34 (0,0)) u hb;replace HB:=zbs HB hb;clear hb)|((with_reducible refine gate_dst (N:=11) rfl ?_);refine zbox (N:=11) (cs:=#[.int .i64 0,.bool false,.int .i64 0,.int .u64 0]) (t:=34) ?_;intro s hg ag hbox hb;have G:=Aside0.mk hbox;have ar:=zge hg HB;have au:=zge hg HB;have ah:=znl hg a;have T:=zng hg a;have J:=znl hg b;have j:=zng hg b;have L:=znl hg c;have l:=zng hg c;have ai:=znl hg u;have U:=zng hg u;obtain⟨a,b,c,u,HB⟩:=zu4 a b c u HB hb;clear hb hbox hg;obtain⟨dD,dE⟩:=z2 T;obtain⟨dF,dG⟩:=z2 j;obtain⟨dH,dI⟩:=z2 l;obtain⟨dJ,dK⟩:=z2 U;obtain⟨aT,aU,aV,aW,aX,aY,aZ,a0⟩:=zc4 G))
 have n0_:Aside0 (((((ag.setCell ⟨s,0,none⟩ (.int .i64 M)).setCell ⟨s,1,none⟩ (.bool O)).setCell ⟨s,2,none⟩ (.int .i64 P)).setCell ⟨s,3,none⟩ (.int .u64 Q)).heap[af]?=some (.cells #[.int .i64 X,.int .i64 Y] 23 (0,0))):=⟨zk a⟩
 have n1_:Aside0 (((((ag.setCell ⟨s,0,none⟩ (.int .i64 M)).setCell ⟨s,1,none⟩ (.bool O)).setCell ⟨s,2,none⟩ (.int .i64 P)).setCell ⟨s,3,none⟩ (.int .u64 Q)).heap[m]?=some (.cells #[.int .i64 0,.bool false,.int .i64 0,.int .u64 0] 34 (0,0))):=⟨zk b⟩
 have n2_:Aside0 (((((ag.setCell ⟨s,0,none⟩ (.int .i64 M)).setCell ⟨s,1,none⟩ (.bool O)).setCell ⟨s,2,none⟩ (.int .i64 P)).setCell ⟨s,3,none⟩ (.int .u64 Q)).heap[q]?=some (.cells #[.int .i64 0,.bool false,.int .i64 0,.int .u64 0] 34 (0,0))):=⟨zk c⟩
 have n3_:Aside0 (((((ag.setCell ⟨s,0,none⟩ (.int .i64 M)).setCell ⟨s,1,none⟩ (.bool O)).setCell ⟨s,2,none⟩ (.int .i64 P)).setCell ⟨s,3,none⟩ (.int .u64 Q)).heap[R]?=some (.cells #[.int .i64 aa,.bool ab,.int .i64 ac,.int .u64 ad] 34 (0,0))):=⟨zk u⟩
 have n4_:Aside0 (((((ag.setCell ⟨s,0,none⟩ (.int .i64 M)).setCell ⟨s,1,none⟩ (.bool O)).setCell ⟨s,2,none⟩ (.int .i64 P)).setCell ⟨s,3,none⟩ (.int .u64 Q)).heap[s]?=some (.cells #[.int .i64 M,.bool O,.int .i64 P,.int .u64 Q] 34 (0,0))):=⟨zkp G⟩
 have n5_:Aside0 (Below w.heap.size w ((((ag.setCell ⟨s,0,none⟩ (.int .i64 M)).setCell ⟨s,1,none⟩ (.bool O)).setCell ⟨s,2,none⟩ (.int .i64 P)).setCell ⟨s,3,none⟩ (.int .u64 Q))):=⟨zb HB⟩
 (try clear a)
 (try clear b)
 (try clear c)
 (try clear u)
 (try clear G)
 (try clear HB)
 generalize ((((ag.setCell ⟨s,0,none⟩ (.int .i64 M)).setCell ⟨s,1,none⟩ (.bool O)).setCell ⟨s,2,none⟩ (.int .i64 P)).setCell ⟨s,3,none⟩ (.int .u64 Q))=dL at n0_ n1_ n2_ n3_ n4_ n5_ ⊢
 have a:=n0_
 have b:=n1_
 have c:=n2_
 have u:=n3_
 have G:=n4_
 have HB:=n5_
 clear n0_ n1_ n2_ n3_ n4_ n5_
 replace a:=Aside0.mk (blk_drew a.out)
 replace b:=Aside0.mk (blk_drew b.out)
 replace c:=Aside0.mk (blk_drew c.out)
 replace u:=Aside0.mk (blk_drew u.out)
 replace G:=Aside0.mk (blk_drew G.out)
 replace HB:=Aside0.mk (below_drew1 HB.out)
 refine start_ (n:=5) (S:=fun w'=>w'.cell? ⟨R,0,none⟩=some (.int .i64 aa)∧w'.cell? ⟨R,1,none⟩=some (.bool ab)∧w'.cell? ⟨R,2,none⟩=some (.int .i64 ac)∧w'.cell? ⟨R,3,none⟩=some (.int .u64 ad)∧w'.cell? ⟨s,0,none⟩=some (.int .i64 M)∧w'.cell? ⟨s,1,none⟩=some (.bool O)∧w'.cell? ⟨s,2,none⟩=some (.int .i64 P)∧w'.cell? ⟨s,3,none⟩=some (.int .u64 Q)) (ds:=[]) #[false,false,false,false,false] (by kernel_rfl) rfl rfl ⟨(blk_cell u.out 0).trans rfl,(blk_cell u.out 1).trans rfl,(blk_cell u.out 2).trans rfl,(blk_cell u.out 3).trans rfl,(blk_cell G.out 0).trans rfl,(blk_cell G.out 1).trans rfl,(blk_cell G.out 2).trans rfl,(blk_cell G.out 3).trans rfl⟩ (fun hHeld=>?_)
 generalize dL.drew=ae at a b c u G HB hHeld ⊢
 refine ztake_ (i:=0) (N:=some 34) #[true,false,false,false,false] rfl (by kernel_rfl) hHeld (Or.inl ⟨by rfl,by rintro w' ⟨s0,s1,s2,s3,s4,s5,s6,s7⟩;go_simp;with_reducible rfl⟩) ?_
 refine ztake_ (i:=1) (N:=some 35) #[true,true,false,false,false] rfl (by kernel_rfl) hHeld (Or.inl ⟨by rfl,by rintro w' ⟨s0,s1,s2,s3,s4,s5,s6,s7⟩;go_simp;with_reducible rfl⟩) ?_
 refine one_ (i:=2) (N:=none) #[true,true,true,false,false] rfl rfl (by kernel_rfl) (by decide) (fun K hK=>?_)
 have hs30:ae.cell? ⟨m,0,none⟩=some (.int .i64 0):=(blk_cell b.out 0).trans rfl
 have hfs30:=blk_frozen b.out 0
 have a3:=z.out
 have a4:=y.out
 have a5:=d.out
 have a6:=j.out
 have a7:=C.out
 have a8:=v.out
 have a9:=E.out
 have ba:=J.out
 have hs31:ae.cell? ⟨m,1,none⟩=some (.bool false):=(blk_cell b.out 1).trans rfl
 have hfs31:=blk_frozen b.out 1
 have bb:=z.out
 have bc:=y.out
 have bd:=d.out
 have be:=j.out
 have bf:=C.out
 have bg:=v.out
 have bh:=E.out
 have bi:=J.out
 have hs32:ae.cell? ⟨m,2,none⟩=some (.int .i64 0):=(blk_cell b.out 2).trans rfl
 have hfs32:=blk_frozen b.out 2
 have bj:=z.out
 have bk:=y.out
 have bl:=d.out
 have bm:=j.out
 have bn:=C.out
 have bo:=v.out
 have bp:=E.out
 have bq:=J.out
 have hs33:ae.cell? ⟨m,3,none⟩=some (.int .u64 0):=(blk_cell b.out 3).trans rfl
 have hfs33:=blk_frozen b.out 3
 have br:=z.out
 have bs:=y.out
 have bt:=d.out
 have bu:=j.out
 have bv:=C.out
 have bw:=v.out
 have bx:=E.out
 have bz:=J.out
 refine skip_ (w1:=?_) (by rfl) rfl ?_ ?_
 rotate_left
 ·go_simp
  rfl
 refine hK.out _ _ ⟨((cell_far (p:=⟨m,_,none⟩) d.out _).trans (((cell_far (p:=⟨m,_,none⟩) d.out _).trans (((cell_far (p:=⟨m,_,none⟩) d.out _).trans (((cell_far (p:=⟨m,_,none⟩) d.out _).trans (hHeld.1)))))))),((cell_far (p:=⟨m,_,none⟩) d.out _).trans (((cell_far (p:=⟨m,_,none⟩) d.out _).trans (((cell_far (p:=⟨m,_,none⟩) d.out _).trans (((cell_far (p:=⟨m,_,none⟩) d.out _).trans (hHeld.2.1)))))))),((cell_far (p:=⟨m,_,none⟩) d.out _).trans (((cell_far (p:=⟨m,_,none⟩) d.out _).trans (((cell_far (p:=⟨m,_,none⟩) d.out _).trans (((cell_far (p:=⟨m,_,none⟩) d.out _).trans (hHeld.2.2.1)))))))),((cell_far (p:=⟨m,_,none⟩) d.out _).trans (((cell_far (p:=⟨m,_,none⟩) d.out _).trans (((cell_far (p:=⟨m,_,none⟩) d.out _).trans (((cell_far (p:=⟨m,_,none⟩) d.out _).trans (hHeld.2.2.2.1)))))))),((cell_far (p:=⟨m,_,none⟩) j.out _).trans (((cell_far (p:=⟨m,_,none⟩) j.out _).trans (((cell_far (p:=⟨m,_,none⟩) j.out _).trans (((cell_far (p:=⟨m,_,none⟩) j.out _).trans (hHeld.2.2.2.2.1)))))))),((cell_far (p:=⟨m,_,none⟩) j.out _).trans (((cell_far (p:=⟨m,_,none⟩) j.out _).trans (((cell_far (p:=⟨m,_,none⟩) j.out _).trans (((cell_far (p:=⟨m,_,none⟩) j.out _).trans (hHeld.2.2.2.2.2.1)))))))),((cell_far (p:=⟨m,_,none⟩) j.out _).trans (((cell_far (p:=⟨m,_,none⟩) j.out _).trans (((cell_far (p:=⟨m,_,none⟩) j.out _).trans (((cell_far (p:=⟨m,_,none⟩) j.out _).trans (hHeld.2.2.2.2.2.2.1)))))))),((cell_far (p:=⟨m,_,none⟩) j.out _).trans (((cell_far (p:=⟨m,_,none⟩) j.out _).trans (((cell_far (p:=⟨m,_,none⟩) j.out _).trans (((cell_far (p:=⟨m,_,none⟩) j.out _).trans (hHeld.2.2.2.2.2.2.2))))))))⟩ (fun hHeld=>?_)
 clear hK K
 refine one_ (i:=3) (N:=none) #[true,true,true,true,false] rfl rfl (by kernel_rfl) (by decide) (fun K hK=>?_)
 have hs34:ae.cell? ⟨q,0,none⟩=some (.int .i64 0):=(blk_cell c.out 0).trans rfl
 have hfs34:=blk_frozen c.out 0
 have bA:=B.out
 have bB:=v.out
 have bC:=g.out
 have bD:=l.out
 have bE:=D.out
 have bF:=y.out
 have bG:=F.out
 have bH:=L.out
 have hs35:ae.cell? ⟨q,1,none⟩=some (.bool false):=(blk_cell c.out 1).trans rfl
 have hfs35:=blk_frozen c.out 1
 have bI:=B.out
 have bJ:=v.out
 have bK:=g.out
 have bL:=l.out
 have bM:=D.out
 have bN:=y.out
 have bO:=F.out
 have bP:=L.out
 have hs36:ae.cell? ⟨q,2,none⟩=some (.int .i64 0):=(blk_cell c.out 2).trans rfl
 have hfs36:=blk_frozen c.out 2
 have bQ:=B.out
 have bR:=v.out
 have bS:=g.out
 have bT:=l.out
 have bU:=D.out
 have bV:=y.out
 have bW:=F.out
 have bX:=L.out
 have hs37:ae.cell? ⟨q,3,none⟩=some (.int .u64 0):=(blk_cell c.out 3).trans rfl
 have hfs37:=blk_frozen c.out 3
 have bY:=B.out
 have bZ:=v.out
 have b0:=g.out
 have b1:=l.out
 have b2:=D.out
 have b3:=y.out
 have b4:=F.out
 have b5:=L.out
 refine skip_ (w1:=?_) (by rfl) rfl ?_ ?_
 rotate_left
 ·go_simp
  rfl
 refine hK.out _ _ ⟨((cell_far (p:=⟨q,_,none⟩) g.out _).trans (((cell_far (p:=⟨q,_,none⟩) g.out _).trans (((cell_far (p:=⟨q,_,none⟩) g.out _).trans (((cell_far (p:=⟨q,_,none⟩) g.out _).trans (hHeld.1)))))))),((cell_far (p:=⟨q,_,none⟩) g.out _).trans (((cell_far (p:=⟨q,_,none⟩) g.out _).trans (((cell_far (p:=⟨q,_,none⟩) g.out _).trans (((cell_far (p:=⟨q,_,none⟩) g.out _).trans (hHeld.2.1)))))))),((cell_far (p:=⟨q,_,none⟩) g.out _).trans (((cell_far (p:=⟨q,_,none⟩) g.out _).trans (((cell_far (p:=⟨q,_,none⟩) g.out _).trans (((cell_far (p:=⟨q,_,none⟩) g.out _).trans (hHeld.2.2.1)))))))),((cell_far (p:=⟨q,_,none⟩) g.out _).trans (((cell_far (p:=⟨q,_,none⟩) g.out _).trans (((cell_far (p:=⟨q,_,none⟩) g.out _).trans (((cell_far (p:=⟨q,_,none⟩) g.out _).trans (hHeld.2.2.2.1)))))))),((cell_far (p:=⟨q,_,none⟩) l.out _).trans (((cell_far (p:=⟨q,_,none⟩) l.out _).trans (((cell_far (p:=⟨q,_,none⟩) l.out _).trans (((cell_far (p:=⟨q,_,none⟩) l.out _).trans (hHeld.2.2.2.2.1)))))))),((cell_far (p:=⟨q,_,none⟩) l.out _).trans (((cell_far (p:=⟨q,_,none⟩) l.out _).trans (((cell_far (p:=⟨q,_,none⟩) l.out _).trans (((cell_far (p:=⟨q,_,none⟩) l.out _).trans (hHeld.2.2.2.2.2.1)))))))),((cell_far (p:=⟨q,_,none⟩) l.out _).trans (((cell_far (p:=⟨q,_,none⟩) l.out _).trans (((cell_far (p:=⟨q,_,none⟩) l.out _).trans (((cell_far (p:=⟨q,_,none⟩) l.out _).trans (hHeld.2.2.2.2.2.2.1)))))))),((cell_far (p:=⟨q,_,none⟩) l.out _).trans (((cell_far (p:=⟨q,_,none⟩) l.out _).trans (((cell_far (p:=⟨q,_,none⟩) l.out _).trans (((cell_far (p:=⟨q,_,none⟩) l.out _).trans (hHeld.2.2.2.2.2.2.2))))))))⟩ (fun hHeld=>?_)
 clear hK K
 refine zpure_ (i:=4) (N:=some 8) #[true,true,true,true,true] (by kernel_rfl) ?_
 refine done_ (by kernel_rfl) ?_
 try go_wp2
 refine bodyPost_ret (results_list (rs:=[.cell 6 34,.cell 7 34,.tmp 8]) rfl (by simp) (.cell m 34 #[.int .i64 aa,.bool ab,.int .i64 ac,.int .u64 ad] (0,0) _ rfl (zkp b) Try.underlying34 rfl (by kernel_rfl) (.cell q 34 #[.int .i64 M,.bool O,.int .i64 P,.int .u64 Q] (0,0) _ rfl (zkp c) Try.underlying34 rfl (by kernel_rfl) (.tmp .nil)))) rfl ?_
 exact zr HB
/-! ### soft_odd: function 48 -/
def soft_odd.f (a0_0:Int) (a0_1:Bool) (a0_2:Int) (a0_3:Int) (a1_0:Int) (a1_1:Bool) (a1_2:Int) (a1_3:Int):Option (Bool):=if a0_0=4 then (some true) else (some (a1_0==4))
set_option maxHeartbeats 8000000 in
set_option maxRecDepth 100000 in
theorem soft_odd.calls {c:Int} {i:Bool} {j:Int} {l:Int} {d:Int} {m:Bool} {n:Int} {o:Int} {r:Bool} {w:World} (h:soft_odd.f c i j l d m n o=some r) :
  Calls Try.prog 48 #[.agg #[.int .i64 c,.bool i,.int .i64 j,.int .u64 l],.agg #[.int .i64 d,.bool m,.int .i64 n,.int .u64 o]] w fun e w'=>e=.returned (.bool r)∧Below w.heap.size w w':=by
 have hu34:=Try.underlying34
 have HB:=Aside0.mk (Below.refl w.heap.size w)
 have H:=h
 unfold soft_odd.f at H
 clear h
 by_cases B:c=4
 ·rw[if_pos B] at H
  obtain⟨C,D⟩:=zt B
  clear B
  obtain rfl:=Option.some.inj H
  go_enter Try.func48,Try.ntmps48
  go_wp2_with (first|((with_reducible refine gate_dst (N:=2) rfl ?_);refine zbox (N:=2) (cs:=#[.int .i64 c,.bool i,.int .i64 j,.int .u64 l]) (t:=34) ?_;intro q hg w4 hbox hb;have a:=Aside0.mk hbox;have s:=zge hg HB;have u:=zge hg HB;replace HB:=zbs HB hb;clear hb hbox hg)|((with_reducible refine gate_dst (N:=3) rfl ?_);refine zbox (N:=3) (cs:=#[.int .i64 d,.bool m,.int .i64 n,.int .u64 o]) (t:=34) ?_;intro v hg w5 hbox hb;have p:=Aside0.mk hbox;have y:=zge hg HB;have z:=zge hg HB;have b:=znl hg a;have g:=zng hg a;obtain⟨a,HB⟩:=zu1 a HB hb;clear hb hbox hg;obtain⟨ag,ah⟩:=z2 b;obtain⟨W,X,Y,Z,aa,ab,ac,ad⟩:=zc4 a))
  go_ret
  exact zr HB
 rw[if_neg B] at H
 obtain⟨C,D⟩:=zf B
 obtain rfl:=Option.some.inj H
 go_enter Try.func48,Try.ntmps48
 go_wp2_with (first|((with_reducible refine gate_dst (N:=2) rfl ?_);refine zbox (N:=2) (cs:=#[.int .i64 c,.bool i,.int .i64 j,.int .u64 l]) (t:=34) ?_;intro q hg w8 hbox hb;have a:=Aside0.mk hbox;have s:=zge hg HB;have u:=zge hg HB;replace HB:=zbs HB hb;clear hb hbox hg)|((with_reducible refine gate_dst (N:=3) rfl ?_);refine zbox (N:=3) (cs:=#[.int .i64 d,.bool m,.int .i64 n,.int .u64 o]) (t:=34) ?_;intro v hg w9 hbox hb;have p:=Aside0.mk hbox;have y:=zge hg HB;have z:=zge hg HB;have b:=znl hg a;have g:=zng hg a;obtain⟨a,HB⟩:=zu1 a HB hb;clear hb hbox hg;obtain⟨ae,af⟩:=z2 b;obtain⟨E,F,G,I,J,K,L,M⟩:=zc4 a;obtain⟨O,P,Q,R,S,T,U,V⟩:=zc4 p))
 go_ret
 exact zr HB

/-! ### round_NaN: function 49 -/
def round_NaN.f (a0_0:Int) (a0_1:Int):Option (Int):=(round_Check.f a0_0 a0_1).bind fun a=>(if a=0 then ((round_top.f a0_0 a0_1).bind fun b=>(if 0≤(wrap64 (a0_0-1)) then (some (Go.bits .or .u64 b (shl .u64 1 (wrap64 (a0_0-1))))) else (none))) else (some 0))
def round_NaN.T3:Bool×List (List Nat×List Nat):=(true,[([],[]),([0],[0]),([],[]),([2],[2]),([3],[3]),([4],[4]),([1,5],[1,5]),([6,1,0,1,2,3,4,5,6],[6])])
def round_NaN.B3:List Nat:=[0,1,0,4,12,28,63,127]
theorem round_NaN.tab3:rtab .any (opsOf Try.f49 3)=round_NaN.T3:=by kernel_rfl
theorem round_NaN.bits3:waitsOk round_NaN.T3.2 round_NaN.B3=true:=by kernel_rfl
set_option maxHeartbeats 8000000 in
set_option maxRecDepth 100000 in
theorem round_NaN.calls {b:Int} {c:Int} {r:Int} {w:World} (h:round_NaN.f b c=some r) :
  Calls Try.prog 49 #[.agg #[.int .i64 b,.int .i64 c]] w fun e w'=>e=.returned (.int .u64 r)∧Below w.heap.size w w':=by
 have hu23:=Try.underlying23
 have HB:=Aside0.mk (Below.refl w.heap.size w)
 have H:=h
 unfold round_NaN.f at H
 clear h
 obtain⟨o,I,H⟩:=oB H
 by_cases y:o=0
 rotate_left
 ·rw[if_neg y] at H
  obtain⟨z,B⟩:=zf y
  obtain rfl:=Option.some.inj H
  go_enter Try.func49,Try.ntmps49
  go_wp2_with (first|((with_reducible refine gate_dst (N:=1) rfl ?_);refine zbox (N:=1) (cs:=#[.int .i64 b,.int .i64 c]) (t:=23) ?_;intro l hg Z hbox hb;have a:=Aside0.mk hbox;have u:=zge hg HB;have v:=zge hg HB;replace HB:=zbs HB hb;clear hb hbox hg;obtain⟨D,E,F,G⟩:=zc2 a)|((with_reducible refine gate_callee (f:=77) rfl ?_);refine zgc (some 4) Try.func77 (round_Check.calls I.out) ?_;intro aa hb;obtain⟨a,HB⟩:=zu1 a HB hb;clear hb))
  go_ret
  exact zr HB

 rw[if_pos y] at H
 obtain⟨z,B⟩:=zt y
 clear y
 obtain⟨m,P,H⟩:=oB H
 obtain⟨d,j⟩:∃ j_:Int,(wrap64 (b-1))=j_:=⟨_,rfl⟩
 first|rw[j] at H|simp only[j] at H
 (try rw[j] at I)
 (try rw[j] at P)
 have Q:(IntKind.i64.wrap (b-1))=d:=(i64_w _).trans j
 by_cases C:0≤(d)
 rotate_left
 ·rw[if_neg C] at H
  exact absurd H (by simp)
 rw[if_pos C] at H
 have V:=eq_true C
 have W:decide (0≤(d))=true:=decide_eq_true C
 clear C
 obtain⟨p,g⟩:∃ j_:Int,(shl .u64 1 (d))=j_:=⟨_,rfl⟩
 first|rw[g] at H|simp only[g] at H
 (try rw[g] at I)
 (try rw[g] at P)
 have q:(IntKind.u64.wrap (1*2^min (d).toNat 64))=p:=g
 have s:(d)≤64→(IntKind.u64.wrap (1*2^(d).toNat))=p:=shl_small g
 have R:(IntKind.u64.wrap (2^min (d).toNat 64))=p:=by have h_:=q;rw[Int.one_mul] at h_;exact h_
 have T:(d)≤64→(IntKind.u64.wrap (2^(d).toNat))=p:=fun hle_=>by have h_:=s hle_;rw[Int.one_mul] at h_;exact h_
 obtain rfl:=Option.some.inj H
 go_enter Try.func49,Try.ntmps49
 try go_wp2_with (first|((with_reducible refine gate_dst (N:=1) rfl ?_);refine zbox (N:=1) (cs:=#[.int .i64 b,.int .i64 c]) (t:=23) ?_;intro l hg w8 hbox hb;have a:=Aside0.mk hbox;have u:=zge hg HB;have v:=zge hg HB;replace HB:=zbs HB hb;clear hb hbox hg;obtain⟨J,L,M,O⟩:=zc2 a)|((with_reducible refine gate_callee (f:=77) rfl ?_);refine zgc (some 4) Try.func77 (round_Check.calls I.out) ?_;intro U hb;obtain⟨a,HB⟩:=zu1 a HB hb;clear hb))
 replace a:=Aside0.mk (blk_drew a.out)
 replace HB:=Aside0.mk (below_drew1 HB.out)
 refine start_ (n:=8) (S:=fun w'=>w'.cell? ⟨l,0,none⟩=some (.int .i64 b)∧w'.cell? ⟨l,1,none⟩=some (.int .i64 c)) (ds:=[]) #[false,false,false,false,false,false,false,false] (by kernel_rfl) rfl rfl ⟨(blk_cell a.out 0).trans rfl,(blk_cell a.out 1).trans rfl⟩ (fun hHeld=>?_);refine with_tabW round_NaN.tab3 round_NaN.bits3 (fun HT_ HW_=>?_)
 generalize U.drew=X at a HB hHeld ⊢
 refine zpure_ (i:=2) (N:=some 8) #[false,false,true,false,false,false,false,false] (any_of HT_.out (by kernel_rfl)) ?_
 refine ztake_ (i:=0) (N:=some 6) #[true,false,true,false,false,false,false,false] rfl (take_ofW HT_.out HW_.out (by kernel_rfl)) hHeld (Or.inl ⟨by rfl,by rintro w' ⟨s0,s1⟩;go_simp;with_reducible rfl⟩) ?_
 refine ztake_ (i:=3) (N:=some 9) #[true,false,true,true,false,false,false,false] rfl (take_ofW HT_.out HW_.out (by kernel_rfl)) hHeld (Or.inl ⟨by rfl,by rintro w' ⟨s0,s1⟩;go_simp;with_reducible rfl⟩) ?_
 refine zpure_ (i:=4) (N:=some 10) #[true,false,true,true,true,false,false,false] (any_of HT_.out (by kernel_rfl)) ?_
 refine zpure_ (i:=5) (N:=some 11) #[true,false,true,true,true,true,false,false] (any_of HT_.out (by kernel_rfl)) ?_
 refine one_ (i:=1) (N:=some 7) #[true,true,true,true,true,true,false,false] rfl rfl (one_of HT_.out (by kernel_rfl)) (by decide) (fun K hK=>?_)
 refine goes_ Try.func86 (by kernel_rfl) rfl #[.agg #[.int .i64 b,.int .i64 c]] (by rfl) rfl rfl (by (try simp only[List.map_toArray,List.map_cons,List.map_nil]);first|done|rfl|(simp only[List.length_drop,List.length_take];rfl)) ?_
 with_reducible refine (round_top.calls P.out).mono ?_
 rintro e Y ⟨rfl,hb⟩
 refine⟨_,rfl,?_⟩
 obtain⟨a,HB⟩:=zu1 a HB hb
 try clear hb
 refine hK.out _ _ ⟨(blk_cell a.out 0).trans rfl,(blk_cell a.out 1).trans rfl⟩ (fun hHeld=>?_)
 clear hK K
 refine norm_ (a':=?_) ?_ ?_
 rotate_left
 ·show Act.put _ (some 7) _=_
  simp only[Act.put,List.setIfInBounds_toArray,List.set_cons_zero,List.set_cons_succ,i64_w,i32_w]
  rfl
 refine zpure_ (i:=6) (N:=some 12) #[true,true,true,true,true,true,true,false] (any_of HT_.out (by kernel_rfl)) ?_
 refine zpure_ (i:=7) (N:=some 2) #[true,true,true,true,true,true,true,true] (any_of HT_.out (by kernel_rfl)) ?_
 refine done_ (done_of HT_.out (by kernel_rfl)) ?_
 try go_wp2
 go_ret
 exact⟨by first|rfl|(simp[errW_none,errW_some] <;> rfl)|(simp only[←j,←g];first|rfl|(simp[errW_none,errW_some] <;> rfl))|(simp[*,errW_none,errW_some] <;> rfl),zb HB⟩
/-! ### round_Zero: function 50 -/
def round_Zero.f (a0_0:Int) (a0_1:Int) (a1:Bool):Option (Int):=(round_Check.f a0_0 a0_1).bind fun a=>(if a=0 then ((round_sign.f a0_0 a0_1 a1).bind fun b=>(some b)) else (some 0))
set_option maxHeartbeats 8000000 in
set_option maxRecDepth 100000 in
theorem round_Zero.calls {b:Int} {c:Int} {G:Bool} {r:Int} {w:World} (h:round_Zero.f b c G=some r) :
  Calls Try.prog 50 #[.agg #[.int .i64 b,.int .i64 c],.bool G] w fun e w'=>e=.returned (.int .u64 r)∧Below w.heap.size w w':=by
 have hu23:=Try.underlying23
 have HB:=Aside0.mk (Below.refl w.heap.size w)
 have H:=h
 unfold round_Zero.f at H
 clear h
 obtain⟨d,I,H⟩:=oB H
 by_cases m:d=0
 ·rw[if_pos m] at H
  obtain⟨n,o⟩:=zt m
  clear m
  obtain⟨g,J,H⟩:=oB H
  obtain rfl:=Option.some.inj H
  go_enter Try.func50,Try.ntmps50
  go_wp2_with (first|((with_reducible refine gate_dst (N:=2) rfl ?_);refine zbox (N:=2) (cs:=#[.int .i64 b,.int .i64 c]) (t:=23) ?_;intro i hg O hbox hb;have a:=Aside0.mk hbox;have j:=zge hg HB;have l:=zge hg HB;replace HB:=zbs HB hb;clear hb hbox hg;obtain⟨v,y,z,B⟩:=zc2 a)|((with_reducible refine gate_callee (f:=77) rfl ?_);refine zgc (some 6) Try.func77 (round_Check.calls I.out) ?_;intro P hb;obtain⟨a,HB⟩:=zu1 a HB hb;clear hb;obtain⟨C,D,E,F⟩:=zc2 a)|((with_reducible refine gate_callee (f:=87) rfl ?_);refine zgc (some 10) Try.func87 (round_sign.calls J.out) ?_;intro K hb;obtain⟨a,HB⟩:=zu1 a HB hb;clear hb))
  go_ret
  exact zr HB
 rw[if_neg m] at H
 obtain⟨n,o⟩:=zf m
 obtain rfl:=Option.some.inj H
 go_enter Try.func50,Try.ntmps50
 go_wp2_with (first|((with_reducible refine gate_dst (N:=2) rfl ?_);refine zbox (N:=2) (cs:=#[.int .i64 b,.int .i64 c]) (t:=23) ?_;intro i hg L hbox hb;have a:=Aside0.mk hbox;have j:=zge hg HB;have l:=zge hg HB;replace HB:=zbs HB hb;clear hb hbox hg;obtain⟨p,q,s,u⟩:=zc2 a)|((with_reducible refine gate_callee (f:=77) rfl ?_);refine zgc (some 6) Try.func77 (round_Check.calls I.out) ?_;intro M hb;obtain⟨a,HB⟩:=zu1 a HB hb;clear hb))
 go_ret
 exact zr HB

/-! ### round_Inf: function 78 -/
def round_Inf.f (a0_0:Int) (a0_1:Int) (a1:Bool):Option (Int):=(round_Check.f a0_0 a0_1).bind fun a=>(if a=0 then ((round_top.f a0_0 a0_1).bind fun b=>((round_sign.f a0_0 a0_1 a1).bind fun c=>(some (Go.bits .or .u64 b c)))) else (some 0))
set_option maxHeartbeats 8000000 in
set_option maxRecDepth 100000 in
theorem round_Inf.calls {b:Int} {c:Int} {B:Bool} {r:Int} {w:World} (h:round_Inf.f b c B=some r) :
  Calls Try.prog 78 #[.agg #[.int .i64 b,.int .i64 c],.bool B] w fun e w'=>e=.returned (.int .u64 r)∧Below w.heap.size w w':=by
 have hu23:=Try.underlying23
 have HB:=Aside0.mk (Below.refl w.heap.size w)
 have H:=h
 unfold round_Inf.f at H
 clear h
 obtain⟨g,G,H⟩:=oB H
 by_cases p:g=0
 rotate_left
 ·rw[if_neg p] at H
  obtain⟨q,s⟩:=zf p
  obtain rfl:=Option.some.inj H
  go_enter Try.func78,Try.ntmps78
  go_wp2_with (first|((with_reducible refine gate_dst (N:=2) rfl ?_);refine zbox (N:=2) (cs:=#[.int .i64 b,.int .i64 c]) (t:=23) ?_;intro d hg Q hbox hb;have a:=Aside0.mk hbox;have m:=zge hg HB;have o:=zge hg HB;replace HB:=zbs HB hb;clear hb hbox hg;obtain⟨u,v,y,z⟩:=zc2 a)|((with_reducible refine gate_callee (f:=77) rfl ?_);refine zgc (some 6) Try.func77 (round_Check.calls G.out) ?_;intro R hb;obtain⟨a,HB⟩:=zu1 a HB hb;clear hb))
  go_ret
  exact zr HB

 rw[if_pos p] at H
 obtain⟨q,s⟩:=zt p
 clear p
 obtain⟨j,I,H⟩:=oB H
 obtain⟨l,J,H⟩:=oB H
 obtain rfl:=Option.some.inj H
 go_enter Try.func78,Try.ntmps78
 try go_wp2_with (first|((with_reducible refine gate_dst (N:=2) rfl ?_);refine zbox (N:=2) (cs:=#[.int .i64 b,.int .i64 c]) (t:=23) ?_;intro d hg T hbox hb;have a:=Aside0.mk hbox;have m:=zge hg HB;have o:=zge hg HB;replace HB:=zbs HB hb;clear hb hbox hg;obtain⟨C,D,E,F⟩:=zc2 a)|((with_reducible refine gate_callee (f:=77) rfl ?_);refine zgc (some 6) Try.func77 (round_Check.calls G.out) ?_;intro L hb;obtain⟨a,HB⟩:=zu1 a HB hb;clear hb))
 replace a:=Aside0.mk (blk_drew a.out)
 replace HB:=Aside0.mk (below_drew1 HB.out)
 refine start_ (n:=7) (S:=fun w'=>w'.cell? ⟨d,0,none⟩=some (.int .i64 b)∧w'.cell? ⟨d,1,none⟩=some (.int .i64 c)) (ds:=[]) #[false,false,false,false,false,false,false] (by kernel_rfl) rfl rfl ⟨(blk_cell a.out 0).trans rfl,(blk_cell a.out 1).trans rfl⟩ (fun hHeld=>?_)
 generalize L.drew=M at a HB hHeld ⊢
 refine zpure_ (i:=3) (N:=some 11) #[false,false,false,true,false,false,false] (by kernel_rfl) ?_
 refine ztake_ (i:=0) (N:=some 8) #[true,false,false,true,false,false,false] rfl (by kernel_rfl) hHeld (Or.inl ⟨by rfl,by rintro w' ⟨s0,s1⟩;go_simp;with_reducible rfl⟩) ?_
 refine ztake_ (i:=2) (N:=some 10) #[true,false,true,true,false,false,false] rfl (by kernel_rfl) hHeld (Or.inl ⟨by rfl,by rintro w' ⟨s0,s1⟩;go_simp;with_reducible rfl⟩) ?_
 refine one_ (i:=1) (N:=some 9) #[true,true,true,true,false,false,false] rfl rfl (by kernel_rfl) (by decide) (fun K hK=>?_)
 refine goes_ Try.func86 (by kernel_rfl) rfl #[.agg #[.int .i64 b,.int .i64 c]] (by rfl) rfl rfl (by (try simp only[List.map_toArray,List.map_cons,List.map_nil]);first|done|rfl|(simp only[List.length_drop,List.length_take];rfl)) ?_
 with_reducible refine (round_top.calls I.out).mono ?_
 rintro e O ⟨rfl,hb⟩
 refine⟨_,rfl,?_⟩
 obtain⟨a,HB⟩:=zu1 a HB hb
 try clear hb
 refine hK.out _ _ ⟨(blk_cell a.out 0).trans rfl,(blk_cell a.out 1).trans rfl⟩ (fun hHeld=>?_)
 clear hK K
 refine norm_ (a':=?_) ?_ ?_
 rotate_left
 ·show Act.put _ (some 9) _=_
  simp only[Act.put,List.setIfInBounds_toArray,List.set_cons_zero,List.set_cons_succ,i64_w,i32_w]
  rfl
 refine one_ (i:=4) (N:=some 12) #[true,true,true,true,true,false,false] rfl rfl (by kernel_rfl) (by decide) (fun K hK=>?_)
 refine goes_ Try.func87 (by kernel_rfl) rfl #[.agg #[.int .i64 b,.int .i64 c],.bool B] (by rfl) rfl rfl (by (try simp only[List.map_toArray,List.map_cons,List.map_nil]);first|done|rfl|(simp only[List.length_drop,List.length_take];rfl)) ?_
 with_reducible refine (round_sign.calls J.out).mono ?_
 rintro e P ⟨rfl,hb⟩
 refine⟨_,rfl,?_⟩
 obtain⟨a,HB⟩:=zu1 a HB hb
 try clear hb
 refine hK.out _ _ ⟨(blk_cell a.out 0).trans rfl,(blk_cell a.out 1).trans rfl⟩ (fun hHeld=>?_)
 clear hK K
 refine norm_ (a':=?_) ?_ ?_
 rotate_left
 ·show Act.put _ (some 12) _=_
  simp only[Act.put,List.setIfInBounds_toArray,List.set_cons_zero,List.set_cons_succ,i64_w,i32_w]
  rfl
 refine zpure_ (i:=5) (N:=some 13) #[true,true,true,true,true,true,false] (by kernel_rfl) ?_
 refine zpure_ (i:=6) (N:=some 4) #[true,true,true,true,true,true,true] (by kernel_rfl) ?_
 refine done_ (by kernel_rfl) ?_
 try go_wp2
 go_ret
 exact zr HB
/-! ### round_length: function 88 -/
def round_length.f (k:Nat) (a0:Int) (a1:Int):Option (Int):=if a0=0 then ((bits_Len64.f k a1).bind fun a=>(some a)) else ((bits_Len64.f k a0).bind fun b=>(some (wrap64 (64+b))))
theorem round_length.mono:∀ a0 a1 k,LeO (round_length.f k a0 a1) (round_length.f (k+1) a0 a1):=by
 intro a0 a1 k
 unfold round_length.f
 repeat' first|(with_reducible first|apply bits_Len64.mono|exact LeO.refl _|exact LeO.none _|refine LeO.ite ?_ ?_|refine LeO.bind ?_ (fun _=>?_))|refine LeO.ite ?_ ?_|refine LeO.bind ?_ (fun _=>?_)
set_option maxHeartbeats 8000000 in
set_option maxRecDepth 100000 in
theorem round_length.calls {k:Nat} {c:Int} {j:Int} {r:Int} {w:World} (h:round_length.f k c j=some r) :
  Calls Try.prog 88 #[.int .u64 c,.int .u64 j] w fun e w'=>e=.returned (.int .i64 r)∧Drawn0 w w':=by
 have H:=h
 unfold round_length.f at H
 clear h
 by_cases d:c=0
 ·rw[if_pos d] at H
  obtain⟨g,i⟩:=zt d
  clear d
  obtain⟨a,l,H⟩:=oB H
  obtain rfl:=Option.some.inj H
  go_enter Try.func88,Try.ntmps88
  go_wp2_with (first|((with_reducible refine gate_callee (f:=95) rfl ?_);refine zgo (some 11) Try.func95 #[.int .u64 j] ?_;(with_reducible refine (bits_Len64.calls l.out).mono ?_);rintro e w' ⟨rfl,⟨nd,rfl⟩⟩;refine⟨_,rfl,?_⟩))
  go_ret
  exact⟨by first|rfl|(simp;done)|(simp[*];done),by repeat (first|exact Drawn0.refl _|apply Drawn0.step)⟩
 rw[if_neg d] at H
 obtain⟨g,i⟩:=zf d
 obtain⟨b,m,H⟩:=oB H
 obtain rfl:=Option.some.inj H
 go_enter Try.func88,Try.ntmps88
 go_wp2_with (first|((with_reducible refine gate_callee (f:=95) rfl ?_);refine zgo (some 8) Try.func95 #[.int .u64 c] ?_;(with_reducible refine (bits_Len64.calls m.out).mono ?_);rintro e w' ⟨rfl,⟨nd,rfl⟩⟩;refine⟨_,rfl,?_⟩))
 go_ret
 exact⟨by first|rfl|(simp;done)|(simp[*];done),by repeat (first|exact Drawn0.refl _|apply Drawn0.step)⟩

/-! ### round_down: function 90 -/
def round_down.f (a0:Int) (a1:Int) (a2:Int):Option (Int×Bool×Bool):=if a2>128 then (some (0,false,((Go.bits .or .u64 a0 a1) != 0))) else (if a2>64 then (if 0≤(wrap64 (a2-64)) then (if 0≤(wrap64 ((wrap64 (a2-64))-1)) then (if (Go.bits .and .u64 (Go.bits .and .u64 a0 (IntKind.u64.wrap ((shl .u64 1 (wrap64 (a2-64)))-1))) (IntKind.u64.wrap ((shl .u64 1 (wrap64 ((wrap64 (a2-64))-1)))-1)))=0 then (some (shr .u64 a0 (wrap64 (a2-64)),((Go.bits .and .u64 (Go.bits .and .u64 a0 (IntKind.u64.wrap ((shl .u64 1 (wrap64 (a2-64)))-1))) (shl .u64 1 (wrap64 ((wrap64 (a2-64))-1)))) != 0),(a1 != 0))) else (some (shr .u64 a0 (wrap64 (a2-64)),((Go.bits .and .u64 (Go.bits .and .u64 a0 (IntKind.u64.wrap ((shl .u64 1 (wrap64 (a2-64)))-1))) (shl .u64 1 (wrap64 ((wrap64 (a2-64))-1)))) != 0),true))) else (none)) else (none)) else (if 0≤a2 then (if 0≤(wrap64 (a2-1)) then (if 0≤(wrap64 (64-a2)) then (some (Go.bits .or .u64 (shl .u64 a0 (wrap64 (64-a2))) (shr .u64 a1 a2),((Go.bits .and .u64 (Go.bits .and .u64 a1 (IntKind.u64.wrap ((shl .u64 1 a2)-1))) (shl .u64 1 (wrap64 (a2-1)))) != 0),((Go.bits .and .u64 (Go.bits .and .u64 a1 (IntKind.u64.wrap ((shl .u64 1 a2)-1))) (IntKind.u64.wrap ((shl .u64 1 (wrap64 (a2-1)))-1))) != 0))) else (none)) else (none)) else (none)))
set_option maxHeartbeats 8000000 in
set_option maxRecDepth 100000 in
theorem round_down.calls {d:Int} {m:Int} {b:Int} {F:Int} {G:Bool} {I:Bool} {w:World} (h:round_down.f d m b=some (F,G,I)) :
  Calls Try.prog 90 #[.int .u64 d,.int .u64 m,.int .i64 b] w fun e w'=>e=.returned (.tuple #[.int .u64 F,.bool G,.bool I])∧Drawn0 w w':=by
 have H:=h
 unfold round_down.f at H
 clear h
 by_cases c4:b>128
 ·rw[if_pos c4] at H
  have ad:decide (128<b)=true:=decide_eq_true c4
  clear c4
  simp only[Option.some.injEq,Prod.mk.injEq] at H
  obtain⟨rfl,rfl,rfl⟩:=H
  go_enter Try.func90,Try.ntmps90
  go_wp2
  repeat (go_quiet (fail);try go_wp2)
  go_ret3
  exact⟨by first|rfl|(simp;done)|(simp[*];done),by repeat (first|exact Drawn0.refl _|apply Drawn0.step)⟩
 rw[if_neg c4] at H
 have ad:decide (128<b)=false:=decide_eq_false c4
 clear c4
 by_cases c5:b>64
 ·rw[if_pos c5] at H
  have ae:decide (64<b)=true:=decide_eq_true c5
  clear c5
  obtain⟨a,D⟩:∃ j_:Int,(wrap64 (b-64))=j_:=⟨_,rfl⟩
  first|rw[D] at H|simp only[D] at H
  have aw:(IntKind.i64.wrap (b-64))=a:=(i64_w _).trans D
  by_cases c7:0≤(a)
  rotate_left
  ·rw[if_neg c7] at H
   exact absurd H (by simp)
  rw[if_pos c7] at H
  have aK:=eq_true c7
  have aL:decide (0≤(a))=true:=decide_eq_true c7
  clear c7
  obtain⟨j,z⟩:∃ j_:Int,(shl .u64 1 (a))=j_:=⟨_,rfl⟩
  first|rw[z] at H|simp only[z] at H
  have X:(IntKind.u64.wrap (1*2^min (a).toNat 64))=j:=z
  have Y:(a)≤64→(IntKind.u64.wrap (1*2^(a).toNat))=j:=shl_small z
  have ax:(IntKind.u64.wrap (2^min (a).toNat 64))=j:=by have h_:=X;rw[Int.one_mul] at h_;exact h_
  have ay:(a)≤64→(IntKind.u64.wrap (2^(a).toNat))=j:=fun hle_=>by have h_:=Y hle_;rw[Int.one_mul] at h_;exact h_
  obtain⟨n,E⟩:∃ j_:Int,(wrap64 ((a)-1))=j_:=⟨_,rfl⟩
  first|rw[E] at H|simp only[E] at H
  have az:(IntKind.i64.wrap ((a)-1))=n:=(i64_w _).trans E
  by_cases L:0≤(n)
  rotate_left
  ·rw[if_neg L] at H
   exact absurd H (by simp)
  rw[if_pos L] at H
  have aA:=eq_true L
  have aB:decide (0≤(n))=true:=decide_eq_true L
  clear L
  obtain⟨l,p⟩:∃ j_:Int,(shl .u64 1 (n))=j_:=⟨_,rfl⟩
  first|rw[p] at H|simp only[p] at H
  have R:(IntKind.u64.wrap (1*2^min (n).toNat 64))=l:=p
  have S:(n)≤64→(IntKind.u64.wrap (1*2^(n).toNat))=l:=shl_small p
  have ag:(IntKind.u64.wrap (2^min (n).toNat 64))=l:=by have h_:=R;rw[Int.one_mul] at h_;exact h_
  have ah:(n)≤64→(IntKind.u64.wrap (2^(n).toNat))=l:=fun hle_=>by have h_:=S hle_;rw[Int.one_mul] at h_;exact h_
  have aC:=eq_true (of_decide_eq_true (by first|(with_reducible assumption)|assumption):0≤(a))
  obtain⟨J,q⟩:∃ j_:Int,(shr .u64 d (a))=j_:=⟨_,rfl⟩
  first|rw[q] at H|simp only[q] at H
  have ai:(d/2^min (a).toNat 64)=J:=q
  have aj:(a)≤64→(d/2^(a).toNat)=J:=shr_small q
  by_cases M:(Go.bits .and .u64 (Go.bits .and .u64 d (IntKind.u64.wrap ((j)-1))) (IntKind.u64.wrap ((l)-1)))=0
  ·rw[if_pos M] at H
   obtain⟨Z,aa⟩:=zt M
   clear M
   simp only[Option.some.injEq,Prod.mk.injEq] at H
   obtain⟨rfl,rfl,rfl⟩:=H
   go_enter Try.func90,Try.ntmps90
   go_wp2
   repeat (go_quiet (fail);try go_wp2)
   go_ret3
   exact⟨by first|rfl|(simp;done)|(simp only[←D,←z,←E,←p,←q] <;> (first|rfl|simp))|(simp[*];done),by repeat (first|exact Drawn0.refl _|apply Drawn0.step)⟩
  rw[if_neg M] at H
  obtain⟨Z,aa⟩:=zf M
  simp only[Option.some.injEq,Prod.mk.injEq] at H
  obtain⟨rfl,rfl,rfl⟩:=H
  go_enter Try.func90,Try.ntmps90
  go_wp2
  repeat (go_quiet (fail);try go_wp2)
  go_ret3
  exact⟨by first|rfl|(simp;done)|(simp only[←D,←z,←E,←p,←q] <;> (first|rfl|simp))|(simp[*];done),by repeat (first|exact Drawn0.refl _|apply Drawn0.step)⟩
 rw[if_neg c5] at H
 have ae:decide (64<b)=false:=decide_eq_false c5
 clear c5
 by_cases N:0≤b
 rotate_left
 ·rw[if_neg N] at H
  exact absurd H (by simp)

 rw[if_pos N] at H
 have aD:=eq_true N
 have aE:decide (0≤b)=true:=decide_eq_true N
 clear N
 obtain⟨c,s⟩:∃ j_:Int,(shl .u64 1 b)=j_:=⟨_,rfl⟩
 first|rw[s] at H|simp only[s] at H
 have T:(IntKind.u64.wrap (1*2^min b.toNat 64))=c:=s
 have U:b≤64→(IntKind.u64.wrap (1*2^b.toNat))=c:=shl_small s
 have ak:(IntKind.u64.wrap (2^min b.toNat 64))=c:=by have h_:=T;rw[Int.one_mul] at h_;exact h_
 have al:b≤64→(IntKind.u64.wrap (2^b.toNat))=c:=fun hle_=>by have h_:=U hle_;rw[Int.one_mul] at h_;exact h_
 obtain⟨g,B⟩:∃ j_:Int,(wrap64 (b-1))=j_:=⟨_,rfl⟩
 first|rw[B] at H|simp only[B] at H
 have am:(IntKind.i64.wrap (b-1))=g:=(i64_w _).trans B
 by_cases O:0≤(g)
 rotate_left
 ·rw[if_neg O] at H
  exact absurd H (by simp)
 rw[if_pos O] at H
 have aF:=eq_true O
 have aG:decide (0≤(g))=true:=decide_eq_true O
 clear O
 obtain⟨i,u⟩:∃ j_:Int,(shl .u64 1 (g))=j_:=⟨_,rfl⟩
 first|rw[u] at H|simp only[u] at H
 have V:(IntKind.u64.wrap (1*2^min (g).toNat 64))=i:=u
 have W:(g)≤64→(IntKind.u64.wrap (1*2^(g).toNat))=i:=shl_small u
 have an:(IntKind.u64.wrap (2^min (g).toNat 64))=i:=by have h_:=V;rw[Int.one_mul] at h_;exact h_
 have ao:(g)≤64→(IntKind.u64.wrap (2^(g).toNat))=i:=fun hle_=>by have h_:=W hle_;rw[Int.one_mul] at h_;exact h_
 obtain⟨o,C⟩:∃ j_:Int,(wrap64 (64-b))=j_:=⟨_,rfl⟩
 first|rw[C] at H|simp only[C] at H
 have ap:(IntKind.i64.wrap (64-b))=o:=(i64_w _).trans C
 by_cases P:0≤(o)
 ·rw[if_pos P] at H
  have aH:=eq_true P
  have aI:decide (0≤(o))=true:=decide_eq_true P
  clear P
  obtain⟨K,v⟩:∃ j_:Int,(shl .u64 d (o))=j_:=⟨_,rfl⟩
  first|rw[v] at H|simp only[v] at H
  have aq:(IntKind.u64.wrap (d*2^min (o).toNat 64))=K:=v
  have ar:(o)≤64→(IntKind.u64.wrap (d*2^(o).toNat))=K:=shl_small v
  have aJ:=eq_true (of_decide_eq_true (by first|(with_reducible assumption)|assumption):0≤b)
  obtain⟨Q,y⟩:∃ j_:Int,(shr .u64 m b)=j_:=⟨_,rfl⟩
  first|rw[y] at H|simp only[y] at H
  have au:(m/2^min b.toNat 64)=Q:=y
  have av:b≤64→(m/2^b.toNat)=Q:=shr_small y
  simp only[Option.some.injEq,Prod.mk.injEq] at H
  obtain⟨rfl,rfl,rfl⟩:=H
  go_enter Try.func90,Try.ntmps90
  go_wp2
  repeat (go_quiet (fail);try go_wp2)
  go_ret3
  exact⟨by first|rfl|(simp;done)|(simp only[←s,←B,←u,←C,←v,←y] <;> (first|rfl|simp))|(simp[*];done),by repeat (first|exact Drawn0.refl _|apply Drawn0.step)⟩
 rw[if_neg P] at H
 exact absurd H (by simp)
/-! ### round_Pack: function 51 -/
mutual
def round_Pack.j0:Nat→Bool→Int→Int→Int→Bool→Int→Bool→Int→Int→Option (Int×Int)
 | 0,_,_,_,_,_,_,_,_,_=>none
 | k+1,h,j,i,b,l,c,m,a,e=>if m=true then (some (0,1)) else (if c=0 then ((round_sign.f a e h).bind fun n=>(some (n,0))) else ((round_bias.f a e).bind fun d=>(if (mx (wrap64 ((wrap64 ((wrap64 (c+b))-a))-1)) (wrap64 ((wrap64 (1-d))-a)))≤b then (if 0≤(wrap64 (b-(mx (wrap64 ((wrap64 ((wrap64 (c+b))-a))-1)) (wrap64 ((wrap64 (1-d))-a))))) then (round_Pack.j1 k h (mx (wrap64 ((wrap64 ((wrap64 (c+b))-a))-1)) (wrap64 ((wrap64 (1-d))-a))) (shl .u64 i (wrap64 (b-(mx (wrap64 ((wrap64 ((wrap64 (c+b))-a))-1)) (wrap64 ((wrap64 (1-d))-a)))))) a e) else (none)) else ((round_down.f j i (wrap64 ((mx (wrap64 ((wrap64 ((wrap64 (c+b))-a))-1)) (wrap64 ((wrap64 (1-d))-a)))-b))).bind fun g=>(if g.2.1=true then (if g.2.2=true then (round_Pack.j1 k h (mx (wrap64 ((wrap64 ((wrap64 (c+b))-a))-1)) (wrap64 ((wrap64 (1-d))-a))) (IntKind.u64.wrap (g.1+1)) a e) else (if l=true then (round_Pack.j1 k h (mx (wrap64 ((wrap64 ((wrap64 (c+b))-a))-1)) (wrap64 ((wrap64 (1-d))-a))) (IntKind.u64.wrap (g.1+1)) a e) else (if (Go.bits .and .u64 g.1 1)=1 then (round_Pack.j1 k h (mx (wrap64 ((wrap64 ((wrap64 (c+b))-a))-1)) (wrap64 ((wrap64 (1-d))-a))) (IntKind.u64.wrap (g.1+1)) a e) else (round_Pack.j1 k h (mx (wrap64 ((wrap64 ((wrap64 (c+b))-a))-1)) (wrap64 ((wrap64 (1-d))-a))) g.1 a e)))) else (round_Pack.j1 k h (mx (wrap64 ((wrap64 ((wrap64 (c+b))-a))-1)) (wrap64 ((wrap64 (1-d))-a))) g.1 a e))))))
def round_Pack.j1:Nat→Bool→Int→Int→Int→Int→Option (Int×Int)
 | 0,_,_,_,_,_=>none
 | k+1,c,d,b,a,e=>if 0≤(wrap64 (a+1)) then (if (shr .u64 b (wrap64 (a+1)))=0 then (round_Pack.j2 k c d b a e) else (round_Pack.j2 k c (wrap64 (d+1)) (b/2) a e)) else (none)
def round_Pack.j2:Nat→Bool→Int→Int→Int→Int→Option (Int×Int)
 | 0,_,_,_,_,_=>none
 | k+1,c,e,d,a,b=>if 0≤a then (if (shr .u64 d a)=0 then ((round_sign.f a b c).bind fun h=>(some (Go.bits .or .u64 h d,0))) else ((round_bias.f a b).bind fun g=>(if 0≤b then (if (wrap64 ((wrap64 (e+g))+a))≥(wrap64 ((shl .i64 1 b)-1)) then ((round_Inf.f a b c).bind fun i=>(some (i,0))) else ((round_sign.f a b c).bind fun j=>(some (Go.bits .or .u64 (Go.bits .or .u64 j (shl .u64 (IntKind.u64.wrap (wrap64 ((wrap64 (e+g))+a))) a)) (Go.bits .and .u64 d (IntKind.u64.wrap ((shl .u64 1 a)-1))),0)))) else (none)))) else (none)
end
def round_Pack.f (k:Nat) (a0_0:Int) (a0_1:Int) (a1:Bool) (a2:Int) (a3:Int) (a4:Int) (a5:Bool):Option (Int×Int):=(round_length.f k a2 a3).bind fun a=>((round_Check.f a0_0 a0_1).bind fun b=>(if b=0 then (if a4<(-4096) then (round_Pack.j0 k a1 a2 a3 a4 a5 a true a0_0 a0_1) else (if a4>4096 then (round_Pack.j0 k a1 a2 a3 a4 a5 a true a0_0 a0_1) else (if a5=true then (round_Pack.j0 k a1 a2 a3 a4 a5 a (decide (a<(wrap64 (a0_0+3)))) a0_0 a0_1) else (round_Pack.j0 k a1 a2 a3 a4 a5 a false a0_0 a0_1)))) else (round_Pack.j0 k a1 a2 a3 a4 a5 a true a0_0 a0_1)))
theorem round_Pack.mono_l:∀ k,(∀ y0 y1 y2 y3 y4 y5 y6 y7 y8,LeO (round_Pack.j0 k y0 y1 y2 y3 y4 y5 y6 y7 y8) (round_Pack.j0 (k+1) y0 y1 y2 y3 y4 y5 y6 y7 y8))∧(∀ y0 y1 y2 y3 y4,LeO (round_Pack.j1 k y0 y1 y2 y3 y4) (round_Pack.j1 (k+1) y0 y1 y2 y3 y4))∧(∀ y0 y1 y2 y3 y4,LeO (round_Pack.j2 k y0 y1 y2 y3 y4) (round_Pack.j2 (k+1) y0 y1 y2 y3 y4))
 | 0=>⟨fun _ _ _ _ _ _ _ _ _ r h=>by simp[round_Pack.j0] at h,fun _ _ _ _ _ r h=>by simp[round_Pack.j1] at h,fun _ _ _ _ _ r h=>by simp[round_Pack.j2] at h⟩
 | k+1=>by
  obtain⟨ih0,ih1,ih2⟩:=round_Pack.mono_l k
  refine⟨?_,?_,?_⟩ <;> intros <;> (first|unfold round_Pack.j0|unfold round_Pack.j1|unfold round_Pack.j2) <;> (repeat' first|(with_reducible first|apply ih0|apply ih1|apply ih2|apply round_length.mono|exact LeO.refl _|exact LeO.none _|refine LeO.ite ?_ ?_|refine LeO.bind ?_ (fun _=>?_))|refine LeO.ite ?_ ?_|refine LeO.bind ?_ (fun _=>?_))
theorem round_Pack.mono:∀ a0 a1 a2 a3 a4 a5 a6 k,LeO (round_Pack.f k a0 a1 a2 a3 a4 a5 a6) (round_Pack.f (k+1) a0 a1 a2 a3 a4 a5 a6):=by
 intro a0 a1 a2 a3 a4 a5 a6 k
 obtain⟨ih0,ih1,ih2⟩:=round_Pack.mono_l k
 unfold round_Pack.f
 repeat' first|(with_reducible first|apply ih0|apply ih1|apply ih2|apply round_length.mono|exact LeO.refl _|exact LeO.none _|refine LeO.ite ?_ ?_|refine LeO.bind ?_ (fun _=>?_))|refine LeO.ite ?_ ?_|refine LeO.bind ?_ (fun _=>?_)
def round_Pack.T6:Bool×List (List Nat×List Nat):=(true,[([],[]),([],[]),([0,1],[0,1]),([],[]),([3],[3]),([2,4],[2,4]),([5],[5]),([],[]),([7],[7]),([8],[8]),([],[]),([10],[10]),([9,11],[9,11]),([6,12],[6,12]),([13,8,0,1,2,3,4,5,6,7,8,9,10,11,12,13],[13])])
def round_Pack.B6:List Nat:=[0,0,3,0,8,31,63,0,128,384,0,1024,3968,8191,16383]
theorem round_Pack.tab6:rtab .any (opsOf Try.f51 6)=round_Pack.T6:=by kernel_rfl
theorem round_Pack.bits6:waitsOk round_Pack.T6.2 round_Pack.B6=true:=by kernel_rfl
def round_Pack.T19:Bool×List (List Nat×List Nat):=(true,[([],[]),([],[]),([1],[1]),([0,2],[0,2]),([],[]),([4],[4]),([3,5],[3,5]),([6,2,0,1,2,3,4,5,6],[6])])
def round_Pack.B19:List Nat:=[0,0,2,7,0,16,63,127]
theorem round_Pack.tab19:rtab .any (opsOf Try.f51 19)=round_Pack.T19:=by kernel_rfl
theorem round_Pack.bits19:waitsOk round_Pack.T19.2 round_Pack.B19=true:=by kernel_rfl
def round_Pack.T22:Bool×List (List Nat×List Nat):=(true,[([],[]),([],[]),([0,1],[0,1]),([],[]),([3],[3]),([],[]),([5],[5]),([4,6],[4,6]),([2,7],[2,7]),([],[]),([],[]),([10],[10]),([11],[11]),([12],[12]),([9,13],[9,13]),([8,14],[8,14]),([15,2,0,1,2,3,4,5,6,7,8,9,10,11,12,13,14,15],[15]),([16,0,1,2,3,4,5,6,7,8,9,10,11,12,13,14,15,16],[])])
def round_Pack.B22:List Nat:=[0,0,3,0,8,0,32,120,255,0,0,1024,3072,7168,15872,32767,65535,131071]
theorem round_Pack.tab22:rtab .any (opsOf Try.f51 22)=round_Pack.T22:=by kernel_rfl
theorem round_Pack.bits22:waitsOk round_Pack.T22.2 round_Pack.B22=true:=by kernel_rfl
set_option maxHeartbeats 8000000 in
set_option maxRecDepth 100000 in
theorem round_Pack.calls {k:Nat} {b:Int} {c:Int} {I:Bool} {a2:Int} {P:Int} {u:Int} {a5:Bool} {r1:Int} {r2:Int} {w:World} (h:round_Pack.f k b c I a2 P u a5=some (r1,r2)) :
  Calls Try.prog 51 #[.agg #[.int .i64 b,.int .i64 c],.bool I,.int .u64 a2,.int .u64 P,.int .i64 u,.bool a5] w fun e w'=>e=.returned (.tuple #[.int .u64 r1,.int .i64 r2])∧Below w.heap.size w w':=by
 have hu23:=Try.underlying23
 have HB:=Aside0.mk (Below.refl w.heap.size w)
 have H:=h
 unfold round_Pack.f at H
 clear h
 obtain⟨p,A7,H⟩:=oB H
 have bx:=Aside0.mk H
 clear H
 go_enter Try.func51,Try.ntmps51
 go_upto_region 2 with (first|((with_reducible refine gate_dst (N:=6) rfl ?_);refine zbox (N:=6) (cs:=#[.int .i64 b,.int .i64 c]) (t:=23) ?_;intro o hg w9 hbox hb;have a:=Aside0.mk hbox;have cm:=zge hg HB;have cn:=zge hg HB;replace HB:=zbs HB hb;clear hb hbox hg)|((with_reducible refine gate_callee (f:=88) rfl ?_);refine zgo (some 22) Try.func88 #[.int .u64 a2,.int .u64 P] ?_;(with_reducible refine (round_length.calls A7.out).mono ?_);rintro e w' ⟨rfl,⟨nd,rfl⟩⟩;refine⟨_,rfl,?_⟩))
 (try simp only[Act.put,List.setIfInBounds_toArray,List.set_cons_zero,List.set_cons_succ])
 go_cut [43] (fun v43 wc=>∃ (kq:Nat) (T:Bool),v43=.bool T∧Aside0 (round_Pack.j0 kq I a2 P u a5 p T b c=some (r1,r2))∧Aside0 (kq≤k)∧Aside0 (wc.heap[o]?=some (.cells #[.int .i64 b,.int .i64 c] 23 (0,0)))∧Aside0 (Below w.heap.size w wc))
 case first =>
  have H:=bx.out
  clear bx
  obtain⟨aZ,a0,H⟩:=oB H
  by_cases aD:aZ=0
  rotate_left
  ·rw[if_neg aD] at H
   obtain⟨y,aE⟩:=zf aD
   (first|rw[y]|(simp only[i64_w,i32_w];rw[y])|skip)
   have H':=Aside0.mk H
   clear H
   obtain⟨ar,au,av,aw⟩:=zc2 a
   go_wp2_with (first|((with_reducible refine gate_callee (f:=77) rfl ?_);refine zgc (some 24) Try.func77 (round_Check.calls a0.out) ?_;intro cJ hb;obtain⟨a,HB⟩:=zu1 a HB hb;clear hb))
   go_meet
   case rel=>exact⟨_,(true),(by first|rfl|(simp[*];done)),H',⟨by omega⟩,⟨zk a⟩,⟨zb HB⟩⟩
  rw[if_pos aD] at H
  obtain⟨y,aE⟩:=zt aD
  clear aD
  (first|rw[y]|(simp only[i64_w,i32_w];rw[y])|skip)
  by_cases V:u<(-4096)
  ·rw[if_pos V] at H
   have aF:decide (u<(-4096))=true:=decide_eq_true V
   clear V
   have H':=Aside0.mk H
   clear H
   obtain⟨W,X,Y,Z⟩:=zc2 a
   go_wp2_with (first|((with_reducible refine gate_callee (f:=77) rfl ?_);refine zgc (some 24) Try.func77 (round_Check.calls a0.out) ?_;intro cF hb;obtain⟨a,HB⟩:=zu1 a HB hb;clear hb))
   go_meet
   case rel=>exact⟨_,(true),(by first|rfl|(simp[*];done)),H',⟨by omega⟩,⟨zk a⟩,⟨zb HB⟩⟩
  rw[if_neg V] at H
  have aF:decide (u<(-4096))=false:=decide_eq_false V
  clear V
  by_cases aa:u>4096
  ·rw[if_pos aa] at H
   have aG:decide (4096<u)=true:=decide_eq_true aa
   clear aa
   have H':=Aside0.mk H
   clear H
   obtain⟨ab,ac,ad,ae⟩:=zc2 a
   go_wp2_with (first|((with_reducible refine gate_callee (f:=77) rfl ?_);refine zgc (some 24) Try.func77 (round_Check.calls a0.out) ?_;intro cG hb;obtain⟨a,HB⟩:=zu1 a HB hb;clear hb))
   go_meet
   case rel=>exact⟨_,(true),(by first|rfl|(simp[*];done)),H',⟨by omega⟩,⟨zk a⟩,⟨zb HB⟩⟩
  rw[if_neg aa] at H
  have aG:decide (4096<u)=false:=decide_eq_false aa
  clear aa
  by_cases aT:a5=true
  ·subst aT
   rw[if_pos rfl] at H
   have H':=Aside0.mk H
   clear H
   obtain⟨af,ag,ah,ai⟩:=zc2 a
   go_wp2_with (first|((with_reducible refine gate_callee (f:=77) rfl ?_);refine zgc (some 24) Try.func77 (round_Check.calls a0.out) ?_;intro cH hb;obtain⟨a,HB⟩:=zu1 a HB hb;clear hb;obtain⟨aj,ak,al,am⟩:=zc2 a))
   go_meet
   case rel=>exact⟨_,(decide (p<(wrap64 (b+3)))),(by first|rfl|(simp[*];done)),H',⟨by omega⟩,⟨zk a⟩,⟨zb HB⟩⟩
  replace aT:=Bool.eq_false_iff.mpr aT
  subst aT
  rw[if_neg nft] at H
  have H':=Aside0.mk H
  clear H
  obtain⟨an,ao,ap,aq⟩:=zc2 a
  go_wp2_with (first|((with_reducible refine gate_callee (f:=77) rfl ?_);refine zgc (some 24) Try.func77 (round_Check.calls a0.out) ?_;intro cI hb;obtain⟨a,HB⟩:=zu1 a HB hb;clear hb))
  go_meet
  case rel=>exact⟨_,(false),(by first|rfl|(simp[*];done)),H',⟨by omega⟩,⟨zk a⟩,⟨zb HB⟩⟩
 case rest =>
  clear bx
  obtain⟨kq,T,rfl,HA,ax,a,HB⟩:=hcut
  cases kq with
  | zero=>exact absurd HA.out (by simp[round_Pack.j0])
  | succ U =>
   have H:=HA.out
   clear HA
   simp only[round_Pack.j0] at H
   by_cases aU:T=true
   ·subst aU
    rw[if_pos rfl] at H
    simp only[Option.some.injEq,Prod.mk.injEq] at H
    obtain⟨rfl,rfl⟩:=H
    go_wp2
    go_ret2
    exact zr HB
   replace aU:=Bool.eq_false_iff.mpr aU
   subst aU
   rw[if_neg nft] at H
   by_cases aH:p=0
   ·rw[if_pos aH] at H
    obtain⟨aI,aJ⟩:=zt aH
    clear aH
    obtain⟨cB,co,H⟩:=oB H
    simp only[Option.some.injEq,Prod.mk.injEq] at H
    obtain⟨rfl,rfl⟩:=H
    obtain⟨a6,a7,a8,a9⟩:=zc2 a
    go_wp2_with (first|((with_reducible refine gate_callee (f:=87) rfl ?_);refine zgc (some 48) Try.func87 (round_sign.calls co.out) ?_;intro cK hb;obtain⟨a,HB⟩:=zu1 a HB hb;clear hb))
    go_ret2
    exact zr HB
   rw[if_neg aH] at H
   obtain⟨aI,aJ⟩:=zf aH
   obtain⟨ba,bI,H⟩:=oB H
   obtain⟨d,l⟩:∃ j_:Int,(mx (wrap64 ((wrap64 ((wrap64 (p+u))-b))-1)) (wrap64 ((wrap64 (1-ba))-b)))=j_:=⟨_,rfl⟩
   first|rw[l] at H|simp only[l] at H
   (try rw[l] at bI)
   have b5:(if (wrap64 ((wrap64 ((wrap64 (p+u))-b))-1))<(wrap64 ((wrap64 (1-ba))-b)) then (wrap64 ((wrap64 (1-ba))-b)) else (wrap64 ((wrap64 ((wrap64 (p+u))-b))-1)))=d:=l
   have bb:=Aside0.mk H
   clear H
   try go_wp2
   replace a:=Aside0.mk (blk_drew a.out)
   replace HB:=Aside0.mk (below_drew1 HB.out)
   refine start_ (n:=15) (S:=fun w'=>w'.cell? ⟨o,0,none⟩=some (.int .i64 b)∧w'.cell? ⟨o,1,none⟩=some (.int .i64 c)) (ds:=[]) #[false,false,false,false,false,false,false,false,false,false,false,false,false,false,false] (by kernel_rfl) rfl rfl ⟨(blk_cell a.out 0).trans rfl,(blk_cell a.out 1).trans rfl⟩ (fun hHeld=>?_);refine with_tabW round_Pack.tab6 round_Pack.bits6 (fun HT_ HW_=>?_)
   generalize wc.drew=cL at a HB hHeld ⊢
   refine zpure_ (i:=0) (N:=some 49) #[true,false,false,false,false,false,false,false,false,false,false,false,false,false,false] (any_of HT_.out (by kernel_rfl)) ?_
   refine zpure_ (i:=1) (N:=some 50) #[true,true,false,false,false,false,false,false,false,false,false,false,false,false,false] (any_of HT_.out (by kernel_rfl)) ?_
   refine zpure_ (i:=2) (N:=some 51) #[true,true,true,false,false,false,false,false,false,false,false,false,false,false,false] (any_of HT_.out (by kernel_rfl)) ?_
   refine zpure_ (i:=3) (N:=some 52) #[true,true,true,true,false,false,false,false,false,false,false,false,false,false,false] (any_of HT_.out (by kernel_rfl)) ?_
   refine zpure_ (i:=10) (N:=some 59) #[true,true,true,true,false,false,false,false,false,false,true,false,false,false,false] (any_of HT_.out (by kernel_rfl)) ?_
   refine ztake_ (i:=4) (N:=some 53) #[true,true,true,true,true,false,false,false,false,false,true,false,false,false,false] rfl (take_ofW HT_.out HW_.out (by kernel_rfl)) hHeld (Or.inl ⟨by rfl,by rintro w' ⟨s0,s1⟩;go_simp;with_reducible rfl⟩) ?_
   refine zpure_ (i:=5) (N:=some 54) #[true,true,true,true,true,true,false,false,false,false,true,false,false,false,false] (any_of HT_.out (by kernel_rfl)) ?_
   refine zpure_ (i:=6) (N:=some 55) #[true,true,true,true,true,true,true,false,false,false,true,false,false,false,false] (any_of HT_.out (by kernel_rfl)) ?_
   refine ztake_ (i:=7) (N:=some 56) #[true,true,true,true,true,true,true,true,false,false,true,false,false,false,false] rfl (take_ofW HT_.out HW_.out (by kernel_rfl)) hHeld (Or.inl ⟨by rfl,by rintro w' ⟨s0,s1⟩;go_simp;with_reducible rfl⟩) ?_
   refine ztake_ (i:=11) (N:=some 60) #[true,true,true,true,true,true,true,true,false,false,true,true,false,false,false] rfl (take_ofW HT_.out HW_.out (by kernel_rfl)) hHeld (Or.inl ⟨by rfl,by rintro w' ⟨s0,s1⟩;go_simp;with_reducible rfl⟩) ?_
   refine one_ (i:=8) (N:=some 57) #[true,true,true,true,true,true,true,true,true,false,true,true,false,false,false] rfl rfl (one_of HT_.out (by kernel_rfl)) (by decide) (fun K hK=>?_)
   refine goes_ Try.func89 (by kernel_rfl) rfl #[.agg #[.int .i64 b,.int .i64 c]] (by rfl) rfl rfl (by (try simp only[List.map_toArray,List.map_cons,List.map_nil]);first|done|rfl|(simp only[List.length_drop,List.length_take];rfl)) ?_
   with_reducible refine (round_bias.calls bI.out).mono ?_
   rintro e cM ⟨rfl,hb⟩
   refine⟨_,rfl,?_⟩
   obtain⟨a,HB⟩:=zu1 a HB hb
   try clear hb
   refine hK.out _ _ ⟨(blk_cell a.out 0).trans rfl,(blk_cell a.out 1).trans rfl⟩ (fun hHeld=>?_)
   clear hK K
   refine norm_ (a':=?_) ?_ ?_
   rotate_left
   ·show Act.put _ (some 57) _=_
    simp only[Act.put,List.setIfInBounds_toArray,List.set_cons_zero,List.set_cons_succ,i64_w,i32_w]
    rfl
   refine zpure_ (i:=9) (N:=some 58) #[true,true,true,true,true,true,true,true,true,true,true,true,false,false,false] (any_of HT_.out (by kernel_rfl)) ?_
   refine zpure_ (i:=12) (N:=some 61) #[true,true,true,true,true,true,true,true,true,true,true,true,true,false,false] (any_of HT_.out (by kernel_rfl)) ?_
   refine zpure_ (i:=13) (N:=some 62) #[true,true,true,true,true,true,true,true,true,true,true,true,true,true,false] (any_of HT_.out (by kernel_rfl)) ?_
   refine zpure_ (i:=14) (N:=some 15) #[true,true,true,true,true,true,true,true,true,true,true,true,true,true,true] (any_of HT_.out (by kernel_rfl)) ?_
   refine done_ (done_of HT_.out (by kernel_rfl)) ?_
   go_upto_if 65 with (fail)
   go_cut [16] (fun v16 wc=>∃ (kq:Nat) (g:Int),v16=.int .u64 g∧Aside0 (round_Pack.j1 kq I d g b c=some (r1,r2))∧Aside0 (kq≤U)∧Aside0 (wc.heap[o]?=some (.cells #[.int .i64 b,.int .i64 c] 23 (0,0)))∧Aside0 (Below w.heap.size w wc))
   case first =>
    have H:=bb.out
    clear bb
    by_cases aK:(d)≤u
    ·rw[if_pos aK] at H
     have J:decide ((d)≤u)=true:=decide_eq_true aK
     clear aK
     (first|rw[J]|(simp only[i64_w,i32_w];rw[J])|skip)
     obtain⟨F,aL⟩:∃ j_:Int,(wrap64 (u-(d)))=j_:=⟨_,rfl⟩
     first|rw[aL] at H|simp only[aL] at H
     have b6:(IntKind.i64.wrap (u-(d)))=F:=(i64_w _).trans aL
     by_cases aV:0≤(F)
     ·rw[if_pos aV] at H
      have bz:=eq_true aV
      have bA:decide (0≤(F))=true:=decide_eq_true aV
      clear aV
      obtain⟨aM,M⟩:∃ j_:Int,(shl .u64 P (F))=j_:=⟨_,rfl⟩
      first|rw[M] at H|simp only[M] at H
      have b7:(IntKind.u64.wrap (P*2^min (F).toNat 64))=aM:=M
      have b8:(F)≤64→(IntKind.u64.wrap (P*2^(F).toNat))=aM:=shl_small M
      have H':=Aside0.mk H
      clear H
      go_wp2
      go_meet
      case rel=>exact⟨_,(aM),(by first|rfl|(simp;done)|(simp only[←M] <;> (first|rfl|simp))|(simp[*];done)),H',⟨by have:=ax.out;first|omega|exact Nat.le_refl _⟩,⟨zk a⟩,⟨zb HB⟩⟩
     rw[if_neg aV] at H
     exact absurd H (by simp)
    rw[if_neg aK] at H
    have J:decide ((d)≤u)=false:=decide_eq_false aK
    clear aK
    (first|rw[J]|(simp only[i64_w,i32_w];rw[J])|skip)
    obtain⟨⟨Q,bJ,bK⟩,bc,H⟩:=oB H
    try dsimp only at H
    by_cases bd:bJ=true
    rotate_left
    ·replace bd:=Bool.eq_false_iff.mpr bd
     subst bd
     rw[if_neg nft] at H
     have H':=Aside0.mk H
     clear H
     go_wp2_with (first|((with_reducible refine gate_callee (f:=90) rfl ?_);refine goesL_ (some 77) rfl rfl Try.func90 (by kernel_rfl) rfl #[.int .u64 a2,.int .u64 P,.int .i64 (wrap64 ((d)-u))] rfl (by (try simp only[List.map_toArray,List.map_cons,List.map_nil]);first|done|(simp only[l];rfl)|rfl|(simp only[List.length_drop,List.length_take];rfl)) ?_;(with_reducible refine (round_down.calls bc.out).mono ?_);rintro e w' ⟨rfl,⟨nd,rfl⟩⟩;refine⟨_,rfl,?_⟩))
     go_meet
     case rel=>exact⟨_,(Q),(by first|rfl|(simp[*];done)),H',⟨by have:=ax.out;first|omega|exact Nat.le_refl _⟩,⟨zk a⟩,⟨zb HB⟩⟩
    subst bd
    rw[if_pos rfl] at H
    by_cases be:bK=true
    ·subst be
     rw[if_pos rfl] at H
     have H':=Aside0.mk H
     clear H
     go_wp2_with (first|((with_reducible refine gate_callee (f:=90) rfl ?_);refine goesL_ (some 77) rfl rfl Try.func90 (by kernel_rfl) rfl #[.int .u64 a2,.int .u64 P,.int .i64 (wrap64 ((d)-u))] rfl (by (try simp only[List.map_toArray,List.map_cons,List.map_nil]);first|done|(simp only[l];rfl)|rfl|(simp only[List.length_drop,List.length_take];rfl)) ?_;(with_reducible refine (round_down.calls bc.out).mono ?_);rintro e w' ⟨rfl,⟨nd,rfl⟩⟩;refine⟨_,rfl,?_⟩))
     go_meet
     case rel=>exact⟨_,(IntKind.u64.wrap (Q+1)),(by first|rfl|(simp[*];done)),H',⟨by have:=ax.out;first|omega|exact Nat.le_refl _⟩,⟨zk a⟩,⟨zb HB⟩⟩
    replace be:=Bool.eq_false_iff.mpr be
    subst be
    rw[if_neg nft] at H
    by_cases bf:a5=true
    ·subst bf
     rw[if_pos rfl] at H
     have H':=Aside0.mk H
     clear H
     go_wp2_with (first|((with_reducible refine gate_callee (f:=90) rfl ?_);refine goesL_ (some 77) rfl rfl Try.func90 (by kernel_rfl) rfl #[.int .u64 a2,.int .u64 P,.int .i64 (wrap64 ((d)-u))] rfl (by (try simp only[List.map_toArray,List.map_cons,List.map_nil]);first|done|(simp only[l];rfl)|rfl|(simp only[List.length_drop,List.length_take];rfl)) ?_;(with_reducible refine (round_down.calls bc.out).mono ?_);rintro e w' ⟨rfl,⟨nd,rfl⟩⟩;refine⟨_,rfl,?_⟩))
     go_meet
     case rel=>exact⟨_,(IntKind.u64.wrap (Q+1)),(by first|rfl|(simp[*];done)),H',⟨by have:=ax.out;first|omega|exact Nat.le_refl _⟩,⟨zk a⟩,⟨zb HB⟩⟩
    replace bf:=Bool.eq_false_iff.mpr bf
    subst bf
    rw[if_neg nft] at H
    by_cases aW:(Go.bits .and .u64 Q 1)=1
    ·rw[if_pos aW] at H
     obtain⟨bg,bh⟩:=zt aW
     clear aW
     have H':=Aside0.mk H
     clear H
     go_wp2_with (first|((with_reducible refine gate_callee (f:=90) rfl ?_);refine goesL_ (some 77) rfl rfl Try.func90 (by kernel_rfl) rfl #[.int .u64 a2,.int .u64 P,.int .i64 (wrap64 ((d)-u))] rfl (by (try simp only[List.map_toArray,List.map_cons,List.map_nil]);first|done|(simp only[l];rfl)|rfl|(simp only[List.length_drop,List.length_take];rfl)) ?_;(with_reducible refine (round_down.calls bc.out).mono ?_);rintro e w' ⟨rfl,⟨nd,rfl⟩⟩;refine⟨_,rfl,?_⟩))
     go_meet
     case rel=>exact⟨_,(IntKind.u64.wrap (Q+1)),(by first|rfl|(simp[*];done)),H',⟨by have:=ax.out;first|omega|exact Nat.le_refl _⟩,⟨zk a⟩,⟨zb HB⟩⟩
    rw[if_neg aW] at H
    obtain⟨bg,bh⟩:=zf aW
    have H':=Aside0.mk H
    clear H
    go_wp2_with (first|((with_reducible refine gate_callee (f:=90) rfl ?_);refine goesL_ (some 77) rfl rfl Try.func90 (by kernel_rfl) rfl #[.int .u64 a2,.int .u64 P,.int .i64 (wrap64 ((d)-u))] rfl (by (try simp only[List.map_toArray,List.map_cons,List.map_nil]);first|done|(simp only[l];rfl)|rfl|(simp only[List.length_drop,List.length_take];rfl)) ?_;(with_reducible refine (round_down.calls bc.out).mono ?_);rintro e w' ⟨rfl,⟨nd,rfl⟩⟩;refine⟨_,rfl,?_⟩))
    go_meet
    case rel=>exact⟨_,(Q),(by first|rfl|(simp[*];done)),H',⟨by have:=ax.out;first|omega|exact Nat.le_refl _⟩,⟨zk a⟩,⟨zb HB⟩⟩
   case rest =>
    clear bb
    try clear c1 p2 c5 p6 c7 c8 aD y aE V aF aa aG aT aU aH aI aJ W X ab ac af ag aj ak an ao ar au Y Z ad ae ah ai al am ap aq av aw p2 p6
    obtain⟨kq,g,rfl,HA,bv,a,HB⟩:=hcut
    cases kq with
    | zero=>exact absurd HA.out (by simp[round_Pack.j1])
    | succ ay =>
     have H:=HA.out
     clear HA
     simp only[round_Pack.j1] at H
     obtain⟨G,L⟩:∃ j_:Int,(wrap64 (b+1))=j_:=⟨_,rfl⟩
     first|rw[L] at H|simp only[L] at H
     have b9:(IntKind.i64.wrap (b+1))=G:=(i64_w _).trans L
     by_cases bi:0≤(G)
     rotate_left
     ·rw[if_neg bi] at H
      exact absurd H (by simp)

     rw[if_pos bi] at H
     have bB:=eq_true bi
     have bC:decide (0≤(G))=true:=decide_eq_true bi
     clear bi
     obtain⟨aN,z⟩:∃ j_:Int,(shr .u64 g (G))=j_:=⟨_,rfl⟩
     first|rw[z] at H|simp only[z] at H
     have ca:(g/2^min (G).toNat 64)=aN:=z
     have cb:(G)≤64→(g/2^(G).toNat)=aN:=shr_small z
     have bj:=Aside0.mk H
     clear H
     obtain⟨bk,bl,bm,bn⟩:=zc2 a
     go_upto_if 100 with (fail)
     go_cut [15,16] (fun v15 v16 wc=>∃ (kq:Nat) (j:Int) (m:Int),v15=.int .i64 j∧v16=.int .u64 m∧Aside0 (round_Pack.j2 kq I j m b c=some (r1,r2))∧Aside0 (kq≤ay)∧Aside0 (wc.heap[o]?=some (.cells #[.int .i64 b,.int .i64 c] 23 (0,0)))∧Aside0 (Below w.heap.size w wc))
     case first =>
      have H:=bj.out
      clear bj
      by_cases bo:(aN)=0
      ·rw[if_pos bo] at H
       obtain⟨O,bD⟩:=zt bo
       clear bo
       (first|rw[O]|(simp only[i64_w,i32_w];rw[O])|skip)
       have H':=Aside0.mk H
       clear H
       go_wp2
       go_meet
       case rel=>exact⟨_,(d),(g),(by first|rfl|(simp;done)|(simp only[←l] <;> (first|rfl|simp))|(simp[*];done)),(by first|rfl|(simp[*];done)),H',⟨by have:=ax.out;have:=bv.out;first|omega|exact Nat.le_refl _⟩,⟨zk a⟩,⟨zb HB⟩⟩
      rw[if_neg bo] at H
      obtain⟨O,bD⟩:=zf bo
      (first|rw[O]|(simp only[i64_w,i32_w];rw[O])|skip)
      have H':=Aside0.mk H
      clear H
      go_wp2
      go_meet
      case rel=>exact⟨_,(wrap64 (d+1)),(g/2),(by first|rfl|(simp;done)|(simp only[←l] <;> (first|rfl|simp))|(simp[*];done)),(by first|rfl|(simp[*];done)),H',⟨by have:=ax.out;have:=bv.out;first|omega|exact Nat.le_refl _⟩,⟨zk a⟩,⟨zb HB⟩⟩
     case rest =>
      clear bj
      try clear c1 c2 p2 c3 c4 c5 p6 c7 c8 c9 aD y aE V aF aa aG aT aU aH aI aJ aK J aV bz bA bd be bf aW bg bh bB bC W X ab ac af ag aj ak an ao ar au a6 a7 bk bl Y Z ad ae ah ai al am ap aq av aw a8 a9 bm bn p2 p6
      obtain⟨kq,j,m,rfl,rfl,HA,cC,a,HB⟩:=hcut
      cases kq with
      | zero=>exact absurd HA.out (by simp[round_Pack.j2])
      | succ cD =>
       have H:=HA.out
       clear HA
       simp only[round_Pack.j2] at H
       by_cases bp:0≤b
       rotate_left
       ·rw[if_neg bp] at H
        exact absurd H (by simp)
       rw[if_pos bp] at H
       have cr:=eq_true bp
       have ct:decide (0≤b)=true:=decide_eq_true bp
       clear bp
       obtain⟨aO,B⟩:∃ j_:Int,(shr .u64 m b)=j_:=⟨_,rfl⟩
       first|rw[B] at H|simp only[B] at H
       have cc:(m/2^min b.toNat 64)=aO:=B
       have cd:b≤64→(m/2^b.toNat)=aO:=shr_small B
       by_cases bq:(aO)=0
       ·rw[if_pos bq] at H
        obtain⟨bE,bF⟩:=zt bq
        clear bq
        obtain⟨bw,cu,H⟩:=oB H
        simp only[Option.some.injEq,Prod.mk.injEq] at H
        obtain⟨rfl,rfl⟩:=H
        obtain⟨bL,bM,bN,bO⟩:=zc2 a
        go_wp2_with (first|((with_reducible refine gate_callee (f:=87) rfl ?_);refine zgc (some 112) Try.func87 (round_sign.calls cu.out) ?_;intro cR hb;obtain⟨a,HB⟩:=zu1 a HB hb;clear hb))
        go_ret2
        exact⟨by first|rfl|(simp[errW_none,errW_some] <;> rfl)|(simp only[←l,←L,←z,←B];first|rfl|(simp[errW_none,errW_some] <;> rfl))|(simp[*,errW_none,errW_some] <;> rfl),zb HB⟩
       rw[if_neg bq] at H
       obtain⟨bE,bF⟩:=zf bq
       obtain⟨s,br,H⟩:=oB H
       by_cases bs:0≤c
       rotate_left
       ·rw[if_neg bs] at H
        exact absurd H (by simp)
       rw[if_pos bs] at H
       have cv:=eq_true bs
       have cw:decide (0≤c)=true:=decide_eq_true bs
       clear bs
       obtain⟨v,C⟩:∃ j_:Int,(shl .i64 1 c)=j_:=⟨_,rfl⟩
       first|rw[C] at H|simp only[C] at H
       (try rw[C] at br)
       have aQ:(IntKind.i64.wrap (1*2^min c.toNat 64))=v:=C
       have aR:c≤64→(IntKind.i64.wrap (1*2^c.toNat))=v:=shl_small C
       have ce:(IntKind.i64.wrap (2^min c.toNat 64))=v:=by have h_:=aQ;rw[Int.one_mul] at h_;exact h_
       have cf:c≤64→(IntKind.i64.wrap (2^c.toNat))=v:=fun hle_=>by have h_:=aR hle_;rw[Int.one_mul] at h_;exact h_
       have cg:(wrap64 (1*2^min c.toNat 64))=v:=(i64_w _).symm.trans aQ
       have ch:c≤64→(wrap64 (1*2^c.toNat))=v:=fun h_=>(i64_w _).symm.trans (aR h_)
       by_cases aX:(wrap64 ((wrap64 (j+s))+b))≥(wrap64 ((v)-1))
       ·rw[if_pos aX] at H
        have bG:decide ((wrap64 ((v)-1))≤(wrap64 ((wrap64 (j+s))+b)))=true:=decide_eq_true aX
        clear aX
        obtain⟨aP,cx,H⟩:=oB H
        simp only[Option.some.injEq,Prod.mk.injEq] at H
        obtain⟨rfl,rfl⟩:=H
        obtain⟨bP,bQ,bR,bS⟩:=zc2 a
        try go_wp2
        replace a:=Aside0.mk (blk_drew a.out)
        replace HB:=Aside0.mk (below_drew1 HB.out)
        refine start_ (n:=8) (S:=fun w'=>w'.cell? ⟨o,0,none⟩=some (.int .i64 b)∧w'.cell? ⟨o,1,none⟩=some (.int .i64 c)) (ds:=[]) #[false,false,false,false,false,false,false,false] (by kernel_rfl) rfl rfl ⟨(blk_cell a.out 0).trans rfl,(blk_cell a.out 1).trans rfl⟩ (fun hHeld=>?_);refine with_tabW round_Pack.tab19 round_Pack.bits19 (fun HT_ HW_=>?_)
        generalize wc.drew=cS at a HB hHeld ⊢
        refine zpure_ (i:=0) (N:=some 115) #[true,false,false,false,false,false,false,false] (any_of HT_.out (by kernel_rfl)) ?_
        refine zpure_ (i:=4) (N:=some 119) #[true,false,false,false,true,false,false,false] (any_of HT_.out (by kernel_rfl)) ?_
        refine ztake_ (i:=1) (N:=some 116) #[true,true,false,false,true,false,false,false] rfl (take_ofW HT_.out HW_.out (by kernel_rfl)) hHeld (Or.inl ⟨by rfl,by rintro w' ⟨s0,s1⟩;go_simp;with_reducible rfl⟩) ?_
        refine ztake_ (i:=5) (N:=some 120) #[true,true,false,false,true,true,false,false] rfl (take_ofW HT_.out HW_.out (by kernel_rfl)) hHeld (Or.inl ⟨by rfl,by rintro w' ⟨s0,s1⟩;go_simp;with_reducible rfl⟩) ?_
        refine one_ (i:=2) (N:=some 117) #[true,true,true,false,true,true,false,false] rfl rfl (one_of HT_.out (by kernel_rfl)) (by decide) (fun K hK=>?_)
        refine goes_ Try.func89 (by kernel_rfl) rfl #[.agg #[.int .i64 b,.int .i64 c]] (by rfl) rfl rfl (by (try simp only[List.map_toArray,List.map_cons,List.map_nil]);first|done|rfl|(simp only[List.length_drop,List.length_take];rfl)) ?_
        with_reducible refine (round_bias.calls br.out).mono ?_
        rintro e cT ⟨rfl,hb⟩
        refine⟨_,rfl,?_⟩
        obtain⟨a,HB⟩:=zu1 a HB hb
        try clear hb
        refine hK.out _ _ ⟨(blk_cell a.out 0).trans rfl,(blk_cell a.out 1).trans rfl⟩ (fun hHeld=>?_)
        clear hK K
        refine norm_ (a':=?_) ?_ ?_
        rotate_left
        ·show Act.put _ (some 117) _=_
         simp only[Act.put,List.setIfInBounds_toArray,List.set_cons_zero,List.set_cons_succ,i64_w,i32_w]
         rfl
        refine zpure_ (i:=3) (N:=some 118) #[true,true,true,true,true,true,false,false] (any_of HT_.out (by kernel_rfl)) ?_
        refine zpure_ (i:=6) (N:=some 121) #[true,true,true,true,true,true,true,false] (any_of HT_.out (by kernel_rfl)) ?_
        refine zpure_ (i:=7) (N:=some 19) #[true,true,true,true,true,true,true,true] (any_of HT_.out (by kernel_rfl)) ?_
        refine done_ (done_of HT_.out (by kernel_rfl)) ?_
        obtain⟨bT,bU,bV,bW⟩:=zc2 a
        try go_wp2_with (first|((with_reducible refine gate_callee (f:=78) rfl ?_);refine zgc (some 130) Try.func78 (round_Inf.calls cx.out) ?_;intro cU hb;obtain⟨a,HB⟩:=zu1 a HB hb;clear hb))
        go_ret2
        exact⟨by first|rfl|(simp[errW_none,errW_some] <;> rfl)|(simp only[←l,←L,←z,←B,←C];first|rfl|(simp[errW_none,errW_some] <;> rfl))|(simp[*,errW_none,errW_some] <;> rfl),zb HB⟩
       rw[if_neg aX] at H
       have bG:decide ((wrap64 ((v)-1))≤(wrap64 ((wrap64 (j+s))+b)))=false:=decide_eq_false aX
       clear aX
       obtain⟨R,bH,H⟩:=oB H
       have cy:=eq_true (of_decide_eq_true (by first|(with_reducible assumption)|assumption):0≤b)
       obtain⟨aS,D⟩:∃ j_:Int,(shl .u64 (IntKind.u64.wrap (wrap64 ((wrap64 (j+s))+b))) b)=j_:=⟨_,rfl⟩
       first|rw[D] at H|simp only[D] at H
       (try rw[D] at br)
       (try rw[D] at bH)
       have ci:(IntKind.u64.wrap ((IntKind.u64.wrap (wrap64 ((wrap64 (j+s))+b)))*2^min b.toNat 64))=aS:=D
       have cj:b≤64→(IntKind.u64.wrap ((IntKind.u64.wrap (wrap64 ((wrap64 (j+s))+b)))*2^b.toNat))=aS:=shl_small D
       have cz:=eq_true (of_decide_eq_true (by first|(with_reducible assumption)|assumption):0≤b)
       obtain⟨az,E⟩:∃ j_:Int,(shl .u64 1 b)=j_:=⟨_,rfl⟩
       first|rw[E] at H|simp only[E] at H
       (try rw[E] at br)
       (try rw[E] at bH)
       have bt:(IntKind.u64.wrap (1*2^min b.toNat 64))=az:=E
       have bu:b≤64→(IntKind.u64.wrap (1*2^b.toNat))=az:=shl_small E
       have ck:(IntKind.u64.wrap (2^min b.toNat 64))=az:=by have h_:=bt;rw[Int.one_mul] at h_;exact h_
       have cl:b≤64→(IntKind.u64.wrap (2^b.toNat))=az:=fun hle_=>by have h_:=bu hle_;rw[Int.one_mul] at h_;exact h_
       simp only[Option.some.injEq,Prod.mk.injEq] at H
       obtain⟨rfl,rfl⟩:=H
       obtain⟨bX,bY,bZ,b0⟩:=zc2 a
       try go_wp2
       replace a:=Aside0.mk (blk_drew a.out)
       replace HB:=Aside0.mk (below_drew1 HB.out)
       refine start_ (n:=8) (S:=fun w'=>w'.cell? ⟨o,0,none⟩=some (.int .i64 b)∧w'.cell? ⟨o,1,none⟩=some (.int .i64 c)) (ds:=[]) #[false,false,false,false,false,false,false,false] (by kernel_rfl) rfl rfl ⟨(blk_cell a.out 0).trans rfl,(blk_cell a.out 1).trans rfl⟩ (fun hHeld=>?_);refine with_tabW round_Pack.tab19 round_Pack.bits19 (fun HT_ HW_=>?_)
       generalize wc.drew=cV at a HB hHeld ⊢
       refine zpure_ (i:=0) (N:=some 115) #[true,false,false,false,false,false,false,false] (any_of HT_.out (by kernel_rfl)) ?_
       refine zpure_ (i:=4) (N:=some 119) #[true,false,false,false,true,false,false,false] (any_of HT_.out (by kernel_rfl)) ?_
       refine ztake_ (i:=1) (N:=some 116) #[true,true,false,false,true,false,false,false] rfl (take_ofW HT_.out HW_.out (by kernel_rfl)) hHeld (Or.inl ⟨by rfl,by rintro w' ⟨s0,s1⟩;go_simp;with_reducible rfl⟩) ?_
       refine ztake_ (i:=5) (N:=some 120) #[true,true,false,false,true,true,false,false] rfl (take_ofW HT_.out HW_.out (by kernel_rfl)) hHeld (Or.inl ⟨by rfl,by rintro w' ⟨s0,s1⟩;go_simp;with_reducible rfl⟩) ?_
       refine one_ (i:=2) (N:=some 117) #[true,true,true,false,true,true,false,false] rfl rfl (one_of HT_.out (by kernel_rfl)) (by decide) (fun K hK=>?_)
       refine goes_ Try.func89 (by kernel_rfl) rfl #[.agg #[.int .i64 b,.int .i64 c]] (by rfl) rfl rfl (by (try simp only[List.map_toArray,List.map_cons,List.map_nil]);first|done|rfl|(simp only[List.length_drop,List.length_take];rfl)) ?_
       with_reducible refine (round_bias.calls br.out).mono ?_
       rintro e cA ⟨rfl,hb⟩
       refine⟨_,rfl,?_⟩
       obtain⟨a,HB⟩:=zu1 a HB hb
       try clear hb
       refine hK.out _ _ ⟨(blk_cell a.out 0).trans rfl,(blk_cell a.out 1).trans rfl⟩ (fun hHeld=>?_)
       clear hK K
       refine norm_ (a':=?_) ?_ ?_
       rotate_left
       ·show Act.put _ (some 117) _=_
        simp only[Act.put,List.setIfInBounds_toArray,List.set_cons_zero,List.set_cons_succ,i64_w,i32_w]
        rfl
       refine zpure_ (i:=3) (N:=some 118) #[true,true,true,true,true,true,false,false] (any_of HT_.out (by kernel_rfl)) ?_
       refine zpure_ (i:=6) (N:=some 121) #[true,true,true,true,true,true,true,false] (any_of HT_.out (by kernel_rfl)) ?_
       refine zpure_ (i:=7) (N:=some 19) #[true,true,true,true,true,true,true,true] (any_of HT_.out (by kernel_rfl)) ?_
       refine done_ (done_of HT_.out (by kernel_rfl)) ?_
       obtain⟨b1,b2,b3,b4⟩:=zc2 a
       try go_wp2
       replace a:=Aside0.mk (blk_drew a.out)
       replace HB:=Aside0.mk (below_drew1 HB.out)
       refine start_ (n:=18) (S:=fun w'=>w'.cell? ⟨o,0,none⟩=some (.int .i64 b)∧w'.cell? ⟨o,1,none⟩=some (.int .i64 c)) (ds:=[]) #[false,false,false,false,false,false,false,false,false,false,false,false,false,false,false,false,false,false] (by kernel_rfl) rfl rfl ⟨(blk_cell a.out 0).trans rfl,(blk_cell a.out 1).trans rfl⟩ (fun hHeld=>?_);refine with_tabW round_Pack.tab22 round_Pack.bits22 (fun HT_ HW_=>?_)
       generalize cA.drew=cW at a HB hHeld ⊢
       refine zpure_ (i:=1) (N:=some 132) #[false,true,false,false,false,false,false,false,false,false,false,false,false,false,false,false,false,false] (any_of HT_.out (by kernel_rfl)) ?_
       refine zpure_ (i:=3) (N:=some 134) #[false,true,false,true,false,false,false,false,false,false,false,false,false,false,false,false,false,false] (any_of HT_.out (by kernel_rfl)) ?_
       refine zpure_ (i:=4) (N:=some 135) #[false,true,false,true,true,false,false,false,false,false,false,false,false,false,false,false,false,false] (any_of HT_.out (by kernel_rfl)) ?_
       refine zpure_ (i:=5) (N:=some 136) #[false,true,false,true,true,true,false,false,false,false,false,false,false,false,false,false,false,false] (any_of HT_.out (by kernel_rfl)) ?_
       refine zpure_ (i:=9) (N:=some 140) #[false,true,false,true,true,true,false,false,false,true,false,false,false,false,false,false,false,false] (any_of HT_.out (by kernel_rfl)) ?_
       refine zpure_ (i:=10) (N:=some 141) #[false,true,false,true,true,true,false,false,false,true,true,false,false,false,false,false,false,false] (any_of HT_.out (by kernel_rfl)) ?_
       refine ztake_ (i:=0) (N:=some 131) #[true,true,false,true,true,true,false,false,false,true,true,false,false,false,false,false,false,false] rfl (take_ofW HT_.out HW_.out (by kernel_rfl)) hHeld (Or.inl ⟨by rfl,by rintro w' ⟨s0,s1⟩;go_simp;with_reducible rfl⟩) ?_
       refine ztake_ (i:=6) (N:=some 137) #[true,true,false,true,true,true,true,false,false,true,true,false,false,false,false,false,false,false] rfl (take_ofW HT_.out HW_.out (by kernel_rfl)) hHeld (Or.inl ⟨by rfl,by rintro w' ⟨s0,s1⟩;go_simp;with_reducible rfl⟩) ?_
       refine zpure_ (i:=7) (N:=some 138) #[true,true,false,true,true,true,true,true,false,true,true,false,false,false,false,false,false,false] (any_of HT_.out (by kernel_rfl)) ?_
       refine ztake_ (i:=11) (N:=some 142) #[true,true,false,true,true,true,true,true,false,true,true,true,false,false,false,false,false,false] rfl (take_ofW HT_.out HW_.out (by kernel_rfl)) hHeld (Or.inl ⟨by rfl,by rintro w' ⟨s0,s1⟩;go_simp;with_reducible rfl⟩) ?_
       refine zpure_ (i:=12) (N:=some 143) #[true,true,false,true,true,true,true,true,false,true,true,true,true,false,false,false,false,false] (any_of HT_.out (by kernel_rfl)) ?_
       refine zpure_ (i:=13) (N:=some 144) #[true,true,false,true,true,true,true,true,false,true,true,true,true,true,false,false,false,false] (any_of HT_.out (by kernel_rfl)) ?_
       refine zpure_ (i:=14) (N:=some 145) #[true,true,false,true,true,true,true,true,false,true,true,true,true,true,true,false,false,false] (any_of HT_.out (by kernel_rfl)) ?_
       refine one_ (i:=2) (N:=some 133) #[true,true,true,true,true,true,true,true,false,true,true,true,true,true,true,false,false,false] rfl rfl (one_of HT_.out (by kernel_rfl)) (by decide) (fun K hK=>?_)
       refine goes_ Try.func87 (by kernel_rfl) rfl #[.agg #[.int .i64 b,.int .i64 c],.bool I] (by rfl) rfl rfl (by (try simp only[List.map_toArray,List.map_cons,List.map_nil]);first|done|rfl|(simp only[List.length_drop,List.length_take];rfl)) ?_
       with_reducible refine (round_sign.calls bH.out).mono ?_
       rintro e cX ⟨rfl,hb⟩
       refine⟨_,rfl,?_⟩
       obtain⟨a,HB⟩:=zu1 a HB hb
       try clear hb
       refine hK.out _ _ ⟨(blk_cell a.out 0).trans rfl,(blk_cell a.out 1).trans rfl⟩ (fun hHeld=>?_)
       clear hK K
       refine norm_ (a':=?_) ?_ ?_
       rotate_left
       ·show Act.put _ (some 133) _=_
        simp only[Act.put,List.setIfInBounds_toArray,List.set_cons_zero,List.set_cons_succ,i64_w,i32_w]
        rfl
       refine zpure_ (i:=8) (N:=some 139) #[true,true,true,true,true,true,true,true,true,true,true,true,true,true,true,false,false,false] (any_of HT_.out (by kernel_rfl)) ?_
       refine zpure_ (i:=15) (N:=some 146) #[true,true,true,true,true,true,true,true,true,true,true,true,true,true,true,true,false,false] (any_of HT_.out (by kernel_rfl)) ?_
       refine zpure_ (i:=16) (N:=some 12) #[true,true,true,true,true,true,true,true,true,true,true,true,true,true,true,true,true,false] (any_of HT_.out (by kernel_rfl)) ?_
       refine zpure_ (i:=17) (N:=some 13) #[true,true,true,true,true,true,true,true,true,true,true,true,true,true,true,true,true,true] (any_of HT_.out (by kernel_rfl)) ?_
       refine done_ (done_of HT_.out (by kernel_rfl)) ?_
       try go_wp2
       go_ret2
       exact⟨by first|rfl|(simp[errW_none,errW_some] <;> rfl)|(simp only[←l,←L,←z,←B,←C,←D,←E];first|rfl|(simp[errW_none,errW_some] <;> rfl))|(simp[*,errW_none,errW_some] <;> rfl),zb HB⟩
end Go.Proofs.Ytmmbgbchimangaa.PQ
