-- by a program of this claim
import Derived.Test.YtmmbgbchimangaaPQx0
import Derived.Test.YtmmbgbchimangaaPQx8
namespace Go.Proofs.Ytmmbgbchimangaa.PQ
open Go.RowKit Go.Proofs.YtmmbgbchimangaaW.PrintWords Go.Proofs.YtmmbgbchimangaaW.PrintLast Go.Proofs.YtmmbgbchimangaaW.PrintMore Go.Proofs.Ytmmbgbchimangaa.Z
attribute [local go_sem] max2_int min2_int max_two min_two max_three min_three max_four min_four   -- for this text's walks alone
set_option linter.unusedVariables false
set_option linter.unusedSimpArgs false

/-! ### grottoref03_open: function 53 -/
def grottoref03_open.f (k:Nat) (a0_0:Int) (a0_1:Int) (a1:Int) (a2:Int):Option (Int×Bool×Int×Int×Int×Bool×Int×Int×Int):=(grottoref02_Open.f k a0_0 a0_1 a1).bind fun a=>((grottoref02_Open.f k a0_0 a0_1 a2).bind fun b=>(if a.2.2.2.2=0 then (if b.2.2.2.2=0 then (some (a.1,a.2.1,a.2.2.1,a.2.2.2.1,b.1,b.2.1,b.2.2.1,b.2.2.2.1,0)) else (some (0,false,0,0,0,false,0,0,1))) else (some (0,false,0,0,0,false,0,0,1))))
theorem grottoref03_open.mono:∀ a0 a1 a2 a3 k,LeO (grottoref03_open.f k a0 a1 a2 a3) (grottoref03_open.f (k+1) a0 a1 a2 a3):=by
 intro a0 a1 a2 a3 k
 unfold grottoref03_open.f
 repeat' first|(with_reducible first|apply grottoref02_Open.mono|exact LeO.refl _|exact LeO.none _|refine LeO.ite ?_ ?_|refine LeO.bind ?_ (fun _=>?_))|refine LeO.ite ?_ ?_|refine LeO.bind ?_ (fun _=>?_)
set_option maxHeartbeats 8000000 in
set_option maxRecDepth 100000 in
theorem grottoref03_open.calls {k:Nat} {V:Int} {W:Int} {a1:Int} {a2:Int} {r1:Int} {r2:Bool} {r3:Int} {r4:Int} {r5:Int} {r6:Bool} {r7:Int} {r8:Int} {r9:Int} {w:World} (h:grottoref03_open.f k V W a1 a2=some (r1,r2,r3,r4,r5,r6,r7,r8,r9)) :
  Calls Try.prog 53 #[.agg #[.int .i64 V,.int .i64 W],.int .u64 a1,.int .u64 a2] w fun e w'=>e=.returned (.tuple #[.agg #[.int .i64 r1,.bool r2,.int .i64 r3,.int .u64 r4],.agg #[.int .i64 r5,.bool r6,.int .i64 r7,.int .u64 r8],.int .i64 r9])∧Below w.heap.size w w':=by
 have hu23:=Try.underlying23
 have hu34:=Try.underlying34
 have HB:=Aside0.mk (Below.refl w.heap.size w)
 have H:=h
 unfold grottoref03_open.f at H
 clear h
 obtain⟨⟨ac,ad,ae,af,av⟩,A4,H⟩:=oB H
 try dsimp only at H
 obtain⟨⟨P,Q,R,T,aw⟩,A5,H⟩:=oB H
 try dsimp only at H
 by_cases c6:av=0
 rotate_left
 ·rw[if_neg c6] at H
  obtain⟨ay,az⟩:=zf c6
  simp only[Option.some.injEq,Prod.mk.injEq] at H
  obtain⟨rfl,rfl,rfl,rfl,rfl,rfl,rfl,rfl,rfl⟩:=H
  go_enter Try.func53,Try.ntmps53
  go_wp2_with (first|((with_reducible refine gate_dst (N:=3) rfl ?_);refine zbox (N:=3) (cs:=#[.int .i64 V,.int .i64 W]) (t:=23) ?_;intro ah hg eO hbox hb;have a:=Aside0.mk hbox;have aj:=zge hg HB;have ak:=zge hg HB;replace HB:=zbs HB hb;clear hb hbox hg)|((with_reducible refine gate_dst (N:=6) rfl ?_);refine zbox (N:=6) (cs:=#[.int .i64 0,.bool false,.int .i64 0,.int .u64 0]) (t:=34) ?_;intro m hg eP hbox hb;have b:=Aside0.mk hbox;have al:=zge hg HB;have am:=zge hg HB;have z:=znl hg a;have D:=zng hg a;obtain⟨a,HB⟩:=zu1 a HB hb;clear hb hbox hg)|((with_reducible refine gate_dst (N:=7) rfl ?_);refine zbox (N:=7) (cs:=#[.int .i64 0,.bool false,.int .i64 0,.int .u64 0]) (t:=34) ?_;intro q hg eQ hbox hb;have c:=Aside0.mk hbox;have an:=zge hg HB;have ao:=zge hg HB;have B:=znl hg a;have E:=zng hg a;have v:=znl hg b;have y:=zng hg b;obtain⟨a,b,HB⟩:=zu2 a b HB hb;clear hb hbox hg;obtain⟨ej,ek⟩:=z2 z;obtain⟨el,em⟩:=z2 B;obtain⟨cL,cM,cN,cO⟩:=zc2 a)|((with_reducible refine gate_callee (f:=20) rfl ?_);refine zgc (some 16) Try.func20 (grottoref02_Open.calls A4.out) ?_;intro eR hb;obtain⟨a,b,c,HB⟩:=zu3 a b c HB hb;clear hb)|((with_reducible refine gate_dst (N:=9) rfl ?_);refine zbox (N:=9) (cs:=#[.int .i64 0,.bool false,.int .i64 0,.int .u64 0]) (t:=34) ?_;intro U hg eS hbox hb;have u:=Aside0.mk hbox;have ap:=zge hg HB;have aq:=zge hg HB;have Z:=znl hg a;have L:=zng hg a;have F:=znl hg b;have d:=zng hg b;have G:=znl hg c;have g:=zng hg c;obtain⟨a,b,c,HB⟩:=zu3 a b c HB hb;clear hb hbox hg;obtain⟨en,eo⟩:=z2 L;obtain⟨ep,eq⟩:=z2 d;obtain⟨er,es⟩:=z2 g;obtain⟨cP,cQ,cR,cS,cT,cU,cV,cW⟩:=zc4 u;obtain⟨cX,cY,cZ,c0⟩:=zc2 a)|((with_reducible refine gate_callee (f:=20) rfl ?_);refine zgc (some 22) Try.func20 (grottoref02_Open.calls A5.out) ?_;intro eT hb;replace a:=zkb a hb;replace b:=zkb b hb;replace c:=zkb c hb;replace u:=zkbo (o:=.cells #[.int .i64 ac,.bool ad,.int .i64 ae,.int .u64 af] 34 (0,0)) u hb;replace HB:=zbs HB hb;clear hb)|((with_reducible refine gate_dst (N:=11) rfl ?_);refine zbox (N:=11) (cs:=#[.int .i64 0,.bool false,.int .i64 0,.int .u64 0]) (t:=34) ?_;intro s hg eU hbox hb;have C:=Aside0.mk hbox;have ar:=zge hg HB;have au:=zge hg HB;have aa:=znl hg a;have M:=zng hg a;have I:=znl hg b;have j:=zng hg b;have J:=znl hg c;have l:=zng hg c;have ab:=znl hg u;have O:=zng hg u;obtain⟨a,b,c,u,HB⟩:=zu4 a b c u HB hb;clear hb hbox hg;obtain⟨et,eu⟩:=z2 M;obtain⟨ev,ew⟩:=z2 j;obtain⟨ex,ey⟩:=z2 l;obtain⟨ez,eA⟩:=z2 O;obtain⟨c1,c2,c3,c4,c5,c8,c9,da⟩:=zc4 C;obtain⟨eB,eC⟩:=z2 v;obtain⟨db,dc,dd,de,df,dg,dh,di⟩:=zc4 b;obtain⟨dj,dk,dl,dm,dn,dp,dq,dr⟩:=zc4 c))
  refine bodyPost_ret (results_list (rs:=[.cell 6 34,.cell 7 34,.tmp 8]) rfl (by simp) (.cell m 34 #[.int .i64 0,.bool false,.int .i64 0,.int .u64 0] (0,0) _ rfl (zkp b) Try.underlying34 rfl (by kernel_rfl) (.cell q 34 #[.int .i64 0,.bool false,.int .i64 0,.int .u64 0] (0,0) _ rfl (zkp c) Try.underlying34 rfl (by kernel_rfl) (.tmp .nil)))) rfl ?_
  exact zr HB

 rw[if_pos c6] at H
 obtain⟨ay,az⟩:=zt c6
 clear c6
 by_cases c7:aw=0
 rotate_left
 ·rw[if_neg c7] at H
  obtain⟨aB,aC⟩:=zf c7
  simp only[Option.some.injEq,Prod.mk.injEq] at H
  obtain⟨rfl,rfl,rfl,rfl,rfl,rfl,rfl,rfl,rfl⟩:=H
  go_enter Try.func53,Try.ntmps53
  go_wp2_with (first|((with_reducible refine gate_dst (N:=3) rfl ?_);refine zbox (N:=3) (cs:=#[.int .i64 V,.int .i64 W]) (t:=23) ?_;intro ah hg eH hbox hb;have a:=Aside0.mk hbox;have aj:=zge hg HB;have ak:=zge hg HB;replace HB:=zbs HB hb;clear hb hbox hg)|((with_reducible refine gate_dst (N:=6) rfl ?_);refine zbox (N:=6) (cs:=#[.int .i64 0,.bool false,.int .i64 0,.int .u64 0]) (t:=34) ?_;intro m hg eI hbox hb;have b:=Aside0.mk hbox;have al:=zge hg HB;have am:=zge hg HB;have z:=znl hg a;have D:=zng hg a;obtain⟨a,HB⟩:=zu1 a HB hb;clear hb hbox hg)|((with_reducible refine gate_dst (N:=7) rfl ?_);refine zbox (N:=7) (cs:=#[.int .i64 0,.bool false,.int .i64 0,.int .u64 0]) (t:=34) ?_;intro q hg eJ hbox hb;have c:=Aside0.mk hbox;have an:=zge hg HB;have ao:=zge hg HB;have B:=znl hg a;have E:=zng hg a;have v:=znl hg b;have y:=zng hg b;obtain⟨a,b,HB⟩:=zu2 a b HB hb;clear hb hbox hg;obtain⟨dZ,d0⟩:=z2 z;obtain⟨d1,d2⟩:=z2 B;obtain⟨b6,b7,b8,b9⟩:=zc2 a)|((with_reducible refine gate_callee (f:=20) rfl ?_);refine zgc (some 16) Try.func20 (grottoref02_Open.calls A4.out) ?_;intro eK hb;obtain⟨a,b,c,HB⟩:=zu3 a b c HB hb;clear hb)|((with_reducible refine gate_dst (N:=9) rfl ?_);refine zbox (N:=9) (cs:=#[.int .i64 0,.bool false,.int .i64 0,.int .u64 0]) (t:=34) ?_;intro U hg eL hbox hb;have u:=Aside0.mk hbox;have ap:=zge hg HB;have aq:=zge hg HB;have Z:=znl hg a;have L:=zng hg a;have F:=znl hg b;have d:=zng hg b;have G:=znl hg c;have g:=zng hg c;obtain⟨a,b,c,HB⟩:=zu3 a b c HB hb;clear hb hbox hg;obtain⟨d3,d4⟩:=z2 L;obtain⟨d5,d6⟩:=z2 d;obtain⟨d7,d8⟩:=z2 g;obtain⟨ca,cb,cc,cd,ce,cf,cg,ch⟩:=zc4 u;obtain⟨ci,cj,ck,cl⟩:=zc2 a)|((with_reducible refine gate_callee (f:=20) rfl ?_);refine zgc (some 22) Try.func20 (grottoref02_Open.calls A5.out) ?_;intro eM hb;replace a:=zkb a hb;replace b:=zkb b hb;replace c:=zkb c hb;replace u:=zkbo (o:=.cells #[.int .i64 ac,.bool ad,.int .i64 ae,.int .u64 af] 34 (0,0)) u hb;replace HB:=zbs HB hb;clear hb)|((with_reducible refine gate_dst (N:=11) rfl ?_);refine zbox (N:=11) (cs:=#[.int .i64 0,.bool false,.int .i64 0,.int .u64 0]) (t:=34) ?_;intro s hg eN hbox hb;have C:=Aside0.mk hbox;have ar:=zge hg HB;have au:=zge hg HB;have aa:=znl hg a;have M:=zng hg a;have I:=znl hg b;have j:=zng hg b;have J:=znl hg c;have l:=zng hg c;have ab:=znl hg u;have O:=zng hg u;obtain⟨a,b,c,u,HB⟩:=zu4 a b c u HB hb;clear hb hbox hg;obtain⟨d9,ea⟩:=z2 M;obtain⟨eb,ec⟩:=z2 j;obtain⟨ed,ee⟩:=z2 l;obtain⟨ef,eg⟩:=z2 O;obtain⟨cm,cn,co,cp,cq,cr,ct,cu⟩:=zc4 C;obtain⟨eh,ei⟩:=z2 v;obtain⟨cv,cw,cx,cy,cz,cA,cB,cC⟩:=zc4 b;obtain⟨cD,cE,cF,cG,cH,cI,cJ,cK⟩:=zc4 c))
  refine bodyPost_ret (results_list (rs:=[.cell 6 34,.cell 7 34,.tmp 8]) rfl (by simp) (.cell m 34 #[.int .i64 0,.bool false,.int .i64 0,.int .u64 0] (0,0) _ rfl (zkp b) Try.underlying34 rfl (by kernel_rfl) (.cell q 34 #[.int .i64 0,.bool false,.int .i64 0,.int .u64 0] (0,0) _ rfl (zkp c) Try.underlying34 rfl (by kernel_rfl) (.tmp .nil)))) rfl ?_
  exact zr HB
 rw[if_pos c7] at H
 obtain⟨aB,aC⟩:=zt c7
 clear c7
 simp only[Option.some.injEq,Prod.mk.injEq] at H
 obtain⟨rfl,rfl,rfl,rfl,rfl,rfl,rfl,rfl,rfl⟩:=H
 go_enter Try.func53,Try.ntmps53
 try go_wp2_with (first|((with_reducible refine gate_dst (N:=3) rfl ?_);refine zbox (N:=3) (cs:=#[.int .i64 V,.int .i64 W]) (t:=23) ?_;intro ah hg w8 hbox hb;have a:=Aside0.mk hbox;have aj:=zge hg HB;have ak:=zge hg HB;replace HB:=zbs HB hb;clear hb hbox hg)|((with_reducible refine gate_dst (N:=6) rfl ?_);refine zbox (N:=6) (cs:=#[.int .i64 0,.bool false,.int .i64 0,.int .u64 0]) (t:=34) ?_;intro m hg w9 hbox hb;have b:=Aside0.mk hbox;have al:=zge hg HB;have am:=zge hg HB;have z:=znl hg a;have D:=zng hg a;obtain⟨a,HB⟩:=zu1 a HB hb;clear hb hbox hg)|((with_reducible refine gate_dst (N:=7) rfl ?_);refine zbox (N:=7) (cs:=#[.int .i64 0,.bool false,.int .i64 0,.int .u64 0]) (t:=34) ?_;intro q hg eD hbox hb;have c:=Aside0.mk hbox;have an:=zge hg HB;have ao:=zge hg HB;have B:=znl hg a;have E:=zng hg a;have v:=znl hg b;have y:=zng hg b;obtain⟨a,b,HB⟩:=zu2 a b HB hb;clear hb hbox hg;obtain⟨dG,dH⟩:=z2 z;obtain⟨dI,dJ⟩:=z2 B;obtain⟨aD,aE,aF,aG⟩:=zc2 a)|((with_reducible refine gate_callee (f:=20) rfl ?_);refine zgc (some 16) Try.func20 (grottoref02_Open.calls A4.out) ?_;intro eE hb;obtain⟨a,b,c,HB⟩:=zu3 a b c HB hb;clear hb)|((with_reducible refine gate_dst (N:=9) rfl ?_);refine zbox (N:=9) (cs:=#[.int .i64 0,.bool false,.int .i64 0,.int .u64 0]) (t:=34) ?_;intro U hg eF hbox hb;have u:=Aside0.mk hbox;have ap:=zge hg HB;have aq:=zge hg HB;have Z:=znl hg a;have L:=zng hg a;have F:=znl hg b;have d:=zng hg b;have G:=znl hg c;have g:=zng hg c;obtain⟨a,b,c,HB⟩:=zu3 a b c HB hb;clear hb hbox hg;obtain⟨dK,dL⟩:=z2 L;obtain⟨dM,dN⟩:=z2 d;obtain⟨dO,dP⟩:=z2 g;obtain⟨aH,aI,aJ,aK,aL,aM,aN,aO⟩:=zc4 u;obtain⟨aP,aQ,aR,aS⟩:=zc2 a)|((with_reducible refine gate_callee (f:=20) rfl ?_);refine zgc (some 22) Try.func20 (grottoref02_Open.calls A5.out) ?_;intro eG hb;replace a:=zkb a hb;replace b:=zkb b hb;replace c:=zkb c hb;replace u:=zkbo (o:=.cells #[.int .i64 ac,.bool ad,.int .i64 ae,.int .u64 af] 34 (0,0)) u hb;replace HB:=zbs HB hb;clear hb)|((with_reducible refine gate_dst (N:=11) rfl ?_);refine zbox (N:=11) (cs:=#[.int .i64 0,.bool false,.int .i64 0,.int .u64 0]) (t:=34) ?_;intro s hg ai hbox hb;have C:=Aside0.mk hbox;have ar:=zge hg HB;have au:=zge hg HB;have aa:=znl hg a;have M:=zng hg a;have I:=znl hg b;have j:=zng hg b;have J:=znl hg c;have l:=zng hg c;have ab:=znl hg u;have O:=zng hg u;obtain⟨a,b,c,u,HB⟩:=zu4 a b c u HB hb;clear hb hbox hg;obtain⟨dQ,dR⟩:=z2 M;obtain⟨dS,dT⟩:=z2 j;obtain⟨dU,dV⟩:=z2 l;obtain⟨dW,dX⟩:=z2 O;obtain⟨aT,aU,aV,aW,aX,aY,aZ,a0⟩:=zc4 C))
 have n0_:Aside0 (((((ai.setCell ⟨s,0,none⟩ (.int .i64 P)).setCell ⟨s,1,none⟩ (.bool Q)).setCell ⟨s,2,none⟩ (.int .i64 R)).setCell ⟨s,3,none⟩ (.int .u64 T)).heap[ah]?=some (.cells #[.int .i64 V,.int .i64 W] 23 (0,0))):=⟨zk a⟩
 have n1_:Aside0 (((((ai.setCell ⟨s,0,none⟩ (.int .i64 P)).setCell ⟨s,1,none⟩ (.bool Q)).setCell ⟨s,2,none⟩ (.int .i64 R)).setCell ⟨s,3,none⟩ (.int .u64 T)).heap[m]?=some (.cells #[.int .i64 0,.bool false,.int .i64 0,.int .u64 0] 34 (0,0))):=⟨zk b⟩
 have n2_:Aside0 (((((ai.setCell ⟨s,0,none⟩ (.int .i64 P)).setCell ⟨s,1,none⟩ (.bool Q)).setCell ⟨s,2,none⟩ (.int .i64 R)).setCell ⟨s,3,none⟩ (.int .u64 T)).heap[q]?=some (.cells #[.int .i64 0,.bool false,.int .i64 0,.int .u64 0] 34 (0,0))):=⟨zk c⟩
 have n3_:Aside0 (((((ai.setCell ⟨s,0,none⟩ (.int .i64 P)).setCell ⟨s,1,none⟩ (.bool Q)).setCell ⟨s,2,none⟩ (.int .i64 R)).setCell ⟨s,3,none⟩ (.int .u64 T)).heap[U]?=some (.cells #[.int .i64 ac,.bool ad,.int .i64 ae,.int .u64 af] 34 (0,0))):=⟨zk u⟩
 have n4_:Aside0 (((((ai.setCell ⟨s,0,none⟩ (.int .i64 P)).setCell ⟨s,1,none⟩ (.bool Q)).setCell ⟨s,2,none⟩ (.int .i64 R)).setCell ⟨s,3,none⟩ (.int .u64 T)).heap[s]?=some (.cells #[.int .i64 P,.bool Q,.int .i64 R,.int .u64 T] 34 (0,0))):=⟨zkp C⟩
 have n5_:Aside0 (Below w.heap.size w ((((ai.setCell ⟨s,0,none⟩ (.int .i64 P)).setCell ⟨s,1,none⟩ (.bool Q)).setCell ⟨s,2,none⟩ (.int .i64 R)).setCell ⟨s,3,none⟩ (.int .u64 T))):=⟨zb HB⟩
 (try clear a)
 (try clear b)
 (try clear c)
 (try clear u)
 (try clear C)
 (try clear HB)
 generalize ((((ai.setCell ⟨s,0,none⟩ (.int .i64 P)).setCell ⟨s,1,none⟩ (.bool Q)).setCell ⟨s,2,none⟩ (.int .i64 R)).setCell ⟨s,3,none⟩ (.int .u64 T))=dY at n0_ n1_ n2_ n3_ n4_ n5_ ⊢
 have a:=n0_
 have b:=n1_
 have c:=n2_
 have u:=n3_
 have C:=n4_
 have HB:=n5_
 clear n0_ n1_ n2_ n3_ n4_ n5_
 replace a:=Aside0.mk (blk_drew a.out)
 replace b:=Aside0.mk (blk_drew b.out)
 replace c:=Aside0.mk (blk_drew c.out)
 replace u:=Aside0.mk (blk_drew u.out)
 replace C:=Aside0.mk (blk_drew C.out)
 replace HB:=Aside0.mk (below_drew1 HB.out)
 refine start_ (n:=5) (S:=fun w'=>w'.cell? ⟨U,0,none⟩=some (.int .i64 ac)∧w'.cell? ⟨U,1,none⟩=some (.bool ad)∧w'.cell? ⟨U,2,none⟩=some (.int .i64 ae)∧w'.cell? ⟨U,3,none⟩=some (.int .u64 af)∧w'.cell? ⟨s,0,none⟩=some (.int .i64 P)∧w'.cell? ⟨s,1,none⟩=some (.bool Q)∧w'.cell? ⟨s,2,none⟩=some (.int .i64 R)∧w'.cell? ⟨s,3,none⟩=some (.int .u64 T)) (ds:=[]) #[false,false,false,false,false] (by kernel_rfl) rfl rfl ⟨(blk_cell u.out 0).trans rfl,(blk_cell u.out 1).trans rfl,(blk_cell u.out 2).trans rfl,(blk_cell u.out 3).trans rfl,(blk_cell C.out 0).trans rfl,(blk_cell C.out 1).trans rfl,(blk_cell C.out 2).trans rfl,(blk_cell C.out 3).trans rfl⟩ (fun hHeld=>?_)
 generalize dY.drew=ag at a b c u C HB hHeld ⊢
 refine ztake_ (i:=0) (N:=some 33) #[true,false,false,false,false] rfl (by kernel_rfl) hHeld (Or.inl ⟨by rfl,by rintro w' ⟨s0,s1,s2,s3,s4,s5,s6,s7⟩;go_simp;with_reducible rfl⟩) ?_
 refine ztake_ (i:=1) (N:=some 34) #[true,true,false,false,false] rfl (by kernel_rfl) hHeld (Or.inl ⟨by rfl,by rintro w' ⟨s0,s1,s2,s3,s4,s5,s6,s7⟩;go_simp;with_reducible rfl⟩) ?_
 refine one_ (i:=2) (N:=none) #[true,true,true,false,false] rfl rfl (by kernel_rfl) (by decide) (fun K hK=>?_)
 have hs30:ag.cell? ⟨m,0,none⟩=some (.int .i64 0):=(blk_cell b.out 0).trans rfl
 have hfs30:=blk_frozen b.out 0
 have a3:=z.out
 have a4:=y.out
 have a5:=d.out
 have a6:=j.out
 have a7:=D.out
 have a8:=v.out
 have a9:=F.out
 have ba:=I.out
 have hs31:ag.cell? ⟨m,1,none⟩=some (.bool false):=(blk_cell b.out 1).trans rfl
 have hfs31:=blk_frozen b.out 1
 have bb:=z.out
 have bc:=y.out
 have bd:=d.out
 have be:=j.out
 have bf:=D.out
 have bg:=v.out
 have bh:=F.out
 have bi:=I.out
 have hs32:ag.cell? ⟨m,2,none⟩=some (.int .i64 0):=(blk_cell b.out 2).trans rfl
 have hfs32:=blk_frozen b.out 2
 have bj:=z.out
 have bk:=y.out
 have bl:=d.out
 have bm:=j.out
 have bn:=D.out
 have bo:=v.out
 have bp:=F.out
 have bq:=I.out
 have hs33:ag.cell? ⟨m,3,none⟩=some (.int .u64 0):=(blk_cell b.out 3).trans rfl
 have hfs33:=blk_frozen b.out 3
 have br:=z.out
 have bs:=y.out
 have bt:=d.out
 have bu:=j.out
 have bv:=D.out
 have bw:=v.out
 have bx:=F.out
 have bz:=I.out
 refine skip_ (w1:=?_) (by rfl) rfl ?_ ?_
 rotate_left
 ·go_simp
  rfl
 refine hK.out _ _ ⟨((cell_far (p:=⟨m,_,none⟩) d.out _).trans (((cell_far (p:=⟨m,_,none⟩) d.out _).trans (((cell_far (p:=⟨m,_,none⟩) d.out _).trans (((cell_far (p:=⟨m,_,none⟩) d.out _).trans (hHeld.1)))))))),((cell_far (p:=⟨m,_,none⟩) d.out _).trans (((cell_far (p:=⟨m,_,none⟩) d.out _).trans (((cell_far (p:=⟨m,_,none⟩) d.out _).trans (((cell_far (p:=⟨m,_,none⟩) d.out _).trans (hHeld.2.1)))))))),((cell_far (p:=⟨m,_,none⟩) d.out _).trans (((cell_far (p:=⟨m,_,none⟩) d.out _).trans (((cell_far (p:=⟨m,_,none⟩) d.out _).trans (((cell_far (p:=⟨m,_,none⟩) d.out _).trans (hHeld.2.2.1)))))))),((cell_far (p:=⟨m,_,none⟩) d.out _).trans (((cell_far (p:=⟨m,_,none⟩) d.out _).trans (((cell_far (p:=⟨m,_,none⟩) d.out _).trans (((cell_far (p:=⟨m,_,none⟩) d.out _).trans (hHeld.2.2.2.1)))))))),((cell_far (p:=⟨m,_,none⟩) j.out _).trans (((cell_far (p:=⟨m,_,none⟩) j.out _).trans (((cell_far (p:=⟨m,_,none⟩) j.out _).trans (((cell_far (p:=⟨m,_,none⟩) j.out _).trans (hHeld.2.2.2.2.1)))))))),((cell_far (p:=⟨m,_,none⟩) j.out _).trans (((cell_far (p:=⟨m,_,none⟩) j.out _).trans (((cell_far (p:=⟨m,_,none⟩) j.out _).trans (((cell_far (p:=⟨m,_,none⟩) j.out _).trans (hHeld.2.2.2.2.2.1)))))))),((cell_far (p:=⟨m,_,none⟩) j.out _).trans (((cell_far (p:=⟨m,_,none⟩) j.out _).trans (((cell_far (p:=⟨m,_,none⟩) j.out _).trans (((cell_far (p:=⟨m,_,none⟩) j.out _).trans (hHeld.2.2.2.2.2.2.1)))))))),((cell_far (p:=⟨m,_,none⟩) j.out _).trans (((cell_far (p:=⟨m,_,none⟩) j.out _).trans (((cell_far (p:=⟨m,_,none⟩) j.out _).trans (((cell_far (p:=⟨m,_,none⟩) j.out _).trans (hHeld.2.2.2.2.2.2.2))))))))⟩ (fun hHeld=>?_)
 clear hK K
 refine one_ (i:=3) (N:=none) #[true,true,true,true,false] rfl rfl (by kernel_rfl) (by decide) (fun K hK=>?_)
 have hs34:ag.cell? ⟨q,0,none⟩=some (.int .i64 0):=(blk_cell c.out 0).trans rfl
 have hfs34:=blk_frozen c.out 0
 have bA:=B.out
 have bB:=v.out
 have bC:=g.out
 have bD:=l.out
 have bE:=E.out
 have bF:=y.out
 have bG:=G.out
 have bH:=J.out
 have hs35:ag.cell? ⟨q,1,none⟩=some (.bool false):=(blk_cell c.out 1).trans rfl
 have hfs35:=blk_frozen c.out 1
 have bI:=B.out
 have bJ:=v.out
 have bK:=g.out
 have bL:=l.out
 have bM:=E.out
 have bN:=y.out
 have bO:=G.out
 have bP:=J.out
 have hs36:ag.cell? ⟨q,2,none⟩=some (.int .i64 0):=(blk_cell c.out 2).trans rfl
 have hfs36:=blk_frozen c.out 2
 have bQ:=B.out
 have bR:=v.out
 have bS:=g.out
 have bT:=l.out
 have bU:=E.out
 have bV:=y.out
 have bW:=G.out
 have bX:=J.out
 have hs37:ag.cell? ⟨q,3,none⟩=some (.int .u64 0):=(blk_cell c.out 3).trans rfl
 have hfs37:=blk_frozen c.out 3
 have bY:=B.out
 have bZ:=v.out
 have b0:=g.out
 have b1:=l.out
 have b2:=E.out
 have b3:=y.out
 have b4:=G.out
 have b5:=J.out
 refine skip_ (w1:=?_) (by rfl) rfl ?_ ?_
 rotate_left
 ·go_simp
  rfl
 refine hK.out _ _ ⟨((cell_far (p:=⟨q,_,none⟩) g.out _).trans (((cell_far (p:=⟨q,_,none⟩) g.out _).trans (((cell_far (p:=⟨q,_,none⟩) g.out _).trans (((cell_far (p:=⟨q,_,none⟩) g.out _).trans (hHeld.1)))))))),((cell_far (p:=⟨q,_,none⟩) g.out _).trans (((cell_far (p:=⟨q,_,none⟩) g.out _).trans (((cell_far (p:=⟨q,_,none⟩) g.out _).trans (((cell_far (p:=⟨q,_,none⟩) g.out _).trans (hHeld.2.1)))))))),((cell_far (p:=⟨q,_,none⟩) g.out _).trans (((cell_far (p:=⟨q,_,none⟩) g.out _).trans (((cell_far (p:=⟨q,_,none⟩) g.out _).trans (((cell_far (p:=⟨q,_,none⟩) g.out _).trans (hHeld.2.2.1)))))))),((cell_far (p:=⟨q,_,none⟩) g.out _).trans (((cell_far (p:=⟨q,_,none⟩) g.out _).trans (((cell_far (p:=⟨q,_,none⟩) g.out _).trans (((cell_far (p:=⟨q,_,none⟩) g.out _).trans (hHeld.2.2.2.1)))))))),((cell_far (p:=⟨q,_,none⟩) l.out _).trans (((cell_far (p:=⟨q,_,none⟩) l.out _).trans (((cell_far (p:=⟨q,_,none⟩) l.out _).trans (((cell_far (p:=⟨q,_,none⟩) l.out _).trans (hHeld.2.2.2.2.1)))))))),((cell_far (p:=⟨q,_,none⟩) l.out _).trans (((cell_far (p:=⟨q,_,none⟩) l.out _).trans (((cell_far (p:=⟨q,_,none⟩) l.out _).trans (((cell_far (p:=⟨q,_,none⟩) l.out _).trans (hHeld.2.2.2.2.2.1)))))))),((cell_far (p:=⟨q,_,none⟩) l.out _).trans (((cell_far (p:=⟨q,_,none⟩) l.out _).trans (((cell_far (p:=⟨q,_,none⟩) l.out _).trans (((cell_far (p:=⟨q,_,none⟩) l.out _).trans (hHeld.2.2.2.2.2.2.1)))))))),((cell_far (p:=⟨q,_,none⟩) l.out _).trans (((cell_far (p:=⟨q,_,none⟩) l.out _).trans (((cell_far (p:=⟨q,_,none⟩) l.out _).trans (((cell_far (p:=⟨q,_,none⟩) l.out _).trans (hHeld.2.2.2.2.2.2.2))))))))⟩ (fun hHeld=>?_)
 clear hK K
 refine zpure_ (i:=4) (N:=some 8) #[true,true,true,true,true] (by kernel_rfl) ?_
 refine done_ (by kernel_rfl) ?_
 try go_wp2
 refine bodyPost_ret (results_list (rs:=[.cell 6 34,.cell 7 34,.tmp 8]) rfl (by simp) (.cell m 34 #[.int .i64 ac,.bool ad,.int .i64 ae,.int .u64 af] (0,0) _ rfl (zkp b) Try.underlying34 rfl (by kernel_rfl) (.cell q 34 #[.int .i64 P,.bool Q,.int .i64 R,.int .u64 T] (0,0) _ rfl (zkp c) Try.underlying34 rfl (by kernel_rfl) (.tmp .nil)))) rfl ?_
 exact zr HB
/-! ### grottoref03_one: function 58 -/
def grottoref03_one.f :Option (List Int):=some (([1]:List Int))
set_option maxHeartbeats 8000000 in
set_option maxRecDepth 100000 in
theorem grottoref03_one.calls  (r:List Int) (w:World) (h:grottoref03_one.f =some r) :
  Calls Try.prog 58 #[] w fun e w'=>∃ v0_:Value,e=.returned (v0_)∧Kd.R (Kd.int .i64) 3 w' w.heap.size (fun _=>True) v0_ r∧Below w.heap.size w w':=by
 have HB:=Aside0.mk (Below.refl w.heap.size w)
 have H:=h
 unfold grottoref03_one.f at H
 clear h
 obtain⟨y387,hy387⟩:∃ y_:List Int,y_=(([1]:List Int)):=⟨_,rfl⟩
 replace H:(some y387)=some r:=by first|(rw[hy387];with_reducible exact H)|(have H2_:=(Option.bind_some _ _).symm.trans H;rw[hy387];with_reducible exact H2_)|(have H2_:=(Option.bind_some _ _).symm.trans H;with_reducible exact H2_)|with_reducible exact H|(rw[hy387];exact H)|exact H
 have a:=Aside0.mk hy387
 clear hy387
 obtain rfl:=Option.some.inj H
 go_enter Try.func58,Try.ntmps58
 go_wp2_with (first|((with_reducible refine gate_dst (N:=1) rfl ?_);refine Kd.R_lit (Kd.int .i64) _ 3 ?hg (N:=1) ?hd (xs:=([1]:List Int)) (inner:=[.int .i64 1]) (ok:=fun _=>True) (okp:=fun _=>True) ?hr ?hp (fun _ hk=>hk) trivial (Below.refl _ _) (Nat.le_refl _) (by simp) ?_;(case hd=>rfl);(case hg=>rfl);(case hr=>first|(go_simp;done)|(go_simp;rfl));(case hp=>exact (Reps.one (show Kd.M (Kd.int .i64) _ _ _ 1 [.int .i64 1] from rfl) (Reps.none _ _)));intro v388 c ho2 hb hg_ hnew_;clear hg_ hnew_;(first|rw[←a.out] at ho2|(simp only[Int.reduceToNat] at ho2;rw[←a.out] at ho2));have b:=Aside0.mk (Kd.R_lower ho2 (below_size (zb HB)));replace HB:=zbs HB hb;clear hb ho2))
 go_ret
 exact⟨_,by first|rfl|(simp[errW_none,errW_some] <;> rfl)|(simp[*,errW_none,errW_some] <;> rfl),by (with_reducible repeat (first|apply Kd.R_alloc|apply Kd.R_drewN|apply Kd.R_drew));exact b.out,zb HB⟩

end Go.Proofs.Ytmmbgbchimangaa.PQ
