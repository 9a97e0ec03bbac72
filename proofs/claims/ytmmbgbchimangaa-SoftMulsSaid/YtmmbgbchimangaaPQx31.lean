-- by a program of this claim
import Derived.Test.YtmmbgbchimangaaPQx0
import Derived.Test.YtmmbgbchimangaaPQx8
import Derived.Test.YtmmbgbchimangaaPQx9
import Derived.Test.YtmmbgbchimangaaPQx10
import Derived.Test.YtmmbgbchimangaaPQx11
namespace Go.Proofs.Ytmmbgbchimangaa.PQ
open Go.RowKit Go.Proofs.YtmmbgbchimangaaW.PrintWords Go.Proofs.YtmmbgbchimangaaW.PrintLast Go.Proofs.YtmmbgbchimangaaW.PrintMore Go.Proofs.Ytmmbgbchimangaa.Z
attribute [local go_sem] max2_int min2_int max_two min_two max_three min_three max_four min_four   -- for this text's walks alone
set_option linter.unusedVariables false
set_option linter.unusedSimpArgs false

/-! ### grottoref03_Div: function 35 -/
mutual
def grottoref03_Div.j0:Nat→Bool→Bool→Int→Int→Int→Bool→Int→Int→Int→Bool→Int→Int→Option (Int×Int)
 | 0,_,_,_,_,_,_,_,_,_,_,_,_=>none
 | k+1,e,n,a,b,c,g,h,i,d,j,l,m=>if n=true then ((grottoref02_NaN.f k a b).bind fun o=>(some (o,0))) else (if c=3 then (grottoref03_Div.j1 k e true a b c g h i d j l m) else (grottoref03_Div.j1 k e (d==1) a b c g h i d j l m))
def grottoref03_Div.j1:Nat→Bool→Bool→Int→Int→Int→Bool→Int→Int→Int→Bool→Int→Int→Option (Int×Int)
 | 0,_,_,_,_,_,_,_,_,_,_,_,_=>none
 | k+1,a,d,b,c,q,r,e,g,h,s,i,j=>if d=true then ((grottoref02_Inf.f k b c a).bind fun l=>(some (l,0))) else (if h=3 then ((grottoref02_Zero.f k b c a).bind fun m=>(some (m,0))) else ((grottoref02_NatOf.f k g).bind fun n=>((grottoref02_NatOf.f k j).bind fun o=>((grottoref02_Near.f k b c a n o (wrap64 (e-i))).bind fun p=>(some (p,0))))))
end
def grottoref03_Div.f (k:Nat) (a0_0:Int) (a0_1:Int) (a1:Int) (a2:Int):Option (Int×Int):=(grottoref03_open.f k a0_0 a0_1 a1 a2).bind fun a=>(if a.2.2.2.2.2.2.2.2=0 then (if a.1=4 then (grottoref03_Div.j0 k (a.2.1 != a.2.2.2.2.2.1) true a0_0 a0_1 a.1 a.2.1 a.2.2.1 a.2.2.2.1 a.2.2.2.2.1 a.2.2.2.2.2.1 a.2.2.2.2.2.2.1 a.2.2.2.2.2.2.2.1) else (if a.2.2.2.2.1=4 then (grottoref03_Div.j0 k (a.2.1 != a.2.2.2.2.2.1) true a0_0 a0_1 a.1 a.2.1 a.2.2.1 a.2.2.2.1 a.2.2.2.2.1 a.2.2.2.2.2.1 a.2.2.2.2.2.2.1 a.2.2.2.2.2.2.2.1) else (if a.1=3 then (if a.2.2.2.2.1=3 then (grottoref03_Div.j0 k (a.2.1 != a.2.2.2.2.2.1) true a0_0 a0_1 a.1 a.2.1 a.2.2.1 a.2.2.2.1 a.2.2.2.2.1 a.2.2.2.2.2.1 a.2.2.2.2.2.2.1 a.2.2.2.2.2.2.2.1) else (if a.1=1 then (grottoref03_Div.j0 k (a.2.1 != a.2.2.2.2.2.1) (a.2.2.2.2.1==1) a0_0 a0_1 a.1 a.2.1 a.2.2.1 a.2.2.2.1 a.2.2.2.2.1 a.2.2.2.2.2.1 a.2.2.2.2.2.2.1 a.2.2.2.2.2.2.2.1) else (grottoref03_Div.j0 k (a.2.1 != a.2.2.2.2.2.1) false a0_0 a0_1 a.1 a.2.1 a.2.2.1 a.2.2.2.1 a.2.2.2.2.1 a.2.2.2.2.2.1 a.2.2.2.2.2.2.1 a.2.2.2.2.2.2.2.1))) else (if a.1=1 then (grottoref03_Div.j0 k (a.2.1 != a.2.2.2.2.2.1) (a.2.2.2.2.1==1) a0_0 a0_1 a.1 a.2.1 a.2.2.1 a.2.2.2.1 a.2.2.2.2.1 a.2.2.2.2.2.1 a.2.2.2.2.2.2.1 a.2.2.2.2.2.2.2.1) else (grottoref03_Div.j0 k (a.2.1 != a.2.2.2.2.2.1) false a0_0 a0_1 a.1 a.2.1 a.2.2.1 a.2.2.2.1 a.2.2.2.2.1 a.2.2.2.2.2.1 a.2.2.2.2.2.2.1 a.2.2.2.2.2.2.2.1))))) else (some (0,a.2.2.2.2.2.2.2.2)))
theorem grottoref03_Div.mono_l:∀ k,(∀ y0 y1 y2 y3 y4 y5 y6 y7 y8 y9 y10 y11,LeO (grottoref03_Div.j0 k y0 y1 y2 y3 y4 y5 y6 y7 y8 y9 y10 y11) (grottoref03_Div.j0 (k+1) y0 y1 y2 y3 y4 y5 y6 y7 y8 y9 y10 y11))∧(∀ y0 y1 y2 y3 y4 y5 y6 y7 y8 y9 y10 y11,LeO (grottoref03_Div.j1 k y0 y1 y2 y3 y4 y5 y6 y7 y8 y9 y10 y11) (grottoref03_Div.j1 (k+1) y0 y1 y2 y3 y4 y5 y6 y7 y8 y9 y10 y11))
 | 0=>⟨fun _ _ _ _ _ _ _ _ _ _ _ _ r h=>by simp[grottoref03_Div.j0] at h,fun _ _ _ _ _ _ _ _ _ _ _ _ r h=>by simp[grottoref03_Div.j1] at h⟩
 | k+1=>by
  obtain⟨ih0,ih1⟩:=grottoref03_Div.mono_l k
  refine⟨?_,?_⟩ <;> intros <;> (first|unfold grottoref03_Div.j0|unfold grottoref03_Div.j1) <;> (repeat' first|(with_reducible first|apply ih0|apply ih1|apply grottoref02_Inf.mono|apply grottoref02_NaN.mono|apply grottoref02_NatOf.mono|apply grottoref02_Near.mono|apply grottoref02_Zero.mono|apply grottoref03_open.mono|exact LeO.refl _|exact LeO.none _|refine LeO.ite ?_ ?_|refine LeO.bind ?_ (fun _=>?_))|refine LeO.ite ?_ ?_|refine LeO.bind ?_ (fun _=>?_))
theorem grottoref03_Div.mono:∀ a0 a1 a2 a3 k,LeO (grottoref03_Div.f k a0 a1 a2 a3) (grottoref03_Div.f (k+1) a0 a1 a2 a3):=by
 intro a0 a1 a2 a3 k
 obtain⟨ih0,ih1⟩:=grottoref03_Div.mono_l k
 unfold grottoref03_Div.f
 repeat' first|(with_reducible first|apply ih0|apply ih1|apply grottoref02_Inf.mono|apply grottoref02_NaN.mono|apply grottoref02_NatOf.mono|apply grottoref02_Near.mono|apply grottoref02_Zero.mono|apply grottoref03_open.mono|exact LeO.refl _|exact LeO.none _|refine LeO.ite ?_ ?_|refine LeO.bind ?_ (fun _=>?_))|refine LeO.ite ?_ ?_|refine LeO.bind ?_ (fun _=>?_)
def grottoref03_Div.T11:Bool×List (List Nat×List Nat):=(true,[([],[]),([],[]),([],[]),([2],[2]),([3],[3]),([],[]),([5],[5]),([6,4],[6]),([],[]),([8],[8]),([],[]),([10],[10]),([9,11],[9,11]),([0,1,4,7,12,7],[0,1,4,7,12]),([13,13,0,1,2,3,4,5,6,7,8,9,10,11,12,13],[13]),([14,0,1,2,3,4,5,6,7,8,9,10,11,12,13,14],[])])
def grottoref03_Div.B11:List Nat:=[0,0,0,4,12,0,32,124,0,256,0,1024,3840,8191,16383,32767]
theorem grottoref03_Div.tab11:rtab .any (opsOf Try.f35 11)=grottoref03_Div.T11:=by kernel_rfl
theorem grottoref03_Div.bits11:waitsOk grottoref03_Div.T11.2 grottoref03_Div.B11=true:=by kernel_rfl
set_option maxHeartbeats 8000000 in
set_option maxRecDepth 100000 in
theorem grottoref03_Div.calls {k:Nat} {m:Int} {o:Int} {a1:Int} {a2:Int} {r1:Int} {r2:Int} {w:World} (h:grottoref03_Div.f k m o a1 a2=some (r1,r2)) :
  Calls Try.prog 35 #[.agg #[.int .i64 m,.int .i64 o],.int .u64 a1,.int .u64 a2] w fun e w'=>e=.returned (.tuple #[.int .u64 r1,.int .i64 r2])∧Below w.heap.size w w':=by
 have hu23:=Try.underlying23
 have hu34:=Try.underlying34
 have HB:=Aside0.mk (Below.refl w.heap.size w)
 have H:=h
 unfold grottoref03_Div.f at H
 clear h
 obtain⟨⟨s,C,G,M,q,D,I,O,db⟩,A4,H⟩:=oB H
 try dsimp only at H
 by_cases c5:db=0
 rotate_left
 ·rw[if_neg c5] at H
  obtain⟨au,av⟩:=zf c5
  simp only[Option.some.injEq,Prod.mk.injEq] at H
  obtain⟨rfl,rfl⟩:=H
  go_enter Try.func35,Try.ntmps35
  go_wp2_with (first|((with_reducible refine gate_dst (N:=3) rfl ?_);refine zbox (N:=3) (cs:=#[.int .i64 m,.int .i64 o]) (t:=23) ?_;intro J hg gj hbox hb;have c:=Aside0.mk hbox;have cF:=zge hg HB;have cG:=zge hg HB;replace HB:=zbs HB hb;clear hb hbox hg;obtain⟨d8,d9,ea,eb⟩:=zc2 c)|((with_reducible refine gate_callee (f:=53) rfl ?_);refine zgc (some 16) Try.func53 (grottoref03_open.calls A4.out) ?_;intro fI hb;obtain⟨c,HB⟩:=zu1 c HB hb;clear hb)|((with_reducible refine gate_dst (N:=8) rfl ?_);refine zbox (N:=8) (cs:=#[.int .i64 0,.bool false,.int .i64 0,.int .u64 0]) (t:=34) ?_;intro u hg fJ hbox hb;have b:=Aside0.mk hbox;have cH:=zge hg HB;have cI:=zge hg HB;have p:=znl hg c;have g:=zng hg c;obtain⟨c,HB⟩:=zu1 c HB hb;clear hb hbox hg)|((with_reducible refine gate_dst (N:=9) rfl ?_);refine zbox (N:=9) (cs:=#[.int .i64 0,.bool false,.int .i64 0,.int .u64 0]) (t:=34) ?_;intro v hg fK hbox hb;have d:=Aside0.mk hbox;have cJ:=zge hg HB;have cK:=zge hg HB;have y:=znl hg c;have j:=zng hg c;have l:=znl hg b;have z:=zng hg b;obtain⟨c,b,HB⟩:=zu2 c b HB hb;clear hb hbox hg;obtain⟨ec,ed⟩:=z2 g;obtain⟨ee,ef⟩:=z2 l;obtain⟨cO,cP,cQ,cR,cS,cT,cU,cV⟩:=zc4 b;obtain⟨eg,eh⟩:=z2 j;obtain⟨cW,cX,cY,cZ,c0,c6,c7,c8⟩:=zc4 d))
  go_ret2
  exact zr HB

 rw[if_pos c5] at H
 obtain⟨au,av⟩:=zt c5
 clear c5
 have cE:=Aside0.mk H
 clear H
 go_enter Try.func35,Try.ntmps35
 go_upto_region 5 with (first|((with_reducible refine gate_dst (N:=3) rfl ?_);refine zbox (N:=3) (cs:=#[.int .i64 m,.int .i64 o]) (t:=23) ?_;intro J hg w7 hbox hb;have c:=Aside0.mk hbox;have cF:=zge hg HB;have cG:=zge hg HB;replace HB:=zbs HB hb;clear hb hbox hg;obtain⟨ai,aj,ak,al⟩:=zc2 c)|((with_reducible refine gate_callee (f:=53) rfl ?_);refine zgc (some 16) Try.func53 (grottoref03_open.calls A4.out) ?_;intro w9 hb;obtain⟨c,HB⟩:=zu1 c HB hb;clear hb)|((with_reducible refine gate_dst (N:=8) rfl ?_);refine zbox (N:=8) (cs:=#[.int .i64 0,.bool false,.int .i64 0,.int .u64 0]) (t:=34) ?_;intro u hg fL hbox hb;have b:=Aside0.mk hbox;have cH:=zge hg HB;have cI:=zge hg HB;have p:=znl hg c;have g:=zng hg c;obtain⟨c,HB⟩:=zu1 c HB hb;clear hb hbox hg)|((with_reducible refine gate_dst (N:=9) rfl ?_);refine zbox (N:=9) (cs:=#[.int .i64 0,.bool false,.int .i64 0,.int .u64 0]) (t:=34) ?_;intro v hg fM hbox hb;have d:=Aside0.mk hbox;have cJ:=zge hg HB;have cK:=zge hg HB;have y:=znl hg c;have j:=zng hg c;have l:=znl hg b;have z:=zng hg b;obtain⟨c,b,HB⟩:=zu2 c b HB hb;clear hb hbox hg;obtain⟨ek,el⟩:=z2 g;obtain⟨em,en⟩:=z2 l;obtain⟨R,T,U,V,W,X,Y,Z⟩:=zc4 b;obtain⟨eo,ep⟩:=z2 j;obtain⟨aa,ab,ac,ad,ae,af,ag,ah⟩:=zc4 d))
 (try simp only[Act.put,List.setIfInBounds_toArray,List.set_cons_zero,List.set_cons_succ])
 go_cut [28] (fun v28 wc=>∃ (kq:Nat) (P:Bool),v28=.bool P∧Aside0 (grottoref03_Div.j0 kq (C != D) P m o s C G M q D I O=some (r1,r2))∧Aside0 (kq≤k)∧Aside0 (wc.heap[J]?=some (.cells #[.int .i64 m,.int .i64 o] 23 (0,0)))∧Aside0 (wc.heap[u]?=some (.cells #[.int .i64 s,.bool C,.int .i64 G,.int .u64 M] 34 (0,0)))∧Aside0 (wc.heap[v]?=some (.cells #[.int .i64 q,.bool D,.int .i64 I,.int .u64 O] 34 (0,0)))∧Aside0 (Below w.heap.size w wc))
 case first =>
  have H:=cE.out
  clear cE
  by_cases am:s=4
  ·rw[if_pos am] at H
   obtain⟨E,aw⟩:=zt am
   clear am
   (first|rw[E]|(simp only[i64_w,i32_w];rw[E])|skip)
   have H':=Aside0.mk H
   clear H
   obtain⟨eq,er⟩:=z2 g
   obtain⟨es,et⟩:=z2 l
   obtain⟨ax,ay,az,aA,aB,aC,aD,aE⟩:=zc4 b
   go_wp2
   go_meet
   case rel=>exact⟨_,(true),(by first|rfl|(simp[*];done)),H',⟨by omega⟩,⟨zk c⟩,⟨zkp b⟩,⟨zkp d⟩,⟨zb HB⟩⟩
  rw[if_neg am] at H
  obtain⟨E,aw⟩:=zf am
  (first|rw[E]|(simp only[i64_w,i32_w];rw[E])|skip)
  by_cases an:q=4
  ·rw[if_pos an] at H
   obtain⟨aF,aG⟩:=zt an
   clear an
   have H':=Aside0.mk H
   clear H
   obtain⟨eu,ev⟩:=z2 g
   obtain⟨ew,ex⟩:=z2 l
   obtain⟨aH,aI,aJ,aK,aL,aM,aN,aO⟩:=zc4 b
   obtain⟨ey,ez⟩:=z2 j
   obtain⟨aP,aQ,aR,aS,aT,aU,aV,aW⟩:=zc4 d
   go_wp2
   go_meet
   case rel=>exact⟨_,(true),(by first|rfl|(simp[*];done)),H',⟨by omega⟩,⟨zk c⟩,⟨zkp b⟩,⟨zkp d⟩,⟨zb HB⟩⟩
  rw[if_neg an] at H
  obtain⟨aF,aG⟩:=zf an
  by_cases ao:s=3
  ·rw[if_pos ao] at H
   obtain⟨aX,aY⟩:=zt ao
   clear ao
   by_cases ap:q=3
   ·rw[if_pos ap] at H
    obtain⟨aZ,a0⟩:=zt ap
    clear ap
    have H':=Aside0.mk H
    clear H
    obtain⟨eA,eB⟩:=z2 g
    obtain⟨eC,eD⟩:=z2 l
    obtain⟨a3,a4,a5,a6,a7,a8,a9,ba⟩:=zc4 b
    obtain⟨eE,eF⟩:=z2 j
    obtain⟨bb,bc,bd,be,bf,bg,bh,bi⟩:=zc4 d
    go_wp2
    go_meet
    case rel=>exact⟨_,(true),(by first|rfl|(simp[*];done)),H',⟨by omega⟩,⟨zk c⟩,⟨zkp b⟩,⟨zkp d⟩,⟨zb HB⟩⟩
   rw[if_neg ap] at H
   obtain⟨aZ,a0⟩:=zf ap
   by_cases aq:s=1
   ·rw[if_pos aq] at H
    obtain⟨bj,bk⟩:=zt aq
    clear aq
    have H':=Aside0.mk H
    clear H
    obtain⟨eG,eH⟩:=z2 g
    obtain⟨eI,eJ⟩:=z2 l
    obtain⟨bl,bm,bn,bo,bp,bq,br,bs⟩:=zc4 b
    obtain⟨eK,eL⟩:=z2 j
    obtain⟨bt,bu,bv,bw,bx,bz,bA,bB⟩:=zc4 d
    go_wp2
    go_meet
    case rel=>exact⟨_,((q==1)),(by first|rfl|(simp[*];done)),H',⟨by omega⟩,⟨zk c⟩,⟨zkp b⟩,⟨zkp d⟩,⟨zb HB⟩⟩
   rw[if_neg aq] at H
   obtain⟨bj,bk⟩:=zf aq
   have H':=Aside0.mk H
   clear H
   obtain⟨eM,eN⟩:=z2 g
   obtain⟨eO,eP⟩:=z2 l
   obtain⟨bC,bD,bE,bF,bG,bH,bI,bJ⟩:=zc4 b
   obtain⟨eQ,eR⟩:=z2 j
   obtain⟨bK,bL,bM,bN,bO,bP,bQ,bR⟩:=zc4 d
   go_wp2
   go_meet
   case rel=>exact⟨_,(false),(by first|rfl|(simp[*];done)),H',⟨by omega⟩,⟨zk c⟩,⟨zkp b⟩,⟨zkp d⟩,⟨zb HB⟩⟩
  rw[if_neg ao] at H
  obtain⟨aX,aY⟩:=zf ao
  by_cases ar:s=1
  ·rw[if_pos ar] at H
   obtain⟨bS,bT⟩:=zt ar
   clear ar
   have H':=Aside0.mk H
   clear H
   obtain⟨eS,eT⟩:=z2 g
   obtain⟨eU,eV⟩:=z2 l
   obtain⟨bU,bV,bW,bX,bY,bZ,b0,b1⟩:=zc4 b
   obtain⟨eW,eX⟩:=z2 j
   obtain⟨b2,b3,b4,b5,b6,b7,b8,b9⟩:=zc4 d
   go_wp2
   go_meet
   case rel=>exact⟨_,((q==1)),(by first|rfl|(simp[*];done)),H',⟨by omega⟩,⟨zk c⟩,⟨zkp b⟩,⟨zkp d⟩,⟨zb HB⟩⟩
  rw[if_neg ar] at H
  obtain⟨bS,bT⟩:=zf ar
  have H':=Aside0.mk H
  clear H
  obtain⟨eY,eZ⟩:=z2 g
  obtain⟨e0,e1⟩:=z2 l
  obtain⟨ca,cb,cc,cd,ce,cf,cg,ch⟩:=zc4 b
  obtain⟨e2,e3⟩:=z2 j
  obtain⟨ci,cj,ck,cl,cm,cn,co,cp⟩:=zc4 d
  go_wp2
  go_meet
  case rel=>exact⟨_,(false),(by first|rfl|(simp[*];done)),H',⟨by omega⟩,⟨zk c⟩,⟨zkp b⟩,⟨zkp d⟩,⟨zb HB⟩⟩
 case rest =>
  clear cE
  try clear au av R T U V aa ab ac ad ai aj W X Y Z ae af ag ah ak al
  obtain⟨kq,P,rfl,HA,dd,c,b,d,HB⟩:=hcut
  cases kq with
  | zero=>exact absurd HA.out (by simp[grottoref03_Div.j0])
  | succ e4 =>
   have H:=HA.out
   clear HA
   simp only[grottoref03_Div.j0] at H
   by_cases cq:P=true
   ·subst cq
    rw[if_pos rfl] at H
    obtain⟨fE,e5,H⟩:=oB H
    simp only[Option.some.injEq,Prod.mk.injEq] at H
    obtain⟨rfl,rfl⟩:=H
    obtain⟨e6,e7⟩:=z2 p
    obtain⟨e8,e9⟩:=z2 y
    obtain⟨de,df,dg,dh⟩:=zc2 c
    go_wp2_with (first|((with_reducible refine gate_callee (f:=21) rfl ?_);refine zgc (some 58) Try.func21 (grottoref02_NaN.calls e5.out) ?_;intro fN hb;obtain⟨c,b,d,HB⟩:=zu3 c b d HB hb;clear hb))
    go_ret2
    exact zr HB
   replace cq:=Bool.eq_false_iff.mpr cq
   subst cq
   rw[if_neg nft] at H
   have cr:=Aside0.mk H
   clear H
   go_upto_region 7 with (fail)
   go_cut [59] (fun v59 wc=>∃ (kq:Nat) (F:Bool),v59=.bool F∧Aside0 (grottoref03_Div.j1 kq (C != D) F m o s C G M q D I O=some (r1,r2))∧Aside0 (kq≤e4)∧Aside0 (wc.heap[J]?=some (.cells #[.int .i64 m,.int .i64 o] 23 (0,0)))∧Aside0 (wc.heap[u]?=some (.cells #[.int .i64 s,.bool C,.int .i64 G,.int .u64 M] 34 (0,0)))∧Aside0 (wc.heap[v]?=some (.cells #[.int .i64 q,.bool D,.int .i64 I,.int .u64 O] 34 (0,0)))∧Aside0 (Below w.heap.size w wc))
   case first =>
    have H:=cr.out
    clear cr
    by_cases ct:s=3
    ·rw[if_pos ct] at H
     obtain⟨L,cL⟩:=zt ct
     clear ct
     (first|rw[L]|(simp only[i64_w,i32_w];rw[L])|skip)
     have H':=Aside0.mk H
     clear H
     obtain⟨fa,fb⟩:=z2 g
     obtain⟨fc,fd⟩:=z2 l
     obtain⟨di,dj,dk,dl,dm,dn,dp,dq⟩:=zc4 b
     go_wp2
     go_meet
     case rel=>exact⟨_,(true),(by first|rfl|(simp[*];done)),H',⟨by have:=dd.out;first|omega|exact Nat.le_refl _⟩,⟨zk c⟩,⟨zk b⟩,⟨zk d⟩,⟨zb HB⟩⟩
    rw[if_neg ct] at H
    obtain⟨L,cL⟩:=zf ct
    (first|rw[L]|(simp only[i64_w,i32_w];rw[L])|skip)
    have H':=Aside0.mk H
    clear H
    obtain⟨fe,ff⟩:=z2 g
    obtain⟨fg,fh⟩:=z2 l
    obtain⟨dr,dt,du,dv,dw,dx,dy,dz⟩:=zc4 b
    obtain⟨fi,fj⟩:=z2 j
    obtain⟨dA,dB,dC,dD,dE,dF,dG,dH⟩:=zc4 d
    go_wp2
    go_meet
    case rel=>exact⟨_,((q==1)),(by first|rfl|(simp[*];done)),H',⟨by have:=dd.out;first|omega|exact Nat.le_refl _⟩,⟨zk c⟩,⟨zk b⟩,⟨zk d⟩,⟨zb HB⟩⟩
   case rest =>
    clear cr
    try clear c1 c2 p2 c3 c4 au av fP fQ fR am E aw fS fT an aF aG fU fV fW ao aX aY ap aZ a0 fX fY fZ aq bj bk f0 f1 f2 f3 f4 f5 ar bS bT f6 f7 f8 f9 ga gb gc cq R T U V aa ab ac ad ax ay az aA aH aI aJ aK aP aQ aR aS a3 a4 a5 a6 bb bc bd be bl bm bn bo bt bu bv bw bC bD bE bF bK bL bM bN bU bV bW bX b2 b3 b4 b5 ca cb cc cd ci cj ck cl ai aj W X Y Z ae af ag ah aB aC aD aE aL aM aN aO aT aU aV aW a7 a8 a9 ba bf bg bh bi bp bq br bs bx bz bA bB bG bH bI bJ bO bP bQ bR bY bZ b0 b1 b6 b7 b8 b9 ce cf cg ch cm cn co cp ak al p2
    obtain⟨kq,F,rfl,HA,fF,c,b,d,HB⟩:=hcut
    cases kq with
    | zero=>exact absurd HA.out (by simp[grottoref03_Div.j1])
    | succ dI =>
     have H:=HA.out
     clear HA
     simp only[grottoref03_Div.j1] at H
     by_cases cx:F=true
     ·subst cx
      rw[if_pos rfl] at H
      obtain⟨fG,fk,H⟩:=oB H
      simp only[Option.some.injEq,Prod.mk.injEq] at H
      obtain⟨rfl,rfl⟩:=H
      obtain⟨fl,fm⟩:=z2 p
      obtain⟨fn,fo⟩:=z2 y
      obtain⟨dJ,dK,dL,dM⟩:=zc2 c
      go_wp2_with (first|((with_reducible refine gate_callee (f:=67) rfl ?_);refine zgc (some 70) Try.func67 (grottoref02_Inf.calls fk.out) ?_;intro gd hb;obtain⟨c,b,d,HB⟩:=zu3 c b d HB hb;clear hb))
      go_ret2
      exact zr HB
     replace cx:=Bool.eq_false_iff.mpr cx
     subst cx
     rw[if_neg nft] at H
     by_cases cu:q=3
     ·rw[if_pos cu] at H
      obtain⟨cM,cN⟩:=zt cu
      clear cu
      obtain⟨fH,fp,H⟩:=oB H
      simp only[Option.some.injEq,Prod.mk.injEq] at H
      obtain⟨rfl,rfl⟩:=H
      obtain⟨fq,fr⟩:=z2 j
      obtain⟨fs,ft⟩:=z2 z
      obtain⟨dN,dO,dP,dQ,dR,dS,dT,dU⟩:=zc4 d
      obtain⟨fu,fv⟩:=z2 p
      obtain⟨dV,dW,dX,dY⟩:=zc2 c
      go_wp2_with (first|((with_reducible refine gate_callee (f:=46) rfl ?_);refine zgc (some 77) Try.func46 (grottoref02_Zero.calls fp.out) ?_;intro ge hb;obtain⟨c,b,d,HB⟩:=zu3 c b d HB hb;clear hb))
      go_ret2
      exact zr HB
     rw[if_neg cu] at H
     obtain⟨cM,cN⟩:=zf cu
     obtain⟨cv,fw,H⟩:=oB H
     obtain⟨cw,fx,H⟩:=oB H
     obtain⟨dZ,fy,H⟩:=oB H
     simp only[Option.some.injEq,Prod.mk.injEq] at H
     obtain⟨rfl,rfl⟩:=H
     obtain⟨fz,fA⟩:=z2 j
     obtain⟨fB,fC⟩:=z2 z
     obtain⟨d0,d1,d2,d3,d4,d5,d6,d7⟩:=zc4 d
     try go_wp2
     replace c:=Aside0.mk (blk_drew c.out)
     replace b:=Aside0.mk (blk_drew b.out)
     replace d:=Aside0.mk (blk_drew d.out)
     replace HB:=Aside0.mk (below_drew1 HB.out)
     refine start_ (n:=16) (S:=fun w'=>w'.cell? ⟨J,0,none⟩=some (.int .i64 m)∧w'.cell? ⟨J,1,none⟩=some (.int .i64 o)∧w'.cell? ⟨u,0,none⟩=some (.int .i64 s)∧w'.cell? ⟨u,1,none⟩=some (.bool C)∧w'.cell? ⟨u,2,none⟩=some (.int .i64 G)∧w'.cell? ⟨u,3,none⟩=some (.int .u64 M)∧w'.cell? ⟨v,0,none⟩=some (.int .i64 q)∧w'.cell? ⟨v,1,none⟩=some (.bool D)∧w'.cell? ⟨v,2,none⟩=some (.int .i64 I)∧w'.cell? ⟨v,3,none⟩=some (.int .u64 O)) (ds:=[]) #[false,false,false,false,false,false,false,false,false,false,false,false,false,false,false,false] (by kernel_rfl) rfl rfl ⟨(blk_cell c.out 0).trans rfl,(blk_cell c.out 1).trans rfl,(blk_cell b.out 0).trans rfl,(blk_cell b.out 1).trans rfl,(blk_cell b.out 2).trans rfl,(blk_cell b.out 3).trans rfl,(blk_cell d.out 0).trans rfl,(blk_cell d.out 1).trans rfl,(blk_cell d.out 2).trans rfl,(blk_cell d.out 3).trans rfl⟩ (fun hHeld=>?_);refine with_tabW grottoref03_Div.tab11 grottoref03_Div.bits11 (fun HT_ HW_=>?_)
     generalize wc.drew=gf at c b d HB hHeld ⊢
     refine zpure_ (i:=1) (N:=some 79) #[false,true,false,false,false,false,false,false,false,false,false,false,false,false,false,false] (any_of HT_.out (by kernel_rfl)) ?_
     refine zpure_ (i:=2) (N:=some 80) #[false,true,true,false,false,false,false,false,false,false,false,false,false,false,false,false] (any_of HT_.out (by kernel_rfl)) ?_
     refine zpure_ (i:=5) (N:=some 83) #[false,true,true,false,false,true,false,false,false,false,false,false,false,false,false,false] (any_of HT_.out (by kernel_rfl)) ?_
     refine zpure_ (i:=8) (N:=some 86) #[false,true,true,false,false,true,false,false,true,false,false,false,false,false,false,false] (any_of HT_.out (by kernel_rfl)) ?_
     refine zpure_ (i:=10) (N:=some 88) #[false,true,true,false,false,true,false,false,true,false,true,false,false,false,false,false] (any_of HT_.out (by kernel_rfl)) ?_
     refine ztake_ (i:=0) (N:=some 78) #[true,true,true,false,false,true,false,false,true,false,true,false,false,false,false,false] rfl (take_ofW HT_.out HW_.out (by kernel_rfl)) hHeld (Or.inl ⟨by rfl,by rintro w' ⟨s0,s1,s2,s3,s4,s5,s6,s7,s8,s9⟩;go_simp;with_reducible rfl⟩) ?_
     refine ztake_ (i:=3) (N:=some 81) #[true,true,true,true,false,true,false,false,true,false,true,false,false,false,false,false] rfl (take_ofW HT_.out HW_.out (by kernel_rfl)) hHeld (Or.inl ⟨by rfl,by rintro w' ⟨s0,s1,s2,s3,s4,s5,s6,s7,s8,s9⟩;go_simp;with_reducible rfl⟩) ?_
     refine ztake_ (i:=6) (N:=some 84) #[true,true,true,true,false,true,true,false,true,false,true,false,false,false,false,false] rfl (take_ofW HT_.out HW_.out (by kernel_rfl)) hHeld (Or.inl ⟨by rfl,by rintro w' ⟨s0,s1,s2,s3,s4,s5,s6,s7,s8,s9⟩;go_simp;with_reducible rfl⟩) ?_
     refine ztake_ (i:=9) (N:=some 87) #[true,true,true,true,false,true,true,false,true,true,true,false,false,false,false,false] rfl (take_ofW HT_.out HW_.out (by kernel_rfl)) hHeld (Or.inl ⟨by rfl,by rintro w' ⟨s0,s1,s2,s3,s4,s5,s6,s7,s8,s9⟩;go_simp;with_reducible rfl⟩) ?_
     refine ztake_ (i:=11) (N:=some 89) #[true,true,true,true,false,true,true,false,true,true,true,true,false,false,false,false] rfl (take_ofW HT_.out HW_.out (by kernel_rfl)) hHeld (Or.inl ⟨by rfl,by rintro w' ⟨s0,s1,s2,s3,s4,s5,s6,s7,s8,s9⟩;go_simp;with_reducible rfl⟩) ?_
     refine zpure_ (i:=12) (N:=some 90) #[true,true,true,true,false,true,true,false,true,true,true,true,true,false,false,false] (any_of HT_.out (by kernel_rfl)) ?_
     refine one_ (i:=4) (N:=some 82) #[true,true,true,true,true,true,true,false,true,true,true,true,true,false,false,false] rfl rfl (one_of HT_.out (by kernel_rfl)) (by decide) (fun K hK=>?_)
     refine goes_ Try.func72 (by kernel_rfl) rfl #[.int .u64 M] (by rfl) rfl rfl (by (try simp only[List.map_toArray,List.map_cons,List.map_nil]);first|done|rfl|(simp only[List.length_drop,List.length_take];rfl)) ?_
     with_reducible refine (grottoref02_NatOf.calls fw.out).mono ?_
     rintro e gg ⟨v963,rfl,ho0,hb⟩
     refine⟨_,rfl,?_⟩
     have B:=Aside0.mk (Kd.R_lower ho0 (below_size (zb HB)))
     obtain⟨c,b,d,HB⟩:=zu3 c b d HB hb
     try clear hb
     (try clear ho0)
     refine hK.out _ _ ⟨(blk_cell c.out 0).trans rfl,(blk_cell c.out 1).trans rfl,(blk_cell b.out 0).trans rfl,(blk_cell b.out 1).trans rfl,(blk_cell b.out 2).trans rfl,(blk_cell b.out 3).trans rfl,(blk_cell d.out 0).trans rfl,(blk_cell d.out 1).trans rfl,(blk_cell d.out 2).trans rfl,(blk_cell d.out 3).trans rfl⟩ (fun hHeld=>?_)
     clear hK K
     refine norm_ (a':=?_) ?_ ?_
     rotate_left
     ·show Act.put _ (some 82) _=_
      simp only[Act.put,List.setIfInBounds_toArray,List.set_cons_zero,List.set_cons_succ,i64_w,i32_w]
      rfl
     refine one_ (i:=7) (N:=some 85) #[true,true,true,true,true,true,true,true,true,true,true,true,true,false,false,false] rfl rfl (one_of HT_.out (by kernel_rfl)) (by decide) (fun K hK=>?_)
     refine goes_ Try.func72 (by kernel_rfl) rfl #[.int .u64 O] (by rfl) rfl rfl (by (try simp only[List.map_toArray,List.map_cons,List.map_nil]);first|done|rfl|(simp only[List.length_drop,List.length_take];rfl)) ?_
     with_reducible refine (grottoref02_NatOf.calls fx.out).mono ?_
     rintro e gh ⟨v966,rfl,ho0,hb⟩
     refine⟨_,rfl,?_⟩
     have Q:=Aside0.mk (Kd.R_lower (Kd.R_new' ho0 (Kd.R_lt (by (with_reducible repeat (first|apply Kd.R_alloc|apply Kd.R_drewN|apply Kd.R_drew));exact B.out))) (below_size (zb HB)))
     replace B:=Aside0.mk (Kd.R_elder' (by (with_reducible repeat (first|apply Kd.R_alloc|apply Kd.R_drewN|apply Kd.R_drew));exact B.out) (Kd.R_base ho0) hb)
     obtain⟨c,b,d,HB⟩:=zu3 c b d HB hb
     try clear hb
     (try clear ho0)
     obtain⟨cy,cz,cA⟩:=Kd.R_slice B.out
     (first|subst cA|(injection cA with f1_ f2_ f3_;have f4_:=f1_.symm;have f5_:=f3_.symm;clear f1_ f2_ f3_;subst f4_;subst f5_))
     obtain⟨cB,cC,cD⟩:=Kd.R_slice Q.out
     (first|subst cD|(injection cD with f1_ f2_ f3_;have f4_:=f1_.symm;have f5_:=f3_.symm;clear f1_ f2_ f3_;subst f4_;subst f5_))
     refine hK.out _ _ ⟨(blk_cell c.out 0).trans rfl,(blk_cell c.out 1).trans rfl,(blk_cell b.out 0).trans rfl,(blk_cell b.out 1).trans rfl,(blk_cell b.out 2).trans rfl,(blk_cell b.out 3).trans rfl,(blk_cell d.out 0).trans rfl,(blk_cell d.out 1).trans rfl,(blk_cell d.out 2).trans rfl,(blk_cell d.out 3).trans rfl⟩ (fun hHeld=>?_)
     clear hK K
     refine norm_ (a':=?_) ?_ ?_
     rotate_left
     ·show Act.put _ (some 85) _=_
      simp only[Act.put,List.setIfInBounds_toArray,List.set_cons_zero,List.set_cons_succ,i64_w,i32_w]
      rfl
     refine one_ (i:=13) (N:=some 91) #[true,true,true,true,true,true,true,true,true,true,true,true,true,true,false,false] rfl rfl (one_of HT_.out (by kernel_rfl)) (by decide) (fun K hK=>?_)
     refine goes_ Try.func57 (by kernel_rfl) rfl #[.agg #[.int .i64 m,.int .i64 o],.bool (C != D),.slice cy cv.length cz,.slice cB cw.length cC,.int .i64 (wrap64 (G-I))] (by rfl) rfl rfl (by (try simp only[List.map_toArray,List.map_cons,List.map_nil]);first|done|rfl|(simp only[List.length_drop,List.length_take];rfl)) ?_
     with_reducible refine (grottoref02_Near.calls dI m o (C != D) (fun k_=>some k_=(.slice cy cv.length cz:Value).ownBlock) _ _ cv (fun k_=>some k_=(.slice cB cw.length cC:Value).ownBlock) _ _ cw (wrap64 (G-I)) dZ _ ?side1 ?side2 fy.out).mono ?_
     (case side1=>exact Kd.R_V (Kd.R_tight rfl (Kd.R_types (Kd.R_types (Kd.R_types (B.out) c.out (by decide)) b.out (by decide)) d.out (by decide))))
     (case side2=>exact Kd.R_V (Kd.R_tight rfl (Kd.R_types (Kd.R_types (Kd.R_types (Q.out) c.out (by decide)) b.out (by decide)) d.out (by decide))))
     rintro e gi ⟨rfl,hb⟩
     refine⟨_,rfl,?_⟩
     replace B:=Aside0.mk (Kd.R_below (by (with_reducible repeat (first|apply Kd.R_alloc|apply Kd.R_drewN|apply Kd.R_drew));exact B.out) hb)
     replace Q:=Aside0.mk (Kd.R_below (by (with_reducible repeat (first|apply Kd.R_alloc|apply Kd.R_drewN|apply Kd.R_drew));exact Q.out) hb)
     obtain⟨c,b,d,HB⟩:=zu3 c b d HB hb
     try clear hb
     refine hK.out _ _ ⟨(blk_cell c.out 0).trans rfl,(blk_cell c.out 1).trans rfl,(blk_cell b.out 0).trans rfl,(blk_cell b.out 1).trans rfl,(blk_cell b.out 2).trans rfl,(blk_cell b.out 3).trans rfl,(blk_cell d.out 0).trans rfl,(blk_cell d.out 1).trans rfl,(blk_cell d.out 2).trans rfl,(blk_cell d.out 3).trans rfl⟩ (fun hHeld=>?_)
     clear hK K
     refine norm_ (a':=?_) ?_ ?_
     rotate_left
     ·show Act.put _ (some 91) _=_
      simp only[Act.put,List.setIfInBounds_toArray,List.set_cons_zero,List.set_cons_succ,i64_w,i32_w]
      rfl
     refine zpure_ (i:=14) (N:=some 6) #[true,true,true,true,true,true,true,true,true,true,true,true,true,true,true,false] (any_of HT_.out (by kernel_rfl)) ?_
     refine zpure_ (i:=15) (N:=some 7) #[true,true,true,true,true,true,true,true,true,true,true,true,true,true,true,true] (any_of HT_.out (by kernel_rfl)) ?_
     refine done_ (done_of HT_.out (by kernel_rfl)) ?_
     try go_wp2
     go_ret2
     exact zr HB
end Go.Proofs.Ytmmbgbchimangaa.PQ
