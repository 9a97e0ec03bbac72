-- by a program of this claim
import Derived.Test.YtmmbgbchimangaaPQx0
import Derived.Test.YtmmbgbchimangaaPQx8
import Derived.Test.YtmmbgbchimangaaPQx9
import Derived.Test.YtmmbgbchimangaaPQx10
import Derived.Test.YtmmbgbchimangaaPQx11
import Derived.Test.YtmmbgbchimangaaPQx24
namespace Go.Proofs.Ytmmbgbchimangaa.PQ
open Go.RowKit Go.Proofs.YtmmbgbchimangaaW.PrintWords Go.Proofs.YtmmbgbchimangaaW.PrintLast Go.Proofs.YtmmbgbchimangaaW.PrintMore Go.Proofs.Ytmmbgbchimangaa.Z
attribute [local go_sem] max2_int min2_int max_two min_two max_three min_three max_four min_four   -- for this text's walks alone
set_option linter.unusedVariables false
set_option linter.unusedSimpArgs false

/-! ### grottoref03_Mul: function 33 -/
def grottoref03_Mul.j0:Nat→Bool→Bool→Int→Int→Int→Bool→Int→Int→Int→Bool→Int→Int→Option (Int×Int)
 | 0,_,_,_,_,_,_,_,_,_,_,_,_=>none
 | k+1,c,d,a,b,e,u,g,h,i,v,j,l=>if d=true then ((grottoref02_NaN.f k a b).bind fun m=>(some (m,0))) else (if e=3 then ((grottoref02_Inf.f k a b c).bind fun n=>(some (n,0))) else (if i=3 then ((grottoref02_Inf.f k a b c).bind fun o=>(some (o,0))) else ((grottoref02_NatOf.f k h).bind fun p=>((grottoref02_NatOf.f k l).bind fun q=>((grottoref02_Times.f k p q).bind fun r=>((grottoref03_one.f).bind fun s=>((grottoref02_Near.f k a b c r s (wrap64 (g+j))).bind fun t=>(some (t,0)))))))))
def grottoref03_Mul.f (k:Nat) (a0_0:Int) (a0_1:Int) (a1:Int) (a2:Int):Option (Int×Int):=(grottoref03_open.f k a0_0 a0_1 a1 a2).bind fun a=>(if a.2.2.2.2.2.2.2.2=0 then (if a.1=4 then (grottoref03_Mul.j0 k (a.2.1 != a.2.2.2.2.2.1) true a0_0 a0_1 a.1 a.2.1 a.2.2.1 a.2.2.2.1 a.2.2.2.2.1 a.2.2.2.2.2.1 a.2.2.2.2.2.2.1 a.2.2.2.2.2.2.2.1) else (if a.2.2.2.2.1=4 then (grottoref03_Mul.j0 k (a.2.1 != a.2.2.2.2.2.1) true a0_0 a0_1 a.1 a.2.1 a.2.2.1 a.2.2.2.1 a.2.2.2.2.1 a.2.2.2.2.2.1 a.2.2.2.2.2.2.1 a.2.2.2.2.2.2.2.1) else (if a.1=3 then (if a.2.2.2.2.1=1 then (grottoref03_Mul.j0 k (a.2.1 != a.2.2.2.2.2.1) true a0_0 a0_1 a.1 a.2.1 a.2.2.1 a.2.2.2.1 a.2.2.2.2.1 a.2.2.2.2.2.1 a.2.2.2.2.2.2.1 a.2.2.2.2.2.2.2.1) else (if a.1=1 then (grottoref03_Mul.j0 k (a.2.1 != a.2.2.2.2.2.1) (a.2.2.2.2.1==3) a0_0 a0_1 a.1 a.2.1 a.2.2.1 a.2.2.2.1 a.2.2.2.2.1 a.2.2.2.2.2.1 a.2.2.2.2.2.2.1 a.2.2.2.2.2.2.2.1) else (grottoref03_Mul.j0 k (a.2.1 != a.2.2.2.2.2.1) false a0_0 a0_1 a.1 a.2.1 a.2.2.1 a.2.2.2.1 a.2.2.2.2.1 a.2.2.2.2.2.1 a.2.2.2.2.2.2.1 a.2.2.2.2.2.2.2.1))) else (if a.1=1 then (grottoref03_Mul.j0 k (a.2.1 != a.2.2.2.2.2.1) (a.2.2.2.2.1==3) a0_0 a0_1 a.1 a.2.1 a.2.2.1 a.2.2.2.1 a.2.2.2.2.1 a.2.2.2.2.2.1 a.2.2.2.2.2.2.1 a.2.2.2.2.2.2.2.1) else (grottoref03_Mul.j0 k (a.2.1 != a.2.2.2.2.2.1) false a0_0 a0_1 a.1 a.2.1 a.2.2.1 a.2.2.2.1 a.2.2.2.2.1 a.2.2.2.2.2.1 a.2.2.2.2.2.2.1 a.2.2.2.2.2.2.2.1))))) else (some (0,a.2.2.2.2.2.2.2.2)))
theorem grottoref03_Mul.mono_l:∀ k,(∀ y0 y1 y2 y3 y4 y5 y6 y7 y8 y9 y10 y11,LeO (grottoref03_Mul.j0 k y0 y1 y2 y3 y4 y5 y6 y7 y8 y9 y10 y11) (grottoref03_Mul.j0 (k+1) y0 y1 y2 y3 y4 y5 y6 y7 y8 y9 y10 y11))
 | 0=>fun _ _ _ _ _ _ _ _ _ _ _ _ r h=>by simp[grottoref03_Mul.j0] at h
 | k+1=>by
  have ih0:=grottoref03_Mul.mono_l k
  intros;unfold grottoref03_Mul.j0;repeat' first|(with_reducible first|apply ih0|apply grottoref02_Inf.mono|apply grottoref02_NaN.mono|apply grottoref02_NatOf.mono|apply grottoref02_Near.mono|apply grottoref02_Times.mono|apply grottoref03_open.mono|exact LeO.refl _|exact LeO.none _|refine LeO.ite ?_ ?_|refine LeO.bind ?_ (fun _=>?_))|refine LeO.ite ?_ ?_|refine LeO.bind ?_ (fun _=>?_)
theorem grottoref03_Mul.mono:∀ a0 a1 a2 a3 k,LeO (grottoref03_Mul.f k a0 a1 a2 a3) (grottoref03_Mul.f (k+1) a0 a1 a2 a3):=by
 intro a0 a1 a2 a3 k
 have ih0:=grottoref03_Mul.mono_l k
 unfold grottoref03_Mul.f
 repeat' first|(with_reducible first|apply ih0|apply grottoref02_Inf.mono|apply grottoref02_NaN.mono|apply grottoref02_NatOf.mono|apply grottoref02_Near.mono|apply grottoref02_Times.mono|apply grottoref03_open.mono|exact LeO.refl _|exact LeO.none _|refine LeO.ite ?_ ?_|refine LeO.bind ?_ (fun _=>?_))|refine LeO.ite ?_ ?_|refine LeO.bind ?_ (fun _=>?_)
def grottoref03_Mul.T9:Bool×List (List Nat×List Nat):=(true,[([],[]),([],[]),([],[]),([2],[2]),([3],[3]),([],[]),([5],[5]),([6,4],[6]),([4,7,7],[4,7]),([8],[]),([],[]),([10],[10]),([],[]),([12],[12]),([11,13],[11,13]),([0,1,8,9,14,9],[0,1,8,9,14]),([15,15,0,1,2,3,4,5,6,7,8,9,10,11,12,13,14,15],[15]),([16,0,1,2,3,4,5,6,7,8,9,10,11,12,13,14,15,16],[])])
def grottoref03_Mul.B9:List Nat:=[0,0,0,4,12,0,32,124,252,508,0,1024,0,4096,15360,32767,65535,131071]
theorem grottoref03_Mul.tab9:rtab .any (opsOf Try.f33 9)=grottoref03_Mul.T9:=by kernel_rfl
theorem grottoref03_Mul.bits9:waitsOk grottoref03_Mul.T9.2 grottoref03_Mul.B9=true:=by kernel_rfl
set_option maxHeartbeats 8000000 in
set_option maxRecDepth 100000 in
theorem grottoref03_Mul.calls {k:Nat} {q:Int} {s:Int} {a1:Int} {a2:Int} {r1:Int} {r2:Int} {w:World} (h:grottoref03_Mul.f k q s a1 a2=some (r1,r2)) :
  Calls Try.prog 33 #[.agg #[.int .i64 q,.int .i64 s],.int .u64 a1,.int .u64 a2] w fun e w'=>e=.returned (.tuple #[.int .u64 r1,.int .i64 r2])∧Below w.heap.size w w':=by
 have hu23:=Try.underlying23
 have hu34:=Try.underlying34
 have HB:=Aside0.mk (Below.refl w.heap.size w)
 have H:=h
 unfold grottoref03_Mul.f at H
 clear h
 obtain⟨⟨C,F,L,Q,D,G,M,R,bx⟩,A4,H⟩:=oB H
 try dsimp only at H
 by_cases c5:bx=0
 rotate_left
 ·rw[if_neg c5] at H
  obtain⟨aJ,aK⟩:=zf c5
  simp only[Option.some.injEq,Prod.mk.injEq] at H
  obtain⟨rfl,rfl⟩:=H
  go_enter Try.func33,Try.ntmps33
  go_wp2_with (first|((with_reducible refine gate_dst (N:=3) rfl ?_);refine zbox (N:=3) (cs:=#[.int .i64 q,.int .i64 s]) (t:=23) ?_;intro z hg fV hbox hb;have c:=Aside0.mk hbox;have aQ:=zge hg HB;have aR:=zge hg HB;replace HB:=zbs HB hb;clear hb hbox hg;obtain⟨bd,be,bf,bg⟩:=zc2 c)|((with_reducible refine gate_callee (f:=53) rfl ?_);refine zgc (some 16) Try.func53 (grottoref03_open.calls A4.out) ?_;intro fG hb;obtain⟨c,HB⟩:=zu1 c HB hb;clear hb)|((with_reducible refine gate_dst (N:=8) rfl ?_);refine zbox (N:=8) (cs:=#[.int .i64 0,.bool false,.int .i64 0,.int .u64 0]) (t:=34) ?_;intro v hg fH hbox hb;have b:=Aside0.mk hbox;have aS:=zge hg HB;have aT:=zge hg HB;have I:=znl hg c;have j:=zng hg c;obtain⟨c,HB⟩:=zu1 c HB hb;clear hb hbox hg)|((with_reducible refine gate_dst (N:=9) rfl ?_);refine zbox (N:=9) (cs:=#[.int .i64 0,.bool false,.int .i64 0,.int .u64 0]) (t:=34) ?_;intro y hg fI hbox hb;have d:=Aside0.mk hbox;have aU:=zge hg HB;have aV:=zge hg HB;have B:=znl hg c;have m:=zng hg c;have l:=znl hg b;have U:=zng hg b;obtain⟨c,b,HB⟩:=zu2 c b HB hb;clear hb hbox hg;obtain⟨eg,eh⟩:=z2 j;obtain⟨ei,ej⟩:=z2 l;obtain⟨bh,bi,bj,bk,bl,bm,bn,bo⟩:=zc4 b;obtain⟨ek,el⟩:=z2 m;obtain⟨bp,bq,br,bs,bt,bu,bv,bw⟩:=zc4 d))
  go_ret2
  exact zr HB

 rw[if_pos c5] at H
 obtain⟨aJ,aK⟩:=zt c5
 clear c5
 have aP:=Aside0.mk H
 clear H
 go_enter Try.func33,Try.ntmps33
 go_upto_region 5 with (first|((with_reducible refine gate_dst (N:=3) rfl ?_);refine zbox (N:=3) (cs:=#[.int .i64 q,.int .i64 s]) (t:=23) ?_;intro z hg w7 hbox hb;have c:=Aside0.mk hbox;have aQ:=zge hg HB;have aR:=zge hg HB;replace HB:=zbs HB hb;clear hb hbox hg;obtain⟨aE,aF,aG,aH⟩:=zc2 c)|((with_reducible refine gate_callee (f:=53) rfl ?_);refine zgc (some 16) Try.func53 (grottoref03_open.calls A4.out) ?_;intro w9 hb;obtain⟨c,HB⟩:=zu1 c HB hb;clear hb)|((with_reducible refine gate_dst (N:=8) rfl ?_);refine zbox (N:=8) (cs:=#[.int .i64 0,.bool false,.int .i64 0,.int .u64 0]) (t:=34) ?_;intro v hg fJ hbox hb;have b:=Aside0.mk hbox;have aS:=zge hg HB;have aT:=zge hg HB;have I:=znl hg c;have j:=zng hg c;obtain⟨c,HB⟩:=zu1 c HB hb;clear hb hbox hg)|((with_reducible refine gate_dst (N:=9) rfl ?_);refine zbox (N:=9) (cs:=#[.int .i64 0,.bool false,.int .i64 0,.int .u64 0]) (t:=34) ?_;intro y hg fK hbox hb;have d:=Aside0.mk hbox;have aU:=zge hg HB;have aV:=zge hg HB;have B:=znl hg c;have m:=zng hg c;have l:=znl hg b;have U:=zng hg b;obtain⟨c,b,HB⟩:=zu2 c b HB hb;clear hb hbox hg;obtain⟨eo,ep⟩:=z2 j;obtain⟨eq,er⟩:=z2 l;obtain⟨X,Y,Z,aa,ab,ac,ad,ae⟩:=zc4 b;obtain⟨es,et⟩:=z2 m;obtain⟨af,ag,ah,ai,aj,ak,al,am⟩:=zc4 d))
 (try simp only[Act.put,List.setIfInBounds_toArray,List.set_cons_zero,List.set_cons_succ])
 go_cut [28] (fun v28 wc=>∃ (kq:Nat) (O:Bool),v28=.bool O∧Aside0 (grottoref03_Mul.j0 kq (F != G) O q s C F L Q D G M R=some (r1,r2))∧Aside0 (kq≤k)∧Aside0 (wc.heap[z]?=some (.cells #[.int .i64 q,.int .i64 s] 23 (0,0)))∧Aside0 (wc.heap[v]?=some (.cells #[.int .i64 C,.bool F,.int .i64 L,.int .u64 Q] 34 (0,0)))∧Aside0 (wc.heap[y]?=some (.cells #[.int .i64 D,.bool G,.int .i64 M,.int .u64 R] 34 (0,0)))∧Aside0 (Below w.heap.size w wc))
 case first =>
  have H:=aP.out
  clear aP
  by_cases an:C=4
  ·rw[if_pos an] at H
   obtain⟨J,aW⟩:=zt an
   clear an
   (first|rw[J]|(simp only[i64_w,i32_w];rw[J])|skip)
   have H':=Aside0.mk H
   clear H
   obtain⟨eu,ev⟩:=z2 j
   obtain⟨ew,ex⟩:=z2 l
   obtain⟨bA,bB,bC,bD,bE,bF,bG,bH⟩:=zc4 b
   go_wp2
   go_meet
   case rel=>exact⟨_,(true),(by first|rfl|(simp[*];done)),H',⟨by omega⟩,⟨zk c⟩,⟨zkp b⟩,⟨zkp d⟩,⟨zb HB⟩⟩
  rw[if_neg an] at H
  obtain⟨J,aW⟩:=zf an
  (first|rw[J]|(simp only[i64_w,i32_w];rw[J])|skip)
  by_cases ao:D=4
  ·rw[if_pos ao] at H
   obtain⟨aX,aY⟩:=zt ao
   clear ao
   have H':=Aside0.mk H
   clear H
   obtain⟨ey,ez⟩:=z2 j
   obtain⟨eA,eB⟩:=z2 l
   obtain⟨bI,bJ,bK,bL,bM,bN,bO,bP⟩:=zc4 b
   obtain⟨eC,eD⟩:=z2 m
   obtain⟨bQ,bR,bS,bT,bU,bV,bW,bX⟩:=zc4 d
   go_wp2
   go_meet
   case rel=>exact⟨_,(true),(by first|rfl|(simp[*];done)),H',⟨by omega⟩,⟨zk c⟩,⟨zkp b⟩,⟨zkp d⟩,⟨zb HB⟩⟩
  rw[if_neg ao] at H
  obtain⟨aX,aY⟩:=zf ao
  by_cases ap:C=3
  ·rw[if_pos ap] at H
   obtain⟨aZ,a0⟩:=zt ap
   clear ap
   by_cases aq:D=1
   ·rw[if_pos aq] at H
    obtain⟨a3,a4⟩:=zt aq
    clear aq
    have H':=Aside0.mk H
    clear H
    obtain⟨eE,eF⟩:=z2 j
    obtain⟨eG,eH⟩:=z2 l
    obtain⟨bY,bZ,b0,b1,b2,b3,b4,b5⟩:=zc4 b
    obtain⟨eI,eJ⟩:=z2 m
    obtain⟨b6,b7,b8,b9,ca,cb,cc,cd⟩:=zc4 d
    go_wp2
    go_meet
    case rel=>exact⟨_,(true),(by first|rfl|(simp[*];done)),H',⟨by omega⟩,⟨zk c⟩,⟨zkp b⟩,⟨zkp d⟩,⟨zb HB⟩⟩
   rw[if_neg aq] at H
   obtain⟨a3,a4⟩:=zf aq
   by_cases ar:C=1
   ·rw[if_pos ar] at H
    obtain⟨a5,a6⟩:=zt ar
    clear ar
    have H':=Aside0.mk H
    clear H
    obtain⟨eK,eL⟩:=z2 j
    obtain⟨eM,eN⟩:=z2 l
    obtain⟨ce,cf,cg,ch,ci,cj,ck,cl⟩:=zc4 b
    obtain⟨eO,eP⟩:=z2 m
    obtain⟨cm,cn,co,cp,cq,cr,ct,cu⟩:=zc4 d
    go_wp2
    go_meet
    case rel=>exact⟨_,((D==3)),(by first|rfl|(simp[*];done)),H',⟨by omega⟩,⟨zk c⟩,⟨zkp b⟩,⟨zkp d⟩,⟨zb HB⟩⟩
   rw[if_neg ar] at H
   obtain⟨a5,a6⟩:=zf ar
   have H':=Aside0.mk H
   clear H
   obtain⟨eQ,eR⟩:=z2 j
   obtain⟨eS,eT⟩:=z2 l
   obtain⟨cv,cw,cx,cy,cz,cA,cB,cC⟩:=zc4 b
   obtain⟨eU,eV⟩:=z2 m
   obtain⟨cD,cE,cF,cG,cH,cI,cJ,cK⟩:=zc4 d
   go_wp2
   go_meet
   case rel=>exact⟨_,(false),(by first|rfl|(simp[*];done)),H',⟨by omega⟩,⟨zk c⟩,⟨zkp b⟩,⟨zkp d⟩,⟨zb HB⟩⟩
  rw[if_neg ap] at H
  obtain⟨aZ,a0⟩:=zf ap
  by_cases au:C=1
  ·rw[if_pos au] at H
   obtain⟨a7,a8⟩:=zt au
   clear au
   have H':=Aside0.mk H
   clear H
   obtain⟨eW,eX⟩:=z2 j
   obtain⟨eY,eZ⟩:=z2 l
   obtain⟨cL,cM,cN,cO,cP,cQ,cR,cS⟩:=zc4 b
   obtain⟨e0,e1⟩:=z2 m
   obtain⟨cT,cU,cV,cW,cX,cY,cZ,c0⟩:=zc4 d
   go_wp2
   go_meet
   case rel=>exact⟨_,((D==3)),(by first|rfl|(simp[*];done)),H',⟨by omega⟩,⟨zk c⟩,⟨zkp b⟩,⟨zkp d⟩,⟨zb HB⟩⟩
  rw[if_neg au] at H
  obtain⟨a7,a8⟩:=zf au
  have H':=Aside0.mk H
  clear H
  obtain⟨e2,e3⟩:=z2 j
  obtain⟨e4,e5⟩:=z2 l
  obtain⟨c1,c2,c3,c4,c6,c7,c8,c9⟩:=zc4 b
  obtain⟨e6,e7⟩:=z2 m
  obtain⟨da,db,dc,dd,de,df,dg,dh⟩:=zc4 d
  go_wp2
  go_meet
  case rel=>exact⟨_,(false),(by first|rfl|(simp[*];done)),H',⟨by omega⟩,⟨zk c⟩,⟨zkp b⟩,⟨zkp d⟩,⟨zb HB⟩⟩
 case rest =>
  clear aP
  try clear aJ aK X Y Z aa af ag ah ai aE aF ab ac ad ae aj ak al am aG aH
  obtain⟨kq,O,rfl,HA,fL,c,b,d,HB⟩:=hcut
  cases kq with
  | zero=>exact absurd HA.out (by simp[grottoref03_Mul.j0])
  | succ di =>
   have H:=HA.out
   clear HA
   simp only[grottoref03_Mul.j0] at H
   by_cases aI:O=true
   ·subst aI
    rw[if_pos rfl] at H
    obtain⟨fD,e8,H⟩:=oB H
    simp only[Option.some.injEq,Prod.mk.injEq] at H
    obtain⟨rfl,rfl⟩:=H
    obtain⟨e9,fa⟩:=z2 I
    obtain⟨fb,fc⟩:=z2 B
    obtain⟨dj,dk,dl,dm⟩:=zc2 c
    go_wp2_with (first|((with_reducible refine gate_callee (f:=21) rfl ?_);refine zgc (some 58) Try.func21 (grottoref02_NaN.calls e8.out) ?_;intro fM hb;obtain⟨c,b,d,HB⟩:=zu3 c b d HB hb;clear hb))
    go_ret2
    exact zr HB
   replace aI:=Bool.eq_false_iff.mpr aI
   subst aI
   rw[if_neg nft] at H
   by_cases av:C=3
   ·rw[if_pos av] at H
    obtain⟨a9,ba⟩:=zt av
    clear av
    obtain⟨fE,fd,H⟩:=oB H
    simp only[Option.some.injEq,Prod.mk.injEq] at H
    obtain⟨rfl,rfl⟩:=H
    obtain⟨fe,ff⟩:=z2 j
    obtain⟨fg,fh⟩:=z2 l
    obtain⟨dn,dp,dq,dr,dt,du,dv,dw⟩:=zc4 b
    obtain⟨fi,fj⟩:=z2 B
    obtain⟨dx,dy,dz,dA⟩:=zc2 c
    go_wp2_with (first|((with_reducible refine gate_callee (f:=67) rfl ?_);refine zgc (some 70) Try.func67 (grottoref02_Inf.calls fd.out) ?_;intro fN hb;obtain⟨c,b,d,HB⟩:=zu3 c b d HB hb;clear hb))
    go_ret2
    exact zr HB
   rw[if_neg av] at H
   obtain⟨a9,ba⟩:=zf av
   by_cases aw:D=3
   ·rw[if_pos aw] at H
    obtain⟨bb,bc⟩:=zt aw
    clear aw
    obtain⟨fF,fk,H⟩:=oB H
    simp only[Option.some.injEq,Prod.mk.injEq] at H
    obtain⟨rfl,rfl⟩:=H
    obtain⟨fl,fm⟩:=z2 j
    obtain⟨fn,fo⟩:=z2 l
    obtain⟨dB,dC,dD,dE,dF,dG,dH,dI⟩:=zc4 b
    obtain⟨fp,fq⟩:=z2 m
    obtain⟨dJ,dK,dL,dM,dN,dO,dP,dQ⟩:=zc4 d
    obtain⟨dR,dS,dT,dU⟩:=zc2 c
    go_wp2_with (first|((with_reducible refine gate_callee (f:=67) rfl ?_);refine zgc (some 70) Try.func67 (grottoref02_Inf.calls fk.out) ?_;intro fO hb;obtain⟨c,b,d,HB⟩:=zu3 c b d HB hb;clear hb))
    go_ret2
    exact zr HB
   rw[if_neg aw] at H
   obtain⟨bb,bc⟩:=zf aw
   obtain⟨V,fr,H⟩:=oB H
   obtain⟨W,fs,H⟩:=oB H
   obtain⟨ax,ft,H⟩:=oB H
   obtain⟨T,fu,H⟩:=oB H
   obtain⟨dV,fv,H⟩:=oB H
   simp only[Option.some.injEq,Prod.mk.injEq] at H
   obtain⟨rfl,rfl⟩:=H
   obtain⟨fw,fx⟩:=z2 j
   obtain⟨fy,fz⟩:=z2 l
   obtain⟨dW,dX,dY,dZ,d0,d1,d2,d3⟩:=zc4 b
   obtain⟨fA,fB⟩:=z2 m
   obtain⟨d4,d5,d6,d7,d8,d9,ea,eb⟩:=zc4 d
   try go_wp2
   replace c:=Aside0.mk (blk_drew c.out)
   replace b:=Aside0.mk (blk_drew b.out)
   replace d:=Aside0.mk (blk_drew d.out)
   replace HB:=Aside0.mk (below_drew1 HB.out)
   refine start_ (n:=18) (S:=fun w'=>w'.cell? ⟨z,0,none⟩=some (.int .i64 q)∧w'.cell? ⟨z,1,none⟩=some (.int .i64 s)∧w'.cell? ⟨v,0,none⟩=some (.int .i64 C)∧w'.cell? ⟨v,1,none⟩=some (.bool F)∧w'.cell? ⟨v,2,none⟩=some (.int .i64 L)∧w'.cell? ⟨v,3,none⟩=some (.int .u64 Q)∧w'.cell? ⟨y,0,none⟩=some (.int .i64 D)∧w'.cell? ⟨y,1,none⟩=some (.bool G)∧w'.cell? ⟨y,2,none⟩=some (.int .i64 M)∧w'.cell? ⟨y,3,none⟩=some (.int .u64 R)) (ds:=[]) #[false,false,false,false,false,false,false,false,false,false,false,false,false,false,false,false,false,false] (by kernel_rfl) rfl rfl ⟨(blk_cell c.out 0).trans rfl,(blk_cell c.out 1).trans rfl,(blk_cell b.out 0).trans rfl,(blk_cell b.out 1).trans rfl,(blk_cell b.out 2).trans rfl,(blk_cell b.out 3).trans rfl,(blk_cell d.out 0).trans rfl,(blk_cell d.out 1).trans rfl,(blk_cell d.out 2).trans rfl,(blk_cell d.out 3).trans rfl⟩ (fun hHeld=>?_);refine with_tabW grottoref03_Mul.tab9 grottoref03_Mul.bits9 (fun HT_ HW_=>?_)
   generalize wc.drew=fP at c b d HB hHeld ⊢
   refine zpure_ (i:=1) (N:=some 72) #[false,true,false,false,false,false,false,false,false,false,false,false,false,false,false,false,false,false] (any_of HT_.out (by kernel_rfl)) ?_
   refine zpure_ (i:=2) (N:=some 73) #[false,true,true,false,false,false,false,false,false,false,false,false,false,false,false,false,false,false] (any_of HT_.out (by kernel_rfl)) ?_
   refine zpure_ (i:=5) (N:=some 76) #[false,true,true,false,false,true,false,false,false,false,false,false,false,false,false,false,false,false] (any_of HT_.out (by kernel_rfl)) ?_
   refine zpure_ (i:=10) (N:=some 81) #[false,true,true,false,false,true,false,false,false,false,true,false,false,false,false,false,false,false] (any_of HT_.out (by kernel_rfl)) ?_
   refine zpure_ (i:=12) (N:=some 83) #[false,true,true,false,false,true,false,false,false,false,true,false,true,false,false,false,false,false] (any_of HT_.out (by kernel_rfl)) ?_
   refine ztake_ (i:=0) (N:=some 71) #[true,true,true,false,false,true,false,false,false,false,true,false,true,false,false,false,false,false] rfl (take_ofW HT_.out HW_.out (by kernel_rfl)) hHeld (Or.inl ⟨by rfl,by rintro w' ⟨s0,s1,s2,s3,s4,s5,s6,s7,s8,s9⟩;go_simp;with_reducible rfl⟩) ?_
   refine ztake_ (i:=3) (N:=some 74) #[true,true,true,true,false,true,false,false,false,false,true,false,true,false,false,false,false,false] rfl (take_ofW HT_.out HW_.out (by kernel_rfl)) hHeld (Or.inl ⟨by rfl,by rintro w' ⟨s0,s1,s2,s3,s4,s5,s6,s7,s8,s9⟩;go_simp;with_reducible rfl⟩) ?_
   refine ztake_ (i:=6) (N:=some 77) #[true,true,true,true,false,true,true,false,false,false,true,false,true,false,false,false,false,false] rfl (take_ofW HT_.out HW_.out (by kernel_rfl)) hHeld (Or.inl ⟨by rfl,by rintro w' ⟨s0,s1,s2,s3,s4,s5,s6,s7,s8,s9⟩;go_simp;with_reducible rfl⟩) ?_
   refine ztake_ (i:=11) (N:=some 82) #[true,true,true,true,false,true,true,false,false,false,true,true,true,false,false,false,false,false] rfl (take_ofW HT_.out HW_.out (by kernel_rfl)) hHeld (Or.inl ⟨by rfl,by rintro w' ⟨s0,s1,s2,s3,s4,s5,s6,s7,s8,s9⟩;go_simp;with_reducible rfl⟩) ?_
   refine ztake_ (i:=13) (N:=some 84) #[true,true,true,true,false,true,true,false,false,false,true,true,true,true,false,false,false,false] rfl (take_ofW HT_.out HW_.out (by kernel_rfl)) hHeld (Or.inl ⟨by rfl,by rintro w' ⟨s0,s1,s2,s3,s4,s5,s6,s7,s8,s9⟩;go_simp;with_reducible rfl⟩) ?_
   refine zpure_ (i:=14) (N:=some 85) #[true,true,true,true,false,true,true,false,false,false,true,true,true,true,true,false,false,false] (any_of HT_.out (by kernel_rfl)) ?_
   refine one_ (i:=4) (N:=some 75) #[true,true,true,true,true,true,true,false,false,false,true,true,true,true,true,false,false,false] rfl rfl (one_of HT_.out (by kernel_rfl)) (by decide) (fun K hK=>?_)
   refine goes_ Try.func72 (by kernel_rfl) rfl #[.int .u64 Q] (by rfl) rfl rfl (by (try simp only[List.map_toArray,List.map_cons,List.map_nil]);first|done|rfl|(simp only[List.length_drop,List.length_take];rfl)) ?_
   with_reducible refine (grottoref02_NatOf.calls fr.out).mono ?_
   rintro e fQ ⟨v935,rfl,ho0,hb⟩
   refine⟨_,rfl,?_⟩
   have p:=Aside0.mk (Kd.R_lower ho0 (below_size (zb HB)))
   obtain⟨c,b,d,HB⟩:=zu3 c b d HB hb
   try clear hb
   (try clear ho0)
   refine hK.out _ _ ⟨(blk_cell c.out 0).trans rfl,(blk_cell c.out 1).trans rfl,(blk_cell b.out 0).trans rfl,(blk_cell b.out 1).trans rfl,(blk_cell b.out 2).trans rfl,(blk_cell b.out 3).trans rfl,(blk_cell d.out 0).trans rfl,(blk_cell d.out 1).trans rfl,(blk_cell d.out 2).trans rfl,(blk_cell d.out 3).trans rfl⟩ (fun hHeld=>?_)
   clear hK K
   refine norm_ (a':=?_) ?_ ?_
   rotate_left
   ·show Act.put _ (some 75) _=_
    simp only[Act.put,List.setIfInBounds_toArray,List.set_cons_zero,List.set_cons_succ,i64_w,i32_w]
    rfl
   refine one_ (i:=7) (N:=some 78) #[true,true,true,true,true,true,true,true,false,false,true,true,true,true,true,false,false,false] rfl rfl (one_of HT_.out (by kernel_rfl)) (by decide) (fun K hK=>?_)
   refine goes_ Try.func72 (by kernel_rfl) rfl #[.int .u64 R] (by rfl) rfl rfl (by (try simp only[List.map_toArray,List.map_cons,List.map_nil]);first|done|rfl|(simp only[List.length_drop,List.length_take];rfl)) ?_
   with_reducible refine (grottoref02_NatOf.calls fs.out).mono ?_
   rintro e fR ⟨v938,rfl,ho0,hb⟩
   refine⟨_,rfl,?_⟩
   have u:=Aside0.mk (Kd.R_lower (Kd.R_new' ho0 (Kd.R_lt (by (with_reducible repeat (first|apply Kd.R_alloc|apply Kd.R_drewN|apply Kd.R_drew));exact p.out))) (below_size (zb HB)))
   replace p:=Aside0.mk (Kd.R_elder' (by (with_reducible repeat (first|apply Kd.R_alloc|apply Kd.R_drewN|apply Kd.R_drew));exact p.out) (Kd.R_base ho0) hb)
   obtain⟨c,b,d,HB⟩:=zu3 c b d HB hb
   try clear hb
   (try clear ho0)
   obtain⟨ay,az,aL⟩:=Kd.R_slice p.out
   (first|subst aL|(injection aL with f1_ f2_ f3_;have f4_:=f1_.symm;have f5_:=f3_.symm;clear f1_ f2_ f3_;subst f4_;subst f5_))
   obtain⟨aA,aB,aM⟩:=Kd.R_slice u.out
   (first|subst aM|(injection aM with f1_ f2_ f3_;have f4_:=f1_.symm;have f5_:=f3_.symm;clear f1_ f2_ f3_;subst f4_;subst f5_))
   refine hK.out _ _ ⟨(blk_cell c.out 0).trans rfl,(blk_cell c.out 1).trans rfl,(blk_cell b.out 0).trans rfl,(blk_cell b.out 1).trans rfl,(blk_cell b.out 2).trans rfl,(blk_cell b.out 3).trans rfl,(blk_cell d.out 0).trans rfl,(blk_cell d.out 1).trans rfl,(blk_cell d.out 2).trans rfl,(blk_cell d.out 3).trans rfl⟩ (fun hHeld=>?_)
   clear hK K
   refine norm_ (a':=?_) ?_ ?_
   rotate_left
   ·show Act.put _ (some 78) _=_
    simp only[Act.put,List.setIfInBounds_toArray,List.set_cons_zero,List.set_cons_succ,i64_w,i32_w]
    rfl
   refine one_ (i:=8) (N:=some 79) #[true,true,true,true,true,true,true,true,true,false,true,true,true,true,true,false,false,false] rfl rfl (one_of HT_.out (by kernel_rfl)) (by decide) (fun K hK=>?_)
   refine goes_ Try.func76 (by kernel_rfl) rfl #[.slice ay V.length az,.slice aA W.length aB] (by rfl) rfl rfl (by (try simp only[List.map_toArray,List.map_cons,List.map_nil]);first|done|rfl|(simp only[List.length_drop,List.length_take];rfl)) ?_
   with_reducible refine (grottoref02_Times.calls di _ _ V _ _ W ax _ ?side1 ?side2 ?side3 ?side4 ft.out).mono ?_
   (case side1=>repeat (first|exact (Kd.R_reads' p.out).2.2|(with_reducible refine Kd.C_alloc ?_ _)|(with_reducible refine Kd.C_drewN ?_ _)|(with_reducible refine Kd.C_drew ?_)))
   (case side2=>exact (Kd.R_reads' p.out).2.1)
   (case side3=>repeat (first|exact (Kd.R_reads' u.out).2.2|(with_reducible refine Kd.C_alloc ?_ _)|(with_reducible refine Kd.C_drewN ?_ _)|(with_reducible refine Kd.C_drew ?_)))
   (case side4=>exact (Kd.R_reads' u.out).2.1)
   rintro e fS ⟨v941,rfl,ho0,hb⟩
   refine⟨_,rfl,?_⟩
   have E:=Aside0.mk (Kd.V_lower (Kd.V_mono (ok':=fun k_=>some k_≠(.slice ay V.length az:Value).ownBlock∧some k_≠(.slice aA W.length aB:Value).ownBlock∧k_≠z∧k_≠v∧k_≠y) ho0 (fun k_ hk_=>⟨(Kd.fresh' (Kd.R_lt (by (with_reducible repeat (first|apply Kd.R_alloc|apply Kd.R_drewN|apply Kd.R_drew));exact p.out)) k_ hk_),(Kd.fresh' (Kd.R_lt (by (with_reducible repeat (first|apply Kd.R_alloc|apply Kd.R_drewN|apply Kd.R_drew));exact u.out)) k_ hk_),(Kd.freshB (g:=z) (o:=.cells #[.int .i64 q,.int .i64 s] 23 (0,0)) (zk c) k_ hk_),(Kd.freshB (g:=v) (o:=.cells #[.int .i64 C,.bool F,.int .i64 L,.int .u64 Q] 34 (0,0)) (zk b) k_ hk_),(Kd.freshB (g:=y) (o:=.cells #[.int .i64 D,.bool G,.int .i64 M,.int .u64 R] 34 (0,0)) (zk d) k_ hk_)⟩)) (below_size (zb HB)))
   replace p:=Aside0.mk (Kd.R_below (by (with_reducible repeat (first|apply Kd.R_alloc|apply Kd.R_drewN|apply Kd.R_drew));exact p.out) hb)
   replace u:=Aside0.mk (Kd.R_below (by (with_reducible repeat (first|apply Kd.R_alloc|apply Kd.R_drewN|apply Kd.R_drew));exact u.out) hb)
   obtain⟨c,b,d,HB⟩:=zu3 c b d HB hb
   try clear hb
   (try clear ho0)
   refine hK.out _ _ ⟨(blk_cell c.out 0).trans rfl,(blk_cell c.out 1).trans rfl,(blk_cell b.out 0).trans rfl,(blk_cell b.out 1).trans rfl,(blk_cell b.out 2).trans rfl,(blk_cell b.out 3).trans rfl,(blk_cell d.out 0).trans rfl,(blk_cell d.out 1).trans rfl,(blk_cell d.out 2).trans rfl,(blk_cell d.out 3).trans rfl⟩ (fun hHeld=>?_)
   clear hK K
   refine norm_ (a':=?_) ?_ ?_
   rotate_left
   ·show Act.put _ (some 79) _=_
    simp only[Act.put,List.setIfInBounds_toArray,List.set_cons_zero,List.set_cons_succ,i64_w,i32_w]
    rfl
   refine one_ (i:=9) (N:=some 80) #[true,true,true,true,true,true,true,true,true,true,true,true,true,true,true,false,false,false] rfl rfl (one_of HT_.out (by kernel_rfl)) (by decide) (fun K hK=>?_)
   refine goes_ Try.func58 (by kernel_rfl) rfl #[] (by rfl) rfl rfl (by (try simp only[List.map_toArray,List.map_cons,List.map_nil]);first|done|rfl|(simp only[List.length_drop,List.length_take];rfl)) ?_
   with_reducible refine (grottoref03_one.calls  T _ fu.out).mono ?_
   rintro e fT ⟨v944,rfl,ho0,hb⟩
   refine⟨_,rfl,?_⟩
   have P:=Aside0.mk (Kd.R_lower (Kd.R_new' (Kd.R_new' ho0 (Kd.R_lt (by (with_reducible repeat (first|apply Kd.R_alloc|apply Kd.R_drewN|apply Kd.R_drew));exact p.out))) (Kd.R_lt (by (with_reducible repeat (first|apply Kd.R_alloc|apply Kd.R_drewN|apply Kd.R_drew));exact u.out))) (below_size (zb HB)))
   replace p:=Aside0.mk (Kd.R_elder' (by (with_reducible repeat (first|apply Kd.R_alloc|apply Kd.R_drewN|apply Kd.R_drew));exact p.out) (Kd.R_base ho0) hb)
   replace u:=Aside0.mk (Kd.R_elder' (by (with_reducible repeat (first|apply Kd.R_alloc|apply Kd.R_drewN|apply Kd.R_drew));exact u.out) (Kd.R_base ho0) hb)
   replace E:=Aside0.mk (Kd.V_elder' (by (with_reducible repeat (first|apply Kd.V_alloc|apply Kd.V_drewN|apply Kd.V_drew));exact E.out) (Kd.R_base ho0) hb)
   obtain⟨c,b,d,HB⟩:=zu3 c b d HB hb
   try clear hb
   (try clear ho0)
   obtain⟨ec,ed,aN⟩:=Kd.V_slice E.out
   (first|subst aN|(injection aN with f1_ f2_ f3_;have f4_:=f1_.symm;have f5_:=f3_.symm;clear f1_ f2_ f3_;subst f4_;subst f5_))
   obtain⟨aC,aD,aO⟩:=Kd.R_slice P.out
   (first|subst aO|(injection aO with f1_ f2_ f3_;have f4_:=f1_.symm;have f5_:=f3_.symm;clear f1_ f2_ f3_;subst f4_;subst f5_))
   refine hK.out _ _ ⟨(blk_cell c.out 0).trans rfl,(blk_cell c.out 1).trans rfl,(blk_cell b.out 0).trans rfl,(blk_cell b.out 1).trans rfl,(blk_cell b.out 2).trans rfl,(blk_cell b.out 3).trans rfl,(blk_cell d.out 0).trans rfl,(blk_cell d.out 1).trans rfl,(blk_cell d.out 2).trans rfl,(blk_cell d.out 3).trans rfl⟩ (fun hHeld=>?_)
   clear hK K
   refine norm_ (a':=?_) ?_ ?_
   rotate_left
   ·show Act.put _ (some 80) _=_
    simp only[Act.put,List.setIfInBounds_toArray,List.set_cons_zero,List.set_cons_succ,i64_w,i32_w]
    rfl
   refine one_ (i:=15) (N:=some 86) #[true,true,true,true,true,true,true,true,true,true,true,true,true,true,true,true,false,false] rfl rfl (one_of HT_.out (by kernel_rfl)) (by decide) (fun K hK=>?_)
   refine goes_ Try.func57 (by kernel_rfl) rfl #[.agg #[.int .i64 q,.int .i64 s],.bool (F != G),.slice ec ax.length ed,.slice aC T.length aD,.int .i64 (wrap64 (L+M))] (by rfl) rfl rfl (by (try simp only[List.map_toArray,List.map_cons,List.map_nil]);first|done|rfl|(simp only[List.length_drop,List.length_take];rfl)) ?_
   with_reducible refine (grottoref02_Near.calls di q s (F != G) (fun k_=>((some k_≠(.slice ay V.length az:Value).ownBlock∧(some k_≠(.slice aA W.length aB:Value).ownBlock∧(k_≠z∧(k_≠v∧k_≠y))))∧some k_≠(.slice aC T.length aD:Value).ownBlock)) _ _ ax (fun k_=>some k_=(.slice aC T.length aD:Value).ownBlock) _ _ T (wrap64 (L+M)) dV _ ?side1 ?side2 fv.out).mono ?_
   (case side1=>exact E.out)
   (case side2=>exact Kd.R_V (Kd.R_tight rfl (Kd.R_types (Kd.R_types (Kd.R_types (P.out) c.out (by decide)) b.out (by decide)) d.out (by decide))))
   rintro e fU ⟨rfl,hb⟩
   refine⟨_,rfl,?_⟩
   replace p:=Aside0.mk (Kd.R_below (by (with_reducible repeat (first|apply Kd.R_alloc|apply Kd.R_drewN|apply Kd.R_drew));exact p.out) hb)
   replace u:=Aside0.mk (Kd.R_below (by (with_reducible repeat (first|apply Kd.R_alloc|apply Kd.R_drewN|apply Kd.R_drew));exact u.out) hb)
   replace E:=Aside0.mk (Kd.V_below (by (with_reducible repeat (first|apply Kd.V_alloc|apply Kd.V_drewN|apply Kd.V_drew));exact E.out) hb)
   replace P:=Aside0.mk (Kd.R_below (by (with_reducible repeat (first|apply Kd.R_alloc|apply Kd.R_drewN|apply Kd.R_drew));exact P.out) hb)
   obtain⟨c,b,d,HB⟩:=zu3 c b d HB hb
   try clear hb
   refine hK.out _ _ ⟨(blk_cell c.out 0).trans rfl,(blk_cell c.out 1).trans rfl,(blk_cell b.out 0).trans rfl,(blk_cell b.out 1).trans rfl,(blk_cell b.out 2).trans rfl,(blk_cell b.out 3).trans rfl,(blk_cell d.out 0).trans rfl,(blk_cell d.out 1).trans rfl,(blk_cell d.out 2).trans rfl,(blk_cell d.out 3).trans rfl⟩ (fun hHeld=>?_)
   clear hK K
   refine norm_ (a':=?_) ?_ ?_
   rotate_left
   ·show Act.put _ (some 86) _=_
    simp only[Act.put,List.setIfInBounds_toArray,List.set_cons_zero,List.set_cons_succ,i64_w,i32_w]
    rfl
   refine zpure_ (i:=16) (N:=some 6) #[true,true,true,true,true,true,true,true,true,true,true,true,true,true,true,true,true,false] (any_of HT_.out (by kernel_rfl)) ?_
   refine zpure_ (i:=17) (N:=some 7) #[true,true,true,true,true,true,true,true,true,true,true,true,true,true,true,true,true,true] (any_of HT_.out (by kernel_rfl)) ?_
   refine done_ (done_of HT_.out (by kernel_rfl)) ?_
   try go_wp2
   go_ret2
   exact zr HB
end Go.Proofs.Ytmmbgbchimangaa.PQ
