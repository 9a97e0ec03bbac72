-- by a program of this claim
import Derived.Test.YtmmbgbchimangaaPQx0
import Derived.Test.YtmmbgbchimangaaPQx3
import Derived.Test.YtmmbgbchimangaaPQx4
import Derived.Test.YtmmbgbchimangaaPQx7
import Derived.Test.YtmmbgbchimangaaPQx8
import Derived.Test.YtmmbgbchimangaaPQx17
import Derived.Test.YtmmbgbchimangaaPQx19
import Derived.Test.YtmmbgbchimangaaPQx20
namespace Go.Proofs.Ytmmbgbchimangaa.PQ
open Go.RowKit Go.Proofs.YtmmbgbchimangaaW.PrintWords Go.Proofs.YtmmbgbchimangaaW.PrintLast Go.Proofs.YtmmbgbchimangaaW.PrintMore Go.Proofs.Ytmmbgbchimangaa.Z
attribute [local go_sem] max2_int min2_int max_two min_two max_three min_three max_four min_four   -- for this text's walks alone
set_option linter.unusedVariables false
set_option linter.unusedSimpArgs false

/-! ### grottolaw03_SoftExact: function 6 -/
mutual
def grottolaw03_SoftExact.j0:Nat→Int→Int→Bool→Int→Int→Option (Bool)
 | 0,_,_,_,_,_=>none
 | k+1,c,d,e,a,b=>if e=true then ((grottolaw03_live.f k).bind fun g=>(some g)) else ((grottoref03_Add.f k a b c c).bind fun h=>((grottoref03_Add.f k a b d d).bind fun i=>((grottoref03_Cmp.f k a b c i.1).bind fun j=>((grottoref03_Cmp.f k a b d h.1).bind fun l=>(if j.1>0 then (grottolaw03_SoftExact.j1 k c d true a b) else (grottolaw03_SoftExact.j1 k c d (decide (l.1>0)) a b))))))
def grottolaw03_SoftExact.j1:Nat→Int→Int→Bool→Int→Int→Option (Bool)
 | 0,_,_,_,_,_=>none
 | k+1,a,b,h,c,d=>if h=true then ((grottolaw03_live.f k).bind fun i=>(some i)) else ((soft_Sub.f k c d a b).bind fun e=>((soft_Add.f k c d e.1 b).bind fun g=>((grottolaw03_num.f e.2).bind fun j=>((grottolaw03_num.f g.2).bind fun l=>(if (wrap64 (j+l))=0 then (if g.1=a then ((grottolaw03_live.f k).bind fun m=>(some m)) else (some false)) else (some false))))))
end
def grottolaw03_SoftExact.f (k:Nat) (a0_0:Int) (a0_1:Int) (a1:Int) (a2:Int):Option (Bool):=(grottoref02_Open.f k a0_0 a0_1 a1).bind fun a=>((grottoref02_Open.f k a0_0 a0_1 a2).bind fun b=>(if a.2.2.2.2=0 then (if b.2.2.2.2=0 then (if a.1=2 then (if b.1=2 then (if a.2.1=true then (grottolaw03_SoftExact.j0 k a1 a2 true a0_0 a0_1) else (grottolaw03_SoftExact.j0 k a1 a2 b.2.1 a0_0 a0_1)) else (grottolaw03_SoftExact.j0 k a1 a2 true a0_0 a0_1)) else (grottolaw03_SoftExact.j0 k a1 a2 true a0_0 a0_1)) else (grottolaw03_SoftExact.j0 k a1 a2 true a0_0 a0_1)) else (grottolaw03_SoftExact.j0 k a1 a2 true a0_0 a0_1)))
theorem grottolaw03_SoftExact.mono_l:∀ k,(∀ y0 y1 y2 y3 y4,LeO (grottolaw03_SoftExact.j0 k y0 y1 y2 y3 y4) (grottolaw03_SoftExact.j0 (k+1) y0 y1 y2 y3 y4))∧(∀ y0 y1 y2 y3 y4,LeO (grottolaw03_SoftExact.j1 k y0 y1 y2 y3 y4) (grottolaw03_SoftExact.j1 (k+1) y0 y1 y2 y3 y4))
 | 0=>⟨fun _ _ _ _ _ r h=>by simp[grottolaw03_SoftExact.j0] at h,fun _ _ _ _ _ r h=>by simp[grottolaw03_SoftExact.j1] at h⟩
 | k+1=>by
  obtain⟨ih0,ih1⟩:=grottolaw03_SoftExact.mono_l k
  refine⟨?_,?_⟩ <;> intros <;> (first|unfold grottolaw03_SoftExact.j0|unfold grottolaw03_SoftExact.j1) <;> (repeat' first|(with_reducible first|apply ih0|apply ih1|apply grottolaw03_live.mono|apply grottoref02_Open.mono|apply grottoref03_Add.mono|apply grottoref03_Cmp.mono|apply soft_Add.mono|apply soft_Sub.mono|exact LeO.refl _|exact LeO.none _|refine LeO.ite ?_ ?_|refine LeO.bind ?_ (fun _=>?_))|refine LeO.ite ?_ ?_|refine LeO.bind ?_ (fun _=>?_))
theorem grottolaw03_SoftExact.mono:∀ a0 a1 a2 a3 k,LeO (grottolaw03_SoftExact.f k a0 a1 a2 a3) (grottolaw03_SoftExact.f (k+1) a0 a1 a2 a3):=by
 intro a0 a1 a2 a3 k
 obtain⟨ih0,ih1⟩:=grottolaw03_SoftExact.mono_l k
 unfold grottolaw03_SoftExact.f
 repeat' first|(with_reducible first|apply ih0|apply ih1|apply grottolaw03_live.mono|apply grottoref02_Open.mono|apply grottoref03_Add.mono|apply grottoref03_Cmp.mono|apply soft_Add.mono|apply soft_Sub.mono|exact LeO.refl _|exact LeO.none _|refine LeO.ite ?_ ?_|refine LeO.bind ?_ (fun _=>?_))|refine LeO.ite ?_ ?_|refine LeO.bind ?_ (fun _=>?_)
set_option maxHeartbeats 8000000 in
set_option maxRecDepth 100000 in
theorem grottolaw03_SoftExact.calls {k:Nat} {d:Int} {g:Int} {a1:Int} {a2:Int} {r:Bool} {w:World} (h:grottolaw03_SoftExact.f k d g a1 a2=some r) :
  Calls Try.prog 6 #[.agg #[.int .i64 d,.int .i64 g],.int .u64 a1,.int .u64 a2] w fun e w'=>e=.returned (.bool r)∧Below w.heap.size w w':=by
 have hu23:=Try.underlying23
 have hu34:=Try.underlying34
 have HB:=Aside0.mk (Below.refl w.heap.size w)
 have H:=h
 unfold grottolaw03_SoftExact.f at H
 clear h
 obtain⟨⟨X,Y,ak,al,b8⟩,A4,H⟩:=oB H
 try dsimp only at H
 obtain⟨⟨am,an,bW,bX,b9⟩,A5,H⟩:=oB H
 try dsimp only at H
 have bZ:=Aside0.mk H
 clear H
 go_enter Try.func6,Try.ntmps6
 go_upto_region 3 with (first|((with_reducible refine gate_dst (N:=3) rfl ?_);refine zbox (N:=3) (cs:=#[.int .i64 d,.int .i64 g]) (t:=23) ?_;intro ao hg w7 hbox hb;have a:=Aside0.mk hbox;have cI:=zge hg HB;have cJ:=zge hg HB;replace HB:=zbs HB hb;clear hb hbox hg;obtain⟨Z,aa,ab,ac⟩:=zc2 a)|((with_reducible refine gate_callee (f:=20) rfl ?_);refine zgc (some 28) Try.func20 (grottoref02_Open.calls A4.out) ?_;intro w9 hb;obtain⟨a,HB⟩:=zu1 a HB hb;clear hb)|((with_reducible refine gate_dst (N:=7) rfl ?_);refine zbox (N:=7) (cs:=#[.int .i64 0,.bool false,.int .i64 0,.int .u64 0]) (t:=34) ?_;intro ap hg dV hbox hb;have b:=Aside0.mk hbox;have cK:=zge hg HB;have cL:=zge hg HB;have j:=znl hg a;have i:=zng hg a;obtain⟨a,HB⟩:=zu1 a HB hb;clear hb hbox hg;obtain⟨cM,cN⟩:=z2 i;obtain⟨v,y,z,B,C,D,E,F⟩:=zc4 b;obtain⟨G,I,J,K⟩:=zc2 a)|((with_reducible refine gate_callee (f:=20) rfl ?_);refine zgc (some 34) Try.func20 (grottoref02_Open.calls A5.out) ?_;intro dW hb;replace a:=zkb a hb;replace b:=zkbo (o:=.cells #[.int .i64 X,.bool Y,.int .i64 ak,.int .u64 al] 34 (0,0)) b hb;replace HB:=zbs HB hb;clear hb)|((with_reducible refine gate_dst (N:=9) rfl ?_);refine zbox (N:=9) (cs:=#[.int .i64 0,.bool false,.int .i64 0,.int .u64 0]) (t:=34) ?_;intro aq hg dX hbox hb;have c:=Aside0.mk hbox;have cO:=zge hg HB;have cP:=zge hg HB;have l:=znl hg a;have m:=zng hg a;have n:=znl hg b;have W:=zng hg b;obtain⟨a,b,HB⟩:=zu2 a b HB hb;clear hb hbox hg;obtain⟨cQ,cR⟩:=z2 m;obtain⟨cS,cT⟩:=z2 W;obtain⟨L,M,O,P,Q,R,S,T⟩:=zc4 c))
 (try simp only[Act.put,List.setIfInBounds_toArray,List.set_cons_zero,List.set_cons_succ])
 go_cut [60] (fun v60 wc=>∃ (kq:Nat) (u:Bool),v60=.bool u∧Aside0 (grottolaw03_SoftExact.j0 kq a1 a2 u d g=some r)∧Aside0 (kq≤k)∧Aside0 (wc.heap[ao]?=some (.cells #[.int .i64 d,.int .i64 g] 23 (0,0)))∧Aside0 (wc.heap[ap]?=some (.cells #[.int .i64 X,.bool Y,.int .i64 ak,.int .u64 al] 34 (0,0)))∧Aside0 (wc.heap[aq]?=some (.cells #[.int .i64 am,.bool an,.int .i64 bW,.int .u64 bX] 34 (0,0)))∧Aside0 (Below w.heap.size w wc))
 case first =>
  have H:=bZ.out
  clear bZ
  by_cases ad:b8=0
  rotate_left
  ·rw[if_neg ad] at H
   obtain⟨p,ar⟩:=zf ad
   (first|rw[p]|(simp only[i64_w,i32_w];rw[p])|skip)
   have H':=Aside0.mk H
   clear H
   go_wp2
   go_meet
   case rel=>exact⟨_,(true),(by first|rfl|(simp[*];done)),H',⟨by omega⟩,⟨zk a⟩,⟨zk b⟩,⟨zkp c⟩,⟨zb HB⟩⟩
  rw[if_pos ad] at H
  obtain⟨p,ar⟩:=zt ad
  clear ad
  (first|rw[p]|(simp only[i64_w,i32_w];rw[p])|skip)
  by_cases ae:b9=0
  rotate_left
  ·rw[if_neg ae] at H
   obtain⟨au,av⟩:=zf ae
   have H':=Aside0.mk H
   clear H
   go_wp2
   go_meet
   case rel=>exact⟨_,(true),(by first|rfl|(simp[*];done)),H',⟨by omega⟩,⟨zk a⟩,⟨zk b⟩,⟨zkp c⟩,⟨zb HB⟩⟩
  rw[if_pos ae] at H
  obtain⟨au,av⟩:=zt ae
  clear ae
  by_cases af:X=2
  rotate_left
  ·rw[if_neg af] at H
   obtain⟨aw,ax⟩:=zf af
   have H':=Aside0.mk H
   clear H
   obtain⟨dh,di⟩:=z2 i
   obtain⟨dj,dk⟩:=z2 n
   obtain⟨bp,bq,br,bs,bt,bu,bv,bw⟩:=zc4 b
   go_wp2
   go_meet
   case rel=>exact⟨_,(true),(by first|rfl|(simp[*];done)),H',⟨by omega⟩,⟨zk a⟩,⟨zk b⟩,⟨zkp c⟩,⟨zb HB⟩⟩
  rw[if_pos af] at H
  obtain⟨aw,ax⟩:=zt af
  clear af
  by_cases ag:am=2
  ·rw[if_pos ag] at H
   obtain⟨ay,az⟩:=zt ag
   clear ag
   by_cases aA:Y=true
   ·subst aA
    rw[if_pos rfl] at H
    have H':=Aside0.mk H
    clear H
    obtain⟨cU,cV⟩:=z2 i
    obtain⟨cW,cX⟩:=z2 n
    obtain⟨aB,aC,aD,aE,aF,aG,aH,aI⟩:=zc4 b
    obtain⟨cY,cZ⟩:=z2 m
    obtain⟨aJ,aK,aL,aM,aN,aO,aP,aQ⟩:=zc4 c
    go_wp2
    go_meet
    case rel=>exact⟨_,(true),(by first|rfl|(simp[*];done)),H',⟨by omega⟩,⟨zk a⟩,⟨zk b⟩,⟨zkp c⟩,⟨zb HB⟩⟩
   replace aA:=Bool.eq_false_iff.mpr aA
   subst aA
   rw[if_neg nft] at H
   have H':=Aside0.mk H
   clear H
   obtain⟨c0,c5⟩:=z2 i
   obtain⟨c7,c8⟩:=z2 n
   obtain⟨aR,aS,aT,aU,aV,aW,aX,aY⟩:=zc4 b
   obtain⟨c9,da⟩:=z2 m
   obtain⟨aZ,a0,a3,a4,a5,a6,a7,a8⟩:=zc4 c
   go_wp2
   go_meet
   case rel=>exact⟨_,(an),(by first|rfl|(simp[*];done)),H',⟨by omega⟩,⟨zk a⟩,⟨zk b⟩,⟨zkp c⟩,⟨zb HB⟩⟩
  rw[if_neg ag] at H
  obtain⟨ay,az⟩:=zf ag
  have H':=Aside0.mk H
  clear H
  obtain⟨db,dc⟩:=z2 i
  obtain⟨dd,de⟩:=z2 n
  obtain⟨a9,ba,bb,bc,bd,be,bf,bg⟩:=zc4 b
  obtain⟨df,dg⟩:=z2 m
  obtain⟨bh,bi,bj,bk,bl,bm,bn,bo⟩:=zc4 c
  go_wp2
  go_meet
  case rel=>exact⟨_,(true),(by first|rfl|(simp[*];done)),H',⟨by omega⟩,⟨zk a⟩,⟨zk b⟩,⟨zkp c⟩,⟨zb HB⟩⟩
 case rest =>
  clear bZ
  try clear v y z B G I L M O P Z aa C D E F J K Q R S T ab ac
  obtain⟨kq,u,rfl,HA,ca,a,b,c,HB⟩:=hcut
  cases kq with
  | zero=>exact absurd HA.out (by simp[grottolaw03_SoftExact.j0])
  | succ cb =>
   have H:=HA.out
   clear HA
   simp only[grottolaw03_SoftExact.j0] at H
   by_cases bx:u=true
   ·subst bx
    rw[if_pos rfl] at H
    obtain⟨cc,dl,H⟩:=oB H
    obtain rfl:=Option.some.inj H
    go_wp2_with (first|((with_reducible refine gate_callee (f:=19) rfl ?_);refine zgc (some 61) Try.func19 (grottolaw03_live.calls cb  cc _ dl.out) ?_;intro dY hb;obtain⟨a,b,c,HB⟩:=zu3 a b c HB hb;clear hb))
    go_ret
    exact zr HB
   replace bx:=Bool.eq_false_iff.mpr bx
   subst bx
   rw[if_neg nft] at H
   obtain⟨⟨dJ,dK⟩,dm,H⟩:=oB H
   try dsimp only at H
   obtain⟨⟨dL,dM⟩,dn,H⟩:=oB H
   try dsimp only at H
   obtain⟨⟨bz,dN,dO⟩,dp,H⟩:=oB H
   try dsimp only at H
   obtain⟨⟨cd,dP,dQ⟩,dq,H⟩:=oB H
   try dsimp only at H
   have bA:=Aside0.mk H
   clear H
   obtain⟨dr,ds⟩:=z2 j
   obtain⟨dt,du⟩:=z2 l
   obtain⟨bB,bC,bD,bE⟩:=zc2 a
   go_upto_region 9 with (first|((with_reducible refine gate_callee (f:=25) rfl ?_);refine zgc (some 66) Try.func25 (grottoref03_Add.calls dm.out) ?_;intro dZ hb;obtain⟨a,b,c,HB⟩:=zu3 a b c HB hb;clear hb;obtain⟨bF,bG,bH,bI⟩:=zc2 a)|((with_reducible refine gate_callee (f:=25) rfl ?_);refine zgc (some 73) Try.func25 (grottoref03_Add.calls dn.out) ?_;intro d0 hb;obtain⟨a,b,c,HB⟩:=zu3 a b c HB hb;clear hb;obtain⟨bJ,bK,bL,bM⟩:=zc2 a)|((with_reducible refine gate_callee (f:=23) rfl ?_);refine zgc (some 80) Try.func23 (grottoref03_Cmp.calls dp.out) ?_;intro d1 hb;obtain⟨a,b,c,HB⟩:=zu3 a b c HB hb;clear hb;obtain⟨bN,bO,bP,bQ⟩:=zc2 a)|((with_reducible refine gate_callee (f:=23) rfl ?_);refine zgc (some 88) Try.func23 (grottoref03_Cmp.calls dq.out) ?_;intro d2 hb;obtain⟨a,b,c,HB⟩:=zu3 a b c HB hb;clear hb))
   (try simp only[Act.put,List.setIfInBounds_toArray,List.set_cons_zero,List.set_cons_succ])
   go_cut [97] (fun v97 wc=>∃ (kq:Nat) (q:Bool),v97=.bool q∧Aside0 (grottolaw03_SoftExact.j1 kq a1 a2 q d g=some r)∧Aside0 (kq≤cb)∧Aside0 (wc.heap[ao]?=some (.cells #[.int .i64 d,.int .i64 g] 23 (0,0)))∧Aside0 (wc.heap[ap]?=some (.cells #[.int .i64 X,.bool Y,.int .i64 ak,.int .u64 al] 34 (0,0)))∧Aside0 (wc.heap[aq]?=some (.cells #[.int .i64 am,.bool an,.int .i64 bW,.int .u64 bX] 34 (0,0)))∧Aside0 (Below w.heap.size w wc))
   case first =>
    have H:=bA.out
    clear bA
    by_cases ah:bz>0
    ·rw[if_pos ah] at H
     have s:decide (0<bz)=true:=decide_eq_true ah
     clear ah
     (first|rw[s]|(simp only[i64_w,i32_w];rw[s])|skip)
     have H':=Aside0.mk H
     clear H
     go_wp2
     go_meet
     case rel=>exact⟨_,(true),(by first|rfl|(simp[*];done)),H',⟨by have:=ca.out;first|omega|exact Nat.le_refl _⟩,⟨zk a⟩,⟨zk b⟩,⟨zk c⟩,⟨zb HB⟩⟩
    rw[if_neg ah] at H
    have s:decide (0<bz)=false:=decide_eq_false ah
    clear ah
    (first|rw[s]|(simp only[i64_w,i32_w];rw[s])|skip)
    have H':=Aside0.mk H
    clear H
    go_wp2
    go_meet
    case rel=>exact⟨_,(decide (cd>0)),(by first|rfl|(simp[*];done)),H',⟨by have:=ca.out;first|omega|exact Nat.le_refl _⟩,⟨zk a⟩,⟨zk b⟩,⟨zk c⟩,⟨zb HB⟩⟩
   case rest =>
    clear bA
    try clear c1 c2 p2 c3 c4 c6 d4 d5 d6 ad p ar ae au av af aw ax ag ay az aA d7 d8 d9 ea eb ec ed ee ef eg eh bx v y z B G I L M O P aB aC aD aE aJ aK aL aM aR aS aT aU aZ a0 a3 a4 a9 ba bb bc bh bi bj bk bp bq br bs bB bC bF bG bJ bK bN bO Z aa C D E F J K Q R S T aF aG aH aI aN aO aP aQ aV aW aX aY a5 a6 a7 a8 bd be bf bg bl bm bn bo bt bu bv bw bD bE bH bI bL bM bP bQ ab ac p2
    obtain⟨kq,q,rfl,HA,dR,a,b,c,HB⟩:=hcut
    cases kq with
    | zero=>exact absurd HA.out (by simp[grottolaw03_SoftExact.j1])
    | succ bY =>
     have H:=HA.out
     clear HA
     simp only[grottolaw03_SoftExact.j1] at H
     by_cases bV:q=true
     ·subst bV
      rw[if_pos rfl] at H
      obtain⟨ce,dv,H⟩:=oB H
      obtain rfl:=Option.some.inj H
      go_wp2_with (first|((with_reducible refine gate_callee (f:=19) rfl ?_);refine zgc (some 98) Try.func19 (grottolaw03_live.calls bY  ce _ dv.out) ?_;intro ei hb;obtain⟨a,b,c,HB⟩:=zu3 a b c HB hb;clear hb))
      go_ret
      exact zr HB
     replace bV:=Bool.eq_false_iff.mpr bV
     subst bV
     rw[if_neg nft] at H
     obtain⟨⟨dS,bR⟩,b0,H⟩:=oB H
     try dsimp only at H
     obtain⟨⟨cf,bS⟩,b1,H⟩:=oB H
     try dsimp only at H
     obtain⟨cg,b2,H⟩:=oB H
     obtain⟨ch,b3,H⟩:=oB H
     by_cases bT:(wrap64 (cg+ch))=0
     ·rw[if_pos bT] at H
      obtain⟨b4,b5⟩:=zt bT
      clear bT
      by_cases bU:cf=a1
      ·rw[if_pos bU] at H
       obtain⟨b6,b7⟩:=zt bU
       clear bU
       obtain⟨ci,dw,H⟩:=oB H
       obtain rfl:=Option.some.inj H
       obtain⟨dx,dy⟩:=z2 j
       obtain⟨dz,dA⟩:=z2 l
       obtain⟨cj,ck,cl,cm⟩:=zc2 a
       go_wp2_with (first|((with_reducible refine gate_callee (f:=26) rfl ?_);refine zgc (some 103) Try.func26 (soft_Sub.calls b0.out) ?_;intro ej hb;obtain⟨a,b,c,HB⟩:=zu3 a b c HB hb;clear hb;obtain⟨cn,co,cp,cq⟩:=zc2 a)|((with_reducible refine gate_callee (f:=24) rfl ?_);refine zgc (some 110) Try.func24 (soft_Add.calls b1.out) ?_;intro ek hb;obtain⟨a,b,c,HB⟩:=zu3 a b c HB hb;clear hb)|((with_reducible refine gate_callee (f:=18) rfl ?_);refine zgo (some 114) Try.func18 #[.int .i64 bR] ?_;(with_reducible refine (grottolaw03_num.calls b2.out).mono ?_);rintro e w' ⟨rfl,⟨nd,rfl⟩⟩;refine⟨_,rfl,?_⟩)|((with_reducible refine gate_callee (f:=18) rfl ?_);refine zgo (some 116) Try.func18 #[.int .i64 bS] ?_;(with_reducible refine (grottolaw03_num.calls b3.out).mono ?_);rintro e w' ⟨rfl,⟨nd,rfl⟩⟩;refine⟨_,rfl,?_⟩)|(go_at_call 19;(with_reducible refine (grottolaw03_live.calls bY  ci _ dw.out).mono ?_);rintro e el ⟨rfl,hb⟩;obtain⟨a,b,c,HB⟩:=zu3 a b c HB hb;clear hb))
       go_ret
       exact zr HB
      rw[if_neg bU] at H
      obtain⟨b6,b7⟩:=zf bU
      obtain rfl:=Option.some.inj H
      obtain⟨dB,dC⟩:=z2 j
      obtain⟨dD,dE⟩:=z2 l
      obtain⟨cr,ct,cu,cv⟩:=zc2 a
      go_wp2_with (first|((with_reducible refine gate_callee (f:=26) rfl ?_);refine zgc (some 103) Try.func26 (soft_Sub.calls b0.out) ?_;intro em hb;obtain⟨a,b,c,HB⟩:=zu3 a b c HB hb;clear hb;obtain⟨cw,cx,cy,cz⟩:=zc2 a)|((with_reducible refine gate_callee (f:=24) rfl ?_);refine zgc (some 110) Try.func24 (soft_Add.calls b1.out) ?_;intro en hb;obtain⟨a,b,c,HB⟩:=zu3 a b c HB hb;clear hb)|((with_reducible refine gate_callee (f:=18) rfl ?_);refine zgo (some 114) Try.func18 #[.int .i64 bR] ?_;(with_reducible refine (grottolaw03_num.calls b2.out).mono ?_);rintro e w' ⟨rfl,⟨nd,rfl⟩⟩;refine⟨_,rfl,?_⟩)|((with_reducible refine gate_callee (f:=18) rfl ?_);refine zgo (some 116) Try.func18 #[.int .i64 bS] ?_;(with_reducible refine (grottolaw03_num.calls b3.out).mono ?_);rintro e w' ⟨rfl,⟨nd,rfl⟩⟩;refine⟨_,rfl,?_⟩))
      go_ret
      exact zr HB
     rw[if_neg bT] at H
     obtain⟨b4,b5⟩:=zf bT
     obtain rfl:=Option.some.inj H
     obtain⟨dF,dG⟩:=z2 j
     obtain⟨dH,dI⟩:=z2 l
     obtain⟨cA,cB,cC,cD⟩:=zc2 a
     go_wp2_with (first|((with_reducible refine gate_callee (f:=26) rfl ?_);refine zgc (some 103) Try.func26 (soft_Sub.calls b0.out) ?_;intro eo hb;obtain⟨a,b,c,HB⟩:=zu3 a b c HB hb;clear hb;obtain⟨cE,cF,cG,cH⟩:=zc2 a)|((with_reducible refine gate_callee (f:=24) rfl ?_);refine zgc (some 110) Try.func24 (soft_Add.calls b1.out) ?_;intro ep hb;obtain⟨a,b,c,HB⟩:=zu3 a b c HB hb;clear hb)|((with_reducible refine gate_callee (f:=18) rfl ?_);refine zgo (some 114) Try.func18 #[.int .i64 bR] ?_;(with_reducible refine (grottolaw03_num.calls b2.out).mono ?_);rintro e w' ⟨rfl,⟨nd,rfl⟩⟩;refine⟨_,rfl,?_⟩)|((with_reducible refine gate_callee (f:=18) rfl ?_);refine zgo (some 116) Try.func18 #[.int .i64 bS] ?_;(with_reducible refine (grottolaw03_num.calls b3.out).mono ?_);rintro e w' ⟨rfl,⟨nd,rfl⟩⟩;refine⟨_,rfl,?_⟩))
     go_ret
     exact zr HB

end Go.Proofs.Ytmmbgbchimangaa.PQ
