-- by a program of this claim
import Derived.Test.YtmmbgbchimangaaPQx0
import Derived.Test.YtmmbgbchimangaaPQx8
import Derived.Test.YtmmbgbchimangaaPQx9
import Derived.Test.YtmmbgbchimangaaPQx10
import Derived.Test.YtmmbgbchimangaaPQx11
import Derived.Test.YtmmbgbchimangaaPQx12
namespace Go.Proofs.Ytmmbgbchimangaa.PQ
open Go.RowKit Go.Proofs.YtmmbgbchimangaaW.PrintWords Go.Proofs.YtmmbgbchimangaaW.PrintLast Go.Proofs.YtmmbgbchimangaaW.PrintMore Go.Proofs.Ytmmbgbchimangaa.Z
attribute [local go_sem] max2_int min2_int max_two min_two max_three min_three max_four min_four   -- for this text's walks alone
set_option linter.unusedVariables false
set_option linter.unusedSimpArgs false

/-! ### grottoref03_Add: function 25 -/
mutual
def grottoref03_Add.j0:Nat→Bool→Int→Int→Int→Bool→Int→Int→Int→Bool→Int→Int→Option (Int×Int)
 | 0,_,_,_,_,_,_,_,_,_,_,_=>none
 | k+1,m,a,b,c,e,g,h,d,i,j,l=>if m=true then ((grottoref02_NaN.f k a b).bind fun n=>(some (n,0))) else (if c=3 then (grottoref03_Add.j1 k true a b c e g h d i j l) else (grottoref03_Add.j1 k (d==3) a b c e g h d i j l))
def grottoref03_Add.j1:Nat→Bool→Int→Int→Int→Bool→Int→Int→Int→Bool→Int→Int→Option (Int×Int)
 | 0,_,_,_,_,_,_,_,_,_,_,_=>none
 | k+1,l,e,f,a,c,g,h,b,d,i,j=>if l=true then (if a=b then (grottoref03_Add.j2 k (c != d) e f a c g h b d i j) else (grottoref03_Add.j2 k false e f a c g h b d i j)) else (if a=1 then (grottoref03_Add.j3 k (b==1) e f a c g h b d i j) else (grottoref03_Add.j3 k false e f a c g h b d i j))
def grottoref03_Add.j2:Nat→Bool→Int→Int→Int→Bool→Int→Int→Int→Bool→Int→Int→Option (Int×Int)
 | 0,_,_,_,_,_,_,_,_,_,_,_=>none
 | k+1,e,a,b,g,h,p,q,c,d,r,s=>if e=true then ((grottoref02_NaN.f k a b).bind fun i=>(some (i,0))) else (if g=3 then (if h=true then ((grottoref02_Inf.f k a b true).bind fun j=>(some (j,0))) else (if c=3 then ((grottoref02_Inf.f k a b d).bind fun l=>(some (l,0))) else ((grottoref02_Inf.f k a b false).bind fun m=>(some (m,0))))) else (if c=3 then ((grottoref02_Inf.f k a b d).bind fun n=>(some (n,0))) else ((grottoref02_Inf.f k a b false).bind fun o=>(some (o,0)))))
def grottoref03_Add.j3:Nat→Bool→Int→Int→Int→Bool→Int→Int→Int→Bool→Int→Int→Option (Int×Int)
 | 0,_,_,_,_,_,_,_,_,_,_,_=>none
 | k+1,i,a,b,j,g,l,m,n,h,o,p=>if i=true then (if g=true then ((grottoref02_Zero.f k a b h).bind fun q=>(some (q,0))) else ((grottoref02_Zero.f k a b false).bind fun r=>(some (r,0)))) else ((grottoref03_exact.f k j g l m).bind fun d=>((grottoref03_exact.f k n h o p).bind fun e=>((grottoref03_plus.f k d.1 d.2.1 d.2.2 e.1 e.2.1 e.2.2).bind fun c=>((grottoref02_Bits.f k c.2.1).bind fun s=>(if s=0 then ((grottoref02_Zero.f k a b false).bind fun t=>(some (t,0))) else ((grottoref03_one.f).bind fun u=>((grottoref02_Near.f k a b (decide (c.1<0)) c.2.1 u c.2.2).bind fun v=>(some (v,0)))))))))
end
def grottoref03_Add.f (k:Nat) (a0_0:Int) (a0_1:Int) (a1:Int) (a2:Int):Option (Int×Int):=(grottoref03_open.f k a0_0 a0_1 a1 a2).bind fun a=>(if a.2.2.2.2.2.2.2.2=0 then (if a.1=4 then (grottoref03_Add.j0 k true a0_0 a0_1 a.1 a.2.1 a.2.2.1 a.2.2.2.1 a.2.2.2.2.1 a.2.2.2.2.2.1 a.2.2.2.2.2.2.1 a.2.2.2.2.2.2.2.1) else (grottoref03_Add.j0 k (a.2.2.2.2.1==4) a0_0 a0_1 a.1 a.2.1 a.2.2.1 a.2.2.2.1 a.2.2.2.2.1 a.2.2.2.2.2.1 a.2.2.2.2.2.2.1 a.2.2.2.2.2.2.2.1)) else (some (0,a.2.2.2.2.2.2.2.2)))
theorem grottoref03_Add.mono_l:∀ k,(∀ y0 y1 y2 y3 y4 y5 y6 y7 y8 y9 y10,LeO (grottoref03_Add.j0 k y0 y1 y2 y3 y4 y5 y6 y7 y8 y9 y10) (grottoref03_Add.j0 (k+1) y0 y1 y2 y3 y4 y5 y6 y7 y8 y9 y10))∧(∀ y0 y1 y2 y3 y4 y5 y6 y7 y8 y9 y10,LeO (grottoref03_Add.j1 k y0 y1 y2 y3 y4 y5 y6 y7 y8 y9 y10) (grottoref03_Add.j1 (k+1) y0 y1 y2 y3 y4 y5 y6 y7 y8 y9 y10))∧(∀ y0 y1 y2 y3 y4 y5 y6 y7 y8 y9 y10,LeO (grottoref03_Add.j2 k y0 y1 y2 y3 y4 y5 y6 y7 y8 y9 y10) (grottoref03_Add.j2 (k+1) y0 y1 y2 y3 y4 y5 y6 y7 y8 y9 y10))∧(∀ y0 y1 y2 y3 y4 y5 y6 y7 y8 y9 y10,LeO (grottoref03_Add.j3 k y0 y1 y2 y3 y4 y5 y6 y7 y8 y9 y10) (grottoref03_Add.j3 (k+1) y0 y1 y2 y3 y4 y5 y6 y7 y8 y9 y10))
 | 0=>⟨fun _ _ _ _ _ _ _ _ _ _ _ r h=>by simp[grottoref03_Add.j0] at h,fun _ _ _ _ _ _ _ _ _ _ _ r h=>by simp[grottoref03_Add.j1] at h,fun _ _ _ _ _ _ _ _ _ _ _ r h=>by simp[grottoref03_Add.j2] at h,fun _ _ _ _ _ _ _ _ _ _ _ r h=>by simp[grottoref03_Add.j3] at h⟩
 | k+1=>by
  obtain⟨ih0,ih1,ih2,ih3⟩:=grottoref03_Add.mono_l k
  refine⟨?_,?_,?_,?_⟩ <;> intros <;> (first|unfold grottoref03_Add.j0|unfold grottoref03_Add.j1|unfold grottoref03_Add.j2|unfold grottoref03_Add.j3) <;> (repeat' first|(with_reducible first|apply ih0|apply ih1|apply ih2|apply ih3|apply grottoref02_Bits.mono|apply grottoref02_Inf.mono|apply grottoref02_NaN.mono|apply grottoref02_Near.mono|apply grottoref02_Zero.mono|apply grottoref03_exact.mono|apply grottoref03_open.mono|apply grottoref03_plus.mono|exact LeO.refl _|exact LeO.none _|refine LeO.ite ?_ ?_|refine LeO.bind ?_ (fun _=>?_))|refine LeO.ite ?_ ?_|refine LeO.bind ?_ (fun _=>?_))
theorem grottoref03_Add.mono:∀ a0 a1 a2 a3 k,LeO (grottoref03_Add.f k a0 a1 a2 a3) (grottoref03_Add.f (k+1) a0 a1 a2 a3):=by
 intro a0 a1 a2 a3 k
 obtain⟨ih0,ih1,ih2,ih3⟩:=grottoref03_Add.mono_l k
 unfold grottoref03_Add.f
 repeat' first|(with_reducible first|apply ih0|apply ih1|apply ih2|apply ih3|apply grottoref02_Bits.mono|apply grottoref02_Inf.mono|apply grottoref02_NaN.mono|apply grottoref02_Near.mono|apply grottoref02_Zero.mono|apply grottoref03_exact.mono|apply grottoref03_open.mono|apply grottoref03_plus.mono|exact LeO.refl _|exact LeO.none _|refine LeO.ite ?_ ?_|refine LeO.bind ?_ (fun _=>?_))|refine LeO.ite ?_ ?_|refine LeO.bind ?_ (fun _=>?_)
def grottoref03_Add.T15:Bool×List (List Nat×List Nat):=(true,[([],[]),([],[]),([1],[1]),([2],[2]),([],[]),([4],[4]),([],[]),([],[]),([7],[7]),([0,3,5,6,8,6],[0,3,5,6,8]),([9,9,0,1,2,3,4,5,6,7,8,9],[9]),([10,0,1,2,3,4,5,6,7,8,9,10],[])])
def grottoref03_Add.B15:List Nat:=[0,0,2,6,0,16,0,0,128,511,1023,2047]
theorem grottoref03_Add.tab15:rtab .any (opsOf Try.f25 15)=grottoref03_Add.T15:=by kernel_rfl
theorem grottoref03_Add.bits15:waitsOk grottoref03_Add.T15.2 grottoref03_Add.B15=true:=by kernel_rfl
set_option maxHeartbeats 8000000 in
set_option maxRecDepth 100000 in
theorem grottoref03_Add.calls {k:Nat} {aa:Int} {ab:Int} {a1:Int} {a2:Int} {r1:Int} {r2:Int} {w:World} (h:grottoref03_Add.f k aa ab a1 a2=some (r1,r2)) :
  Calls Try.prog 25 #[.agg #[.int .i64 aa,.int .i64 ab],.int .u64 a1,.int .u64 a2] w fun e w'=>e=.returned (.tuple #[.int .u64 r1,.int .i64 r2])∧Below w.heap.size w w':=by
 have hu23:=Try.underlying23
 have hu34:=Try.underlying34
 have hu73:=Try.underlying73
 have HB:=Aside0.mk (Below.refl w.heap.size w)
 have H:=h
 unfold grottoref03_Add.f at H
 clear h
 obtain⟨⟨O,P,ac,ad,J,Q,T,U,fC⟩,A4,H⟩:=oB H
 try dsimp only at H
 by_cases c5:fC=0
 rotate_left
 ·rw[if_neg c5] at H
  obtain⟨bG,bH⟩:=zf c5
  simp only[Option.some.injEq,Prod.mk.injEq] at H
  obtain⟨rfl,rfl⟩:=H
  go_enter Try.func25,Try.ntmps25
  go_wp2_with (first|((with_reducible refine gate_dst (N:=3) rfl ?_);refine zbox (N:=3) (cs:=#[.int .i64 aa,.int .i64 ab]) (t:=23) ?_;intro F hg kF hbox hb;have d:=Aside0.mk hbox;have cY:=zge hg HB;have cZ:=zge hg HB;replace HB:=zbs HB hb;clear hb hbox hg;obtain⟨fi,fj,fk,fl⟩:=zc2 d)|((with_reducible refine gate_callee (f:=53) rfl ?_);refine zgc (some 16) Try.func53 (grottoref03_open.calls A4.out) ?_;intro kG hb;obtain⟨d,HB⟩:=zu1 d HB hb;clear hb)|((with_reducible refine gate_dst (N:=8) rfl ?_);refine zbox (N:=8) (cs:=#[.int .i64 0,.bool false,.int .i64 0,.int .u64 0]) (t:=34) ?_;intro y hg kH hbox hb;have a:=Aside0.mk hbox;have c0:=zge hg HB;have c6:=zge hg HB;have W:=znl hg d;have X:=zng hg d;obtain⟨d,HB⟩:=zu1 d HB hb;clear hb hbox hg)|((with_reducible refine gate_dst (N:=9) rfl ?_);refine zbox (N:=9) (cs:=#[.int .i64 0,.bool false,.int .i64 0,.int .u64 0]) (t:=34) ?_;intro z hg kI hbox hb;have b:=Aside0.mk hbox;have c7:=zge hg HB;have c8:=zge hg HB;have Y:=znl hg d;have af:=zng hg d;have I:=znl hg a;have ce:=zng hg a;obtain⟨d,a,HB⟩:=zu2 d a HB hb;clear hb hbox hg;obtain⟨iz,iA⟩:=z2 X;obtain⟨iB,iC⟩:=z2 I;obtain⟨fm,fn,fo,fp,fq,fr,fs,ft⟩:=zc4 a;obtain⟨iD,iE⟩:=z2 af;obtain⟨fu,fv,fw,fx,fy,fz,fA,fB⟩:=zc4 b))
  go_ret2
  exact zr HB

 rw[if_pos c5] at H
 obtain⟨bG,bH⟩:=zt c5
 clear c5
 have cX:=Aside0.mk H
 clear H
 go_enter Try.func25,Try.ntmps25
 go_upto_region 4 with (first|((with_reducible refine gate_dst (N:=3) rfl ?_);refine zbox (N:=3) (cs:=#[.int .i64 aa,.int .i64 ab]) (t:=23) ?_;intro F hg w7 hbox hb;have d:=Aside0.mk hbox;have cY:=zge hg HB;have cZ:=zge hg HB;replace HB:=zbs HB hb;clear hb hbox hg;obtain⟨a6,a7,a8,a9⟩:=zc2 d)|((with_reducible refine gate_callee (f:=53) rfl ?_);refine zgc (some 16) Try.func53 (grottoref03_open.calls A4.out) ?_;intro w9 hb;obtain⟨d,HB⟩:=zu1 d HB hb;clear hb)|((with_reducible refine gate_dst (N:=8) rfl ?_);refine zbox (N:=8) (cs:=#[.int .i64 0,.bool false,.int .i64 0,.int .u64 0]) (t:=34) ?_;intro y hg kJ hbox hb;have a:=Aside0.mk hbox;have c0:=zge hg HB;have c6:=zge hg HB;have W:=znl hg d;have X:=zng hg d;obtain⟨d,HB⟩:=zu1 d HB hb;clear hb hbox hg)|((with_reducible refine gate_dst (N:=9) rfl ?_);refine zbox (N:=9) (cs:=#[.int .i64 0,.bool false,.int .i64 0,.int .u64 0]) (t:=34) ?_;intro z hg kK hbox hb;have b:=Aside0.mk hbox;have c7:=zge hg HB;have c8:=zge hg HB;have Y:=znl hg d;have af:=zng hg d;have I:=znl hg a;have ce:=zng hg a;obtain⟨d,a,HB⟩:=zu2 d a HB hb;clear hb hbox hg;obtain⟨iH,iI⟩:=z2 X;obtain⟨iJ,iK⟩:=z2 I;obtain⟨aK,aL,aM,aN,aO,aP,aQ,aR⟩:=zc4 a;obtain⟨iL,iM⟩:=z2 af;obtain⟨aS,aT,aU,aV,aW,aX,aY,aZ⟩:=zc4 b))
 (try simp only[Act.put,List.setIfInBounds_toArray,List.set_cons_zero,List.set_cons_succ])
 go_cut [30] (fun v30 wc=>∃ (kq:Nat) (bD:Bool),v30=.bool bD∧Aside0 (grottoref03_Add.j0 kq bD aa ab O P ac ad J Q T U=some (r1,r2))∧Aside0 (kq≤k)∧Aside0 (wc.heap[F]?=some (.cells #[.int .i64 aa,.int .i64 ab] 23 (0,0)))∧Aside0 (wc.heap[y]?=some (.cells #[.int .i64 O,.bool P,.int .i64 ac,.int .u64 ad] 34 (0,0)))∧Aside0 (wc.heap[z]?=some (.cells #[.int .i64 J,.bool Q,.int .i64 T,.int .u64 U] 34 (0,0)))∧Aside0 (Below w.heap.size w wc))
 case first =>
  have H:=cX.out
  clear cX
  by_cases bI:O=4
  ·rw[if_pos bI] at H
   obtain⟨aE,bE⟩:=zt bI
   clear bI
   (first|rw[aE]|(simp only[i64_w,i32_w];rw[aE])|skip)
   have H':=Aside0.mk H
   clear H
   obtain⟨iN,iO⟩:=z2 X
   obtain⟨iP,iQ⟩:=z2 I
   obtain⟨bc,bd,be,bf,bg,bh,bi,bj⟩:=zc4 a
   go_wp2
   go_meet
   case rel=>exact⟨_,(true),(by first|rfl|(simp[*];done)),H',⟨by omega⟩,⟨zk d⟩,⟨zkp a⟩,⟨zkp b⟩,⟨zb HB⟩⟩
  rw[if_neg bI] at H
  obtain⟨aE,bE⟩:=zf bI
  (first|rw[aE]|(simp only[i64_w,i32_w];rw[aE])|skip)
  have H':=Aside0.mk H
  clear H
  obtain⟨iR,iS⟩:=z2 X
  obtain⟨iT,iU⟩:=z2 I
  obtain⟨bk,bl,bm,bn,bo,bp,bq,br⟩:=zc4 a
  obtain⟨iV,iW⟩:=z2 af
  obtain⟨bs,bt,bu,bv,bw,bx,bz,bA⟩:=zc4 b
  go_wp2
  go_meet
  case rel=>exact⟨_,((J==4)),(by first|rfl|(simp[*];done)),H',⟨by omega⟩,⟨zk d⟩,⟨zkp a⟩,⟨zkp b⟩,⟨zb HB⟩⟩
 case rest =>
  clear cX
  try clear bG bH aK aL aM aN aS aT aU aV a6 a7 aO aP aQ aR aW aX aY aZ a8 a9
  obtain⟨kq,bD,rfl,HA,cu,d,a,b,HB⟩:=hcut
  cases kq with
  | zero=>exact absurd HA.out (by simp[grottoref03_Add.j0])
  | succ iX =>
   have H:=HA.out
   clear HA
   simp only[grottoref03_Add.j0] at H
   by_cases cf:bD=true
   ·subst cf
    rw[if_pos rfl] at H
    obtain⟨ke,iY,H⟩:=oB H
    simp only[Option.some.injEq,Prod.mk.injEq] at H
    obtain⟨rfl,rfl⟩:=H
    obtain⟨iZ,i0⟩:=z2 W
    obtain⟨i1,i2⟩:=z2 Y
    obtain⟨bJ,bK,bL,bM⟩:=zc2 d
    go_wp2_with (first|((with_reducible refine gate_callee (f:=21) rfl ?_);refine zgc (some 32) Try.func21 (grottoref02_NaN.calls iY.out) ?_;intro kL hb;obtain⟨d,a,b,HB⟩:=zu3 d a b HB hb;clear hb))
    go_ret2
    exact zr HB
   replace cf:=Bool.eq_false_iff.mpr cf
   subst cf
   rw[if_neg nft] at H
   have cw:=Aside0.mk H
   clear H
   go_upto_region 6 with (fail)
   go_cut [40] (fun v40 wc=>∃ (kq:Nat) (ba:Bool),v40=.bool ba∧Aside0 (grottoref03_Add.j1 kq ba aa ab O P ac ad J Q T U=some (r1,r2))∧Aside0 (kq≤iX)∧Aside0 (wc.heap[F]?=some (.cells #[.int .i64 aa,.int .i64 ab] 23 (0,0)))∧Aside0 (wc.heap[y]?=some (.cells #[.int .i64 O,.bool P,.int .i64 ac,.int .u64 ad] 34 (0,0)))∧Aside0 (wc.heap[z]?=some (.cells #[.int .i64 J,.bool Q,.int .i64 T,.int .u64 U] 34 (0,0)))∧Aside0 (Below w.heap.size w wc))
   case first =>
    have H:=cw.out
    clear cw
    by_cases cg:O=3
    ·rw[if_pos cg] at H
     obtain⟨aI,ch⟩:=zt cg
     clear cg
     (first|rw[aI]|(simp only[i64_w,i32_w];rw[aI])|skip)
     have H':=Aside0.mk H
     clear H
     obtain⟨i3,i4⟩:=z2 X
     obtain⟨i5,i6⟩:=z2 I
     obtain⟨bN,bO,bP,bQ,bR,bS,bT,bU⟩:=zc4 a
     go_wp2
     go_meet
     case rel=>exact⟨_,(true),(by first|rfl|(simp[*];done)),H',⟨by have:=cu.out;first|omega|exact Nat.le_refl _⟩,⟨zk d⟩,⟨zk a⟩,⟨zk b⟩,⟨zb HB⟩⟩
    rw[if_neg cg] at H
    obtain⟨aI,ch⟩:=zf cg
    (first|rw[aI]|(simp only[i64_w,i32_w];rw[aI])|skip)
    have H':=Aside0.mk H
    clear H
    obtain⟨i7,i8⟩:=z2 X
    obtain⟨i9,ja⟩:=z2 I
    obtain⟨bV,bW,bX,bY,bZ,b0,b1,b2⟩:=zc4 a
    obtain⟨jb,jc⟩:=z2 af
    obtain⟨b3,b4,b5,b6,b7,b8,b9,ca⟩:=zc4 b
    go_wp2
    go_meet
    case rel=>exact⟨_,((J==3)),(by first|rfl|(simp[*];done)),H',⟨by have:=cu.out;first|omega|exact Nat.le_refl _⟩,⟨zk d⟩,⟨zk a⟩,⟨zk b⟩,⟨zb HB⟩⟩
   case rest =>
    clear cw
    try clear c1 c2 p2 bG bH fF fG fH bI aE bE fI fJ fK fL fM fN cf aK aL aM aN aS aT aU aV bc bd be bf bk bl bm bn bs bt bu bv a6 a7 aO aP aQ aR aW aX aY aZ bg bh bi bj bo bp bq br bw bx bz bA a8 a9 p2
    obtain⟨kq,ba,rfl,HA,cp,d,a,b,HB⟩:=hcut
    cases kq with
    | zero=>exact absurd HA.out (by simp[grottoref03_Add.j1])
    | succ cP =>
     have H:=HA.out
     clear HA
     simp only[grottoref03_Add.j1] at H
     by_cases cv:ba=true
     ·subst cv
      rw[if_pos rfl] at H
      have cx:=Aside0.mk H
      clear H
      go_upto_region 7 with (fail)
      go_cut [52] (fun v52 wc=>∃ (kq:Nat) (bb:Bool),v52=.bool bb∧Aside0 (grottoref03_Add.j2 kq bb aa ab O P ac ad J Q T U=some (r1,r2))∧Aside0 (kq≤cP)∧Aside0 (wc.heap[F]?=some (.cells #[.int .i64 aa,.int .i64 ab] 23 (0,0)))∧Aside0 (wc.heap[y]?=some (.cells #[.int .i64 O,.bool P,.int .i64 ac,.int .u64 ad] 34 (0,0)))∧Aside0 (wc.heap[z]?=some (.cells #[.int .i64 J,.bool Q,.int .i64 T,.int .u64 U] 34 (0,0)))∧Aside0 (Below w.heap.size w wc))
      case first =>
       have H:=cx.out
       clear cx
       by_cases cy:O=J
       ·rw[if_pos cy] at H
        obtain⟨bB,c9⟩:=zt cy
        clear cy
        (first|rw[bB]|(simp only[i64_w,i32_w];rw[bB])|skip)
        have H':=Aside0.mk H
        clear H
        obtain⟨jd,je⟩:=z2 X
        obtain⟨jf,jg⟩:=z2 I
        obtain⟨fO,fP,fQ,fR,fS,fT,fU,fV⟩:=zc4 a
        obtain⟨jh,ji⟩:=z2 af
        obtain⟨fW,fX,fY,fZ,f0,f1,f2,f3⟩:=zc4 b
        go_wp2
        go_meet
        case rel=>exact⟨_,((P != Q)),(by first|rfl|(simp[*];done)),H',⟨by have:=cu.out;have:=cp.out;first|omega|exact Nat.le_refl _⟩,⟨zk d⟩,⟨zk a⟩,⟨zk b⟩,⟨zb HB⟩⟩
       rw[if_neg cy] at H
       obtain⟨bB,c9⟩:=zf cy
       (first|rw[bB]|(simp only[i64_w,i32_w];rw[bB])|skip)
       have H':=Aside0.mk H
       clear H
       obtain⟨jj,jk⟩:=z2 X
       obtain⟨jl,jm⟩:=z2 I
       obtain⟨f4,f5,f6,f7,f8,f9,ga,gb⟩:=zc4 a
       obtain⟨jn,jo⟩:=z2 af
       obtain⟨gc,gd,ge,gf,gg,gh,gi,gj⟩:=zc4 b
       go_wp2
       go_meet
       case rel=>exact⟨_,(false),(by first|rfl|(simp[*];done)),H',⟨by have:=cu.out;have:=cp.out;first|omega|exact Nat.le_refl _⟩,⟨zk d⟩,⟨zk a⟩,⟨zk b⟩,⟨zb HB⟩⟩
      case rest =>
       clear cx
       try clear c1 c2 p2 c3 c4 bG bH fF fG fH bI aE bE fI fJ fK fL fM fN cf jp jq cg aI ch jr js jt ju jv cv aK aL aM aN aS aT aU aV bc bd be bf bk bl bm bn bs bt bu bv bJ bK bN bO bP bQ bV bW bX bY b3 b4 b5 b6 a6 a7 aO aP aQ aR aW aX aY aZ bg bh bi bj bo bp bq br bw bx bz bA bL bM bR bS bT bU bZ b0 b1 b2 b7 b8 b9 ca a8 a9 p2
       obtain⟨kq,bb,rfl,HA,kh,d,a,b,HB⟩:=hcut
       cases kq with
       | zero=>exact absurd HA.out (by simp[grottoref03_Add.j2])
       | succ ki =>
        have H:=HA.out
        clear HA
        simp only[grottoref03_Add.j2] at H
        by_cases cK:bb=true
        ·subst cK
         rw[if_pos rfl] at H
         obtain⟨kj,jw,H⟩:=oB H
         simp only[Option.some.injEq,Prod.mk.injEq] at H
         obtain⟨rfl,rfl⟩:=H
         obtain⟨jx,jy⟩:=z2 W
         obtain⟨jz,jA⟩:=z2 Y
         obtain⟨gk,gl,gm,gn⟩:=zc2 d
         go_wp2_with (first|((with_reducible refine gate_callee (f:=21) rfl ?_);refine zgc (some 54) Try.func21 (grottoref02_NaN.calls jw.out) ?_;intro kO hb;obtain⟨d,a,b,HB⟩:=zu3 d a b HB hb;clear hb))
         go_ret2
         exact zr HB
        replace cK:=Bool.eq_false_iff.mpr cK
        subst cK
        rw[if_neg nft] at H
        by_cases cz:O=3
        ·rw[if_pos cz] at H
         obtain⟨da,db⟩:=zt cz
         clear cz
         by_cases cL:P=true
         ·subst cL
          rw[if_pos rfl] at H
          obtain⟨kk,jB,H⟩:=oB H
          simp only[Option.some.injEq,Prod.mk.injEq] at H
          obtain⟨rfl,rfl⟩:=H
          obtain⟨jC,jD⟩:=z2 W
          obtain⟨jE,jF⟩:=z2 Y
          obtain⟨go,gp,gq,gr⟩:=zc2 d
          obtain⟨jG,jH⟩:=z2 I
          obtain⟨gs,gt,gu,gv,gw,gx,gy,gz⟩:=zc4 a
          go_wp2_with (first|((with_reducible refine gate_callee (f:=67) rfl ?_);refine zgc (some 72) Try.func67 (grottoref02_Inf.calls jB.out) ?_;intro kP hb;obtain⟨d,a,b,HB⟩:=zu3 d a b HB hb;clear hb))
          go_ret2
          exact zr HB
         replace cL:=Bool.eq_false_iff.mpr cL
         subst cL
         rw[if_neg nft] at H
         by_cases cA:J=3
         ·rw[if_pos cA] at H
          obtain⟨dc,dd⟩:=zt cA
          clear cA
          obtain⟨kl,jI,H⟩:=oB H
          simp only[Option.some.injEq,Prod.mk.injEq] at H
          obtain⟨rfl,rfl⟩:=H
          obtain⟨jJ,jK⟩:=z2 W
          obtain⟨jL,jM⟩:=z2 Y
          obtain⟨gA,gB,gC,gD⟩:=zc2 d
          obtain⟨jN,jO⟩:=z2 I
          obtain⟨gE,gF,gG,gH,gI,gJ,gK,gL⟩:=zc4 a
          obtain⟨gM,gN,gO,gP,gQ,gR,gS,gT⟩:=zc4 b
          go_wp2_with (first|((with_reducible refine gate_callee (f:=67) rfl ?_);refine zgc (some 72) Try.func67 (grottoref02_Inf.calls jI.out) ?_;intro kQ hb;obtain⟨d,a,b,HB⟩:=zu3 d a b HB hb;clear hb))
          go_ret2
          exact zr HB
         rw[if_neg cA] at H
         obtain⟨dc,dd⟩:=zf cA
         obtain⟨km,jP,H⟩:=oB H
         simp only[Option.some.injEq,Prod.mk.injEq] at H
         obtain⟨rfl,rfl⟩:=H
         obtain⟨jQ,jR⟩:=z2 W
         obtain⟨jS,jT⟩:=z2 Y
         obtain⟨gU,gV,gW,gX⟩:=zc2 d
         obtain⟨jU,jV⟩:=z2 I
         obtain⟨gY,gZ,g0,g1,g2,g3,g4,g5⟩:=zc4 a
         obtain⟨g6,g7,g8,g9,ha,hc,he,hf⟩:=zc4 b
         go_wp2_with (first|((with_reducible refine gate_callee (f:=67) rfl ?_);refine zgc (some 72) Try.func67 (grottoref02_Inf.calls jP.out) ?_;intro kR hb;obtain⟨d,a,b,HB⟩:=zu3 d a b HB hb;clear hb))
         go_ret2
         exact zr HB
        rw[if_neg cz] at H
        obtain⟨da,db⟩:=zf cz
        by_cases cB:J=3
        ·rw[if_pos cB] at H
         obtain⟨de,df⟩:=zt cB
         clear cB
         obtain⟨kn,jW,H⟩:=oB H
         simp only[Option.some.injEq,Prod.mk.injEq] at H
         obtain⟨rfl,rfl⟩:=H
         obtain⟨jX,jY⟩:=z2 W
         obtain⟨jZ,j4⟩:=z2 Y
         obtain⟨hh,hi,hj,hl⟩:=zc2 d
         obtain⟨j5,j6⟩:=z2 I
         obtain⟨hm,hn,ho,hp,hq,hs,ht,hu⟩:=zc4 a
         obtain⟨hv,hw,hx,hy,hz,hA,hB,hC⟩:=zc4 b
         go_wp2_with (first|((with_reducible refine gate_callee (f:=67) rfl ?_);refine zgc (some 72) Try.func67 (grottoref02_Inf.calls jW.out) ?_;intro kS hb;obtain⟨d,a,b,HB⟩:=zu3 d a b HB hb;clear hb))
         go_ret2
         exact zr HB
        rw[if_neg cB] at H
        obtain⟨de,df⟩:=zf cB
        obtain⟨ko,j7,H⟩:=oB H
        simp only[Option.some.injEq,Prod.mk.injEq] at H
        obtain⟨rfl,rfl⟩:=H
        obtain⟨j8,j9⟩:=z2 W
        obtain⟨ka,kb⟩:=z2 Y
        obtain⟨hD,hE,hF,hG⟩:=zc2 d
        obtain⟨hR,hS⟩:=z2 I
        obtain⟨dg,dh,di,dj,dk,dl,dm,dn⟩:=zc4 a
        obtain⟨dp,dq,dr,dt,du,dv,dw,dx⟩:=zc4 b
        go_wp2_with (first|((with_reducible refine gate_callee (f:=67) rfl ?_);refine zgc (some 72) Try.func67 (grottoref02_Inf.calls j7.out) ?_;intro kp hb;obtain⟨d,a,b,HB⟩:=zu3 d a b HB hb;clear hb))
        go_ret2
        exact zr HB
     replace cv:=Bool.eq_false_iff.mpr cv
     subst cv
     rw[if_neg nft] at H
     have ci:=Aside0.mk H
     clear H
     go_upto_region 10 with (fail)
     go_cut [80] (fun v80 wc=>∃ (kq:Nat) (a0:Bool),v80=.bool a0∧Aside0 (grottoref03_Add.j3 kq a0 aa ab O P ac ad J Q T U=some (r1,r2))∧Aside0 (kq≤cP)∧Aside0 (wc.heap[F]?=some (.cells #[.int .i64 aa,.int .i64 ab] 23 (0,0)))∧Aside0 (wc.heap[y]?=some (.cells #[.int .i64 O,.bool P,.int .i64 ac,.int .u64 ad] 34 (0,0)))∧Aside0 (wc.heap[z]?=some (.cells #[.int .i64 J,.bool Q,.int .i64 T,.int .u64 U] 34 (0,0)))∧Aside0 (Below w.heap.size w wc))
     case first =>
      have H:=ci.out
      clear ci
      by_cases cb:O=1
      ·rw[if_pos cb] at H
       obtain⟨a3,cM⟩:=zt cb
       clear cb
       (first|rw[a3]|(simp only[i64_w,i32_w];rw[a3])|skip)
       have H':=Aside0.mk H
       clear H
       obtain⟨hT,hU⟩:=z2 X
       obtain⟨hV,hW⟩:=z2 I
       obtain⟨dy,dz,dA,dB,dC,dD,dE,dF⟩:=zc4 a
       obtain⟨hX,hY⟩:=z2 af
       obtain⟨dG,dH,dI,dJ,dK,dL,dM,dN⟩:=zc4 b
       go_wp2
       go_meet
       case rel=>exact⟨_,((J==1)),(by first|rfl|(simp[*];done)),H',⟨by have:=cu.out;have:=cp.out;first|omega|exact Nat.le_refl _⟩,⟨zk d⟩,⟨zk a⟩,⟨zk b⟩,⟨zb HB⟩⟩
      rw[if_neg cb] at H
      obtain⟨a3,cM⟩:=zf cb
      (first|rw[a3]|(simp only[i64_w,i32_w];rw[a3])|skip)
      have H':=Aside0.mk H
      clear H
      obtain⟨hZ,h0⟩:=z2 X
      obtain⟨h1,h2⟩:=z2 I
      obtain⟨dO,dP,dQ,dR,dS,dT,dU,dV⟩:=zc4 a
      go_wp2
      go_meet
      case rel=>exact⟨_,(false),(by first|rfl|(simp[*];done)),H',⟨by have:=cu.out;have:=cp.out;first|omega|exact Nat.le_refl _⟩,⟨zk d⟩,⟨zk a⟩,⟨zk b⟩,⟨zb HB⟩⟩
     case rest =>
      clear ci
      try clear c1 c2 p2 c3 c4 bG bH fF fG fH bI aE bE fI fJ fK fL fM fN cf jp jq cg aI ch jr js jt ju jv cv aK aL aM aN aS aT aU aV bc bd be bf bk bl bm bn bs bt bu bv bJ bK bN bO bP bQ bV bW bX bY b3 b4 b5 b6 a6 a7 aO aP aQ aR aW aX aY aZ bg bh bi bj bo bp bq br bw bx bz bA bL bM bR bS bT bU bZ b0 b1 b2 b7 b8 b9 ca a8 a9 p2
      obtain⟨kq,a0,rfl,HA,kc,d,a,b,HB⟩:=hcut
      cases kq with
      | zero=>exact absurd HA.out (by simp[grottoref03_Add.j3])
      | succ aw =>
       have H:=HA.out
       clear HA
       simp only[grottoref03_Add.j3] at H
       by_cases cq:a0=true
       ·subst cq
        rw[if_pos rfl] at H
        by_cases cr:P=true
        ·subst cr
         rw[if_pos rfl] at H
         obtain⟨kr,hH,H⟩:=oB H
         simp only[Option.some.injEq,Prod.mk.injEq] at H
         obtain⟨rfl,rfl⟩:=H
         obtain⟨h3,h4⟩:=z2 W
         obtain⟨h5,h6⟩:=z2 Y
         obtain⟨dW,dX,dY,dZ⟩:=zc2 d
         obtain⟨h7,h8⟩:=z2 I
         obtain⟨d0,d1,d2,d3,d4,d5,d6,d7⟩:=zc4 a
         obtain⟨d8,d9,ea,eb,ec,ed,ee,ef⟩:=zc4 b
         go_wp2_with (first|((with_reducible refine gate_callee (f:=46) rfl ?_);refine zgc (some 88) Try.func46 (grottoref02_Zero.calls hH.out) ?_;intro ks hb;obtain⟨d,a,b,HB⟩:=zu3 d a b HB hb;clear hb))
         go_ret2
         exact zr HB
        replace cr:=Bool.eq_false_iff.mpr cr
        subst cr
        rw[if_neg nft] at H
        obtain⟨kt,hI,H⟩:=oB H
        simp only[Option.some.injEq,Prod.mk.injEq] at H
        obtain⟨rfl,rfl⟩:=H
        obtain⟨h9,ia⟩:=z2 W
        obtain⟨ib,ic⟩:=z2 Y
        obtain⟨eg,eh,ei,ej⟩:=zc2 d
        obtain⟨ie,ig⟩:=z2 I
        obtain⟨ek,el,em,en,eo,ep,eq,er⟩:=zc4 a
        go_wp2_with (first|((with_reducible refine gate_callee (f:=46) rfl ?_);refine zgc (some 88) Try.func46 (grottoref02_Zero.calls hI.out) ?_;intro ku hb;obtain⟨d,a,b,HB⟩:=zu3 d a b HB hb;clear hb))
        go_ret2
        exact zr HB
       replace cq:=Bool.eq_false_iff.mpr cq
       subst cq
       rw[if_neg nft] at H
       obtain⟨⟨aq,L,ar⟩,ct,H⟩:=oB H
       try dsimp only at H
       obtain⟨⟨au,M,av⟩,bC,H⟩:=oB H
       try dsimp only at H
       obtain⟨⟨ag,Z,ah⟩,a5,H⟩:=oB H
       try dsimp only at H
       obtain⟨cC,cQ,H⟩:=oB H
       by_cases cc:cC=0
       ·rw[if_pos cc] at H
        obtain⟨cN,cO⟩:=zt cc
        clear cc
        obtain⟨kv,hJ,H⟩:=oB H
        simp only[Option.some.injEq,Prod.mk.injEq] at H
        obtain⟨rfl,rfl⟩:=H
        try go_wp2
        replace d:=Aside0.mk (blk_drew d.out)
        replace a:=Aside0.mk (blk_drew a.out)
        replace b:=Aside0.mk (blk_drew b.out)
        replace HB:=Aside0.mk (below_drew1 HB.out)
        refine start_ (n:=7) (S:=fun w'=>w'.cell? ⟨y,0,none⟩=some (.int .i64 O)∧w'.cell? ⟨y,1,none⟩=some (.bool P)∧w'.cell? ⟨y,2,none⟩=some (.int .i64 ac)∧w'.cell? ⟨y,3,none⟩=some (.int .u64 ad)∧w'.cell? ⟨z,0,none⟩=some (.int .i64 J)∧w'.cell? ⟨z,1,none⟩=some (.bool Q)∧w'.cell? ⟨z,2,none⟩=some (.int .i64 T)∧w'.cell? ⟨z,3,none⟩=some (.int .u64 U)) (ds:=[]) #[false,false,false,false,false,false,false] (by kernel_rfl) rfl rfl ⟨(blk_cell a.out 0).trans rfl,(blk_cell a.out 1).trans rfl,(blk_cell a.out 2).trans rfl,(blk_cell a.out 3).trans rfl,(blk_cell b.out 0).trans rfl,(blk_cell b.out 1).trans rfl,(blk_cell b.out 2).trans rfl,(blk_cell b.out 3).trans rfl⟩ (fun hHeld=>?_)
        generalize wc.drew=kw at d a b HB hHeld ⊢
        refine ztake_ (i:=0) (N:=some 89) #[true,false,false,false,false,false,false] rfl (by kernel_rfl) hHeld (Or.inl ⟨by rfl,by rintro w' ⟨s0,s1,s2,s3,s4,s5,s6,s7⟩;go_simp;with_reducible rfl⟩) ?_
        refine ztake_ (i:=2) (N:=some 91) #[true,false,true,false,false,false,false] rfl (by kernel_rfl) hHeld (Or.inl ⟨by rfl,by rintro w' ⟨s0,s1,s2,s3,s4,s5,s6,s7⟩;go_simp;with_reducible rfl⟩) ?_
        refine join_ (σ:=Value×Value×Value×Nat) 1 #[true,true,true,true,true,true,false] (fun s_=>[(90,.agg #[.int .i64 aq,s_.1,.int .i64 ar]),(92,.agg #[.int .i64 au,s_.2.1,.int .i64 av]),(93,.agg #[.int .i64 ag,s_.2.2.1,.int .i64 ah]),(11,.pointer (some ⟨s_.2.2.2,0,none⟩))]) (fun s_ w'=>(w'.cell? ⟨y,0,none⟩=some (.int .i64 O)∧w'.cell? ⟨y,1,none⟩=some (.bool P)∧w'.cell? ⟨y,2,none⟩=some (.int .i64 ac)∧w'.cell? ⟨y,3,none⟩=some (.int .u64 ad)∧w'.cell? ⟨z,0,none⟩=some (.int .i64 J)∧w'.cell? ⟨z,1,none⟩=some (.bool Q)∧w'.cell? ⟨z,2,none⟩=some (.int .i64 T)∧w'.cell? ⟨z,3,none⟩=some (.int .u64 U))∧(Kd.R (Kd.int .i64) 3 w' w.heap.size (fun k_=>some k_≠(s_.2.1:Value).ownBlock) s_.1 L)∧(Kd.R (Kd.int .i64) 3 w' w.heap.size (fun k_=>some k_≠(s_.1:Value).ownBlock) s_.2.1 M)∧(Kd.V (Kd.int .i64) 3 w' w.heap.size (fun k_=>some k_≠(s_.1:Value).ownBlock∧some k_≠(s_.2.1:Value).ownBlock∧k_≠F∧k_≠y∧k_≠z∧k_≠s_.2.2.2) s_.2.2.1 Z)∧(w'.heap[F]?=some (.cells #[.int .i64 aa,.int .i64 ab] 23 (0,0)))∧(w'.heap[y]?=some (.cells #[.int .i64 O,.bool P,.int .i64 ac,.int .u64 ad] 34 (0,0)))∧(w'.heap[z]?=some (.cells #[.int .i64 J,.bool Q,.int .i64 T,.int .u64 U] 34 (0,0)))∧(w'.heap[s_.2.2.2]?=some (.cells #[.int .i64 0,.slice none 0 0,.int .i64 0] 73 (0,0)))∧(w.heap.size≤s_.2.2.2)∧(w.heap.size≤s_.2.2.2)∧(F≠s_.2.2.2)∧(s_.2.2.2≠F)∧(y≠s_.2.2.2)∧(s_.2.2.2≠y)∧(z≠s_.2.2.2)∧(s_.2.2.2≠z)∧(Below w.heap.size w w')) ?_ ?_
        rotate_left
        ·intro hCont
         refine two_ (i:=1) (j:=5) (Ni:=some 90) (Nj:=some 11) #[true,true,true,false,false,false,false] #[true,false,true,false,false,true,false] rfl rfl rfl rfl (by kernel_rfl) (by decide) (by decide) (fun K hK=>?_) (fun K hK=>?_)
         rotate_left
         ·skip
          refine box_step ?hg (N:=11) ?hd (cs:=#[.int .i64 0,.slice none 0 0,.int .i64 0]) (t:=73) ?hr ?_;(case hd=>rfl);(case hg=>rfl);(case hr=>first|(go_simp;done)|(go_simp;rfl))
          intro l hg hL hbox hb
          have u:=Aside0.mk hbox
          have ai:=zge hg HB
          have aj:=zge hg HB
          have E:=znl hg d
          have B:=zng hg d
          have q:=znl hg a
          have C:=zng hg a
          have s:=znl hg b
          have D:=zng hg b
          obtain⟨d,a,b,HB⟩:=zu3 d a b HB hb
          clear hb hbox hg
          refine hK.out _ _ ⟨(blk_cell a.out 0).trans rfl,(blk_cell a.out 1).trans rfl,(blk_cell a.out 2).trans rfl,(blk_cell a.out 3).trans rfl,(blk_cell b.out 0).trans rfl,(blk_cell b.out 1).trans rfl,(blk_cell b.out 2).trans rfl,(blk_cell b.out 3).trans rfl⟩ (fun hHeld=>?_)
          clear hK K
          refine norm_ (a':=?_) ?_ ?_
          rotate_left
          ·show Act.put _ (some 11) _=_
           simp only[Act.put,List.setIfInBounds_toArray,List.set_cons_zero,List.set_cons_succ,i64_w,i32_w]
           rfl
          refine one_ (i:=1) (N:=some 90) #[true,true,true,false,false,true,false] rfl rfl (by kernel_rfl) (by decide) (fun K hK=>?_)
          refine goes_ Try.func55 (by kernel_rfl) rfl #[.agg #[.int .i64 O,.bool P,.int .i64 ac,.int .u64 ad]] (by rfl) rfl rfl (by (try simp only[List.map_toArray,List.map_cons,List.map_nil]);first|done|rfl|(simp only[List.length_drop,List.length_take];rfl)) ?_
          with_reducible refine (grottoref03_exact.calls ct.out).mono ?_
          rintro e cR ⟨v707,rfl,ho0,hb⟩
          refine⟨_,rfl,?_⟩
          have m:=Aside0.mk (Kd.R_lower ho0 (below_size (zb HB)))
          obtain⟨d,a,b,u,HB⟩:=zu4 d a b u HB hb
          try clear hb
          (try clear ho0)
          refine hK.out _ _ ⟨(blk_cell a.out 0).trans rfl,(blk_cell a.out 1).trans rfl,(blk_cell a.out 2).trans rfl,(blk_cell a.out 3).trans rfl,(blk_cell b.out 0).trans rfl,(blk_cell b.out 1).trans rfl,(blk_cell b.out 2).trans rfl,(blk_cell b.out 3).trans rfl⟩ (fun hHeld=>?_)
          clear hK K
          refine norm_ (a':=?_) ?_ ?_
          rotate_left
          ·show Act.put _ (some 90) _=_
           simp only[Act.put,List.setIfInBounds_toArray,List.set_cons_zero,List.set_cons_succ,i64_w,i32_w]
           rfl
          refine one_ (i:=3) (N:=some 92) #[true,true,true,true,false,true,false] rfl rfl (by kernel_rfl) (by decide) (fun K hK=>?_)
          refine goes_ Try.func55 (by kernel_rfl) rfl #[.agg #[.int .i64 J,.bool Q,.int .i64 T,.int .u64 U]] (by rfl) rfl rfl (by (try simp only[List.map_toArray,List.map_cons,List.map_nil]);first|done|rfl|(simp only[List.length_drop,List.length_take];rfl)) ?_
          with_reducible refine (grottoref03_exact.calls bC.out).mono ?_
          rintro e cS ⟨v712,rfl,ho0,hb⟩
          refine⟨_,rfl,?_⟩
          have v:=Aside0.mk (Kd.R_lower (Kd.R_new' ho0 (Kd.R_lt (by (with_reducible repeat (first|apply Kd.R_alloc|apply Kd.R_drewN|apply Kd.R_drew));exact m.out))) (below_size (zb HB)))
          replace m:=Aside0.mk (Kd.R_elder' (by (with_reducible repeat (first|apply Kd.R_alloc|apply Kd.R_drewN|apply Kd.R_drew));exact m.out) (Kd.R_base ho0) hb)
          obtain⟨d,a,b,u,HB⟩:=zu4 d a b u HB hb
          try clear hb
          (try clear ho0)
          obtain⟨ak,al,ax⟩:=Kd.R_slice m.out
          (first|subst ax|(injection ax with f1_ f2_ f3_;have f4_:=f1_.symm;have f5_:=f3_.symm;clear f1_ f2_ f3_;subst f4_;subst f5_))
          obtain⟨ay,az,aF⟩:=Kd.R_slice v.out
          (first|subst aF|(injection aF with f1_ f2_ f3_;have f4_:=f1_.symm;have f5_:=f3_.symm;clear f1_ f2_ f3_;subst f4_;subst f5_))
          refine hK.out _ _ ⟨(blk_cell a.out 0).trans rfl,(blk_cell a.out 1).trans rfl,(blk_cell a.out 2).trans rfl,(blk_cell a.out 3).trans rfl,(blk_cell b.out 0).trans rfl,(blk_cell b.out 1).trans rfl,(blk_cell b.out 2).trans rfl,(blk_cell b.out 3).trans rfl⟩ (fun hHeld=>?_)
          clear hK K
          refine norm_ (a':=?_) ?_ ?_
          rotate_left
          ·show Act.put _ (some 92) _=_
           simp only[Act.put,List.setIfInBounds_toArray,List.set_cons_zero,List.set_cons_succ,i64_w,i32_w]
           rfl
          refine one_ (i:=4) (N:=some 93) #[true,true,true,true,true,true,false] rfl rfl (by kernel_rfl) (by decide) (fun K hK=>?_)
          refine goes_ Try.func64 (by kernel_rfl) rfl #[.agg #[.int .i64 aq,.slice ak L.length al,.int .i64 ar],.agg #[.int .i64 au,.slice ay M.length az,.int .i64 av]] (by rfl) rfl rfl (by (try simp only[List.map_toArray,List.map_cons,List.map_nil]);first|done|rfl|(simp only[List.length_drop,List.length_take];rfl)) ?_
          with_reducible refine (grottoref03_plus.calls aw aq _ _ L ar au _ _ M av ag Z ah _ ?side1 ?side2 ?side3 ?side4 a5.out).mono ?_
          (case side1=>repeat (first|exact (Kd.R_reads' m.out).2.2|(with_reducible refine Kd.C_alloc ?_ _)|(with_reducible refine Kd.C_drewN ?_ _)|(with_reducible refine Kd.C_drew ?_)))
          (case side2=>exact (Kd.R_reads' m.out).2.1)
          (case side3=>repeat (first|exact (Kd.R_reads' v.out).2.2|(with_reducible refine Kd.C_alloc ?_ _)|(with_reducible refine Kd.C_drewN ?_ _)|(with_reducible refine Kd.C_drew ?_)))
          (case side4=>exact (Kd.R_reads' v.out).2.1)
          rintro e cE ⟨v717,rfl,ho0,hb⟩
          refine⟨_,rfl,?_⟩
          have G:=Aside0.mk (Kd.V_lower (Kd.V_mono (ok':=fun k_=>some k_≠(.slice ak L.length al:Value).ownBlock∧some k_≠(.slice ay M.length az:Value).ownBlock∧k_≠F∧k_≠y∧k_≠z∧k_≠l) ho0 (fun k_ hk_=>⟨(Kd.fresh' (Kd.R_lt (by (with_reducible repeat (first|apply Kd.R_alloc|apply Kd.R_drewN|apply Kd.R_drew));exact m.out)) k_ hk_),(Kd.fresh' (Kd.R_lt (by (with_reducible repeat (first|apply Kd.R_alloc|apply Kd.R_drewN|apply Kd.R_drew));exact v.out)) k_ hk_),(Kd.freshB (g:=F) (o:=.cells #[.int .i64 aa,.int .i64 ab] 23 (0,0)) (zk d) k_ hk_),(Kd.freshB (g:=y) (o:=.cells #[.int .i64 O,.bool P,.int .i64 ac,.int .u64 ad] 34 (0,0)) (zk a) k_ hk_),(Kd.freshB (g:=z) (o:=.cells #[.int .i64 J,.bool Q,.int .i64 T,.int .u64 U] 34 (0,0)) (zk b) k_ hk_),(Kd.freshB (g:=l) (o:=.cells #[.int .i64 0,.slice none 0 0,.int .i64 0] 73 (0,0)) (zk u) k_ hk_)⟩)) (below_size (zb HB)))
          replace m:=Aside0.mk (Kd.R_below (by (with_reducible repeat (first|apply Kd.R_alloc|apply Kd.R_drewN|apply Kd.R_drew));exact m.out) hb)
          replace v:=Aside0.mk (Kd.R_below (by (with_reducible repeat (first|apply Kd.R_alloc|apply Kd.R_drewN|apply Kd.R_drew));exact v.out) hb)
          obtain⟨d,a,b,u,HB⟩:=zu4 d a b u HB hb
          try clear hb
          (try clear ho0)
          refine hK.out _ _ ⟨(blk_cell a.out 0).trans rfl,(blk_cell a.out 1).trans rfl,(blk_cell a.out 2).trans rfl,(blk_cell a.out 3).trans rfl,(blk_cell b.out 0).trans rfl,(blk_cell b.out 1).trans rfl,(blk_cell b.out 2).trans rfl,(blk_cell b.out 3).trans rfl⟩ (fun hHeld=>?_)
          clear hK K
          refine norm_ (a':=?_) ?_ ?_
          rotate_left
          ·show Act.put _ (some 93) _=_
           simp only[Act.put,List.setIfInBounds_toArray,List.set_cons_zero,List.set_cons_succ,i64_w,i32_w]
           rfl
          exact norm_ (by simp only[putAll,Act.put,List.setIfInBounds_toArray,List.set_cons_zero,List.set_cons_succ]) (hCont (.slice ak L.length al,.slice ay M.length az,v717,l) _ ⟨hHeld,(by (with_reducible repeat (first|apply Kd.R_alloc|apply Kd.R_drewN|apply Kd.R_drew));exact Kd.R_mono m.out (fun _ hk=>hk.2)),(by (with_reducible repeat (first|apply Kd.R_alloc|apply Kd.R_drewN|apply Kd.R_drew));exact Kd.R_mono v.out (fun _ hk=>hk.2)),(by (with_reducible repeat (first|apply Kd.V_alloc|apply Kd.V_drewN|apply Kd.V_drew));exact G.out),(zk d),(zk a),(zk b),(zk u),ai.out,aj.out,E.out,B.out,q.out,C.out,s.out,D.out,(zb HB)⟩)
         skip
         refine goes_ Try.func55 (by kernel_rfl) rfl #[.agg #[.int .i64 O,.bool P,.int .i64 ac,.int .u64 ad]] (by rfl) rfl rfl (by (try simp only[List.map_toArray,List.map_cons,List.map_nil]);first|done|rfl|(simp only[List.length_drop,List.length_take];rfl)) ?_
         with_reducible refine (grottoref03_exact.calls ct.out).mono ?_
         rintro e hL ⟨v707,rfl,ho0,hb⟩
         refine⟨_,rfl,?_⟩
         have m:=Aside0.mk (Kd.R_lower ho0 (below_size (zb HB)))
         obtain⟨d,a,b,HB⟩:=zu3 d a b HB hb
         try clear hb
         (try clear ho0)
         refine hK.out _ _ ⟨(blk_cell a.out 0).trans rfl,(blk_cell a.out 1).trans rfl,(blk_cell a.out 2).trans rfl,(blk_cell a.out 3).trans rfl,(blk_cell b.out 0).trans rfl,(blk_cell b.out 1).trans rfl,(blk_cell b.out 2).trans rfl,(blk_cell b.out 3).trans rfl⟩ (fun hHeld=>?_)
         clear hK K
         refine norm_ (a':=?_) ?_ ?_
         rotate_left
         ·show Act.put _ (some 90) _=_
          simp only[Act.put,List.setIfInBounds_toArray,List.set_cons_zero,List.set_cons_succ,i64_w,i32_w]
          rfl
         refine two_ (i:=3) (j:=5) (Ni:=some 92) (Nj:=some 11) #[true,true,true,true,false,false,false] #[true,true,true,false,false,true,false] rfl rfl rfl rfl (by kernel_rfl) (by decide) (by decide) (fun K hK=>?_) (fun K hK=>?_)
         rotate_left
         ·skip
          refine box_step ?hg (N:=11) ?hd (cs:=#[.int .i64 0,.slice none 0 0,.int .i64 0]) (t:=73) ?hr ?_;(case hd=>rfl);(case hg=>rfl);(case hr=>first|(go_simp;done)|(go_simp;rfl))
          intro l hg cR hbox hb
          have u:=Aside0.mk hbox
          have ai:=zge hg HB
          have aj:=zge hg HB
          have E:=znl hg d
          have B:=zng hg d
          have q:=znl hg a
          have C:=zng hg a
          have s:=znl hg b
          have D:=zng hg b
          replace m:=Aside0.mk (Kd.R_below (by (with_reducible repeat (first|apply Kd.R_alloc|apply Kd.R_drewN|apply Kd.R_drew));exact m.out) hb)
          obtain⟨d,a,b,HB⟩:=zu3 d a b HB hb
          clear hb hbox hg
          refine hK.out _ _ ⟨(blk_cell a.out 0).trans rfl,(blk_cell a.out 1).trans rfl,(blk_cell a.out 2).trans rfl,(blk_cell a.out 3).trans rfl,(blk_cell b.out 0).trans rfl,(blk_cell b.out 1).trans rfl,(blk_cell b.out 2).trans rfl,(blk_cell b.out 3).trans rfl⟩ (fun hHeld=>?_)
          clear hK K
          refine norm_ (a':=?_) ?_ ?_
          rotate_left
          ·show Act.put _ (some 11) _=_
           simp only[Act.put,List.setIfInBounds_toArray,List.set_cons_zero,List.set_cons_succ,i64_w,i32_w]
           rfl
          refine one_ (i:=3) (N:=some 92) #[true,true,true,true,false,true,false] rfl rfl (by kernel_rfl) (by decide) (fun K hK=>?_)
          refine goes_ Try.func55 (by kernel_rfl) rfl #[.agg #[.int .i64 J,.bool Q,.int .i64 T,.int .u64 U]] (by rfl) rfl rfl (by (try simp only[List.map_toArray,List.map_cons,List.map_nil]);first|done|rfl|(simp only[List.length_drop,List.length_take];rfl)) ?_
          with_reducible refine (grottoref03_exact.calls bC.out).mono ?_
          rintro e cS ⟨v712,rfl,ho0,hb⟩
          refine⟨_,rfl,?_⟩
          have v:=Aside0.mk (Kd.R_lower (Kd.R_new' ho0 (Kd.R_lt (by (with_reducible repeat (first|apply Kd.R_alloc|apply Kd.R_drewN|apply Kd.R_drew));exact m.out))) (below_size (zb HB)))
          replace m:=Aside0.mk (Kd.R_elder' (by (with_reducible repeat (first|apply Kd.R_alloc|apply Kd.R_drewN|apply Kd.R_drew));exact m.out) (Kd.R_base ho0) hb)
          obtain⟨d,a,b,u,HB⟩:=zu4 d a b u HB hb
          try clear hb
          (try clear ho0)
          obtain⟨ak,al,ax⟩:=Kd.R_slice m.out
          (first|subst ax|(injection ax with f1_ f2_ f3_;have f4_:=f1_.symm;have f5_:=f3_.symm;clear f1_ f2_ f3_;subst f4_;subst f5_))
          obtain⟨ay,az,aF⟩:=Kd.R_slice v.out
          (first|subst aF|(injection aF with f1_ f2_ f3_;have f4_:=f1_.symm;have f5_:=f3_.symm;clear f1_ f2_ f3_;subst f4_;subst f5_))
          refine hK.out _ _ ⟨(blk_cell a.out 0).trans rfl,(blk_cell a.out 1).trans rfl,(blk_cell a.out 2).trans rfl,(blk_cell a.out 3).trans rfl,(blk_cell b.out 0).trans rfl,(blk_cell b.out 1).trans rfl,(blk_cell b.out 2).trans rfl,(blk_cell b.out 3).trans rfl⟩ (fun hHeld=>?_)
          clear hK K
          refine norm_ (a':=?_) ?_ ?_
          rotate_left
          ·show Act.put _ (some 92) _=_
           simp only[Act.put,List.setIfInBounds_toArray,List.set_cons_zero,List.set_cons_succ,i64_w,i32_w]
           rfl
          refine one_ (i:=4) (N:=some 93) #[true,true,true,true,true,true,false] rfl rfl (by kernel_rfl) (by decide) (fun K hK=>?_)
          refine goes_ Try.func64 (by kernel_rfl) rfl #[.agg #[.int .i64 aq,.slice ak L.length al,.int .i64 ar],.agg #[.int .i64 au,.slice ay M.length az,.int .i64 av]] (by rfl) rfl rfl (by (try simp only[List.map_toArray,List.map_cons,List.map_nil]);first|done|rfl|(simp only[List.length_drop,List.length_take];rfl)) ?_
          with_reducible refine (grottoref03_plus.calls aw aq _ _ L ar au _ _ M av ag Z ah _ ?side1 ?side2 ?side3 ?side4 a5.out).mono ?_
          (case side1=>repeat (first|exact (Kd.R_reads' m.out).2.2|(with_reducible refine Kd.C_alloc ?_ _)|(with_reducible refine Kd.C_drewN ?_ _)|(with_reducible refine Kd.C_drew ?_)))
          (case side2=>exact (Kd.R_reads' m.out).2.1)
          (case side3=>repeat (first|exact (Kd.R_reads' v.out).2.2|(with_reducible refine Kd.C_alloc ?_ _)|(with_reducible refine Kd.C_drewN ?_ _)|(with_reducible refine Kd.C_drew ?_)))
          (case side4=>exact (Kd.R_reads' v.out).2.1)
          rintro e cE ⟨v717,rfl,ho0,hb⟩
          refine⟨_,rfl,?_⟩
          have G:=Aside0.mk (Kd.V_lower (Kd.V_mono (ok':=fun k_=>some k_≠(.slice ak L.length al:Value).ownBlock∧some k_≠(.slice ay M.length az:Value).ownBlock∧k_≠F∧k_≠y∧k_≠z∧k_≠l) ho0 (fun k_ hk_=>⟨(Kd.fresh' (Kd.R_lt (by (with_reducible repeat (first|apply Kd.R_alloc|apply Kd.R_drewN|apply Kd.R_drew));exact m.out)) k_ hk_),(Kd.fresh' (Kd.R_lt (by (with_reducible repeat (first|apply Kd.R_alloc|apply Kd.R_drewN|apply Kd.R_drew));exact v.out)) k_ hk_),(Kd.freshB (g:=F) (o:=.cells #[.int .i64 aa,.int .i64 ab] 23 (0,0)) (zk d) k_ hk_),(Kd.freshB (g:=y) (o:=.cells #[.int .i64 O,.bool P,.int .i64 ac,.int .u64 ad] 34 (0,0)) (zk a) k_ hk_),(Kd.freshB (g:=z) (o:=.cells #[.int .i64 J,.bool Q,.int .i64 T,.int .u64 U] 34 (0,0)) (zk b) k_ hk_),(Kd.freshB (g:=l) (o:=.cells #[.int .i64 0,.slice none 0 0,.int .i64 0] 73 (0,0)) (zk u) k_ hk_)⟩)) (below_size (zb HB)))
          replace m:=Aside0.mk (Kd.R_below (by (with_reducible repeat (first|apply Kd.R_alloc|apply Kd.R_drewN|apply Kd.R_drew));exact m.out) hb)
          replace v:=Aside0.mk (Kd.R_below (by (with_reducible repeat (first|apply Kd.R_alloc|apply Kd.R_drewN|apply Kd.R_drew));exact v.out) hb)
          obtain⟨d,a,b,u,HB⟩:=zu4 d a b u HB hb
          try clear hb
          (try clear ho0)
          refine hK.out _ _ ⟨(blk_cell a.out 0).trans rfl,(blk_cell a.out 1).trans rfl,(blk_cell a.out 2).trans rfl,(blk_cell a.out 3).trans rfl,(blk_cell b.out 0).trans rfl,(blk_cell b.out 1).trans rfl,(blk_cell b.out 2).trans rfl,(blk_cell b.out 3).trans rfl⟩ (fun hHeld=>?_)
          clear hK K
          refine norm_ (a':=?_) ?_ ?_
          rotate_left
          ·show Act.put _ (some 93) _=_
           simp only[Act.put,List.setIfInBounds_toArray,List.set_cons_zero,List.set_cons_succ,i64_w,i32_w]
           rfl
          exact norm_ (by simp only[putAll,Act.put,List.setIfInBounds_toArray,List.set_cons_zero,List.set_cons_succ]) (hCont (.slice ak L.length al,.slice ay M.length az,v717,l) _ ⟨hHeld,(by (with_reducible repeat (first|apply Kd.R_alloc|apply Kd.R_drewN|apply Kd.R_drew));exact Kd.R_mono m.out (fun _ hk=>hk.2)),(by (with_reducible repeat (first|apply Kd.R_alloc|apply Kd.R_drewN|apply Kd.R_drew));exact Kd.R_mono v.out (fun _ hk=>hk.2)),(by (with_reducible repeat (first|apply Kd.V_alloc|apply Kd.V_drewN|apply Kd.V_drew));exact G.out),(zk d),(zk a),(zk b),(zk u),ai.out,aj.out,E.out,B.out,q.out,C.out,s.out,D.out,(zb HB)⟩)
         skip
         refine goes_ Try.func55 (by kernel_rfl) rfl #[.agg #[.int .i64 J,.bool Q,.int .i64 T,.int .u64 U]] (by rfl) rfl rfl (by (try simp only[List.map_toArray,List.map_cons,List.map_nil]);first|done|rfl|(simp only[List.length_drop,List.length_take];rfl)) ?_
         with_reducible refine (grottoref03_exact.calls bC.out).mono ?_
         rintro e cR ⟨v712,rfl,ho0,hb⟩
         refine⟨_,rfl,?_⟩
         have v:=Aside0.mk (Kd.R_lower (Kd.R_new' ho0 (Kd.R_lt (by (with_reducible repeat (first|apply Kd.R_alloc|apply Kd.R_drewN|apply Kd.R_drew));exact m.out))) (below_size (zb HB)))
         replace m:=Aside0.mk (Kd.R_elder' (by (with_reducible repeat (first|apply Kd.R_alloc|apply Kd.R_drewN|apply Kd.R_drew));exact m.out) (Kd.R_base ho0) hb)
         obtain⟨d,a,b,HB⟩:=zu3 d a b HB hb
         try clear hb
         (try clear ho0)
         obtain⟨cj,ck,cD⟩:=Kd.R_slice m.out
         (first|subst cD|(injection cD with f1_ f2_ f3_;have f4_:=f1_.symm;have f5_:=f3_.symm;clear f1_ f2_ f3_;subst f4_;subst f5_))
         obtain⟨ak,al,ax⟩:=Kd.R_slice v.out
         (first|subst ax|(injection ax with f1_ f2_ f3_;have f4_:=f1_.symm;have f5_:=f3_.symm;clear f1_ f2_ f3_;subst f4_;subst f5_))
         refine hK.out _ _ ⟨(blk_cell a.out 0).trans rfl,(blk_cell a.out 1).trans rfl,(blk_cell a.out 2).trans rfl,(blk_cell a.out 3).trans rfl,(blk_cell b.out 0).trans rfl,(blk_cell b.out 1).trans rfl,(blk_cell b.out 2).trans rfl,(blk_cell b.out 3).trans rfl⟩ (fun hHeld=>?_)
         clear hK K
         refine norm_ (a':=?_) ?_ ?_
         rotate_left
         ·show Act.put _ (some 92) _=_
          simp only[Act.put,List.setIfInBounds_toArray,List.set_cons_zero,List.set_cons_succ,i64_w,i32_w]
          rfl
         refine two_ (i:=4) (j:=5) (Ni:=some 93) (Nj:=some 11) #[true,true,true,true,true,false,false] #[true,true,true,true,false,true,false] rfl rfl rfl rfl (by kernel_rfl) (by decide) (by decide) (fun K hK=>?_) (fun K hK=>?_)
         ·skip
          refine goes_ Try.func64 (by kernel_rfl) rfl #[.agg #[.int .i64 aq,.slice cj L.length ck,.int .i64 ar],.agg #[.int .i64 au,.slice ak M.length al,.int .i64 av]] (by rfl) rfl rfl (by (try simp only[List.map_toArray,List.map_cons,List.map_nil]);first|done|rfl|(simp only[List.length_drop,List.length_take];rfl)) ?_
          with_reducible refine (grottoref03_plus.calls aw aq _ _ L ar au _ _ M av ag Z ah _ ?side1 ?side2 ?side3 ?side4 a5.out).mono ?_
          (case side1=>repeat (first|exact (Kd.R_reads' m.out).2.2|(with_reducible refine Kd.C_alloc ?_ _)|(with_reducible refine Kd.C_drewN ?_ _)|(with_reducible refine Kd.C_drew ?_)))
          (case side2=>exact (Kd.R_reads' m.out).2.1)
          (case side3=>repeat (first|exact (Kd.R_reads' v.out).2.2|(with_reducible refine Kd.C_alloc ?_ _)|(with_reducible refine Kd.C_drewN ?_ _)|(with_reducible refine Kd.C_drew ?_)))
          (case side4=>exact (Kd.R_reads' v.out).2.1)
          rintro e kx ⟨v717,rfl,ho0,hb⟩
          refine⟨_,rfl,?_⟩
          have G:=Aside0.mk (Kd.V_lower (Kd.V_mono (ok':=fun k_=>some k_≠(.slice cj L.length ck:Value).ownBlock∧some k_≠(.slice ak M.length al:Value).ownBlock∧k_≠F∧k_≠y∧k_≠z) ho0 (fun k_ hk_=>⟨(Kd.fresh' (Kd.R_lt (by (with_reducible repeat (first|apply Kd.R_alloc|apply Kd.R_drewN|apply Kd.R_drew));exact m.out)) k_ hk_),(Kd.fresh' (Kd.R_lt (by (with_reducible repeat (first|apply Kd.R_alloc|apply Kd.R_drewN|apply Kd.R_drew));exact v.out)) k_ hk_),(Kd.freshB (g:=F) (o:=.cells #[.int .i64 aa,.int .i64 ab] 23 (0,0)) (zk d) k_ hk_),(Kd.freshB (g:=y) (o:=.cells #[.int .i64 O,.bool P,.int .i64 ac,.int .u64 ad] 34 (0,0)) (zk a) k_ hk_),(Kd.freshB (g:=z) (o:=.cells #[.int .i64 J,.bool Q,.int .i64 T,.int .u64 U] 34 (0,0)) (zk b) k_ hk_)⟩)) (below_size (zb HB)))
          replace m:=Aside0.mk (Kd.R_below (by (with_reducible repeat (first|apply Kd.R_alloc|apply Kd.R_drewN|apply Kd.R_drew));exact m.out) hb)
          replace v:=Aside0.mk (Kd.R_below (by (with_reducible repeat (first|apply Kd.R_alloc|apply Kd.R_drewN|apply Kd.R_drew));exact v.out) hb)
          obtain⟨d,a,b,HB⟩:=zu3 d a b HB hb
          try clear hb
          (try clear ho0)
          refine hK.out _ _ ⟨(blk_cell a.out 0).trans rfl,(blk_cell a.out 1).trans rfl,(blk_cell a.out 2).trans rfl,(blk_cell a.out 3).trans rfl,(blk_cell b.out 0).trans rfl,(blk_cell b.out 1).trans rfl,(blk_cell b.out 2).trans rfl,(blk_cell b.out 3).trans rfl⟩ (fun hHeld=>?_)
          clear hK K
          refine norm_ (a':=?_) ?_ ?_
          rotate_left
          ·show Act.put _ (some 93) _=_
           simp only[Act.put,List.setIfInBounds_toArray,List.set_cons_zero,List.set_cons_succ,i64_w,i32_w]
           rfl
          refine one_ (i:=5) (N:=some 11) #[true,true,true,true,true,true,false] rfl rfl (by kernel_rfl) (by decide) (fun K hK=>?_)
          refine box_step ?hg (N:=11) ?hd (cs:=#[.int .i64 0,.slice none 0 0,.int .i64 0]) (t:=73) ?hr ?_;(case hd=>rfl);(case hg=>rfl);(case hr=>first|(go_simp;done)|(go_simp;rfl))
          intro l hg cE hbox hb
          have u:=Aside0.mk hbox
          have ai:=zge hg HB
          have aj:=zge hg HB
          have E:=znl hg d
          have B:=zng hg d
          have q:=znl hg a
          have C:=zng hg a
          have s:=znl hg b
          have D:=zng hg b
          replace m:=Aside0.mk (Kd.R_below (by (with_reducible repeat (first|apply Kd.R_alloc|apply Kd.R_drewN|apply Kd.R_drew));exact m.out) hb)
          replace v:=Aside0.mk (Kd.R_below (by (with_reducible repeat (first|apply Kd.R_alloc|apply Kd.R_drewN|apply Kd.R_drew));exact v.out) hb)
          replace G:=Aside0.mk (Kd.V_below (Kd.V_elderB (by (with_reducible repeat (first|apply Kd.V_alloc|apply Kd.V_drewN|apply Kd.V_drew));exact G.out) l (Nat.le_of_eq hg.symm)) hb)
          obtain⟨d,a,b,HB⟩:=zu3 d a b HB hb
          clear hb hbox hg
          refine hK.out _ _ ⟨(blk_cell a.out 0).trans rfl,(blk_cell a.out 1).trans rfl,(blk_cell a.out 2).trans rfl,(blk_cell a.out 3).trans rfl,(blk_cell b.out 0).trans rfl,(blk_cell b.out 1).trans rfl,(blk_cell b.out 2).trans rfl,(blk_cell b.out 3).trans rfl⟩ (fun hHeld=>?_)
          clear hK K
          refine norm_ (a':=?_) ?_ ?_
          rotate_left
          ·show Act.put _ (some 11) _=_
           simp only[Act.put,List.setIfInBounds_toArray,List.set_cons_zero,List.set_cons_succ,i64_w,i32_w]
           rfl
          exact norm_ (by simp only[putAll,Act.put,List.setIfInBounds_toArray,List.set_cons_zero,List.set_cons_succ]) (hCont (.slice cj L.length ck,.slice ak M.length al,v717,l) _ ⟨hHeld,(by (with_reducible repeat (first|apply Kd.R_alloc|apply Kd.R_drewN|apply Kd.R_drew));exact Kd.R_mono m.out (fun _ hk=>hk.2)),(by (with_reducible repeat (first|apply Kd.R_alloc|apply Kd.R_drewN|apply Kd.R_drew));exact Kd.R_mono v.out (fun _ hk=>hk.2)),(by (with_reducible repeat (first|apply Kd.V_alloc|apply Kd.V_drewN|apply Kd.V_drew));exact Kd.V_mono G.out (fun _ hk=>⟨hk.1.1,⟨hk.1.2.1,⟨hk.1.2.2.1,⟨hk.1.2.2.2.1,⟨hk.1.2.2.2.2,hk.2⟩⟩⟩⟩⟩)),(zk d),(zk a),(zk b),(zk u),ai.out,aj.out,E.out,B.out,q.out,C.out,s.out,D.out,(zb HB)⟩)
         skip
         refine box_step ?hg (N:=11) ?hd (cs:=#[.int .i64 0,.slice none 0 0,.int .i64 0]) (t:=73) ?hr ?_;(case hd=>rfl);(case hg=>rfl);(case hr=>first|(go_simp;done)|(go_simp;rfl))
         intro l hg cS hbox hb
         have u:=Aside0.mk hbox
         have ai:=zge hg HB
         have aj:=zge hg HB
         have E:=znl hg d
         have B:=zng hg d
         have q:=znl hg a
         have C:=zng hg a
         have s:=znl hg b
         have D:=zng hg b
         replace m:=Aside0.mk (Kd.R_below (by (with_reducible repeat (first|apply Kd.R_alloc|apply Kd.R_drewN|apply Kd.R_drew));exact m.out) hb)
         replace v:=Aside0.mk (Kd.R_below (by (with_reducible repeat (first|apply Kd.R_alloc|apply Kd.R_drewN|apply Kd.R_drew));exact v.out) hb)
         obtain⟨d,a,b,HB⟩:=zu3 d a b HB hb
         clear hb hbox hg
         obtain⟨ak,al,ax⟩:=Kd.R_slice m.out
         (first|subst ax|(injection ax with f1_ f2_ f3_;have f4_:=f1_.symm;have f5_:=f3_.symm;clear f1_ f2_ f3_;subst f4_;subst f5_))
         obtain⟨ay,az,aF⟩:=Kd.R_slice v.out
         (first|subst aF|(injection aF with f1_ f2_ f3_;have f4_:=f1_.symm;have f5_:=f3_.symm;clear f1_ f2_ f3_;subst f4_;subst f5_))
         refine hK.out _ _ ⟨(blk_cell a.out 0).trans rfl,(blk_cell a.out 1).trans rfl,(blk_cell a.out 2).trans rfl,(blk_cell a.out 3).trans rfl,(blk_cell b.out 0).trans rfl,(blk_cell b.out 1).trans rfl,(blk_cell b.out 2).trans rfl,(blk_cell b.out 3).trans rfl⟩ (fun hHeld=>?_)
         clear hK K
         refine norm_ (a':=?_) ?_ ?_
         rotate_left
         ·show Act.put _ (some 11) _=_
          simp only[Act.put,List.setIfInBounds_toArray,List.set_cons_zero,List.set_cons_succ,i64_w,i32_w]
          rfl
         refine one_ (i:=4) (N:=some 93) #[true,true,true,true,true,true,false] rfl rfl (by kernel_rfl) (by decide) (fun K hK=>?_)
         refine goes_ Try.func64 (by kernel_rfl) rfl #[.agg #[.int .i64 aq,.slice ak L.length al,.int .i64 ar],.agg #[.int .i64 au,.slice ay M.length az,.int .i64 av]] (by rfl) rfl rfl (by (try simp only[List.map_toArray,List.map_cons,List.map_nil]);first|done|rfl|(simp only[List.length_drop,List.length_take];rfl)) ?_
         with_reducible refine (grottoref03_plus.calls aw aq _ _ L ar au _ _ M av ag Z ah _ ?side1 ?side2 ?side3 ?side4 a5.out).mono ?_
         (case side1=>repeat (first|exact (Kd.R_reads' m.out).2.2|(with_reducible refine Kd.C_alloc ?_ _)|(with_reducible refine Kd.C_drewN ?_ _)|(with_reducible refine Kd.C_drew ?_)))
         (case side2=>exact (Kd.R_reads' m.out).2.1)
         (case side3=>repeat (first|exact (Kd.R_reads' v.out).2.2|(with_reducible refine Kd.C_alloc ?_ _)|(with_reducible refine Kd.C_drewN ?_ _)|(with_reducible refine Kd.C_drew ?_)))
         (case side4=>exact (Kd.R_reads' v.out).2.1)
         rintro e cE ⟨v717,rfl,ho0,hb⟩
         refine⟨_,rfl,?_⟩
         have G:=Aside0.mk (Kd.V_lower (Kd.V_mono (ok':=fun k_=>some k_≠(.slice ak L.length al:Value).ownBlock∧some k_≠(.slice ay M.length az:Value).ownBlock∧k_≠F∧k_≠y∧k_≠z∧k_≠l) ho0 (fun k_ hk_=>⟨(Kd.fresh' (Kd.R_lt (by (with_reducible repeat (first|apply Kd.R_alloc|apply Kd.R_drewN|apply Kd.R_drew));exact m.out)) k_ hk_),(Kd.fresh' (Kd.R_lt (by (with_reducible repeat (first|apply Kd.R_alloc|apply Kd.R_drewN|apply Kd.R_drew));exact v.out)) k_ hk_),(Kd.freshB (g:=F) (o:=.cells #[.int .i64 aa,.int .i64 ab] 23 (0,0)) (zk d) k_ hk_),(Kd.freshB (g:=y) (o:=.cells #[.int .i64 O,.bool P,.int .i64 ac,.int .u64 ad] 34 (0,0)) (zk a) k_ hk_),(Kd.freshB (g:=z) (o:=.cells #[.int .i64 J,.bool Q,.int .i64 T,.int .u64 U] 34 (0,0)) (zk b) k_ hk_),(Kd.freshB (g:=l) (o:=.cells #[.int .i64 0,.slice none 0 0,.int .i64 0] 73 (0,0)) (zk u) k_ hk_)⟩)) (below_size (zb HB)))
         replace m:=Aside0.mk (Kd.R_below (by (with_reducible repeat (first|apply Kd.R_alloc|apply Kd.R_drewN|apply Kd.R_drew));exact m.out) hb)
         replace v:=Aside0.mk (Kd.R_below (by (with_reducible repeat (first|apply Kd.R_alloc|apply Kd.R_drewN|apply Kd.R_drew));exact v.out) hb)
         obtain⟨d,a,b,u,HB⟩:=zu4 d a b u HB hb
         try clear hb
         (try clear ho0)
         refine hK.out _ _ ⟨(blk_cell a.out 0).trans rfl,(blk_cell a.out 1).trans rfl,(blk_cell a.out 2).trans rfl,(blk_cell a.out 3).trans rfl,(blk_cell b.out 0).trans rfl,(blk_cell b.out 1).trans rfl,(blk_cell b.out 2).trans rfl,(blk_cell b.out 3).trans rfl⟩ (fun hHeld=>?_)
         clear hK K
         refine norm_ (a':=?_) ?_ ?_
         rotate_left
         ·show Act.put _ (some 93) _=_
          simp only[Act.put,List.setIfInBounds_toArray,List.set_cons_zero,List.set_cons_succ,i64_w,i32_w]
          rfl
         exact norm_ (by simp only[putAll,Act.put,List.setIfInBounds_toArray,List.set_cons_zero,List.set_cons_succ]) (hCont (.slice ak L.length al,.slice ay M.length az,v717,l) _ ⟨hHeld,(by (with_reducible repeat (first|apply Kd.R_alloc|apply Kd.R_drewN|apply Kd.R_drew));exact Kd.R_mono m.out (fun _ hk=>hk.2)),(by (with_reducible repeat (first|apply Kd.R_alloc|apply Kd.R_drewN|apply Kd.R_drew));exact Kd.R_mono v.out (fun _ hk=>hk.2)),(by (with_reducible repeat (first|apply Kd.V_alloc|apply Kd.V_drewN|apply Kd.V_drew));exact G.out),(zk d),(zk a),(zk b),(zk u),ai.out,aj.out,E.out,B.out,q.out,C.out,s.out,D.out,(zb HB)⟩)
        rintro⟨v707,v712,v717,l⟩ ao ⟨hS_,h0_,h1_,h2_,h3_,h4_,h5_,h6_,h7_,h8_,h9_,h10_,h11_,h12_,h13_,h14_,h15_⟩
        have n0_:Aside0 (Kd.R (Kd.int .i64) 3 ao w.heap.size (fun k_=>some k_≠(v712:Value).ownBlock) v707 L):=⟨h0_⟩
        have n1_:Aside0 (Kd.R (Kd.int .i64) 3 ao w.heap.size (fun k_=>some k_≠(v707:Value).ownBlock) v712 M):=⟨h1_⟩
        have n2_:Aside0 (Kd.V (Kd.int .i64) 3 ao w.heap.size (fun k_=>some k_≠(v707:Value).ownBlock∧some k_≠(v712:Value).ownBlock∧k_≠F∧k_≠y∧k_≠z∧k_≠l) v717 Z):=⟨h2_⟩
        have n3_:Aside0 (ao.heap[F]?=some (.cells #[.int .i64 aa,.int .i64 ab] 23 (0,0))):=⟨h3_⟩
        have n4_:Aside0 (ao.heap[y]?=some (.cells #[.int .i64 O,.bool P,.int .i64 ac,.int .u64 ad] 34 (0,0))):=⟨h4_⟩
        have n5_:Aside0 (ao.heap[z]?=some (.cells #[.int .i64 J,.bool Q,.int .i64 T,.int .u64 U] 34 (0,0))):=⟨h5_⟩
        have n6_:Aside0 (ao.heap[l]?=some (.cells #[.int .i64 0,.slice none 0 0,.int .i64 0] 73 (0,0))):=⟨h6_⟩
        have n7_:Aside0 (w.heap.size≤l):=⟨h7_⟩
        have n8_:Aside0 (w.heap.size≤l):=⟨h8_⟩
        have n9_:Aside0 (F≠l):=⟨h9_⟩
        have n10_:Aside0 (l≠F):=⟨h10_⟩
        have n11_:Aside0 (y≠l):=⟨h11_⟩
        have n12_:Aside0 (l≠y):=⟨h12_⟩
        have n13_:Aside0 (z≠l):=⟨h13_⟩
        have n14_:Aside0 (l≠z):=⟨h14_⟩
        have n15_:Aside0 (Below w.heap.size w ao):=⟨h15_⟩
        clear d
        clear a
        clear b
        clear HB
        clear h0_ h1_ h2_ h3_ h4_ h5_ h6_ h7_ h8_ h9_ h10_ h11_ h12_ h13_ h14_ h15_
        have m:=n0_
        have v:=n1_
        have G:=n2_
        have d:=n3_
        have a:=n4_
        have b:=n5_
        have u:=n6_
        have ai:=n7_
        have aj:=n8_
        have E:=n9_
        have B:=n10_
        have q:=n11_
        have C:=n12_
        have s:=n13_
        have D:=n14_
        have HB:=n15_
        clear n0_ n1_ n2_ n3_ n4_ n5_ n6_ n7_ n8_ n9_ n10_ n11_ n12_ n13_ n14_ n15_
        have hHeld:ao.cell? ⟨y,0,none⟩=some (.int .i64 O)∧ao.cell? ⟨y,1,none⟩=some (.bool P)∧ao.cell? ⟨y,2,none⟩=some (.int .i64 ac)∧ao.cell? ⟨y,3,none⟩=some (.int .u64 ad)∧ao.cell? ⟨z,0,none⟩=some (.int .i64 J)∧ao.cell? ⟨z,1,none⟩=some (.bool Q)∧ao.cell? ⟨z,2,none⟩=some (.int .i64 T)∧ao.cell? ⟨z,3,none⟩=some (.int .u64 U):=hS_
        obtain⟨a4,aJ,cF⟩:=Kd.V_slice G.out
        (first|subst cF|(injection cF with f1_ f2_ f3_;have f4_:=f1_.symm;have f5_:=f3_.symm;clear f1_ f2_ f3_;subst f4_;subst f5_))
        refine norm_ (a':=?_) ?_ ?_
        rotate_left
        ·simp only[putAll,Act.put,List.setIfInBounds_toArray,List.set_cons_zero,List.set_cons_succ]
         rfl
        refine one_ (i:=6) (N:=none) #[true,true,true,true,true,true,true] rfl rfl (by kernel_rfl) (by decide) (fun K hK=>?_)
        have hs145:ao.cell? ⟨l,0,none⟩=some (.int .i64 0):=(blk_cell u.out 0).trans rfl
        have hfs145:=blk_frozen u.out 0
        have es:=E.out
        have et:=q.out
        have eu:=s.out
        have ev:=B.out
        have ew:=C.out
        have ex:=D.out
        have hs147:ao.cell? ⟨l,1,none⟩=some (.slice none 0 0):=(blk_cell u.out 1).trans rfl
        have hfs147:=blk_frozen u.out 1
        have ey:=E.out
        have ez:=q.out
        have eA:=s.out
        have eB:=B.out
        have eC:=C.out
        have eD:=D.out
        have hs148:ao.cell? ⟨l,2,none⟩=some (.int .i64 0):=(blk_cell u.out 2).trans rfl
        have hfs148:=blk_frozen u.out 2
        have eE:=E.out
        have eF:=q.out
        have eG:=s.out
        have eH:=B.out
        have eI:=C.out
        have eJ:=D.out
        refine skip_ (w1:=?_) (by rfl) rfl ?_ ?_
        rotate_left
        ·go_simp
         rfl
        refine hK.out _ _ ⟨((cell_far (p:=⟨l,_,none⟩) q.out _).trans (((cell_far (p:=⟨l,_,none⟩) q.out _).trans (((cell_far (p:=⟨l,_,none⟩) q.out _).trans (hHeld.1)))))),((cell_far (p:=⟨l,_,none⟩) q.out _).trans (((cell_far (p:=⟨l,_,none⟩) q.out _).trans (((cell_far (p:=⟨l,_,none⟩) q.out _).trans (hHeld.2.1)))))),((cell_far (p:=⟨l,_,none⟩) q.out _).trans (((cell_far (p:=⟨l,_,none⟩) q.out _).trans (((cell_far (p:=⟨l,_,none⟩) q.out _).trans (hHeld.2.2.1)))))),((cell_far (p:=⟨l,_,none⟩) q.out _).trans (((cell_far (p:=⟨l,_,none⟩) q.out _).trans (((cell_far (p:=⟨l,_,none⟩) q.out _).trans (hHeld.2.2.2.1)))))),((cell_far (p:=⟨l,_,none⟩) s.out _).trans (((cell_far (p:=⟨l,_,none⟩) s.out _).trans (((cell_far (p:=⟨l,_,none⟩) s.out _).trans (hHeld.2.2.2.2.1)))))),((cell_far (p:=⟨l,_,none⟩) s.out _).trans (((cell_far (p:=⟨l,_,none⟩) s.out _).trans (((cell_far (p:=⟨l,_,none⟩) s.out _).trans (hHeld.2.2.2.2.2.1)))))),((cell_far (p:=⟨l,_,none⟩) s.out _).trans (((cell_far (p:=⟨l,_,none⟩) s.out _).trans (((cell_far (p:=⟨l,_,none⟩) s.out _).trans (hHeld.2.2.2.2.2.2.1)))))),((cell_far (p:=⟨l,_,none⟩) s.out _).trans (((cell_far (p:=⟨l,_,none⟩) s.out _).trans (((cell_far (p:=⟨l,_,none⟩) s.out _).trans (hHeld.2.2.2.2.2.2.2))))))⟩ (fun hHeld=>?_)
        clear hK K
        refine done_ (by kernel_rfl) ?_
        obtain⟨ih,ii⟩:=z2 B
        obtain⟨ij,ik⟩:=z2 C
        obtain⟨il,im⟩:=z2 D
        obtain⟨eK,eL,eM,eN,eO,eP⟩:=zc3 u
        try go_wp2_with (first|((with_reducible refine gate_callee (f:=65) rfl ?_);refine zgo (some 96) Try.func65 #[.slice a4 Z.length aJ] ?_;(with_reducible refine (grottoref02_Bits.calls aw _ _ Z cC _ ?side1 ?side2 cQ.out).mono ?_);(case side1=>refine (Kd.V_reads' (e:=3) (base:=w.heap.size) (ok:=fun k_=>(some k_≠(v707:Value).ownBlock∧(some k_≠(v712:Value).ownBlock∧(k_≠F∧(k_≠y∧(k_≠z∧k_≠l)))))) (n:=Z.length) (c:=aJ) ?_).2.2;exact (by (with_reducible repeat (first|apply Kd.V_alloc|apply Kd.V_drewN|apply Kd.V_drew));exact (Kd.V_mono (Kd.V_far (p:=⟨l,2,none⟩) (Kd.V_far (p:=⟨l,1,none⟩) (Kd.V_far (p:=⟨l,0,none⟩) (Kd.V_mono G.out (fun k_ hk=>(⟨hk,hk.2.2.2.2.2⟩:_∧k_≠l))) (fun _ hk=>hk.2) (.int .i64 ag)) (fun _ hk=>hk.2) (.slice a4 Z.length aJ)) (fun _ hk=>hk.2) (.int .i64 ah)) (fun _ h_=>h_.1))));(case side2=>exact (Kd.V_reads' G.out).2.1);rintro e ky ⟨rfl,hb⟩;refine⟨_,rfl,?_⟩;replace m:=Aside0.mk (Kd.R_below (by (with_reducible repeat (first|apply Kd.R_alloc|apply Kd.R_drewN|apply Kd.R_drew));exact (Kd.R_mono (Kd.R_far (p:=⟨l,2,none⟩) (Kd.R_far (p:=⟨l,1,none⟩) (Kd.R_far (p:=⟨l,0,none⟩) (Kd.R_types m.out u.out (by decide)) (fun _ hk=>hk.2) (.int .i64 ag)) (fun _ hk=>hk.2) (.slice a4 Z.length aJ)) (fun _ hk=>hk.2) (.int .i64 ah)) (fun _ h_=>h_.1))) hb);replace v:=Aside0.mk (Kd.R_below (by (with_reducible repeat (first|apply Kd.R_alloc|apply Kd.R_drewN|apply Kd.R_drew));exact (Kd.R_mono (Kd.R_far (p:=⟨l,2,none⟩) (Kd.R_far (p:=⟨l,1,none⟩) (Kd.R_far (p:=⟨l,0,none⟩) (Kd.R_types v.out u.out (by decide)) (fun _ hk=>hk.2) (.int .i64 ag)) (fun _ hk=>hk.2) (.slice a4 Z.length aJ)) (fun _ hk=>hk.2) (.int .i64 ah)) (fun _ h_=>h_.1))) hb);replace G:=Aside0.mk (Kd.V_below (by (with_reducible repeat (first|apply Kd.V_alloc|apply Kd.V_drewN|apply Kd.V_drew));exact (Kd.V_mono (Kd.V_far (p:=⟨l,2,none⟩) (Kd.V_far (p:=⟨l,1,none⟩) (Kd.V_far (p:=⟨l,0,none⟩) (Kd.V_mono G.out (fun k_ hk=>(⟨hk,hk.2.2.2.2.2⟩:_∧k_≠l))) (fun _ hk=>hk.2) (.int .i64 ag)) (fun _ hk=>hk.2) (.slice a4 Z.length aJ)) (fun _ hk=>hk.2) (.int .i64 ah)) (fun _ h_=>h_.1))) hb);obtain⟨d,a,b,HB⟩:=zu3 d a b HB hb;replace u:=zkbo (o:=.cells #[.int .i64 ag,.slice a4 Z.length aJ,.int .i64 ah] 73 (0,0)) u hb;clear hb;obtain⟨io,ip⟩:=z2 W;obtain⟨iq,ir⟩:=z2 Y;obtain⟨eQ,eR,eS,eT⟩:=zc2 d)|((with_reducible refine gate_callee (f:=46) rfl ?_);refine zgc (some 99) Try.func46 (grottoref02_Zero.calls hJ.out) ?_;intro kz hb;replace m:=Aside0.mk (Kd.R_below (by (with_reducible repeat (first|apply Kd.R_alloc|apply Kd.R_drewN|apply Kd.R_drew));exact m.out) hb);replace v:=Aside0.mk (Kd.R_below (by (with_reducible repeat (first|apply Kd.R_alloc|apply Kd.R_drewN|apply Kd.R_drew));exact v.out) hb);replace G:=Aside0.mk (Kd.V_below (by (with_reducible repeat (first|apply Kd.V_alloc|apply Kd.V_drewN|apply Kd.V_drew));exact G.out) hb);obtain⟨d,a,b,u,HB⟩:=zu4 d a b u HB hb;clear hb))
        go_ret2
        exact zr HB
       rw[if_neg cc] at H
       obtain⟨cN,cO⟩:=zf cc
       obtain⟨cd,hM,H⟩:=oB H
       obtain⟨hN,hO,H⟩:=oB H
       simp only[Option.some.injEq,Prod.mk.injEq] at H
       obtain⟨rfl,rfl⟩:=H
       try go_wp2
       replace d:=Aside0.mk (blk_drew d.out)
       replace a:=Aside0.mk (blk_drew a.out)
       replace b:=Aside0.mk (blk_drew b.out)
       replace HB:=Aside0.mk (below_drew1 HB.out)
       refine start_ (n:=7) (S:=fun w'=>w'.cell? ⟨y,0,none⟩=some (.int .i64 O)∧w'.cell? ⟨y,1,none⟩=some (.bool P)∧w'.cell? ⟨y,2,none⟩=some (.int .i64 ac)∧w'.cell? ⟨y,3,none⟩=some (.int .u64 ad)∧w'.cell? ⟨z,0,none⟩=some (.int .i64 J)∧w'.cell? ⟨z,1,none⟩=some (.bool Q)∧w'.cell? ⟨z,2,none⟩=some (.int .i64 T)∧w'.cell? ⟨z,3,none⟩=some (.int .u64 U)) (ds:=[]) #[false,false,false,false,false,false,false] (by kernel_rfl) rfl rfl ⟨(blk_cell a.out 0).trans rfl,(blk_cell a.out 1).trans rfl,(blk_cell a.out 2).trans rfl,(blk_cell a.out 3).trans rfl,(blk_cell b.out 0).trans rfl,(blk_cell b.out 1).trans rfl,(blk_cell b.out 2).trans rfl,(blk_cell b.out 3).trans rfl⟩ (fun hHeld=>?_)
       generalize wc.drew=kA at d a b HB hHeld ⊢
       refine ztake_ (i:=0) (N:=some 89) #[true,false,false,false,false,false,false] rfl (by kernel_rfl) hHeld (Or.inl ⟨by rfl,by rintro w' ⟨s0,s1,s2,s3,s4,s5,s6,s7⟩;go_simp;with_reducible rfl⟩) ?_
       refine ztake_ (i:=2) (N:=some 91) #[true,false,true,false,false,false,false] rfl (by kernel_rfl) hHeld (Or.inl ⟨by rfl,by rintro w' ⟨s0,s1,s2,s3,s4,s5,s6,s7⟩;go_simp;with_reducible rfl⟩) ?_
       refine join_ (σ:=Value×Value×Value×Nat) 1 #[true,true,true,true,true,true,false] (fun s_=>[(90,.agg #[.int .i64 aq,s_.1,.int .i64 ar]),(92,.agg #[.int .i64 au,s_.2.1,.int .i64 av]),(93,.agg #[.int .i64 ag,s_.2.2.1,.int .i64 ah]),(11,.pointer (some ⟨s_.2.2.2,0,none⟩))]) (fun s_ w'=>(w'.cell? ⟨y,0,none⟩=some (.int .i64 O)∧w'.cell? ⟨y,1,none⟩=some (.bool P)∧w'.cell? ⟨y,2,none⟩=some (.int .i64 ac)∧w'.cell? ⟨y,3,none⟩=some (.int .u64 ad)∧w'.cell? ⟨z,0,none⟩=some (.int .i64 J)∧w'.cell? ⟨z,1,none⟩=some (.bool Q)∧w'.cell? ⟨z,2,none⟩=some (.int .i64 T)∧w'.cell? ⟨z,3,none⟩=some (.int .u64 U))∧(Kd.R (Kd.int .i64) 3 w' w.heap.size (fun k_=>some k_≠(s_.2.1:Value).ownBlock) s_.1 L)∧(Kd.R (Kd.int .i64) 3 w' w.heap.size (fun k_=>some k_≠(s_.1:Value).ownBlock) s_.2.1 M)∧(Kd.V (Kd.int .i64) 3 w' w.heap.size (fun k_=>some k_≠(s_.1:Value).ownBlock∧some k_≠(s_.2.1:Value).ownBlock∧k_≠F∧k_≠y∧k_≠z∧k_≠s_.2.2.2) s_.2.2.1 Z)∧(w'.heap[F]?=some (.cells #[.int .i64 aa,.int .i64 ab] 23 (0,0)))∧(w'.heap[y]?=some (.cells #[.int .i64 O,.bool P,.int .i64 ac,.int .u64 ad] 34 (0,0)))∧(w'.heap[z]?=some (.cells #[.int .i64 J,.bool Q,.int .i64 T,.int .u64 U] 34 (0,0)))∧(w'.heap[s_.2.2.2]?=some (.cells #[.int .i64 0,.slice none 0 0,.int .i64 0] 73 (0,0)))∧(w.heap.size≤s_.2.2.2)∧(w.heap.size≤s_.2.2.2)∧(F≠s_.2.2.2)∧(s_.2.2.2≠F)∧(y≠s_.2.2.2)∧(s_.2.2.2≠y)∧(z≠s_.2.2.2)∧(s_.2.2.2≠z)∧(Below w.heap.size w w')) ?_ ?_
       rotate_left
       ·intro hCont
        refine two_ (i:=1) (j:=5) (Ni:=some 90) (Nj:=some 11) #[true,true,true,false,false,false,false] #[true,false,true,false,false,true,false] rfl rfl rfl rfl (by kernel_rfl) (by decide) (by decide) (fun K hK=>?_) (fun K hK=>?_)
        rotate_left
        ·skip
         refine box_step ?hg (N:=11) ?hd (cs:=#[.int .i64 0,.slice none 0 0,.int .i64 0]) (t:=73) ?hr ?_;(case hd=>rfl);(case hg=>rfl);(case hr=>first|(go_simp;done)|(go_simp;rfl))
         intro l hg hP hbox hb
         have u:=Aside0.mk hbox
         have ai:=zge hg HB
         have aj:=zge hg HB
         have E:=znl hg d
         have B:=zng hg d
         have q:=znl hg a
         have C:=zng hg a
         have s:=znl hg b
         have D:=zng hg b
         obtain⟨d,a,b,HB⟩:=zu3 d a b HB hb
         clear hb hbox hg
         refine hK.out _ _ ⟨(blk_cell a.out 0).trans rfl,(blk_cell a.out 1).trans rfl,(blk_cell a.out 2).trans rfl,(blk_cell a.out 3).trans rfl,(blk_cell b.out 0).trans rfl,(blk_cell b.out 1).trans rfl,(blk_cell b.out 2).trans rfl,(blk_cell b.out 3).trans rfl⟩ (fun hHeld=>?_)
         clear hK K
         refine norm_ (a':=?_) ?_ ?_
         rotate_left
         ·show Act.put _ (some 11) _=_
          simp only[Act.put,List.setIfInBounds_toArray,List.set_cons_zero,List.set_cons_succ,i64_w,i32_w]
          rfl
         refine one_ (i:=1) (N:=some 90) #[true,true,true,false,false,true,false] rfl rfl (by kernel_rfl) (by decide) (fun K hK=>?_)
         refine goes_ Try.func55 (by kernel_rfl) rfl #[.agg #[.int .i64 O,.bool P,.int .i64 ac,.int .u64 ad]] (by rfl) rfl rfl (by (try simp only[List.map_toArray,List.map_cons,List.map_nil]);first|done|rfl|(simp only[List.length_drop,List.length_take];rfl)) ?_
         with_reducible refine (grottoref03_exact.calls ct.out).mono ?_
         rintro e cT ⟨v707,rfl,ho0,hb⟩
         refine⟨_,rfl,?_⟩
         have m:=Aside0.mk (Kd.R_lower ho0 (below_size (zb HB)))
         obtain⟨d,a,b,u,HB⟩:=zu4 d a b u HB hb
         try clear hb
         (try clear ho0)
         refine hK.out _ _ ⟨(blk_cell a.out 0).trans rfl,(blk_cell a.out 1).trans rfl,(blk_cell a.out 2).trans rfl,(blk_cell a.out 3).trans rfl,(blk_cell b.out 0).trans rfl,(blk_cell b.out 1).trans rfl,(blk_cell b.out 2).trans rfl,(blk_cell b.out 3).trans rfl⟩ (fun hHeld=>?_)
         clear hK K
         refine norm_ (a':=?_) ?_ ?_
         rotate_left
         ·show Act.put _ (some 90) _=_
          simp only[Act.put,List.setIfInBounds_toArray,List.set_cons_zero,List.set_cons_succ,i64_w,i32_w]
          rfl
         refine one_ (i:=3) (N:=some 92) #[true,true,true,true,false,true,false] rfl rfl (by kernel_rfl) (by decide) (fun K hK=>?_)
         refine goes_ Try.func55 (by kernel_rfl) rfl #[.agg #[.int .i64 J,.bool Q,.int .i64 T,.int .u64 U]] (by rfl) rfl rfl (by (try simp only[List.map_toArray,List.map_cons,List.map_nil]);first|done|rfl|(simp only[List.length_drop,List.length_take];rfl)) ?_
         with_reducible refine (grottoref03_exact.calls bC.out).mono ?_
         rintro e cU ⟨v712,rfl,ho0,hb⟩
         refine⟨_,rfl,?_⟩
         have v:=Aside0.mk (Kd.R_lower (Kd.R_new' ho0 (Kd.R_lt (by (with_reducible repeat (first|apply Kd.R_alloc|apply Kd.R_drewN|apply Kd.R_drew));exact m.out))) (below_size (zb HB)))
         replace m:=Aside0.mk (Kd.R_elder' (by (with_reducible repeat (first|apply Kd.R_alloc|apply Kd.R_drewN|apply Kd.R_drew));exact m.out) (Kd.R_base ho0) hb)
         obtain⟨d,a,b,u,HB⟩:=zu4 d a b u HB hb
         try clear hb
         (try clear ho0)
         obtain⟨am,an,aA⟩:=Kd.R_slice m.out
         (first|subst aA|(injection aA with f1_ f2_ f3_;have f4_:=f1_.symm;have f5_:=f3_.symm;clear f1_ f2_ f3_;subst f4_;subst f5_))
         obtain⟨aB,aC,aG⟩:=Kd.R_slice v.out
         (first|subst aG|(injection aG with f1_ f2_ f3_;have f4_:=f1_.symm;have f5_:=f3_.symm;clear f1_ f2_ f3_;subst f4_;subst f5_))
         refine hK.out _ _ ⟨(blk_cell a.out 0).trans rfl,(blk_cell a.out 1).trans rfl,(blk_cell a.out 2).trans rfl,(blk_cell a.out 3).trans rfl,(blk_cell b.out 0).trans rfl,(blk_cell b.out 1).trans rfl,(blk_cell b.out 2).trans rfl,(blk_cell b.out 3).trans rfl⟩ (fun hHeld=>?_)
         clear hK K
         refine norm_ (a':=?_) ?_ ?_
         rotate_left
         ·show Act.put _ (some 92) _=_
          simp only[Act.put,List.setIfInBounds_toArray,List.set_cons_zero,List.set_cons_succ,i64_w,i32_w]
          rfl
         refine one_ (i:=4) (N:=some 93) #[true,true,true,true,true,true,false] rfl rfl (by kernel_rfl) (by decide) (fun K hK=>?_)
         refine goes_ Try.func64 (by kernel_rfl) rfl #[.agg #[.int .i64 aq,.slice am L.length an,.int .i64 ar],.agg #[.int .i64 au,.slice aB M.length aC,.int .i64 av]] (by rfl) rfl rfl (by (try simp only[List.map_toArray,List.map_cons,List.map_nil]);first|done|rfl|(simp only[List.length_drop,List.length_take];rfl)) ?_
         with_reducible refine (grottoref03_plus.calls aw aq _ _ L ar au _ _ M av ag Z ah _ ?side1 ?side2 ?side3 ?side4 a5.out).mono ?_
         (case side1=>repeat (first|exact (Kd.R_reads' m.out).2.2|(with_reducible refine Kd.C_alloc ?_ _)|(with_reducible refine Kd.C_drewN ?_ _)|(with_reducible refine Kd.C_drew ?_)))
         (case side2=>exact (Kd.R_reads' m.out).2.1)
         (case side3=>repeat (first|exact (Kd.R_reads' v.out).2.2|(with_reducible refine Kd.C_alloc ?_ _)|(with_reducible refine Kd.C_drewN ?_ _)|(with_reducible refine Kd.C_drew ?_)))
         (case side4=>exact (Kd.R_reads' v.out).2.1)
         rintro e cH ⟨v717,rfl,ho0,hb⟩
         refine⟨_,rfl,?_⟩
         have G:=Aside0.mk (Kd.V_lower (Kd.V_mono (ok':=fun k_=>some k_≠(.slice am L.length an:Value).ownBlock∧some k_≠(.slice aB M.length aC:Value).ownBlock∧k_≠F∧k_≠y∧k_≠z∧k_≠l) ho0 (fun k_ hk_=>⟨(Kd.fresh' (Kd.R_lt (by (with_reducible repeat (first|apply Kd.R_alloc|apply Kd.R_drewN|apply Kd.R_drew));exact m.out)) k_ hk_),(Kd.fresh' (Kd.R_lt (by (with_reducible repeat (first|apply Kd.R_alloc|apply Kd.R_drewN|apply Kd.R_drew));exact v.out)) k_ hk_),(Kd.freshB (g:=F) (o:=.cells #[.int .i64 aa,.int .i64 ab] 23 (0,0)) (zk d) k_ hk_),(Kd.freshB (g:=y) (o:=.cells #[.int .i64 O,.bool P,.int .i64 ac,.int .u64 ad] 34 (0,0)) (zk a) k_ hk_),(Kd.freshB (g:=z) (o:=.cells #[.int .i64 J,.bool Q,.int .i64 T,.int .u64 U] 34 (0,0)) (zk b) k_ hk_),(Kd.freshB (g:=l) (o:=.cells #[.int .i64 0,.slice none 0 0,.int .i64 0] 73 (0,0)) (zk u) k_ hk_)⟩)) (below_size (zb HB)))
         replace m:=Aside0.mk (Kd.R_below (by (with_reducible repeat (first|apply Kd.R_alloc|apply Kd.R_drewN|apply Kd.R_drew));exact m.out) hb)
         replace v:=Aside0.mk (Kd.R_below (by (with_reducible repeat (first|apply Kd.R_alloc|apply Kd.R_drewN|apply Kd.R_drew));exact v.out) hb)
         obtain⟨d,a,b,u,HB⟩:=zu4 d a b u HB hb
         try clear hb
         (try clear ho0)
         refine hK.out _ _ ⟨(blk_cell a.out 0).trans rfl,(blk_cell a.out 1).trans rfl,(blk_cell a.out 2).trans rfl,(blk_cell a.out 3).trans rfl,(blk_cell b.out 0).trans rfl,(blk_cell b.out 1).trans rfl,(blk_cell b.out 2).trans rfl,(blk_cell b.out 3).trans rfl⟩ (fun hHeld=>?_)
         clear hK K
         refine norm_ (a':=?_) ?_ ?_
         rotate_left
         ·show Act.put _ (some 93) _=_
          simp only[Act.put,List.setIfInBounds_toArray,List.set_cons_zero,List.set_cons_succ,i64_w,i32_w]
          rfl
         exact norm_ (by simp only[putAll,Act.put,List.setIfInBounds_toArray,List.set_cons_zero,List.set_cons_succ]) (hCont (.slice am L.length an,.slice aB M.length aC,v717,l) _ ⟨hHeld,(by (with_reducible repeat (first|apply Kd.R_alloc|apply Kd.R_drewN|apply Kd.R_drew));exact Kd.R_mono m.out (fun _ hk=>hk.2)),(by (with_reducible repeat (first|apply Kd.R_alloc|apply Kd.R_drewN|apply Kd.R_drew));exact Kd.R_mono v.out (fun _ hk=>hk.2)),(by (with_reducible repeat (first|apply Kd.V_alloc|apply Kd.V_drewN|apply Kd.V_drew));exact G.out),(zk d),(zk a),(zk b),(zk u),ai.out,aj.out,E.out,B.out,q.out,C.out,s.out,D.out,(zb HB)⟩)
        skip
        refine goes_ Try.func55 (by kernel_rfl) rfl #[.agg #[.int .i64 O,.bool P,.int .i64 ac,.int .u64 ad]] (by rfl) rfl rfl (by (try simp only[List.map_toArray,List.map_cons,List.map_nil]);first|done|rfl|(simp only[List.length_drop,List.length_take];rfl)) ?_
        with_reducible refine (grottoref03_exact.calls ct.out).mono ?_
        rintro e hP ⟨v707,rfl,ho0,hb⟩
        refine⟨_,rfl,?_⟩
        have m:=Aside0.mk (Kd.R_lower ho0 (below_size (zb HB)))
        obtain⟨d,a,b,HB⟩:=zu3 d a b HB hb
        try clear hb
        (try clear ho0)
        refine hK.out _ _ ⟨(blk_cell a.out 0).trans rfl,(blk_cell a.out 1).trans rfl,(blk_cell a.out 2).trans rfl,(blk_cell a.out 3).trans rfl,(blk_cell b.out 0).trans rfl,(blk_cell b.out 1).trans rfl,(blk_cell b.out 2).trans rfl,(blk_cell b.out 3).trans rfl⟩ (fun hHeld=>?_)
        clear hK K
        refine norm_ (a':=?_) ?_ ?_
        rotate_left
        ·show Act.put _ (some 90) _=_
         simp only[Act.put,List.setIfInBounds_toArray,List.set_cons_zero,List.set_cons_succ,i64_w,i32_w]
         rfl
        refine two_ (i:=3) (j:=5) (Ni:=some 92) (Nj:=some 11) #[true,true,true,true,false,false,false] #[true,true,true,false,false,true,false] rfl rfl rfl rfl (by kernel_rfl) (by decide) (by decide) (fun K hK=>?_) (fun K hK=>?_)
        rotate_left
        ·skip
         refine box_step ?hg (N:=11) ?hd (cs:=#[.int .i64 0,.slice none 0 0,.int .i64 0]) (t:=73) ?hr ?_;(case hd=>rfl);(case hg=>rfl);(case hr=>first|(go_simp;done)|(go_simp;rfl))
         intro l hg cT hbox hb
         have u:=Aside0.mk hbox
         have ai:=zge hg HB
         have aj:=zge hg HB
         have E:=znl hg d
         have B:=zng hg d
         have q:=znl hg a
         have C:=zng hg a
         have s:=znl hg b
         have D:=zng hg b
         replace m:=Aside0.mk (Kd.R_below (by (with_reducible repeat (first|apply Kd.R_alloc|apply Kd.R_drewN|apply Kd.R_drew));exact m.out) hb)
         obtain⟨d,a,b,HB⟩:=zu3 d a b HB hb
         clear hb hbox hg
         refine hK.out _ _ ⟨(blk_cell a.out 0).trans rfl,(blk_cell a.out 1).trans rfl,(blk_cell a.out 2).trans rfl,(blk_cell a.out 3).trans rfl,(blk_cell b.out 0).trans rfl,(blk_cell b.out 1).trans rfl,(blk_cell b.out 2).trans rfl,(blk_cell b.out 3).trans rfl⟩ (fun hHeld=>?_)
         clear hK K
         refine norm_ (a':=?_) ?_ ?_
         rotate_left
         ·show Act.put _ (some 11) _=_
          simp only[Act.put,List.setIfInBounds_toArray,List.set_cons_zero,List.set_cons_succ,i64_w,i32_w]
          rfl
         refine one_ (i:=3) (N:=some 92) #[true,true,true,true,false,true,false] rfl rfl (by kernel_rfl) (by decide) (fun K hK=>?_)
         refine goes_ Try.func55 (by kernel_rfl) rfl #[.agg #[.int .i64 J,.bool Q,.int .i64 T,.int .u64 U]] (by rfl) rfl rfl (by (try simp only[List.map_toArray,List.map_cons,List.map_nil]);first|done|rfl|(simp only[List.length_drop,List.length_take];rfl)) ?_
         with_reducible refine (grottoref03_exact.calls bC.out).mono ?_
         rintro e cU ⟨v712,rfl,ho0,hb⟩
         refine⟨_,rfl,?_⟩
         have v:=Aside0.mk (Kd.R_lower (Kd.R_new' ho0 (Kd.R_lt (by (with_reducible repeat (first|apply Kd.R_alloc|apply Kd.R_drewN|apply Kd.R_drew));exact m.out))) (below_size (zb HB)))
         replace m:=Aside0.mk (Kd.R_elder' (by (with_reducible repeat (first|apply Kd.R_alloc|apply Kd.R_drewN|apply Kd.R_drew));exact m.out) (Kd.R_base ho0) hb)
         obtain⟨d,a,b,u,HB⟩:=zu4 d a b u HB hb
         try clear hb
         (try clear ho0)
         obtain⟨am,an,aA⟩:=Kd.R_slice m.out
         (first|subst aA|(injection aA with f1_ f2_ f3_;have f4_:=f1_.symm;have f5_:=f3_.symm;clear f1_ f2_ f3_;subst f4_;subst f5_))
         obtain⟨aB,aC,aG⟩:=Kd.R_slice v.out
         (first|subst aG|(injection aG with f1_ f2_ f3_;have f4_:=f1_.symm;have f5_:=f3_.symm;clear f1_ f2_ f3_;subst f4_;subst f5_))
         refine hK.out _ _ ⟨(blk_cell a.out 0).trans rfl,(blk_cell a.out 1).trans rfl,(blk_cell a.out 2).trans rfl,(blk_cell a.out 3).trans rfl,(blk_cell b.out 0).trans rfl,(blk_cell b.out 1).trans rfl,(blk_cell b.out 2).trans rfl,(blk_cell b.out 3).trans rfl⟩ (fun hHeld=>?_)
         clear hK K
         refine norm_ (a':=?_) ?_ ?_
         rotate_left
         ·show Act.put _ (some 92) _=_
          simp only[Act.put,List.setIfInBounds_toArray,List.set_cons_zero,List.set_cons_succ,i64_w,i32_w]
          rfl
         refine one_ (i:=4) (N:=some 93) #[true,true,true,true,true,true,false] rfl rfl (by kernel_rfl) (by decide) (fun K hK=>?_)
         refine goes_ Try.func64 (by kernel_rfl) rfl #[.agg #[.int .i64 aq,.slice am L.length an,.int .i64 ar],.agg #[.int .i64 au,.slice aB M.length aC,.int .i64 av]] (by rfl) rfl rfl (by (try simp only[List.map_toArray,List.map_cons,List.map_nil]);first|done|rfl|(simp only[List.length_drop,List.length_take];rfl)) ?_
         with_reducible refine (grottoref03_plus.calls aw aq _ _ L ar au _ _ M av ag Z ah _ ?side1 ?side2 ?side3 ?side4 a5.out).mono ?_
         (case side1=>repeat (first|exact (Kd.R_reads' m.out).2.2|(with_reducible refine Kd.C_alloc ?_ _)|(with_reducible refine Kd.C_drewN ?_ _)|(with_reducible refine Kd.C_drew ?_)))
         (case side2=>exact (Kd.R_reads' m.out).2.1)
         (case side3=>repeat (first|exact (Kd.R_reads' v.out).2.2|(with_reducible refine Kd.C_alloc ?_ _)|(with_reducible refine Kd.C_drewN ?_ _)|(with_reducible refine Kd.C_drew ?_)))
         (case side4=>exact (Kd.R_reads' v.out).2.1)
         rintro e cH ⟨v717,rfl,ho0,hb⟩
         refine⟨_,rfl,?_⟩
         have G:=Aside0.mk (Kd.V_lower (Kd.V_mono (ok':=fun k_=>some k_≠(.slice am L.length an:Value).ownBlock∧some k_≠(.slice aB M.length aC:Value).ownBlock∧k_≠F∧k_≠y∧k_≠z∧k_≠l) ho0 (fun k_ hk_=>⟨(Kd.fresh' (Kd.R_lt (by (with_reducible repeat (first|apply Kd.R_alloc|apply Kd.R_drewN|apply Kd.R_drew));exact m.out)) k_ hk_),(Kd.fresh' (Kd.R_lt (by (with_reducible repeat (first|apply Kd.R_alloc|apply Kd.R_drewN|apply Kd.R_drew));exact v.out)) k_ hk_),(Kd.freshB (g:=F) (o:=.cells #[.int .i64 aa,.int .i64 ab] 23 (0,0)) (zk d) k_ hk_),(Kd.freshB (g:=y) (o:=.cells #[.int .i64 O,.bool P,.int .i64 ac,.int .u64 ad] 34 (0,0)) (zk a) k_ hk_),(Kd.freshB (g:=z) (o:=.cells #[.int .i64 J,.bool Q,.int .i64 T,.int .u64 U] 34 (0,0)) (zk b) k_ hk_),(Kd.freshB (g:=l) (o:=.cells #[.int .i64 0,.slice none 0 0,.int .i64 0] 73 (0,0)) (zk u) k_ hk_)⟩)) (below_size (zb HB)))
         replace m:=Aside0.mk (Kd.R_below (by (with_reducible repeat (first|apply Kd.R_alloc|apply Kd.R_drewN|apply Kd.R_drew));exact m.out) hb)
         replace v:=Aside0.mk (Kd.R_below (by (with_reducible repeat (first|apply Kd.R_alloc|apply Kd.R_drewN|apply Kd.R_drew));exact v.out) hb)
         obtain⟨d,a,b,u,HB⟩:=zu4 d a b u HB hb
         try clear hb
         (try clear ho0)
         refine hK.out _ _ ⟨(blk_cell a.out 0).trans rfl,(blk_cell a.out 1).trans rfl,(blk_cell a.out 2).trans rfl,(blk_cell a.out 3).trans rfl,(blk_cell b.out 0).trans rfl,(blk_cell b.out 1).trans rfl,(blk_cell b.out 2).trans rfl,(blk_cell b.out 3).trans rfl⟩ (fun hHeld=>?_)
         clear hK K
         refine norm_ (a':=?_) ?_ ?_
         rotate_left
         ·show Act.put _ (some 93) _=_
          simp only[Act.put,List.setIfInBounds_toArray,List.set_cons_zero,List.set_cons_succ,i64_w,i32_w]
          rfl
         exact norm_ (by simp only[putAll,Act.put,List.setIfInBounds_toArray,List.set_cons_zero,List.set_cons_succ]) (hCont (.slice am L.length an,.slice aB M.length aC,v717,l) _ ⟨hHeld,(by (with_reducible repeat (first|apply Kd.R_alloc|apply Kd.R_drewN|apply Kd.R_drew));exact Kd.R_mono m.out (fun _ hk=>hk.2)),(by (with_reducible repeat (first|apply Kd.R_alloc|apply Kd.R_drewN|apply Kd.R_drew));exact Kd.R_mono v.out (fun _ hk=>hk.2)),(by (with_reducible repeat (first|apply Kd.V_alloc|apply Kd.V_drewN|apply Kd.V_drew));exact G.out),(zk d),(zk a),(zk b),(zk u),ai.out,aj.out,E.out,B.out,q.out,C.out,s.out,D.out,(zb HB)⟩)
        skip
        refine goes_ Try.func55 (by kernel_rfl) rfl #[.agg #[.int .i64 J,.bool Q,.int .i64 T,.int .u64 U]] (by rfl) rfl rfl (by (try simp only[List.map_toArray,List.map_cons,List.map_nil]);first|done|rfl|(simp only[List.length_drop,List.length_take];rfl)) ?_
        with_reducible refine (grottoref03_exact.calls bC.out).mono ?_
        rintro e cT ⟨v712,rfl,ho0,hb⟩
        refine⟨_,rfl,?_⟩
        have v:=Aside0.mk (Kd.R_lower (Kd.R_new' ho0 (Kd.R_lt (by (with_reducible repeat (first|apply Kd.R_alloc|apply Kd.R_drewN|apply Kd.R_drew));exact m.out))) (below_size (zb HB)))
        replace m:=Aside0.mk (Kd.R_elder' (by (with_reducible repeat (first|apply Kd.R_alloc|apply Kd.R_drewN|apply Kd.R_drew));exact m.out) (Kd.R_base ho0) hb)
        obtain⟨d,a,b,HB⟩:=zu3 d a b HB hb
        try clear hb
        (try clear ho0)
        obtain⟨cl,cm,cG⟩:=Kd.R_slice m.out
        (first|subst cG|(injection cG with f1_ f2_ f3_;have f4_:=f1_.symm;have f5_:=f3_.symm;clear f1_ f2_ f3_;subst f4_;subst f5_))
        obtain⟨am,an,aA⟩:=Kd.R_slice v.out
        (first|subst aA|(injection aA with f1_ f2_ f3_;have f4_:=f1_.symm;have f5_:=f3_.symm;clear f1_ f2_ f3_;subst f4_;subst f5_))
        refine hK.out _ _ ⟨(blk_cell a.out 0).trans rfl,(blk_cell a.out 1).trans rfl,(blk_cell a.out 2).trans rfl,(blk_cell a.out 3).trans rfl,(blk_cell b.out 0).trans rfl,(blk_cell b.out 1).trans rfl,(blk_cell b.out 2).trans rfl,(blk_cell b.out 3).trans rfl⟩ (fun hHeld=>?_)
        clear hK K
        refine norm_ (a':=?_) ?_ ?_
        rotate_left
        ·show Act.put _ (some 92) _=_
         simp only[Act.put,List.setIfInBounds_toArray,List.set_cons_zero,List.set_cons_succ,i64_w,i32_w]
         rfl
        refine two_ (i:=4) (j:=5) (Ni:=some 93) (Nj:=some 11) #[true,true,true,true,true,false,false] #[true,true,true,true,false,true,false] rfl rfl rfl rfl (by kernel_rfl) (by decide) (by decide) (fun K hK=>?_) (fun K hK=>?_)
        ·skip
         refine goes_ Try.func64 (by kernel_rfl) rfl #[.agg #[.int .i64 aq,.slice cl L.length cm,.int .i64 ar],.agg #[.int .i64 au,.slice am M.length an,.int .i64 av]] (by rfl) rfl rfl (by (try simp only[List.map_toArray,List.map_cons,List.map_nil]);first|done|rfl|(simp only[List.length_drop,List.length_take];rfl)) ?_
         with_reducible refine (grottoref03_plus.calls aw aq _ _ L ar au _ _ M av ag Z ah _ ?side1 ?side2 ?side3 ?side4 a5.out).mono ?_
         (case side1=>repeat (first|exact (Kd.R_reads' m.out).2.2|(with_reducible refine Kd.C_alloc ?_ _)|(with_reducible refine Kd.C_drewN ?_ _)|(with_reducible refine Kd.C_drew ?_)))
         (case side2=>exact (Kd.R_reads' m.out).2.1)
         (case side3=>repeat (first|exact (Kd.R_reads' v.out).2.2|(with_reducible refine Kd.C_alloc ?_ _)|(with_reducible refine Kd.C_drewN ?_ _)|(with_reducible refine Kd.C_drew ?_)))
         (case side4=>exact (Kd.R_reads' v.out).2.1)
         rintro e kB ⟨v717,rfl,ho0,hb⟩
         refine⟨_,rfl,?_⟩
         have G:=Aside0.mk (Kd.V_lower (Kd.V_mono (ok':=fun k_=>some k_≠(.slice cl L.length cm:Value).ownBlock∧some k_≠(.slice am M.length an:Value).ownBlock∧k_≠F∧k_≠y∧k_≠z) ho0 (fun k_ hk_=>⟨(Kd.fresh' (Kd.R_lt (by (with_reducible repeat (first|apply Kd.R_alloc|apply Kd.R_drewN|apply Kd.R_drew));exact m.out)) k_ hk_),(Kd.fresh' (Kd.R_lt (by (with_reducible repeat (first|apply Kd.R_alloc|apply Kd.R_drewN|apply Kd.R_drew));exact v.out)) k_ hk_),(Kd.freshB (g:=F) (o:=.cells #[.int .i64 aa,.int .i64 ab] 23 (0,0)) (zk d) k_ hk_),(Kd.freshB (g:=y) (o:=.cells #[.int .i64 O,.bool P,.int .i64 ac,.int .u64 ad] 34 (0,0)) (zk a) k_ hk_),(Kd.freshB (g:=z) (o:=.cells #[.int .i64 J,.bool Q,.int .i64 T,.int .u64 U] 34 (0,0)) (zk b) k_ hk_)⟩)) (below_size (zb HB)))
         replace m:=Aside0.mk (Kd.R_below (by (with_reducible repeat (first|apply Kd.R_alloc|apply Kd.R_drewN|apply Kd.R_drew));exact m.out) hb)
         replace v:=Aside0.mk (Kd.R_below (by (with_reducible repeat (first|apply Kd.R_alloc|apply Kd.R_drewN|apply Kd.R_drew));exact v.out) hb)
         obtain⟨d,a,b,HB⟩:=zu3 d a b HB hb
         try clear hb
         (try clear ho0)
         refine hK.out _ _ ⟨(blk_cell a.out 0).trans rfl,(blk_cell a.out 1).trans rfl,(blk_cell a.out 2).trans rfl,(blk_cell a.out 3).trans rfl,(blk_cell b.out 0).trans rfl,(blk_cell b.out 1).trans rfl,(blk_cell b.out 2).trans rfl,(blk_cell b.out 3).trans rfl⟩ (fun hHeld=>?_)
         clear hK K
         refine norm_ (a':=?_) ?_ ?_
         rotate_left
         ·show Act.put _ (some 93) _=_
          simp only[Act.put,List.setIfInBounds_toArray,List.set_cons_zero,List.set_cons_succ,i64_w,i32_w]
          rfl
         refine one_ (i:=5) (N:=some 11) #[true,true,true,true,true,true,false] rfl rfl (by kernel_rfl) (by decide) (fun K hK=>?_)
         refine box_step ?hg (N:=11) ?hd (cs:=#[.int .i64 0,.slice none 0 0,.int .i64 0]) (t:=73) ?hr ?_;(case hd=>rfl);(case hg=>rfl);(case hr=>first|(go_simp;done)|(go_simp;rfl))
         intro l hg cH hbox hb
         have u:=Aside0.mk hbox
         have ai:=zge hg HB
         have aj:=zge hg HB
         have E:=znl hg d
         have B:=zng hg d
         have q:=znl hg a
         have C:=zng hg a
         have s:=znl hg b
         have D:=zng hg b
         replace m:=Aside0.mk (Kd.R_below (by (with_reducible repeat (first|apply Kd.R_alloc|apply Kd.R_drewN|apply Kd.R_drew));exact m.out) hb)
         replace v:=Aside0.mk (Kd.R_below (by (with_reducible repeat (first|apply Kd.R_alloc|apply Kd.R_drewN|apply Kd.R_drew));exact v.out) hb)
         replace G:=Aside0.mk (Kd.V_below (Kd.V_elderB (by (with_reducible repeat (first|apply Kd.V_alloc|apply Kd.V_drewN|apply Kd.V_drew));exact G.out) l (Nat.le_of_eq hg.symm)) hb)
         obtain⟨d,a,b,HB⟩:=zu3 d a b HB hb
         clear hb hbox hg
         refine hK.out _ _ ⟨(blk_cell a.out 0).trans rfl,(blk_cell a.out 1).trans rfl,(blk_cell a.out 2).trans rfl,(blk_cell a.out 3).trans rfl,(blk_cell b.out 0).trans rfl,(blk_cell b.out 1).trans rfl,(blk_cell b.out 2).trans rfl,(blk_cell b.out 3).trans rfl⟩ (fun hHeld=>?_)
         clear hK K
         refine norm_ (a':=?_) ?_ ?_
         rotate_left
         ·show Act.put _ (some 11) _=_
          simp only[Act.put,List.setIfInBounds_toArray,List.set_cons_zero,List.set_cons_succ,i64_w,i32_w]
          rfl
         exact norm_ (by simp only[putAll,Act.put,List.setIfInBounds_toArray,List.set_cons_zero,List.set_cons_succ]) (hCont (.slice cl L.length cm,.slice am M.length an,v717,l) _ ⟨hHeld,(by (with_reducible repeat (first|apply Kd.R_alloc|apply Kd.R_drewN|apply Kd.R_drew));exact Kd.R_mono m.out (fun _ hk=>hk.2)),(by (with_reducible repeat (first|apply Kd.R_alloc|apply Kd.R_drewN|apply Kd.R_drew));exact Kd.R_mono v.out (fun _ hk=>hk.2)),(by (with_reducible repeat (first|apply Kd.V_alloc|apply Kd.V_drewN|apply Kd.V_drew));exact Kd.V_mono G.out (fun _ hk=>⟨hk.1.1,⟨hk.1.2.1,⟨hk.1.2.2.1,⟨hk.1.2.2.2.1,⟨hk.1.2.2.2.2,hk.2⟩⟩⟩⟩⟩)),(zk d),(zk a),(zk b),(zk u),ai.out,aj.out,E.out,B.out,q.out,C.out,s.out,D.out,(zb HB)⟩)
        skip
        refine box_step ?hg (N:=11) ?hd (cs:=#[.int .i64 0,.slice none 0 0,.int .i64 0]) (t:=73) ?hr ?_;(case hd=>rfl);(case hg=>rfl);(case hr=>first|(go_simp;done)|(go_simp;rfl))
        intro l hg cU hbox hb
        have u:=Aside0.mk hbox
        have ai:=zge hg HB
        have aj:=zge hg HB
        have E:=znl hg d
        have B:=zng hg d
        have q:=znl hg a
        have C:=zng hg a
        have s:=znl hg b
        have D:=zng hg b
        replace m:=Aside0.mk (Kd.R_below (by (with_reducible repeat (first|apply Kd.R_alloc|apply Kd.R_drewN|apply Kd.R_drew));exact m.out) hb)
        replace v:=Aside0.mk (Kd.R_below (by (with_reducible repeat (first|apply Kd.R_alloc|apply Kd.R_drewN|apply Kd.R_drew));exact v.out) hb)
        obtain⟨d,a,b,HB⟩:=zu3 d a b HB hb
        clear hb hbox hg
        obtain⟨am,an,aA⟩:=Kd.R_slice m.out
        (first|subst aA|(injection aA with f1_ f2_ f3_;have f4_:=f1_.symm;have f5_:=f3_.symm;clear f1_ f2_ f3_;subst f4_;subst f5_))
        obtain⟨aB,aC,aG⟩:=Kd.R_slice v.out
        (first|subst aG|(injection aG with f1_ f2_ f3_;have f4_:=f1_.symm;have f5_:=f3_.symm;clear f1_ f2_ f3_;subst f4_;subst f5_))
        refine hK.out _ _ ⟨(blk_cell a.out 0).trans rfl,(blk_cell a.out 1).trans rfl,(blk_cell a.out 2).trans rfl,(blk_cell a.out 3).trans rfl,(blk_cell b.out 0).trans rfl,(blk_cell b.out 1).trans rfl,(blk_cell b.out 2).trans rfl,(blk_cell b.out 3).trans rfl⟩ (fun hHeld=>?_)
        clear hK K
        refine norm_ (a':=?_) ?_ ?_
        rotate_left
        ·show Act.put _ (some 11) _=_
         simp only[Act.put,List.setIfInBounds_toArray,List.set_cons_zero,List.set_cons_succ,i64_w,i32_w]
         rfl
        refine one_ (i:=4) (N:=some 93) #[true,true,true,true,true,true,false] rfl rfl (by kernel_rfl) (by decide) (fun K hK=>?_)
        refine goes_ Try.func64 (by kernel_rfl) rfl #[.agg #[.int .i64 aq,.slice am L.length an,.int .i64 ar],.agg #[.int .i64 au,.slice aB M.length aC,.int .i64 av]] (by rfl) rfl rfl (by (try simp only[List.map_toArray,List.map_cons,List.map_nil]);first|done|rfl|(simp only[List.length_drop,List.length_take];rfl)) ?_
        with_reducible refine (grottoref03_plus.calls aw aq _ _ L ar au _ _ M av ag Z ah _ ?side1 ?side2 ?side3 ?side4 a5.out).mono ?_
        (case side1=>repeat (first|exact (Kd.R_reads' m.out).2.2|(with_reducible refine Kd.C_alloc ?_ _)|(with_reducible refine Kd.C_drewN ?_ _)|(with_reducible refine Kd.C_drew ?_)))
        (case side2=>exact (Kd.R_reads' m.out).2.1)
        (case side3=>repeat (first|exact (Kd.R_reads' v.out).2.2|(with_reducible refine Kd.C_alloc ?_ _)|(with_reducible refine Kd.C_drewN ?_ _)|(with_reducible refine Kd.C_drew ?_)))
        (case side4=>exact (Kd.R_reads' v.out).2.1)
        rintro e cH ⟨v717,rfl,ho0,hb⟩
        refine⟨_,rfl,?_⟩
        have G:=Aside0.mk (Kd.V_lower (Kd.V_mono (ok':=fun k_=>some k_≠(.slice am L.length an:Value).ownBlock∧some k_≠(.slice aB M.length aC:Value).ownBlock∧k_≠F∧k_≠y∧k_≠z∧k_≠l) ho0 (fun k_ hk_=>⟨(Kd.fresh' (Kd.R_lt (by (with_reducible repeat (first|apply Kd.R_alloc|apply Kd.R_drewN|apply Kd.R_drew));exact m.out)) k_ hk_),(Kd.fresh' (Kd.R_lt (by (with_reducible repeat (first|apply Kd.R_alloc|apply Kd.R_drewN|apply Kd.R_drew));exact v.out)) k_ hk_),(Kd.freshB (g:=F) (o:=.cells #[.int .i64 aa,.int .i64 ab] 23 (0,0)) (zk d) k_ hk_),(Kd.freshB (g:=y) (o:=.cells #[.int .i64 O,.bool P,.int .i64 ac,.int .u64 ad] 34 (0,0)) (zk a) k_ hk_),(Kd.freshB (g:=z) (o:=.cells #[.int .i64 J,.bool Q,.int .i64 T,.int .u64 U] 34 (0,0)) (zk b) k_ hk_),(Kd.freshB (g:=l) (o:=.cells #[.int .i64 0,.slice none 0 0,.int .i64 0] 73 (0,0)) (zk u) k_ hk_)⟩)) (below_size (zb HB)))
        replace m:=Aside0.mk (Kd.R_below (by (with_reducible repeat (first|apply Kd.R_alloc|apply Kd.R_drewN|apply Kd.R_drew));exact m.out) hb)
        replace v:=Aside0.mk (Kd.R_below (by (with_reducible repeat (first|apply Kd.R_alloc|apply Kd.R_drewN|apply Kd.R_drew));exact v.out) hb)
        obtain⟨d,a,b,u,HB⟩:=zu4 d a b u HB hb
        try clear hb
        (try clear ho0)
        refine hK.out _ _ ⟨(blk_cell a.out 0).trans rfl,(blk_cell a.out 1).trans rfl,(blk_cell a.out 2).trans rfl,(blk_cell a.out 3).trans rfl,(blk_cell b.out 0).trans rfl,(blk_cell b.out 1).trans rfl,(blk_cell b.out 2).trans rfl,(blk_cell b.out 3).trans rfl⟩ (fun hHeld=>?_)
        clear hK K
        refine norm_ (a':=?_) ?_ ?_
        rotate_left
        ·show Act.put _ (some 93) _=_
         simp only[Act.put,List.setIfInBounds_toArray,List.set_cons_zero,List.set_cons_succ,i64_w,i32_w]
         rfl
        exact norm_ (by simp only[putAll,Act.put,List.setIfInBounds_toArray,List.set_cons_zero,List.set_cons_succ]) (hCont (.slice am L.length an,.slice aB M.length aC,v717,l) _ ⟨hHeld,(by (with_reducible repeat (first|apply Kd.R_alloc|apply Kd.R_drewN|apply Kd.R_drew));exact Kd.R_mono m.out (fun _ hk=>hk.2)),(by (with_reducible repeat (first|apply Kd.R_alloc|apply Kd.R_drewN|apply Kd.R_drew));exact Kd.R_mono v.out (fun _ hk=>hk.2)),(by (with_reducible repeat (first|apply Kd.V_alloc|apply Kd.V_drewN|apply Kd.V_drew));exact G.out),(zk d),(zk a),(zk b),(zk u),ai.out,aj.out,E.out,B.out,q.out,C.out,s.out,D.out,(zb HB)⟩)
       rintro⟨v707,v712,v717,l⟩ ap ⟨hS_,h0_,h1_,h2_,h3_,h4_,h5_,h6_,h7_,h8_,h9_,h10_,h11_,h12_,h13_,h14_,h15_⟩
       have n0_:Aside0 (Kd.R (Kd.int .i64) 3 ap w.heap.size (fun k_=>some k_≠(v712:Value).ownBlock) v707 L):=⟨h0_⟩
       have n1_:Aside0 (Kd.R (Kd.int .i64) 3 ap w.heap.size (fun k_=>some k_≠(v707:Value).ownBlock) v712 M):=⟨h1_⟩
       have n2_:Aside0 (Kd.V (Kd.int .i64) 3 ap w.heap.size (fun k_=>some k_≠(v707:Value).ownBlock∧some k_≠(v712:Value).ownBlock∧k_≠F∧k_≠y∧k_≠z∧k_≠l) v717 Z):=⟨h2_⟩
       have n3_:Aside0 (ap.heap[F]?=some (.cells #[.int .i64 aa,.int .i64 ab] 23 (0,0))):=⟨h3_⟩
       have n4_:Aside0 (ap.heap[y]?=some (.cells #[.int .i64 O,.bool P,.int .i64 ac,.int .u64 ad] 34 (0,0))):=⟨h4_⟩
       have n5_:Aside0 (ap.heap[z]?=some (.cells #[.int .i64 J,.bool Q,.int .i64 T,.int .u64 U] 34 (0,0))):=⟨h5_⟩
       have n6_:Aside0 (ap.heap[l]?=some (.cells #[.int .i64 0,.slice none 0 0,.int .i64 0] 73 (0,0))):=⟨h6_⟩
       have n7_:Aside0 (w.heap.size≤l):=⟨h7_⟩
       have n8_:Aside0 (w.heap.size≤l):=⟨h8_⟩
       have n9_:Aside0 (F≠l):=⟨h9_⟩
       have n10_:Aside0 (l≠F):=⟨h10_⟩
       have n11_:Aside0 (y≠l):=⟨h11_⟩
       have n12_:Aside0 (l≠y):=⟨h12_⟩
       have n13_:Aside0 (z≠l):=⟨h13_⟩
       have n14_:Aside0 (l≠z):=⟨h14_⟩
       have n15_:Aside0 (Below w.heap.size w ap):=⟨h15_⟩
       clear d
       clear a
       clear b
       clear HB
       clear h0_ h1_ h2_ h3_ h4_ h5_ h6_ h7_ h8_ h9_ h10_ h11_ h12_ h13_ h14_ h15_
       have m:=n0_
       have v:=n1_
       have G:=n2_
       have d:=n3_
       have a:=n4_
       have b:=n5_
       have u:=n6_
       have ai:=n7_
       have aj:=n8_
       have E:=n9_
       have B:=n10_
       have q:=n11_
       have C:=n12_
       have s:=n13_
       have D:=n14_
       have HB:=n15_
       clear n0_ n1_ n2_ n3_ n4_ n5_ n6_ n7_ n8_ n9_ n10_ n11_ n12_ n13_ n14_ n15_
       have hHeld:ap.cell? ⟨y,0,none⟩=some (.int .i64 O)∧ap.cell? ⟨y,1,none⟩=some (.bool P)∧ap.cell? ⟨y,2,none⟩=some (.int .i64 ac)∧ap.cell? ⟨y,3,none⟩=some (.int .u64 ad)∧ap.cell? ⟨z,0,none⟩=some (.int .i64 J)∧ap.cell? ⟨z,1,none⟩=some (.bool Q)∧ap.cell? ⟨z,2,none⟩=some (.int .i64 T)∧ap.cell? ⟨z,3,none⟩=some (.int .u64 U):=hS_
       obtain⟨aH,aD,cI⟩:=Kd.V_slice G.out
       (first|subst cI|(injection cI with f1_ f2_ f3_;have f4_:=f1_.symm;have f5_:=f3_.symm;clear f1_ f2_ f3_;subst f4_;subst f5_))
       refine norm_ (a':=?_) ?_ ?_
       rotate_left
       ·simp only[putAll,Act.put,List.setIfInBounds_toArray,List.set_cons_zero,List.set_cons_succ]
        rfl
       refine one_ (i:=6) (N:=none) #[true,true,true,true,true,true,true] rfl rfl (by kernel_rfl) (by decide) (fun K hK=>?_)
       have hs168:ap.cell? ⟨l,0,none⟩=some (.int .i64 0):=(blk_cell u.out 0).trans rfl
       have hfs168:=blk_frozen u.out 0
       have eU:=E.out
       have eV:=q.out
       have eW:=s.out
       have eX:=B.out
       have eY:=C.out
       have eZ:=D.out
       have hs170:ap.cell? ⟨l,1,none⟩=some (.slice none 0 0):=(blk_cell u.out 1).trans rfl
       have hfs170:=blk_frozen u.out 1
       have e0:=E.out
       have e1:=q.out
       have e2:=s.out
       have e3:=B.out
       have e4:=C.out
       have e5:=D.out
       have hs171:ap.cell? ⟨l,2,none⟩=some (.int .i64 0):=(blk_cell u.out 2).trans rfl
       have hfs171:=blk_frozen u.out 2
       have e6:=E.out
       have e7:=q.out
       have e8:=s.out
       have e9:=B.out
       have fa:=C.out
       have fb:=D.out
       refine skip_ (w1:=?_) (by rfl) rfl ?_ ?_
       rotate_left
       ·go_simp
        rfl
       refine hK.out _ _ ⟨((cell_far (p:=⟨l,_,none⟩) q.out _).trans (((cell_far (p:=⟨l,_,none⟩) q.out _).trans (((cell_far (p:=⟨l,_,none⟩) q.out _).trans (hHeld.1)))))),((cell_far (p:=⟨l,_,none⟩) q.out _).trans (((cell_far (p:=⟨l,_,none⟩) q.out _).trans (((cell_far (p:=⟨l,_,none⟩) q.out _).trans (hHeld.2.1)))))),((cell_far (p:=⟨l,_,none⟩) q.out _).trans (((cell_far (p:=⟨l,_,none⟩) q.out _).trans (((cell_far (p:=⟨l,_,none⟩) q.out _).trans (hHeld.2.2.1)))))),((cell_far (p:=⟨l,_,none⟩) q.out _).trans (((cell_far (p:=⟨l,_,none⟩) q.out _).trans (((cell_far (p:=⟨l,_,none⟩) q.out _).trans (hHeld.2.2.2.1)))))),((cell_far (p:=⟨l,_,none⟩) s.out _).trans (((cell_far (p:=⟨l,_,none⟩) s.out _).trans (((cell_far (p:=⟨l,_,none⟩) s.out _).trans (hHeld.2.2.2.2.1)))))),((cell_far (p:=⟨l,_,none⟩) s.out _).trans (((cell_far (p:=⟨l,_,none⟩) s.out _).trans (((cell_far (p:=⟨l,_,none⟩) s.out _).trans (hHeld.2.2.2.2.2.1)))))),((cell_far (p:=⟨l,_,none⟩) s.out _).trans (((cell_far (p:=⟨l,_,none⟩) s.out _).trans (((cell_far (p:=⟨l,_,none⟩) s.out _).trans (hHeld.2.2.2.2.2.2.1)))))),((cell_far (p:=⟨l,_,none⟩) s.out _).trans (((cell_far (p:=⟨l,_,none⟩) s.out _).trans (((cell_far (p:=⟨l,_,none⟩) s.out _).trans (hHeld.2.2.2.2.2.2.2))))))⟩ (fun hHeld=>?_)
       clear hK K
       refine done_ (by kernel_rfl) ?_
       obtain⟨it,iu⟩:=z2 B
       obtain⟨iv,iw⟩:=z2 C
       obtain⟨ix,iy⟩:=z2 D
       obtain⟨fc,fd,fe,ff,fg,fh⟩:=zc3 u
       try go_wp2_with (first|((with_reducible refine gate_callee (f:=65) rfl ?_);refine zgo (some 96) Try.func65 #[.slice aH Z.length aD] ?_;(with_reducible refine (grottoref02_Bits.calls aw _ _ Z cC _ ?side1 ?side2 cQ.out).mono ?_);(case side1=>refine (Kd.V_reads' (e:=3) (base:=w.heap.size) (ok:=fun k_=>(some k_≠(v707:Value).ownBlock∧(some k_≠(v712:Value).ownBlock∧(k_≠F∧(k_≠y∧(k_≠z∧k_≠l)))))) (n:=Z.length) (c:=aD) ?_).2.2;exact (by (with_reducible repeat (first|apply Kd.V_alloc|apply Kd.V_drewN|apply Kd.V_drew));exact (Kd.V_mono (Kd.V_far (p:=⟨l,2,none⟩) (Kd.V_far (p:=⟨l,1,none⟩) (Kd.V_far (p:=⟨l,0,none⟩) (Kd.V_mono G.out (fun k_ hk=>(⟨hk,hk.2.2.2.2.2⟩:_∧k_≠l))) (fun _ hk=>hk.2) (.int .i64 ag)) (fun _ hk=>hk.2) (.slice aH Z.length aD)) (fun _ hk=>hk.2) (.int .i64 ah)) (fun _ h_=>h_.1))));(case side2=>exact (Kd.V_reads' G.out).2.1);rintro e hQ ⟨rfl,hb⟩;refine⟨_,rfl,?_⟩;replace m:=Aside0.mk (Kd.R_below (by (with_reducible repeat (first|apply Kd.R_alloc|apply Kd.R_drewN|apply Kd.R_drew));exact (Kd.R_mono (Kd.R_far (p:=⟨l,2,none⟩) (Kd.R_far (p:=⟨l,1,none⟩) (Kd.R_far (p:=⟨l,0,none⟩) (Kd.R_types m.out u.out (by decide)) (fun _ hk=>hk.2) (.int .i64 ag)) (fun _ hk=>hk.2) (.slice aH Z.length aD)) (fun _ hk=>hk.2) (.int .i64 ah)) (fun _ h_=>h_.1))) hb);replace v:=Aside0.mk (Kd.R_below (by (with_reducible repeat (first|apply Kd.R_alloc|apply Kd.R_drewN|apply Kd.R_drew));exact (Kd.R_mono (Kd.R_far (p:=⟨l,2,none⟩) (Kd.R_far (p:=⟨l,1,none⟩) (Kd.R_far (p:=⟨l,0,none⟩) (Kd.R_types v.out u.out (by decide)) (fun _ hk=>hk.2) (.int .i64 ag)) (fun _ hk=>hk.2) (.slice aH Z.length aD)) (fun _ hk=>hk.2) (.int .i64 ah)) (fun _ h_=>h_.1))) hb);replace G:=Aside0.mk (Kd.V_below (by (with_reducible repeat (first|apply Kd.V_alloc|apply Kd.V_drewN|apply Kd.V_drew));exact (Kd.V_mono (Kd.V_far (p:=⟨l,2,none⟩) (Kd.V_far (p:=⟨l,1,none⟩) (Kd.V_far (p:=⟨l,0,none⟩) (Kd.V_mono G.out (fun k_ hk=>(⟨hk,hk.2.2.2.2.2⟩:_∧k_≠l))) (fun _ hk=>hk.2) (.int .i64 ag)) (fun _ hk=>hk.2) (.slice aH Z.length aD)) (fun _ hk=>hk.2) (.int .i64 ah)) (fun _ h_=>h_.1))) hb);obtain⟨d,a,b,HB⟩:=zu3 d a b HB hb;replace u:=zkbo (o:=.cells #[.int .i64 ag,.slice aH Z.length aD,.int .i64 ah] 73 (0,0)) u hb;clear hb))
       replace m:=Aside0.mk (Kd.R_drew m.out)
       replace v:=Aside0.mk (Kd.R_drew v.out)
       replace G:=Aside0.mk (Kd.V_drew G.out)
       replace d:=Aside0.mk (blk_drew d.out)
       replace a:=Aside0.mk (blk_drew a.out)
       replace b:=Aside0.mk (blk_drew b.out)
       replace u:=Aside0.mk (blk_drew u.out)
       replace HB:=Aside0.mk (below_drew1 HB.out)
       refine start_ (n:=12) (S:=fun w'=>w'.cell? ⟨F,0,none⟩=some (.int .i64 aa)∧w'.cell? ⟨F,1,none⟩=some (.int .i64 ab)∧w'.cell? ⟨l,0,none⟩=some (.int .i64 ag)∧w'.cell? ⟨l,1,none⟩=some (.slice aH Z.length aD)∧w'.cell? ⟨l,2,none⟩=some (.int .i64 ah)) (ds:=[]) #[false,false,false,false,false,false,false,false,false,false,false,false] (by kernel_rfl) rfl rfl ⟨(blk_cell d.out 0).trans rfl,(blk_cell d.out 1).trans rfl,(blk_cell u.out 0).trans rfl,(blk_cell u.out 1).trans rfl,(blk_cell u.out 2).trans rfl⟩ (fun hHeld=>?_);refine with_tabW grottoref03_Add.tab15 grottoref03_Add.bits15 (fun HT_ HW_=>?_)
       generalize hQ.drew=kC at m v G d a b u HB hHeld ⊢
       refine zpure_ (i:=1) (N:=some 101) #[false,true,false,false,false,false,false,false,false,false,false,false] (any_of HT_.out (by kernel_rfl)) ?_
       refine zpure_ (i:=4) (N:=some 104) #[false,true,false,false,true,false,false,false,false,false,false,false] (any_of HT_.out (by kernel_rfl)) ?_
       refine zpure_ (i:=7) (N:=some 107) #[false,true,false,false,true,false,false,true,false,false,false,false] (any_of HT_.out (by kernel_rfl)) ?_
       refine ztake_ (i:=0) (N:=some 100) #[true,true,false,false,true,false,false,true,false,false,false,false] rfl (take_ofW HT_.out HW_.out (by kernel_rfl)) hHeld (Or.inl ⟨by rfl,by rintro w' ⟨s0,s1,s2,s3,s4⟩;go_simp;with_reducible rfl⟩) ?_
       refine ztake_ (i:=2) (N:=some 102) #[true,true,true,false,true,false,false,true,false,false,false,false] rfl (take_ofW HT_.out HW_.out (by kernel_rfl)) hHeld (Or.inl ⟨by rfl,by rintro w' ⟨s0,s1,s2,s3,s4⟩;go_simp;with_reducible rfl⟩) ?_
       refine zpure_ (i:=3) (N:=some 103) #[true,true,true,true,true,false,false,true,false,false,false,false] (any_of HT_.out (by kernel_rfl)) ?_
       refine ztake_ (i:=5) (N:=some 105) #[true,true,true,true,true,true,false,true,false,false,false,false] rfl (take_ofW HT_.out HW_.out (by kernel_rfl)) hHeld (Or.inl ⟨by rfl,by rintro w' ⟨s0,s1,s2,s3,s4⟩;go_simp;with_reducible rfl⟩) ?_
       refine ztake_ (i:=8) (N:=some 108) #[true,true,true,true,true,true,false,true,true,false,false,false] rfl (take_ofW HT_.out HW_.out (by kernel_rfl)) hHeld (Or.inl ⟨by rfl,by rintro w' ⟨s0,s1,s2,s3,s4⟩;go_simp;with_reducible rfl⟩) ?_
       refine one_ (i:=6) (N:=some 106) #[true,true,true,true,true,true,true,true,true,false,false,false] rfl rfl (one_of HT_.out (by kernel_rfl)) (by decide) (fun K hK=>?_)
       refine goes_ Try.func58 (by kernel_rfl) rfl #[] (by rfl) rfl rfl (by (try simp only[List.map_toArray,List.map_cons,List.map_nil]);first|done|rfl|(simp only[List.length_drop,List.length_take];rfl)) ?_
       with_reducible refine (grottoref03_one.calls  cd _ hM.out).mono ?_
       rintro e kD ⟨v724,rfl,ho0,hb⟩
       refine⟨_,rfl,?_⟩
       have bF:=Aside0.mk (Kd.R_lower (Kd.R_new' (Kd.R_new' ho0 (Kd.R_lt (by (with_reducible repeat (first|apply Kd.R_alloc|apply Kd.R_drewN|apply Kd.R_drew));exact m.out))) (Kd.R_lt (by (with_reducible repeat (first|apply Kd.R_alloc|apply Kd.R_drewN|apply Kd.R_drew));exact v.out))) (below_size (zb HB)))
       replace m:=Aside0.mk (Kd.R_elder' (by (with_reducible repeat (first|apply Kd.R_alloc|apply Kd.R_drewN|apply Kd.R_drew));exact m.out) (Kd.R_base ho0) hb)
       replace v:=Aside0.mk (Kd.R_elder' (by (with_reducible repeat (first|apply Kd.R_alloc|apply Kd.R_drewN|apply Kd.R_drew));exact v.out) (Kd.R_base ho0) hb)
       replace G:=Aside0.mk (Kd.V_elder' (by (with_reducible repeat (first|apply Kd.V_alloc|apply Kd.V_drewN|apply Kd.V_drew));exact G.out) (Kd.R_base ho0) hb)
       obtain⟨d,a,b,u,HB⟩:=zu4 d a b u HB hb
       try clear hb
       (try clear ho0)
       obtain⟨cn,co,cJ⟩:=Kd.R_slice bF.out
       (first|subst cJ|(injection cJ with f1_ f2_ f3_;have f4_:=f1_.symm;have f5_:=f3_.symm;clear f1_ f2_ f3_;subst f4_;subst f5_))
       refine hK.out _ _ ⟨(blk_cell d.out 0).trans rfl,(blk_cell d.out 1).trans rfl,(blk_cell u.out 0).trans rfl,(blk_cell u.out 1).trans rfl,(blk_cell u.out 2).trans rfl⟩ (fun hHeld=>?_)
       clear hK K
       refine norm_ (a':=?_) ?_ ?_
       rotate_left
       ·show Act.put _ (some 106) _=_
        simp only[Act.put,List.setIfInBounds_toArray,List.set_cons_zero,List.set_cons_succ,i64_w,i32_w]
        rfl
       refine one_ (i:=9) (N:=some 109) #[true,true,true,true,true,true,true,true,true,true,false,false] rfl rfl (one_of HT_.out (by kernel_rfl)) (by decide) (fun K hK=>?_)
       refine goes_ Try.func57 (by kernel_rfl) rfl #[.agg #[.int .i64 aa,.int .i64 ab],.bool (decide (ag<0)),.slice aH Z.length aD,.slice cn cd.length co,.int .i64 ah] (by rfl) rfl rfl (by (try simp only[List.map_toArray,List.map_cons,List.map_nil]);first|done|rfl|(simp only[List.length_drop,List.length_take];rfl)) ?_
       with_reducible refine (grottoref02_Near.calls aw aa ab (decide (ag<0)) (fun k_=>((some k_≠(v707:Value).ownBlock∧(some k_≠(v712:Value).ownBlock∧(k_≠F∧(k_≠y∧(k_≠z∧k_≠l)))))∧some k_≠(.slice cn cd.length co:Value).ownBlock)) _ _ Z (fun k_=>some k_=(.slice cn cd.length co:Value).ownBlock) _ _ cd ah hN _ ?side1 ?side2 hO.out).mono ?_
       (case side1=>exact G.out)
       (case side2=>exact Kd.R_V (Kd.R_tight rfl (Kd.R_types (Kd.R_types (Kd.R_types (Kd.R_types (bF.out) d.out (by decide)) a.out (by decide)) b.out (by decide)) u.out (by decide))))
       rintro e kE ⟨rfl,hb⟩
       refine⟨_,rfl,?_⟩
       replace m:=Aside0.mk (Kd.R_below (by (with_reducible repeat (first|apply Kd.R_alloc|apply Kd.R_drewN|apply Kd.R_drew));exact m.out) hb)
       replace v:=Aside0.mk (Kd.R_below (by (with_reducible repeat (first|apply Kd.R_alloc|apply Kd.R_drewN|apply Kd.R_drew));exact v.out) hb)
       replace G:=Aside0.mk (Kd.V_below (by (with_reducible repeat (first|apply Kd.V_alloc|apply Kd.V_drewN|apply Kd.V_drew));exact G.out) hb)
       replace bF:=Aside0.mk (Kd.R_below (by (with_reducible repeat (first|apply Kd.R_alloc|apply Kd.R_drewN|apply Kd.R_drew));exact bF.out) hb)
       obtain⟨d,a,b,u,HB⟩:=zu4 d a b u HB hb
       try clear hb
       refine hK.out _ _ ⟨(blk_cell d.out 0).trans rfl,(blk_cell d.out 1).trans rfl,(blk_cell u.out 0).trans rfl,(blk_cell u.out 1).trans rfl,(blk_cell u.out 2).trans rfl⟩ (fun hHeld=>?_)
       clear hK K
       refine norm_ (a':=?_) ?_ ?_
       rotate_left
       ·show Act.put _ (some 109) _=_
        simp only[Act.put,List.setIfInBounds_toArray,List.set_cons_zero,List.set_cons_succ,i64_w,i32_w]
        rfl
       refine zpure_ (i:=10) (N:=some 6) #[true,true,true,true,true,true,true,true,true,true,true,false] (any_of HT_.out (by kernel_rfl)) ?_
       refine zpure_ (i:=11) (N:=some 7) #[true,true,true,true,true,true,true,true,true,true,true,true] (any_of HT_.out (by kernel_rfl)) ?_
       refine done_ (done_of HT_.out (by kernel_rfl)) ?_
       try go_wp2
       go_ret2
       exact zr HB
end Go.Proofs.Ytmmbgbchimangaa.PQ
