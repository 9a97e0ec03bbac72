-- by a program of this claim
import Derived.Test.YtmmbgbchimangaaPQx0
import Derived.Test.YtmmbgbchimangaaPQx8
import Derived.Test.YtmmbgbchimangaaPQx9
import Derived.Test.YtmmbgbchimangaaPQx10
import Derived.Test.YtmmbgbchimangaaPQx11
import Derived.Test.YtmmbgbchimangaaPQx12
namespace Go.Proofs.Ytmmbgbchimangaa.PQ
open Go.RowKit Go.Proofs.YtmmbgbchimangaaW.PrintWords Go.Proofs.YtmmbgbchimangaaW.PrintLast Go.Proofs.YtmmbgbchimangaaW.PrintMore Go.Proofs.Ytmmbgbchimangaa.Z
attribute [local go_sem] max2_int min2_int max_two min_two max_three min_three max_four min_four   -- for this text's walks alone
set_option linter.unusedVariables false
set_option linter.unusedSimpArgs false

/-! ### grottoref03_Mod: function 17 -/
def grottoref03_Mod.j0:Nat→Int→Bool→Bool→Int→Int→Int→Bool→Int→Int→Int→Bool→Int→Int→Option (Int×Int×Int)
 | 0,_,_,_,_,_,_,_,_,_,_,_,_,_=>none
 | k+1,l,g,m,a,b,n,h,o,p,i,q,r,s=>if m=true then ((grottoref02_NaN.f k a b).bind fun t=>((grottoref02_NaN.f k a b).bind fun u=>(some (t,u,0)))) else (if i=3 then ((grottoref02_Zero.f k a b g).bind fun v=>(some (l,v,0))) else ((grottoref03_exact.f k n h o p).bind fun c=>((grottoref03_exact.f k i q r s).bind fun d=>((grottoref03_alike.f k c.1 c.2.1 c.2.2 d.1 d.2.1 d.2.2).bind fun e=>((grottoref02_Quo.f k e.2.1 e.2.2.2.2.1).bind fun j=>((grottoref03_one.f).bind fun w=>((grottoref02_Near.f k a b h j.2 w e.2.2.1).bind fun x=>((grottoref03_one.f).bind fun y=>((grottoref02_Near.f k a b g j.1 y 0).bind fun z=>(some (x,z,0)))))))))))
def grottoref03_Mod.f (k:Nat) (a0_0:Int) (a0_1:Int) (a1:Int) (a2:Int):Option (Int×Int×Int):=(grottoref03_open.f k a0_0 a0_1 a1 a2).bind fun a=>(if a.2.2.2.2.2.2.2.2=0 then (if a.1=4 then (grottoref03_Mod.j0 k a1 (a.2.1 != a.2.2.2.2.2.1) true a0_0 a0_1 a.1 a.2.1 a.2.2.1 a.2.2.2.1 a.2.2.2.2.1 a.2.2.2.2.2.1 a.2.2.2.2.2.2.1 a.2.2.2.2.2.2.2.1) else (if a.2.2.2.2.1=4 then (grottoref03_Mod.j0 k a1 (a.2.1 != a.2.2.2.2.2.1) true a0_0 a0_1 a.1 a.2.1 a.2.2.1 a.2.2.2.1 a.2.2.2.2.1 a.2.2.2.2.2.1 a.2.2.2.2.2.2.1 a.2.2.2.2.2.2.2.1) else (if a.1=3 then (grottoref03_Mod.j0 k a1 (a.2.1 != a.2.2.2.2.2.1) true a0_0 a0_1 a.1 a.2.1 a.2.2.1 a.2.2.2.1 a.2.2.2.2.1 a.2.2.2.2.2.1 a.2.2.2.2.2.2.1 a.2.2.2.2.2.2.2.1) else (grottoref03_Mod.j0 k a1 (a.2.1 != a.2.2.2.2.2.1) (a.2.2.2.2.1==1) a0_0 a0_1 a.1 a.2.1 a.2.2.1 a.2.2.2.1 a.2.2.2.2.1 a.2.2.2.2.2.1 a.2.2.2.2.2.2.1 a.2.2.2.2.2.2.2.1)))) else (some (0,0,a.2.2.2.2.2.2.2.2)))
theorem grottoref03_Mod.mono_l:∀ k,(∀ y0 y1 y2 y3 y4 y5 y6 y7 y8 y9 y10 y11 y12,LeO (grottoref03_Mod.j0 k y0 y1 y2 y3 y4 y5 y6 y7 y8 y9 y10 y11 y12) (grottoref03_Mod.j0 (k+1) y0 y1 y2 y3 y4 y5 y6 y7 y8 y9 y10 y11 y12))
 | 0=>fun _ _ _ _ _ _ _ _ _ _ _ _ _ r h=>by simp[grottoref03_Mod.j0] at h
 | k+1=>by
  have ih0:=grottoref03_Mod.mono_l k
  intros;unfold grottoref03_Mod.j0;repeat' first|(with_reducible first|apply ih0|apply grottoref02_NaN.mono|apply grottoref02_Near.mono|apply grottoref02_Quo.mono|apply grottoref02_Zero.mono|apply grottoref03_alike.mono|apply grottoref03_exact.mono|apply grottoref03_open.mono|exact LeO.refl _|exact LeO.none _|refine LeO.ite ?_ ?_|refine LeO.bind ?_ (fun _=>?_))|refine LeO.ite ?_ ?_|refine LeO.bind ?_ (fun _=>?_)
theorem grottoref03_Mod.mono:∀ a0 a1 a2 a3 k,LeO (grottoref03_Mod.f k a0 a1 a2 a3) (grottoref03_Mod.f (k+1) a0 a1 a2 a3):=by
 intro a0 a1 a2 a3 k
 have ih0:=grottoref03_Mod.mono_l k
 unfold grottoref03_Mod.f
 repeat' first|(with_reducible first|apply ih0|apply grottoref02_NaN.mono|apply grottoref02_Near.mono|apply grottoref02_Quo.mono|apply grottoref02_Zero.mono|apply grottoref03_alike.mono|apply grottoref03_exact.mono|apply grottoref03_open.mono|exact LeO.refl _|exact LeO.none _|refine LeO.ite ?_ ?_|refine LeO.bind ?_ (fun _=>?_))|refine LeO.ite ?_ ?_|refine LeO.bind ?_ (fun _=>?_)
def grottoref03_Mod.T9:Bool×List (List Nat×List Nat):=(true,[([],[]),([0],[0]),([],[]),([2,1],[2]),([1,3,3],[1,3]),([4],[4]),([5],[5]),([5],[5]),([],[]),([],[]),([8,6,4,0,1,2,3,4,5,6,8,9],[6,8]),([9,7,10,0,1,2,3,4,5,6,7,8,9,10],[7,9])])
def grottoref03_Mod.B9:List Nat:=[0,1,0,7,15,31,63,63,0,0,895,2047]
theorem grottoref03_Mod.tab9:rtab .any (opsOf Try.f17 9)=grottoref03_Mod.T9:=by kernel_rfl
theorem grottoref03_Mod.bits9:waitsOk grottoref03_Mod.T9.2 grottoref03_Mod.B9=true:=by kernel_rfl
def grottoref03_Mod.T11:Bool×List (List Nat×List Nat):=(true,[([],[]),([],[]),([1],[1]),([],[]),([],[]),([],[]),([5],[5]),([0,2,3,4,6,4],[0,2,3,4,6]),([],[]),([],[]),([],[]),([7],[]),([8,9,10,11,11],[8,9,10,11]),([7,12,0,1,2,3,4,5,6,7],[7]),([12,13,0,1,2,3,4,5,6,7,8,9,10,11,12,13],[12]),([14,0,1,2,3,4,5,6,7,8,9,10,11,12,13,14],[])])
def grottoref03_Mod.B11:List Nat:=[0,0,2,0,0,0,32,127,0,0,0,255,4095,8191,16383,32767]
theorem grottoref03_Mod.tab11:rtab .any (opsOf Try.f17 11)=grottoref03_Mod.T11:=by kernel_rfl
theorem grottoref03_Mod.bits11:waitsOk grottoref03_Mod.T11.2 grottoref03_Mod.B11=true:=by kernel_rfl
set_option maxHeartbeats 8000000 in
set_option maxRecDepth 100000 in
theorem grottoref03_Mod.calls {k:Nat} {ae:Int} {af:Int} {a1:Int} {a2:Int} {r1:Int} {r2:Int} {r3:Int} {w:World} (h:grottoref03_Mod.f k ae af a1 a2=some (r1,r2,r3)) :
  Calls Try.prog 17 #[.agg #[.int .i64 ae,.int .i64 af],.int .u64 a1,.int .u64 a2] w fun e w'=>e=.returned (.tuple #[.int .u64 r1,.int .u64 r2,.int .i64 r3])∧Below w.heap.size w w':=by
 have hu23:=Try.underlying23
 have hu34:=Try.underlying34
 have hu73:=Try.underlying73
 have HB:=Aside0.mk (Below.refl w.heap.size w)
 have H:=h
 unfold grottoref03_Mod.f at H
 clear h
 obtain⟨⟨T,Q,X,Y,U,W,aa,ab,cv⟩,A4,H⟩:=oB H
 try dsimp only at H
 by_cases c5:cv=0
 rotate_left
 ·rw[if_neg c5] at H
  obtain⟨bM,bN⟩:=zf c5
  simp only[Option.some.injEq,Prod.mk.injEq] at H
  obtain⟨rfl,rfl,rfl⟩:=H
  go_enter Try.func17,Try.ntmps17
  go_wp2_with (first|((with_reducible refine gate_dst (N:=3) rfl ?_);refine zbox (N:=3) (cs:=#[.int .i64 ae,.int .i64 af]) (t:=23) ?_;intro s hg f6 hbox hb;have l:=Aside0.mk hbox;have bX:=zge hg HB;have bY:=zge hg HB;replace HB:=zbs HB hb;clear hb hbox hg;obtain⟨ca,cb,cc,cd⟩:=zc2 l)|((with_reducible refine gate_callee (f:=53) rfl ?_);refine zgc (some 21) Try.func53 (grottoref03_open.calls A4.out) ?_;intro f7 hb;obtain⟨l,HB⟩:=zu1 l HB hb;clear hb)|((with_reducible refine gate_dst (N:=9) rfl ?_);refine zbox (N:=9) (cs:=#[.int .i64 0,.bool false,.int .i64 0,.int .u64 0]) (t:=34) ?_;intro c hg f8 hbox hb;have a:=Aside0.mk hbox;have bZ:=zge hg HB;have b0:=zge hg HB;have aY:=znl hg l;have aE:=zng hg l;obtain⟨l,HB⟩:=zu1 l HB hb;clear hb hbox hg)|((with_reducible refine gate_dst (N:=10) rfl ?_);refine zbox (N:=10) (cs:=#[.int .i64 0,.bool false,.int .i64 0,.int .u64 0]) (t:=34) ?_;intro d hg f9 hbox hb;have b:=Aside0.mk hbox;have b1:=zge hg HB;have b2:=zge hg HB;have a8:=znl hg l;have aB:=zng hg l;have aF:=znl hg a;have aV:=zng hg a;obtain⟨l,a,HB⟩:=zu2 l a HB hb;clear hb hbox hg;obtain⟨eW,eX⟩:=z2 aE;obtain⟨eY,eZ⟩:=z2 aF;obtain⟨ce,cf,cg,ch,ci,cj,ck,cl⟩:=zc4 a;obtain⟨e0,e1⟩:=z2 aB;obtain⟨cm,cn,co,cp,cq,cr,ct,cu⟩:=zc4 b))
  go_ret3
  exact zr HB

 rw[if_pos c5] at H
 obtain⟨bM,bN⟩:=zt c5
 clear c5
 have bW:=Aside0.mk H
 clear H
 go_enter Try.func17,Try.ntmps17
 go_upto_region 5 with (first|((with_reducible refine gate_dst (N:=3) rfl ?_);refine zbox (N:=3) (cs:=#[.int .i64 ae,.int .i64 af]) (t:=23) ?_;intro s hg w7 hbox hb;have l:=Aside0.mk hbox;have bX:=zge hg HB;have bY:=zge hg HB;replace HB:=zbs HB hb;clear hb hbox hg;obtain⟨bD,bE,bF,bG⟩:=zc2 l)|((with_reducible refine gate_callee (f:=53) rfl ?_);refine zgc (some 21) Try.func53 (grottoref03_open.calls A4.out) ?_;intro w9 hb;obtain⟨l,HB⟩:=zu1 l HB hb;clear hb)|((with_reducible refine gate_dst (N:=9) rfl ?_);refine zbox (N:=9) (cs:=#[.int .i64 0,.bool false,.int .i64 0,.int .u64 0]) (t:=34) ?_;intro c hg ga hbox hb;have a:=Aside0.mk hbox;have bZ:=zge hg HB;have b0:=zge hg HB;have aY:=znl hg l;have aE:=zng hg l;obtain⟨l,HB⟩:=zu1 l HB hb;clear hb hbox hg)|((with_reducible refine gate_dst (N:=10) rfl ?_);refine zbox (N:=10) (cs:=#[.int .i64 0,.bool false,.int .i64 0,.int .u64 0]) (t:=34) ?_;intro d hg gb hbox hb;have b:=Aside0.mk hbox;have b1:=zge hg HB;have b2:=zge hg HB;have a8:=znl hg l;have aB:=zng hg l;have aF:=znl hg a;have aV:=zng hg a;obtain⟨l,a,HB⟩:=zu2 l a HB hb;clear hb hbox hg;obtain⟨e3,e4⟩:=z2 aE;obtain⟨e5,e6⟩:=z2 aF;obtain⟨be,bf,bg,bh,bi,bj,bk,bl⟩:=zc4 a;obtain⟨e7,e8⟩:=z2 aB;obtain⟨bm,bn,bo,bp,bq,br,bs,bt⟩:=zc4 b))
 (try simp only[Act.put,List.setIfInBounds_toArray,List.set_cons_zero,List.set_cons_succ])
 go_cut [33] (fun v33 wc=>∃ (kq:Nat) (a5:Bool),v33=.bool a5∧Aside0 (grottoref03_Mod.j0 kq a1 (Q != W) a5 ae af T Q X Y U W aa ab=some (r1,r2,r3))∧Aside0 (kq≤k)∧Aside0 (wc.heap[s]?=some (.cells #[.int .i64 ae,.int .i64 af] 23 (0,0)))∧Aside0 (wc.heap[c]?=some (.cells #[.int .i64 T,.bool Q,.int .i64 X,.int .u64 Y] 34 (0,0)))∧Aside0 (wc.heap[d]?=some (.cells #[.int .i64 U,.bool W,.int .i64 aa,.int .u64 ab] 34 (0,0)))∧Aside0 (Below w.heap.size w wc))
 case first =>
  have H:=bW.out
  clear bW
  by_cases bu:T=4
  ·rw[if_pos bu] at H
   obtain⟨aZ,b3⟩:=zt bu
   clear bu
   (first|rw[aZ]|(simp only[i64_w,i32_w];rw[aZ])|skip)
   have H':=Aside0.mk H
   clear H
   obtain⟨e9,fa⟩:=z2 aE
   obtain⟨fb,fc⟩:=z2 aF
   obtain⟨cx,cy,cz,cA,cB,cC,cD,cE⟩:=zc4 a
   go_wp2
   go_meet
   case rel=>exact⟨_,(true),(by first|rfl|(simp[*];done)),H',⟨by omega⟩,⟨zk l⟩,⟨zkp a⟩,⟨zkp b⟩,⟨zb HB⟩⟩
  rw[if_neg bu] at H
  obtain⟨aZ,b3⟩:=zf bu
  (first|rw[aZ]|(simp only[i64_w,i32_w];rw[aZ])|skip)
  by_cases bv:U=4
  ·rw[if_pos bv] at H
   obtain⟨b4,b5⟩:=zt bv
   clear bv
   have H':=Aside0.mk H
   clear H
   obtain⟨fd,fe⟩:=z2 aE
   obtain⟨ff,fg⟩:=z2 aF
   obtain⟨cF,cG,cH,cI,cJ,cK,cL,cM⟩:=zc4 a
   obtain⟨fh,fi⟩:=z2 aB
   obtain⟨cN,cO,cP,cQ,cR,cS,cT,cU⟩:=zc4 b
   go_wp2
   go_meet
   case rel=>exact⟨_,(true),(by first|rfl|(simp[*];done)),H',⟨by omega⟩,⟨zk l⟩,⟨zkp a⟩,⟨zkp b⟩,⟨zb HB⟩⟩
  rw[if_neg bv] at H
  obtain⟨b4,b5⟩:=zf bv
  by_cases bw:T=3
  ·rw[if_pos bw] at H
   obtain⟨b6,b7⟩:=zt bw
   clear bw
   have H':=Aside0.mk H
   clear H
   obtain⟨fj,fk⟩:=z2 aE
   obtain⟨fl,fm⟩:=z2 aF
   obtain⟨cV,cW,cX,cY,cZ,c0,c1,c2⟩:=zc4 a
   obtain⟨fn,fo⟩:=z2 aB
   obtain⟨c3,c4,c6,c7,c8,c9,da,db⟩:=zc4 b
   go_wp2
   go_meet
   case rel=>exact⟨_,(true),(by first|rfl|(simp[*];done)),H',⟨by omega⟩,⟨zk l⟩,⟨zkp a⟩,⟨zkp b⟩,⟨zb HB⟩⟩
  rw[if_neg bw] at H
  obtain⟨b6,b7⟩:=zf bw
  have H':=Aside0.mk H
  clear H
  obtain⟨fp,fq⟩:=z2 aE
  obtain⟨fr,fs⟩:=z2 aF
  obtain⟨dc,dd,de,df,dg,dh,di,dj⟩:=zc4 a
  obtain⟨ft,fu⟩:=z2 aB
  obtain⟨dk,dl,dm,dn,dp,dq,dr,dt⟩:=zc4 b
  go_wp2
  go_meet
  case rel=>exact⟨_,((U==1)),(by first|rfl|(simp[*];done)),H',⟨by omega⟩,⟨zk l⟩,⟨zkp a⟩,⟨zkp b⟩,⟨zb HB⟩⟩
 case rest =>
  clear bW
  try clear bM bN be bf bg bh bm bn bo bp bD bE bi bj bk bl bq br bs bt bF bG
  obtain⟨kq,a5,rfl,HA,gc,l,a,b,HB⟩:=hcut
  cases kq with
  | zero=>exact absurd HA.out (by simp[grottoref03_Mod.j0])
  | succ a9 =>
   have H:=HA.out
   clear HA
   simp only[grottoref03_Mod.j0] at H
   by_cases bH:a5=true
   ·subst bH
    rw[if_pos rfl] at H
    obtain⟨f3,fv,H⟩:=oB H
    obtain⟨f4,fw,H⟩:=oB H
    simp only[Option.some.injEq,Prod.mk.injEq] at H
    obtain⟨rfl,rfl,rfl⟩:=H
    try go_wp2
    replace l:=Aside0.mk (blk_drew l.out)
    replace a:=Aside0.mk (blk_drew a.out)
    replace b:=Aside0.mk (blk_drew b.out)
    replace HB:=Aside0.mk (below_drew1 HB.out)
    refine start_ (n:=7) (S:=fun w'=>w'.cell? ⟨s,0,none⟩=some (.int .i64 ae)∧w'.cell? ⟨s,1,none⟩=some (.int .i64 af)) (ds:=[]) #[false,false,false,false,false,false,false] (by kernel_rfl) rfl rfl ⟨(blk_cell l.out 0).trans rfl,(blk_cell l.out 1).trans rfl⟩ (fun hHeld=>?_)
    generalize wc.drew=gd at l a b HB hHeld ⊢
    refine ztake_ (i:=0) (N:=some 52) #[true,false,false,false,false,false,false] rfl (by kernel_rfl) hHeld (Or.inl ⟨by rfl,by rintro w' ⟨s0,s1⟩;go_simp;with_reducible rfl⟩) ?_
    refine ztake_ (i:=2) (N:=some 54) #[true,false,true,false,false,false,false] rfl (by kernel_rfl) hHeld (Or.inl ⟨by rfl,by rintro w' ⟨s0,s1⟩;go_simp;with_reducible rfl⟩) ?_
    refine one_ (i:=1) (N:=some 53) #[true,true,true,false,false,false,false] rfl rfl (by kernel_rfl) (by decide) (fun K hK=>?_)
    refine goes_ Try.func21 (by kernel_rfl) rfl #[.agg #[.int .i64 ae,.int .i64 af]] (by rfl) rfl rfl (by (try simp only[List.map_toArray,List.map_cons,List.map_nil]);first|done|rfl|(simp only[List.length_drop,List.length_take];rfl)) ?_
    with_reducible refine (grottoref02_NaN.calls fv.out).mono ?_
    rintro e ge ⟨rfl,hb⟩
    refine⟨_,rfl,?_⟩
    obtain⟨l,a,b,HB⟩:=zu3 l a b HB hb
    try clear hb
    refine hK.out _ _ ⟨(blk_cell l.out 0).trans rfl,(blk_cell l.out 1).trans rfl⟩ (fun hHeld=>?_)
    clear hK K
    refine norm_ (a':=?_) ?_ ?_
    rotate_left
    ·show Act.put _ (some 53) _=_
     simp only[Act.put,List.setIfInBounds_toArray,List.set_cons_zero,List.set_cons_succ,i64_w,i32_w]
     rfl
    refine one_ (i:=3) (N:=some 55) #[true,true,true,true,false,false,false] rfl rfl (by kernel_rfl) (by decide) (fun K hK=>?_)
    refine goes_ Try.func21 (by kernel_rfl) rfl #[.agg #[.int .i64 ae,.int .i64 af]] (by rfl) rfl rfl (by (try simp only[List.map_toArray,List.map_cons,List.map_nil]);first|done|rfl|(simp only[List.length_drop,List.length_take];rfl)) ?_
    with_reducible refine (grottoref02_NaN.calls fw.out).mono ?_
    rintro e gf ⟨rfl,hb⟩
    refine⟨_,rfl,?_⟩
    obtain⟨l,a,b,HB⟩:=zu3 l a b HB hb
    try clear hb
    refine hK.out _ _ ⟨(blk_cell l.out 0).trans rfl,(blk_cell l.out 1).trans rfl⟩ (fun hHeld=>?_)
    clear hK K
    refine norm_ (a':=?_) ?_ ?_
    rotate_left
    ·show Act.put _ (some 55) _=_
     simp only[Act.put,List.setIfInBounds_toArray,List.set_cons_zero,List.set_cons_succ,i64_w,i32_w]
     rfl
    refine zpure_ (i:=4) (N:=some 6) #[true,true,true,true,true,false,false] (by kernel_rfl) ?_
    refine zpure_ (i:=5) (N:=some 7) #[true,true,true,true,true,true,false] (by kernel_rfl) ?_
    refine zpure_ (i:=6) (N:=some 8) #[true,true,true,true,true,true,true] (by kernel_rfl) ?_
    refine done_ (by kernel_rfl) ?_
    try go_wp2
    go_ret3
    exact zr HB
   replace bH:=Bool.eq_false_iff.mpr bH
   subst bH
   rw[if_neg nft] at H
   by_cases bx:U=3
   ·rw[if_pos bx] at H
    obtain⟨b8,b9⟩:=zt bx
    clear bx
    obtain⟨f5,fx,H⟩:=oB H
    simp only[Option.some.injEq,Prod.mk.injEq] at H
    obtain⟨rfl,rfl,rfl⟩:=H
    obtain⟨fy,fz⟩:=z2 aB
    obtain⟨fA,fB⟩:=z2 aV
    obtain⟨du,dv,dw,dx,dy,dz,dA,dB⟩:=zc4 b
    obtain⟨fC,fD⟩:=z2 aY
    obtain⟨dC,dD,dE,dF⟩:=zc2 l
    go_wp2_with (first|((with_reducible refine gate_callee (f:=46) rfl ?_);refine zgc (some 63) Try.func46 (grottoref02_Zero.calls fx.out) ?_;intro gg hb;obtain⟨l,a,b,HB⟩:=zu3 l a b HB hb;clear hb))
    go_ret3
    exact zr HB
   rw[if_neg bx] at H
   obtain⟨b8,b9⟩:=zf bx
   obtain⟨⟨aG,ai,aH⟩,bI,H⟩:=oB H
   try dsimp only at H
   obtain⟨⟨aO,ao,aP⟩,bJ,H⟩:=oB H
   try dsimp only at H
   obtain⟨⟨ar,au,ap,av,aw,ax⟩,bK,H⟩:=oB H
   try dsimp only at H
   obtain⟨⟨bz,bA⟩,fE,H⟩:=oB H
   try dsimp only at H
   obtain⟨a0,fF,H⟩:=oB H
   obtain⟨dG,fG,H⟩:=oB H
   obtain⟨a7,fH,H⟩:=oB H
   obtain⟨dH,fI,H⟩:=oB H
   simp only[Option.some.injEq,Prod.mk.injEq] at H
   obtain⟨rfl,rfl,rfl⟩:=H
   obtain⟨fJ,fK⟩:=z2 aB
   obtain⟨fL,fM⟩:=z2 aV
   obtain⟨dI,dJ,dK,dL,dM,dN,dO,dP⟩:=zc4 b
   try go_wp2
   replace l:=Aside0.mk (blk_drew l.out)
   replace a:=Aside0.mk (blk_drew a.out)
   replace b:=Aside0.mk (blk_drew b.out)
   replace HB:=Aside0.mk (below_drew1 HB.out)
   refine start_ (n:=12) (S:=fun w'=>w'.cell? ⟨c,0,none⟩=some (.int .i64 T)∧w'.cell? ⟨c,1,none⟩=some (.bool Q)∧w'.cell? ⟨c,2,none⟩=some (.int .i64 X)∧w'.cell? ⟨c,3,none⟩=some (.int .u64 Y)∧w'.cell? ⟨d,0,none⟩=some (.int .i64 U)∧w'.cell? ⟨d,1,none⟩=some (.bool W)∧w'.cell? ⟨d,2,none⟩=some (.int .i64 aa)∧w'.cell? ⟨d,3,none⟩=some (.int .u64 ab)) (ds:=[]) #[false,false,false,false,false,false,false,false,false,false,false,false] (by kernel_rfl) rfl rfl ⟨(blk_cell a.out 0).trans rfl,(blk_cell a.out 1).trans rfl,(blk_cell a.out 2).trans rfl,(blk_cell a.out 3).trans rfl,(blk_cell b.out 0).trans rfl,(blk_cell b.out 1).trans rfl,(blk_cell b.out 2).trans rfl,(blk_cell b.out 3).trans rfl⟩ (fun hHeld=>?_);refine with_tabW grottoref03_Mod.tab9 grottoref03_Mod.bits9 (fun HT_ HW_=>?_)
   generalize wc.drew=gh at l a b HB hHeld ⊢
   refine ztake_ (i:=0) (N:=some 65) #[true,false,false,false,false,false,false,false,false,false,false,false] rfl (take_ofW HT_.out HW_.out (by kernel_rfl)) hHeld (Or.inl ⟨by rfl,by rintro w' ⟨s0,s1,s2,s3,s4,s5,s6,s7⟩;go_simp;with_reducible rfl⟩) ?_
   refine ztake_ (i:=2) (N:=some 67) #[true,false,true,false,false,false,false,false,false,false,false,false] rfl (take_ofW HT_.out HW_.out (by kernel_rfl)) hHeld (Or.inl ⟨by rfl,by rintro w' ⟨s0,s1,s2,s3,s4,s5,s6,s7⟩;go_simp;with_reducible rfl⟩) ?_
   refine join_ (σ:=Value×Value×Value×Value×Nat×Nat) 2 #[true,true,true,true,true,true,true,true,true,true,false,false] (fun s_=>[(66,.agg #[.int .i64 aG,s_.1,.int .i64 aH]),(68,.agg #[.int .i64 aO,s_.2.1,.int .i64 aP]),(69,.tuple #[.agg #[.int .i64 ar,s_.2.2.1,.int .i64 ap],.agg #[.int .i64 av,s_.2.2.2.1,.int .i64 ax]]),(13,.pointer (some ⟨s_.2.2.2.2.1,0,none⟩)),(14,.pointer (some ⟨s_.2.2.2.2.2,0,none⟩)),(64,.tuple #[.agg #[.int .i64 ar,s_.2.2.1,.int .i64 ap],.agg #[.int .i64 av,s_.2.2.2.1,.int .i64 ax]]),(70,.agg #[.int .i64 ar,s_.2.2.1,.int .i64 ap]),(71,.agg #[.int .i64 av,s_.2.2.2.1,.int .i64 ax])]) (fun s_ w'=>(w'.cell? ⟨c,0,none⟩=some (.int .i64 T)∧w'.cell? ⟨c,1,none⟩=some (.bool Q)∧w'.cell? ⟨c,2,none⟩=some (.int .i64 X)∧w'.cell? ⟨c,3,none⟩=some (.int .u64 Y)∧w'.cell? ⟨d,0,none⟩=some (.int .i64 U)∧w'.cell? ⟨d,1,none⟩=some (.bool W)∧w'.cell? ⟨d,2,none⟩=some (.int .i64 aa)∧w'.cell? ⟨d,3,none⟩=some (.int .u64 ab))∧(Kd.R (Kd.int .i64) 3 w' w.heap.size (fun k_=>some k_≠(s_.2.1:Value).ownBlock) s_.1 ai)∧(Kd.R (Kd.int .i64) 3 w' w.heap.size (fun k_=>some k_≠(s_.1:Value).ownBlock) s_.2.1 ao)∧(Kd.V (Kd.int .i64) 3 w' w.heap.size (fun k_=>some k_≠(s_.1:Value).ownBlock∧some k_≠(s_.2.1:Value).ownBlock∧k_≠s∧k_≠c∧k_≠d∧k_≠s_.2.2.2.2.1∧k_≠s_.2.2.2.2.2) s_.2.2.1 au)∧(Kd.V (Kd.int .i64) 3 w' w.heap.size (fun k_=>some k_≠(s_.1:Value).ownBlock∧some k_≠(s_.2.1:Value).ownBlock∧k_≠s∧k_≠c∧k_≠d∧k_≠s_.2.2.2.2.1∧k_≠s_.2.2.2.2.2) s_.2.2.2.1 aw)∧(w'.heap[s]?=some (.cells #[.int .i64 ae,.int .i64 af] 23 (0,0)))∧(w'.heap[c]?=some (.cells #[.int .i64 T,.bool Q,.int .i64 X,.int .u64 Y] 34 (0,0)))∧(w'.heap[d]?=some (.cells #[.int .i64 U,.bool W,.int .i64 aa,.int .u64 ab] 34 (0,0)))∧(w'.heap[s_.2.2.2.2.1]?=some (.cells #[.int .i64 0,.slice none 0 0,.int .i64 0] 73 (0,0)))∧(w'.heap[s_.2.2.2.2.2]?=some (.cells #[.int .i64 0,.slice none 0 0,.int .i64 0] 73 (0,0)))∧(w.heap.size≤s_.2.2.2.2.1)∧(w.heap.size≤s_.2.2.2.2.1)∧(s≠s_.2.2.2.2.1)∧(s_.2.2.2.2.1≠s)∧(c≠s_.2.2.2.2.1)∧(s_.2.2.2.2.1≠c)∧(d≠s_.2.2.2.2.1)∧(s_.2.2.2.2.1≠d)∧(s_.2.2.2.2.2≠s_.2.2.2.2.1)∧(s_.2.2.2.2.1≠s_.2.2.2.2.2)∧(w.heap.size≤s_.2.2.2.2.2)∧(w.heap.size≤s_.2.2.2.2.2)∧(s≠s_.2.2.2.2.2)∧(s_.2.2.2.2.2≠s)∧(c≠s_.2.2.2.2.2)∧(s_.2.2.2.2.2≠c)∧(d≠s_.2.2.2.2.2)∧(s_.2.2.2.2.2≠d)∧(Below w.heap.size w w')) ?_ ?_
   rotate_left
   ·intro hJ1_3_4_8_9
    refine join_ (σ:=Value×Value×Value×Value×Nat) 3 #[true,true,true,true,true,true,true,true,true,false,false,false] (fun s_=>[(66,.agg #[.int .i64 aG,s_.1,.int .i64 aH]),(68,.agg #[.int .i64 aO,s_.2.1,.int .i64 aP]),(69,.tuple #[.agg #[.int .i64 ar,s_.2.2.1,.int .i64 ap],.agg #[.int .i64 av,s_.2.2.2.1,.int .i64 ax]]),(13,.pointer (some ⟨s_.2.2.2.2,0,none⟩)),(64,.tuple #[.agg #[.int .i64 ar,s_.2.2.1,.int .i64 ap],.agg #[.int .i64 av,s_.2.2.2.1,.int .i64 ax]]),(70,.agg #[.int .i64 ar,s_.2.2.1,.int .i64 ap]),(71,.agg #[.int .i64 av,s_.2.2.2.1,.int .i64 ax])]) (fun s_ w'=>(w'.cell? ⟨c,0,none⟩=some (.int .i64 T)∧w'.cell? ⟨c,1,none⟩=some (.bool Q)∧w'.cell? ⟨c,2,none⟩=some (.int .i64 X)∧w'.cell? ⟨c,3,none⟩=some (.int .u64 Y)∧w'.cell? ⟨d,0,none⟩=some (.int .i64 U)∧w'.cell? ⟨d,1,none⟩=some (.bool W)∧w'.cell? ⟨d,2,none⟩=some (.int .i64 aa)∧w'.cell? ⟨d,3,none⟩=some (.int .u64 ab))∧(Kd.R (Kd.int .i64) 3 w' w.heap.size (fun k_=>some k_≠(s_.2.1:Value).ownBlock) s_.1 ai)∧(Kd.R (Kd.int .i64) 3 w' w.heap.size (fun k_=>some k_≠(s_.1:Value).ownBlock) s_.2.1 ao)∧(Kd.V (Kd.int .i64) 3 w' w.heap.size (fun k_=>some k_≠(s_.1:Value).ownBlock∧some k_≠(s_.2.1:Value).ownBlock∧k_≠s∧k_≠c∧k_≠d∧k_≠s_.2.2.2.2) s_.2.2.1 au)∧(Kd.V (Kd.int .i64) 3 w' w.heap.size (fun k_=>some k_≠(s_.1:Value).ownBlock∧some k_≠(s_.2.1:Value).ownBlock∧k_≠s∧k_≠c∧k_≠d∧k_≠s_.2.2.2.2) s_.2.2.2.1 aw)∧(w'.heap[s]?=some (.cells #[.int .i64 ae,.int .i64 af] 23 (0,0)))∧(w'.heap[c]?=some (.cells #[.int .i64 T,.bool Q,.int .i64 X,.int .u64 Y] 34 (0,0)))∧(w'.heap[d]?=some (.cells #[.int .i64 U,.bool W,.int .i64 aa,.int .u64 ab] 34 (0,0)))∧(w'.heap[s_.2.2.2.2]?=some (.cells #[.int .i64 0,.slice none 0 0,.int .i64 0] 73 (0,0)))∧(w.heap.size≤s_.2.2.2.2)∧(w.heap.size≤s_.2.2.2.2)∧(s≠s_.2.2.2.2)∧(s_.2.2.2.2≠s)∧(c≠s_.2.2.2.2)∧(s_.2.2.2.2≠c)∧(d≠s_.2.2.2.2)∧(s_.2.2.2.2≠d)∧(Below w.heap.size w w')) ?_ ?_
    rotate_left
    rotate_left
    ·skip
     rintro⟨v407,v412,v417,v422,m⟩ az ⟨hS_,h0_,h1_,h2_,h3_,h4_,h5_,h6_,h7_,h8_,h9_,h10_,h11_,h12_,h13_,h14_,h15_,h16_⟩
     have n0_:Aside0 (Kd.R (Kd.int .i64) 3 az w.heap.size (fun k_=>some k_≠(v412:Value).ownBlock) v407 ai):=⟨h0_⟩
     have n1_:Aside0 (Kd.R (Kd.int .i64) 3 az w.heap.size (fun k_=>some k_≠(v407:Value).ownBlock) v412 ao):=⟨h1_⟩
     have n2_:Aside0 (Kd.V (Kd.int .i64) 3 az w.heap.size (fun k_=>some k_≠(v407:Value).ownBlock∧some k_≠(v412:Value).ownBlock∧k_≠s∧k_≠c∧k_≠d∧k_≠m) v417 au):=⟨h2_⟩
     have n3_:Aside0 (Kd.V (Kd.int .i64) 3 az w.heap.size (fun k_=>some k_≠(v407:Value).ownBlock∧some k_≠(v412:Value).ownBlock∧k_≠s∧k_≠c∧k_≠d∧k_≠m) v422 aw):=⟨h3_⟩
     have n4_:Aside0 (az.heap[s]?=some (.cells #[.int .i64 ae,.int .i64 af] 23 (0,0))):=⟨h4_⟩
     have n5_:Aside0 (az.heap[c]?=some (.cells #[.int .i64 T,.bool Q,.int .i64 X,.int .u64 Y] 34 (0,0))):=⟨h5_⟩
     have n6_:Aside0 (az.heap[d]?=some (.cells #[.int .i64 U,.bool W,.int .i64 aa,.int .u64 ab] 34 (0,0))):=⟨h6_⟩
     have n7_:Aside0 (az.heap[m]?=some (.cells #[.int .i64 0,.slice none 0 0,.int .i64 0] 73 (0,0))):=⟨h7_⟩
     have n8_:Aside0 (w.heap.size≤m):=⟨h8_⟩
     have n9_:Aside0 (w.heap.size≤m):=⟨h9_⟩
     have n10_:Aside0 (s≠m):=⟨h10_⟩
     have n11_:Aside0 (m≠s):=⟨h11_⟩
     have n12_:Aside0 (c≠m):=⟨h12_⟩
     have n13_:Aside0 (m≠c):=⟨h13_⟩
     have n14_:Aside0 (d≠m):=⟨h14_⟩
     have n15_:Aside0 (m≠d):=⟨h15_⟩
     have n16_:Aside0 (Below w.heap.size w az):=⟨h16_⟩
     clear l
     clear a
     clear b
     clear HB
     clear h0_ h1_ h2_ h3_ h4_ h5_ h6_ h7_ h8_ h9_ h10_ h11_ h12_ h13_ h14_ h15_ h16_
     have u:=n0_
     have E:=n1_
     have ah:=n2_
     have ag:=n3_
     have l:=n4_
     have a:=n5_
     have b:=n6_
     have v:=n7_
     have aj:=n8_
     have ak:=n9_
     have O:=n10_
     have F:=n11_
     have y:=n12_
     have G:=n13_
     have z:=n14_
     have I:=n15_
     have HB:=n16_
     clear n0_ n1_ n2_ n3_ n4_ n5_ n6_ n7_ n8_ n9_ n10_ n11_ n12_ n13_ n14_ n15_ n16_
     have hHeld:az.cell? ⟨c,0,none⟩=some (.int .i64 T)∧az.cell? ⟨c,1,none⟩=some (.bool Q)∧az.cell? ⟨c,2,none⟩=some (.int .i64 X)∧az.cell? ⟨c,3,none⟩=some (.int .u64 Y)∧az.cell? ⟨d,0,none⟩=some (.int .i64 U)∧az.cell? ⟨d,1,none⟩=some (.bool W)∧az.cell? ⟨d,2,none⟩=some (.int .i64 aa)∧az.cell? ⟨d,3,none⟩=some (.int .u64 ab):=hS_
     refine norm_ (a':=?_) ?_ ?_
     rotate_left
     ·simp only[putAll,Act.put,List.setIfInBounds_toArray,List.set_cons_zero,List.set_cons_succ]
      rfl
     refine one_ (i:=9) (N:=some 14) #[true,true,true,true,true,true,true,true,true,true,false,false] rfl rfl (one_of HT_.out (by kernel_rfl)) (by decide) (fun K hK=>?_)
     refine box_step ?hg (N:=14) ?hd (cs:=#[.int .i64 0,.slice none 0 0,.int .i64 0]) (t:=73) ?hr ?_;(case hd=>rfl);(case hg=>rfl);(case hr=>first|(go_simp;done)|(go_simp;rfl))
     intro q hg aA hbox hb
     have D:=Aside0.mk hbox
     have al:=zge hg HB
     have am:=zge hg HB
     have P:=znl hg l
     have J:=zng hg l
     have B:=znl hg a
     have L:=zng hg a
     have C:=znl hg b
     have M:=zng hg b
     have Z:=znl hg v
     have ac:=zng hg v
     replace u:=Aside0.mk (Kd.R_below (by (with_reducible repeat (first|apply Kd.R_alloc|apply Kd.R_drewN|apply Kd.R_drew));exact u.out) hb)
     replace E:=Aside0.mk (Kd.R_below (by (with_reducible repeat (first|apply Kd.R_alloc|apply Kd.R_drewN|apply Kd.R_drew));exact E.out) hb)
     replace ah:=Aside0.mk (Kd.V_below (Kd.V_elderB (by (with_reducible repeat (first|apply Kd.V_alloc|apply Kd.V_drewN|apply Kd.V_drew));exact ah.out) q (Nat.le_of_eq hg.symm)) hb)
     replace ag:=Aside0.mk (Kd.V_below (Kd.V_elderB (by (with_reducible repeat (first|apply Kd.V_alloc|apply Kd.V_drewN|apply Kd.V_drew));exact ag.out) q (Nat.le_of_eq hg.symm)) hb)
     obtain⟨l,a,b,v,HB⟩:=zu4 l a b v HB hb
     clear hb hbox hg
     refine hK.out _ _ ⟨(blk_cell a.out 0).trans rfl,(blk_cell a.out 1).trans rfl,(blk_cell a.out 2).trans rfl,(blk_cell a.out 3).trans rfl,(blk_cell b.out 0).trans rfl,(blk_cell b.out 1).trans rfl,(blk_cell b.out 2).trans rfl,(blk_cell b.out 3).trans rfl⟩ (fun hHeld=>?_)
     clear hK K
     refine norm_ (a':=?_) ?_ ?_
     rotate_left
     ·show Act.put _ (some 14) _=_
      simp only[Act.put,List.setIfInBounds_toArray,List.set_cons_zero,List.set_cons_succ,i64_w,i32_w]
      rfl
     exact norm_ (by first|(simp only[putAll,Act.put,List.setIfInBounds_toArray,List.set_cons_zero,List.set_cons_succ];done)|(simp only[putAll,Act.put,List.setIfInBounds_toArray,List.set_cons_zero,List.set_cons_succ];rfl)) (hJ1_3_4_8_9 (v407,v412,v417,v422,m,q) _ ⟨hHeld,(by (with_reducible repeat (first|apply Kd.R_alloc|apply Kd.R_drewN|apply Kd.R_drew));exact u.out),(by (with_reducible repeat (first|apply Kd.R_alloc|apply Kd.R_drewN|apply Kd.R_drew));exact E.out),(by (with_reducible repeat (first|apply Kd.V_alloc|apply Kd.V_drewN|apply Kd.V_drew));exact Kd.V_mono ah.out (fun _ hk=>⟨hk.1.1,⟨hk.1.2.1,⟨hk.1.2.2.1,⟨hk.1.2.2.2.1,⟨hk.1.2.2.2.2.1,⟨hk.1.2.2.2.2.2,hk.2⟩⟩⟩⟩⟩⟩)),(by (with_reducible repeat (first|apply Kd.V_alloc|apply Kd.V_drewN|apply Kd.V_drew));exact Kd.V_mono ag.out (fun _ hk=>⟨hk.1.1,⟨hk.1.2.1,⟨hk.1.2.2.1,⟨hk.1.2.2.2.1,⟨hk.1.2.2.2.2.1,⟨hk.1.2.2.2.2.2,hk.2⟩⟩⟩⟩⟩⟩)),(zk l),(zk a),(zk b),(zk v),(zk D),aj.out,ak.out,O.out,F.out,y.out,G.out,z.out,I.out,ac.out,Z.out,al.out,am.out,P.out,J.out,B.out,L.out,C.out,M.out,(zb HB)⟩)
    intro hJ1_3_4_8
    refine join_ (σ:=Value×Value×Value×Value×Nat) 3 #[true,true,true,true,true,true,true,true,false,true,false,false] (fun s_=>[(66,.agg #[.int .i64 aG,s_.1,.int .i64 aH]),(68,.agg #[.int .i64 aO,s_.2.1,.int .i64 aP]),(69,.tuple #[.agg #[.int .i64 ar,s_.2.2.1,.int .i64 ap],.agg #[.int .i64 av,s_.2.2.2.1,.int .i64 ax]]),(14,.pointer (some ⟨s_.2.2.2.2,0,none⟩)),(64,.tuple #[.agg #[.int .i64 ar,s_.2.2.1,.int .i64 ap],.agg #[.int .i64 av,s_.2.2.2.1,.int .i64 ax]]),(70,.agg #[.int .i64 ar,s_.2.2.1,.int .i64 ap]),(71,.agg #[.int .i64 av,s_.2.2.2.1,.int .i64 ax])]) (fun s_ w'=>(w'.cell? ⟨c,0,none⟩=some (.int .i64 T)∧w'.cell? ⟨c,1,none⟩=some (.bool Q)∧w'.cell? ⟨c,2,none⟩=some (.int .i64 X)∧w'.cell? ⟨c,3,none⟩=some (.int .u64 Y)∧w'.cell? ⟨d,0,none⟩=some (.int .i64 U)∧w'.cell? ⟨d,1,none⟩=some (.bool W)∧w'.cell? ⟨d,2,none⟩=some (.int .i64 aa)∧w'.cell? ⟨d,3,none⟩=some (.int .u64 ab))∧(Kd.R (Kd.int .i64) 3 w' w.heap.size (fun k_=>some k_≠(s_.2.1:Value).ownBlock) s_.1 ai)∧(Kd.R (Kd.int .i64) 3 w' w.heap.size (fun k_=>some k_≠(s_.1:Value).ownBlock) s_.2.1 ao)∧(Kd.V (Kd.int .i64) 3 w' w.heap.size (fun k_=>some k_≠(s_.1:Value).ownBlock∧some k_≠(s_.2.1:Value).ownBlock∧k_≠s∧k_≠c∧k_≠d∧k_≠s_.2.2.2.2) s_.2.2.1 au)∧(Kd.V (Kd.int .i64) 3 w' w.heap.size (fun k_=>some k_≠(s_.1:Value).ownBlock∧some k_≠(s_.2.1:Value).ownBlock∧k_≠s∧k_≠c∧k_≠d∧k_≠s_.2.2.2.2) s_.2.2.2.1 aw)∧(w'.heap[s]?=some (.cells #[.int .i64 ae,.int .i64 af] 23 (0,0)))∧(w'.heap[c]?=some (.cells #[.int .i64 T,.bool Q,.int .i64 X,.int .u64 Y] 34 (0,0)))∧(w'.heap[d]?=some (.cells #[.int .i64 U,.bool W,.int .i64 aa,.int .u64 ab] 34 (0,0)))∧(w'.heap[s_.2.2.2.2]?=some (.cells #[.int .i64 0,.slice none 0 0,.int .i64 0] 73 (0,0)))∧(w.heap.size≤s_.2.2.2.2)∧(w.heap.size≤s_.2.2.2.2)∧(s≠s_.2.2.2.2)∧(s_.2.2.2.2≠s)∧(c≠s_.2.2.2.2)∧(s_.2.2.2.2≠c)∧(d≠s_.2.2.2.2)∧(s_.2.2.2.2≠d)∧(Below w.heap.size w w')) ?_ ?_
    rotate_left
    rotate_left
    ·skip
     rintro⟨v407,v412,v417,v422,q⟩ az ⟨hS_,h0_,h1_,h2_,h3_,h4_,h5_,h6_,h7_,h8_,h9_,h10_,h11_,h12_,h13_,h14_,h15_,h16_⟩
     have n0_:Aside0 (Kd.R (Kd.int .i64) 3 az w.heap.size (fun k_=>some k_≠(v412:Value).ownBlock) v407 ai):=⟨h0_⟩
     have n1_:Aside0 (Kd.R (Kd.int .i64) 3 az w.heap.size (fun k_=>some k_≠(v407:Value).ownBlock) v412 ao):=⟨h1_⟩
     have n2_:Aside0 (Kd.V (Kd.int .i64) 3 az w.heap.size (fun k_=>some k_≠(v407:Value).ownBlock∧some k_≠(v412:Value).ownBlock∧k_≠s∧k_≠c∧k_≠d∧k_≠q) v417 au):=⟨h2_⟩
     have n3_:Aside0 (Kd.V (Kd.int .i64) 3 az w.heap.size (fun k_=>some k_≠(v407:Value).ownBlock∧some k_≠(v412:Value).ownBlock∧k_≠s∧k_≠c∧k_≠d∧k_≠q) v422 aw):=⟨h3_⟩
     have n4_:Aside0 (az.heap[s]?=some (.cells #[.int .i64 ae,.int .i64 af] 23 (0,0))):=⟨h4_⟩
     have n5_:Aside0 (az.heap[c]?=some (.cells #[.int .i64 T,.bool Q,.int .i64 X,.int .u64 Y] 34 (0,0))):=⟨h5_⟩
     have n6_:Aside0 (az.heap[d]?=some (.cells #[.int .i64 U,.bool W,.int .i64 aa,.int .u64 ab] 34 (0,0))):=⟨h6_⟩
     have n7_:Aside0 (az.heap[q]?=some (.cells #[.int .i64 0,.slice none 0 0,.int .i64 0] 73 (0,0))):=⟨h7_⟩
     have n8_:Aside0 (w.heap.size≤q):=⟨h8_⟩
     have n9_:Aside0 (w.heap.size≤q):=⟨h9_⟩
     have n10_:Aside0 (s≠q):=⟨h10_⟩
     have n11_:Aside0 (q≠s):=⟨h11_⟩
     have n12_:Aside0 (c≠q):=⟨h12_⟩
     have n13_:Aside0 (q≠c):=⟨h13_⟩
     have n14_:Aside0 (d≠q):=⟨h14_⟩
     have n15_:Aside0 (q≠d):=⟨h15_⟩
     have n16_:Aside0 (Below w.heap.size w az):=⟨h16_⟩
     clear l
     clear a
     clear b
     clear HB
     clear h0_ h1_ h2_ h3_ h4_ h5_ h6_ h7_ h8_ h9_ h10_ h11_ h12_ h13_ h14_ h15_ h16_
     have u:=n0_
     have E:=n1_
     have ah:=n2_
     have ag:=n3_
     have l:=n4_
     have a:=n5_
     have b:=n6_
     have D:=n7_
     have al:=n8_
     have am:=n9_
     have P:=n10_
     have J:=n11_
     have B:=n12_
     have L:=n13_
     have C:=n14_
     have M:=n15_
     have HB:=n16_
     clear n0_ n1_ n2_ n3_ n4_ n5_ n6_ n7_ n8_ n9_ n10_ n11_ n12_ n13_ n14_ n15_ n16_
     have hHeld:az.cell? ⟨c,0,none⟩=some (.int .i64 T)∧az.cell? ⟨c,1,none⟩=some (.bool Q)∧az.cell? ⟨c,2,none⟩=some (.int .i64 X)∧az.cell? ⟨c,3,none⟩=some (.int .u64 Y)∧az.cell? ⟨d,0,none⟩=some (.int .i64 U)∧az.cell? ⟨d,1,none⟩=some (.bool W)∧az.cell? ⟨d,2,none⟩=some (.int .i64 aa)∧az.cell? ⟨d,3,none⟩=some (.int .u64 ab):=hS_
     refine norm_ (a':=?_) ?_ ?_
     rotate_left
     ·simp only[putAll,Act.put,List.setIfInBounds_toArray,List.set_cons_zero,List.set_cons_succ]
      rfl
     refine one_ (i:=8) (N:=some 13) #[true,true,true,true,true,true,true,true,true,true,false,false] rfl rfl (one_of HT_.out (by kernel_rfl)) (by decide) (fun K hK=>?_)
     refine box_step ?hg (N:=13) ?hd (cs:=#[.int .i64 0,.slice none 0 0,.int .i64 0]) (t:=73) ?hr ?_;(case hd=>rfl);(case hg=>rfl);(case hr=>first|(go_simp;done)|(go_simp;rfl))
     intro m hg aA hbox hb
     have v:=Aside0.mk hbox
     have aj:=zge hg HB
     have ak:=zge hg HB
     have O:=znl hg l
     have F:=zng hg l
     have y:=znl hg a
     have G:=zng hg a
     have z:=znl hg b
     have I:=zng hg b
     have ac:=znl hg D
     have Z:=zng hg D
     replace u:=Aside0.mk (Kd.R_below (by (with_reducible repeat (first|apply Kd.R_alloc|apply Kd.R_drewN|apply Kd.R_drew));exact u.out) hb)
     replace E:=Aside0.mk (Kd.R_below (by (with_reducible repeat (first|apply Kd.R_alloc|apply Kd.R_drewN|apply Kd.R_drew));exact E.out) hb)
     replace ah:=Aside0.mk (Kd.V_below (Kd.V_elderB (by (with_reducible repeat (first|apply Kd.V_alloc|apply Kd.V_drewN|apply Kd.V_drew));exact ah.out) m (Nat.le_of_eq hg.symm)) hb)
     replace ag:=Aside0.mk (Kd.V_below (Kd.V_elderB (by (with_reducible repeat (first|apply Kd.V_alloc|apply Kd.V_drewN|apply Kd.V_drew));exact ag.out) m (Nat.le_of_eq hg.symm)) hb)
     obtain⟨l,a,b,D,HB⟩:=zu4 l a b D HB hb
     clear hb hbox hg
     refine hK.out _ _ ⟨(blk_cell a.out 0).trans rfl,(blk_cell a.out 1).trans rfl,(blk_cell a.out 2).trans rfl,(blk_cell a.out 3).trans rfl,(blk_cell b.out 0).trans rfl,(blk_cell b.out 1).trans rfl,(blk_cell b.out 2).trans rfl,(blk_cell b.out 3).trans rfl⟩ (fun hHeld=>?_)
     clear hK K
     refine norm_ (a':=?_) ?_ ?_
     rotate_left
     ·show Act.put _ (some 13) _=_
      simp only[Act.put,List.setIfInBounds_toArray,List.set_cons_zero,List.set_cons_succ,i64_w,i32_w]
      rfl
     exact norm_ (by first|(simp only[putAll,Act.put,List.setIfInBounds_toArray,List.set_cons_zero,List.set_cons_succ];done)|(simp only[putAll,Act.put,List.setIfInBounds_toArray,List.set_cons_zero,List.set_cons_succ];rfl)) (hJ1_3_4_8_9 (v407,v412,v417,v422,m,q) _ ⟨hHeld,(by (with_reducible repeat (first|apply Kd.R_alloc|apply Kd.R_drewN|apply Kd.R_drew));exact u.out),(by (with_reducible repeat (first|apply Kd.R_alloc|apply Kd.R_drewN|apply Kd.R_drew));exact E.out),(by (with_reducible repeat (first|apply Kd.V_alloc|apply Kd.V_drewN|apply Kd.V_drew));exact Kd.V_mono ah.out (fun _ hk=>⟨hk.1.1,⟨hk.1.2.1,⟨hk.1.2.2.1,⟨hk.1.2.2.2.1,⟨hk.1.2.2.2.2.1,⟨hk.2,hk.1.2.2.2.2.2⟩⟩⟩⟩⟩⟩)),(by (with_reducible repeat (first|apply Kd.V_alloc|apply Kd.V_drewN|apply Kd.V_drew));exact Kd.V_mono ag.out (fun _ hk=>⟨hk.1.1,⟨hk.1.2.1,⟨hk.1.2.2.1,⟨hk.1.2.2.2.1,⟨hk.1.2.2.2.2.1,⟨hk.2,hk.1.2.2.2.2.2⟩⟩⟩⟩⟩⟩)),(zk l),(zk a),(zk b),(zk v),(zk D),aj.out,ak.out,O.out,F.out,y.out,G.out,z.out,I.out,ac.out,Z.out,al.out,am.out,P.out,J.out,B.out,L.out,C.out,M.out,(zb HB)⟩)
    intro hJ1_3_4_9
    refine join_ (σ:=Value×Value×Nat×Nat) 6 #[true,true,true,true,false,false,false,false,true,true,false,false] (fun s_=>[(66,.agg #[.int .i64 aG,s_.1,.int .i64 aH]),(68,.agg #[.int .i64 aO,s_.2.1,.int .i64 aP]),(13,.pointer (some ⟨s_.2.2.1,0,none⟩)),(14,.pointer (some ⟨s_.2.2.2,0,none⟩))]) (fun s_ w'=>(w'.cell? ⟨c,0,none⟩=some (.int .i64 T)∧w'.cell? ⟨c,1,none⟩=some (.bool Q)∧w'.cell? ⟨c,2,none⟩=some (.int .i64 X)∧w'.cell? ⟨c,3,none⟩=some (.int .u64 Y)∧w'.cell? ⟨d,0,none⟩=some (.int .i64 U)∧w'.cell? ⟨d,1,none⟩=some (.bool W)∧w'.cell? ⟨d,2,none⟩=some (.int .i64 aa)∧w'.cell? ⟨d,3,none⟩=some (.int .u64 ab))∧(Kd.R (Kd.int .i64) 3 w' w.heap.size (fun k_=>some k_≠(s_.2.1:Value).ownBlock) s_.1 ai)∧(Kd.R (Kd.int .i64) 3 w' w.heap.size (fun k_=>some k_≠(s_.1:Value).ownBlock) s_.2.1 ao)∧(w'.heap[s]?=some (.cells #[.int .i64 ae,.int .i64 af] 23 (0,0)))∧(w'.heap[c]?=some (.cells #[.int .i64 T,.bool Q,.int .i64 X,.int .u64 Y] 34 (0,0)))∧(w'.heap[d]?=some (.cells #[.int .i64 U,.bool W,.int .i64 aa,.int .u64 ab] 34 (0,0)))∧(w'.heap[s_.2.2.1]?=some (.cells #[.int .i64 0,.slice none 0 0,.int .i64 0] 73 (0,0)))∧(w'.heap[s_.2.2.2]?=some (.cells #[.int .i64 0,.slice none 0 0,.int .i64 0] 73 (0,0)))∧(w.heap.size≤s_.2.2.1)∧(w.heap.size≤s_.2.2.1)∧(s≠s_.2.2.1)∧(s_.2.2.1≠s)∧(c≠s_.2.2.1)∧(s_.2.2.1≠c)∧(d≠s_.2.2.1)∧(s_.2.2.1≠d)∧(s_.2.2.2≠s_.2.2.1)∧(s_.2.2.1≠s_.2.2.2)∧(w.heap.size≤s_.2.2.2)∧(w.heap.size≤s_.2.2.2)∧(s≠s_.2.2.2)∧(s_.2.2.2≠s)∧(c≠s_.2.2.2)∧(s_.2.2.2≠c)∧(d≠s_.2.2.2)∧(s_.2.2.2≠d)∧(Below w.heap.size w w')) ?_ ?_
    rotate_left
    rotate_left
    ·skip
     rintro⟨v407,v412,m,q⟩ aS ⟨hS_,h0_,h1_,h2_,h3_,h4_,h5_,h6_,h7_,h8_,h9_,h10_,h11_,h12_,h13_,h14_,h15_,h16_,h17_,h18_,h19_,h20_,h21_,h22_,h23_,h24_,h25_⟩
     have n0_:Aside0 (Kd.R (Kd.int .i64) 3 aS w.heap.size (fun k_=>some k_≠(v412:Value).ownBlock) v407 ai):=⟨h0_⟩
     have n1_:Aside0 (Kd.R (Kd.int .i64) 3 aS w.heap.size (fun k_=>some k_≠(v407:Value).ownBlock) v412 ao):=⟨h1_⟩
     have n2_:Aside0 (aS.heap[s]?=some (.cells #[.int .i64 ae,.int .i64 af] 23 (0,0))):=⟨h2_⟩
     have n3_:Aside0 (aS.heap[c]?=some (.cells #[.int .i64 T,.bool Q,.int .i64 X,.int .u64 Y] 34 (0,0))):=⟨h3_⟩
     have n4_:Aside0 (aS.heap[d]?=some (.cells #[.int .i64 U,.bool W,.int .i64 aa,.int .u64 ab] 34 (0,0))):=⟨h4_⟩
     have n5_:Aside0 (aS.heap[m]?=some (.cells #[.int .i64 0,.slice none 0 0,.int .i64 0] 73 (0,0))):=⟨h5_⟩
     have n6_:Aside0 (aS.heap[q]?=some (.cells #[.int .i64 0,.slice none 0 0,.int .i64 0] 73 (0,0))):=⟨h6_⟩
     have n7_:Aside0 (w.heap.size≤m):=⟨h7_⟩
     have n8_:Aside0 (w.heap.size≤m):=⟨h8_⟩
     have n9_:Aside0 (s≠m):=⟨h9_⟩
     have n10_:Aside0 (m≠s):=⟨h10_⟩
     have n11_:Aside0 (c≠m):=⟨h11_⟩
     have n12_:Aside0 (m≠c):=⟨h12_⟩
     have n13_:Aside0 (d≠m):=⟨h13_⟩
     have n14_:Aside0 (m≠d):=⟨h14_⟩
     have n15_:Aside0 (q≠m):=⟨h15_⟩
     have n16_:Aside0 (m≠q):=⟨h16_⟩
     have n17_:Aside0 (w.heap.size≤q):=⟨h17_⟩
     have n18_:Aside0 (w.heap.size≤q):=⟨h18_⟩
     have n19_:Aside0 (s≠q):=⟨h19_⟩
     have n20_:Aside0 (q≠s):=⟨h20_⟩
     have n21_:Aside0 (c≠q):=⟨h21_⟩
     have n22_:Aside0 (q≠c):=⟨h22_⟩
     have n23_:Aside0 (d≠q):=⟨h23_⟩
     have n24_:Aside0 (q≠d):=⟨h24_⟩
     have n25_:Aside0 (Below w.heap.size w aS):=⟨h25_⟩
     clear l
     clear a
     clear b
     clear HB
     clear h0_ h1_ h2_ h3_ h4_ h5_ h6_ h7_ h8_ h9_ h10_ h11_ h12_ h13_ h14_ h15_ h16_ h17_ h18_ h19_ h20_ h21_ h22_ h23_ h24_ h25_
     have u:=n0_
     have E:=n1_
     have l:=n2_
     have a:=n3_
     have b:=n4_
     have v:=n5_
     have D:=n6_
     have aj:=n7_
     have ak:=n8_
     have O:=n9_
     have F:=n10_
     have y:=n11_
     have G:=n12_
     have z:=n13_
     have I:=n14_
     have ac:=n15_
     have Z:=n16_
     have al:=n17_
     have am:=n18_
     have P:=n19_
     have J:=n20_
     have B:=n21_
     have L:=n22_
     have C:=n23_
     have M:=n24_
     have HB:=n25_
     clear n0_ n1_ n2_ n3_ n4_ n5_ n6_ n7_ n8_ n9_ n10_ n11_ n12_ n13_ n14_ n15_ n16_ n17_ n18_ n19_ n20_ n21_ n22_ n23_ n24_ n25_
     have hHeld:aS.cell? ⟨c,0,none⟩=some (.int .i64 T)∧aS.cell? ⟨c,1,none⟩=some (.bool Q)∧aS.cell? ⟨c,2,none⟩=some (.int .i64 X)∧aS.cell? ⟨c,3,none⟩=some (.int .u64 Y)∧aS.cell? ⟨d,0,none⟩=some (.int .i64 U)∧aS.cell? ⟨d,1,none⟩=some (.bool W)∧aS.cell? ⟨d,2,none⟩=some (.int .i64 aa)∧aS.cell? ⟨d,3,none⟩=some (.int .u64 ab):=hS_
     obtain⟨aQ,aR,aX⟩:=Kd.R_slice u.out
     (first|subst aX|(injection aX with f1_ f2_ f3_;have f4_:=f1_.symm;have f5_:=f3_.symm;clear f1_ f2_ f3_;subst f4_;subst f5_))
     obtain⟨ba,bb,bP⟩:=Kd.R_slice E.out
     (first|subst bP|(injection bP with f1_ f2_ f3_;have f4_:=f1_.symm;have f5_:=f3_.symm;clear f1_ f2_ f3_;subst f4_;subst f5_))
     refine norm_ (a':=?_) ?_ ?_
     rotate_left
     ·simp only[putAll,Act.put,List.setIfInBounds_toArray,List.set_cons_zero,List.set_cons_succ]
      rfl
     refine one_ (i:=4) (N:=some 69) #[true,true,true,true,true,false,false,false,true,true,false,false] rfl rfl (one_of HT_.out (by kernel_rfl)) (by decide) (fun K hK=>?_)
     refine goes_ Try.func54 (by kernel_rfl) rfl #[.agg #[.int .i64 aG,.slice aQ ai.length aR,.int .i64 aH],.agg #[.int .i64 aO,.slice ba ao.length bb,.int .i64 aP]] (by rfl) rfl rfl (by (try simp only[List.map_toArray,List.map_cons,List.map_nil]);first|done|rfl|(simp only[List.length_drop,List.length_take];rfl)) ?_
     with_reducible refine (grottoref03_alike.calls a9 aG _ _ ai aH aO _ _ ao aP ar au ap av aw ax _ ?side1 ?side2 ?side3 ?side4 bK.out).mono ?_
     (case side1=>repeat (first|exact (Kd.R_reads' u.out).2.2|(with_reducible refine Kd.C_alloc ?_ _)|(with_reducible refine Kd.C_drewN ?_ _)|(with_reducible refine Kd.C_drew ?_)))
     (case side2=>exact (Kd.R_reads' u.out).2.1)
     (case side3=>repeat (first|exact (Kd.R_reads' E.out).2.2|(with_reducible refine Kd.C_alloc ?_ _)|(with_reducible refine Kd.C_drewN ?_ _)|(with_reducible refine Kd.C_drew ?_)))
     (case side4=>exact (Kd.R_reads' E.out).2.1)
     rintro e aA ⟨v417,v422,rfl,ho0,ho1,hb⟩
     refine⟨_,rfl,?_⟩
     have ah:=Aside0.mk (Kd.V_lower (Kd.V_mono (ok':=fun k_=>some k_≠(.slice aQ ai.length aR:Value).ownBlock∧some k_≠(.slice ba ao.length bb:Value).ownBlock∧k_≠s∧k_≠c∧k_≠d∧k_≠m∧k_≠q) ho0 (fun k_ hk_=>⟨(Kd.fresh' (Kd.R_lt (by (with_reducible repeat (first|apply Kd.R_alloc|apply Kd.R_drewN|apply Kd.R_drew));exact u.out)) k_ hk_),(Kd.fresh' (Kd.R_lt (by (with_reducible repeat (first|apply Kd.R_alloc|apply Kd.R_drewN|apply Kd.R_drew));exact E.out)) k_ hk_),(Kd.freshB (g:=s) (o:=.cells #[.int .i64 ae,.int .i64 af] 23 (0,0)) (zk l) k_ hk_),(Kd.freshB (g:=c) (o:=.cells #[.int .i64 T,.bool Q,.int .i64 X,.int .u64 Y] 34 (0,0)) (zk a) k_ hk_),(Kd.freshB (g:=d) (o:=.cells #[.int .i64 U,.bool W,.int .i64 aa,.int .u64 ab] 34 (0,0)) (zk b) k_ hk_),(Kd.freshB (g:=m) (o:=.cells #[.int .i64 0,.slice none 0 0,.int .i64 0] 73 (0,0)) (zk v) k_ hk_),(Kd.freshB (g:=q) (o:=.cells #[.int .i64 0,.slice none 0 0,.int .i64 0] 73 (0,0)) (zk D) k_ hk_)⟩)) (below_size (zb HB)))
     have ag:=Aside0.mk (Kd.V_lower (Kd.V_mono (ok':=fun k_=>some k_≠(.slice aQ ai.length aR:Value).ownBlock∧some k_≠(.slice ba ao.length bb:Value).ownBlock∧k_≠s∧k_≠c∧k_≠d∧k_≠m∧k_≠q) ho1 (fun k_ hk_=>⟨(Kd.fresh' (Kd.R_lt (by (with_reducible repeat (first|apply Kd.R_alloc|apply Kd.R_drewN|apply Kd.R_drew));exact u.out)) k_ hk_),(Kd.fresh' (Kd.R_lt (by (with_reducible repeat (first|apply Kd.R_alloc|apply Kd.R_drewN|apply Kd.R_drew));exact E.out)) k_ hk_),(Kd.freshB (g:=s) (o:=.cells #[.int .i64 ae,.int .i64 af] 23 (0,0)) (zk l) k_ hk_),(Kd.freshB (g:=c) (o:=.cells #[.int .i64 T,.bool Q,.int .i64 X,.int .u64 Y] 34 (0,0)) (zk a) k_ hk_),(Kd.freshB (g:=d) (o:=.cells #[.int .i64 U,.bool W,.int .i64 aa,.int .u64 ab] 34 (0,0)) (zk b) k_ hk_),(Kd.freshB (g:=m) (o:=.cells #[.int .i64 0,.slice none 0 0,.int .i64 0] 73 (0,0)) (zk v) k_ hk_),(Kd.freshB (g:=q) (o:=.cells #[.int .i64 0,.slice none 0 0,.int .i64 0] 73 (0,0)) (zk D) k_ hk_)⟩)) (below_size (zb HB)))
     replace u:=Aside0.mk (Kd.R_below (by (with_reducible repeat (first|apply Kd.R_alloc|apply Kd.R_drewN|apply Kd.R_drew));exact u.out) hb)
     replace E:=Aside0.mk (Kd.R_below (by (with_reducible repeat (first|apply Kd.R_alloc|apply Kd.R_drewN|apply Kd.R_drew));exact E.out) hb)
     obtain⟨l,a,b,v,D,HB⟩:=zu5 l a b v D HB hb
     try clear hb
     (try clear ho0)
     (try clear ho1)
     refine hK.out _ _ ⟨(blk_cell a.out 0).trans rfl,(blk_cell a.out 1).trans rfl,(blk_cell a.out 2).trans rfl,(blk_cell a.out 3).trans rfl,(blk_cell b.out 0).trans rfl,(blk_cell b.out 1).trans rfl,(blk_cell b.out 2).trans rfl,(blk_cell b.out 3).trans rfl⟩ (fun hHeld=>?_)
     clear hK K
     refine norm_ (a':=?_) ?_ ?_
     rotate_left
     ·show Act.put _ (some 69) _=_
      simp only[Act.put,List.setIfInBounds_toArray,List.set_cons_zero,List.set_cons_succ,i64_w,i32_w]
      rfl
     refine zpure_ (i:=5) (N:=some 64) #[true,true,true,true,true,true,false,false,true,true,false,false] (any_of HT_.out (by kernel_rfl)) ?_
     refine zpure_ (i:=6) (N:=some 70) #[true,true,true,true,true,true,true,false,true,true,false,false] (any_of HT_.out (by kernel_rfl)) ?_
     refine zpure_ (i:=7) (N:=some 71) #[true,true,true,true,true,true,true,true,true,true,false,false] (any_of HT_.out (by kernel_rfl)) ?_
     exact norm_ (by first|(simp only[putAll,Act.put,List.setIfInBounds_toArray,List.set_cons_zero,List.set_cons_succ];done)|(simp only[putAll,Act.put,List.setIfInBounds_toArray,List.set_cons_zero,List.set_cons_succ];rfl)) (hJ1_3_4_8_9 (.slice aQ ai.length aR,.slice ba ao.length bb,v417,v422,m,q) _ ⟨hHeld,(by (with_reducible repeat (first|apply Kd.R_alloc|apply Kd.R_drewN|apply Kd.R_drew));exact u.out),(by (with_reducible repeat (first|apply Kd.R_alloc|apply Kd.R_drewN|apply Kd.R_drew));exact E.out),(by (with_reducible repeat (first|apply Kd.V_alloc|apply Kd.V_drewN|apply Kd.V_drew));exact ah.out),(by (with_reducible repeat (first|apply Kd.V_alloc|apply Kd.V_drewN|apply Kd.V_drew));exact ag.out),(zk l),(zk a),(zk b),(zk v),(zk D),aj.out,ak.out,O.out,F.out,y.out,G.out,z.out,I.out,ac.out,Z.out,al.out,am.out,P.out,J.out,B.out,L.out,C.out,M.out,(zb HB)⟩)
    intro hJ1_3_8_9
    refine join_ (σ:=Value×Value×Value×Value) 4 #[true,true,true,true,true,true,true,true,false,false,false,false] (fun s_=>[(66,.agg #[.int .i64 aG,s_.1,.int .i64 aH]),(68,.agg #[.int .i64 aO,s_.2.1,.int .i64 aP]),(69,.tuple #[.agg #[.int .i64 ar,s_.2.2.1,.int .i64 ap],.agg #[.int .i64 av,s_.2.2.2,.int .i64 ax]]),(64,.tuple #[.agg #[.int .i64 ar,s_.2.2.1,.int .i64 ap],.agg #[.int .i64 av,s_.2.2.2,.int .i64 ax]]),(70,.agg #[.int .i64 ar,s_.2.2.1,.int .i64 ap]),(71,.agg #[.int .i64 av,s_.2.2.2,.int .i64 ax])]) (fun s_ w'=>(w'.cell? ⟨c,0,none⟩=some (.int .i64 T)∧w'.cell? ⟨c,1,none⟩=some (.bool Q)∧w'.cell? ⟨c,2,none⟩=some (.int .i64 X)∧w'.cell? ⟨c,3,none⟩=some (.int .u64 Y)∧w'.cell? ⟨d,0,none⟩=some (.int .i64 U)∧w'.cell? ⟨d,1,none⟩=some (.bool W)∧w'.cell? ⟨d,2,none⟩=some (.int .i64 aa)∧w'.cell? ⟨d,3,none⟩=some (.int .u64 ab))∧(Kd.R (Kd.int .i64) 3 w' w.heap.size (fun k_=>some k_≠(s_.2.1:Value).ownBlock) s_.1 ai)∧(Kd.R (Kd.int .i64) 3 w' w.heap.size (fun k_=>some k_≠(s_.1:Value).ownBlock) s_.2.1 ao)∧(Kd.V (Kd.int .i64) 3 w' w.heap.size (fun k_=>some k_≠(s_.1:Value).ownBlock∧some k_≠(s_.2.1:Value).ownBlock∧k_≠s∧k_≠c∧k_≠d) s_.2.2.1 au)∧(Kd.V (Kd.int .i64) 3 w' w.heap.size (fun k_=>some k_≠(s_.1:Value).ownBlock∧some k_≠(s_.2.1:Value).ownBlock∧k_≠s∧k_≠c∧k_≠d) s_.2.2.2 aw)∧(w'.heap[s]?=some (.cells #[.int .i64 ae,.int .i64 af] 23 (0,0)))∧(w'.heap[c]?=some (.cells #[.int .i64 T,.bool Q,.int .i64 X,.int .u64 Y] 34 (0,0)))∧(w'.heap[d]?=some (.cells #[.int .i64 U,.bool W,.int .i64 aa,.int .u64 ab] 34 (0,0)))∧(Below w.heap.size w w')) ?_ ?_
    rotate_left
    rotate_left
    ·skip
     rintro⟨v407,v412,v417,v422⟩ aU ⟨hS_,h0_,h1_,h2_,h3_,h4_,h5_,h6_,h7_⟩
     have n0_:Aside0 (Kd.R (Kd.int .i64) 3 aU w.heap.size (fun k_=>some k_≠(v412:Value).ownBlock) v407 ai):=⟨h0_⟩
     have n1_:Aside0 (Kd.R (Kd.int .i64) 3 aU w.heap.size (fun k_=>some k_≠(v407:Value).ownBlock) v412 ao):=⟨h1_⟩
     have n2_:Aside0 (Kd.V (Kd.int .i64) 3 aU w.heap.size (fun k_=>some k_≠(v407:Value).ownBlock∧some k_≠(v412:Value).ownBlock∧k_≠s∧k_≠c∧k_≠d) v417 au):=⟨h2_⟩
     have n3_:Aside0 (Kd.V (Kd.int .i64) 3 aU w.heap.size (fun k_=>some k_≠(v407:Value).ownBlock∧some k_≠(v412:Value).ownBlock∧k_≠s∧k_≠c∧k_≠d) v422 aw):=⟨h3_⟩
     have n4_:Aside0 (aU.heap[s]?=some (.cells #[.int .i64 ae,.int .i64 af] 23 (0,0))):=⟨h4_⟩
     have n5_:Aside0 (aU.heap[c]?=some (.cells #[.int .i64 T,.bool Q,.int .i64 X,.int .u64 Y] 34 (0,0))):=⟨h5_⟩
     have n6_:Aside0 (aU.heap[d]?=some (.cells #[.int .i64 U,.bool W,.int .i64 aa,.int .u64 ab] 34 (0,0))):=⟨h6_⟩
     have n7_:Aside0 (Below w.heap.size w aU):=⟨h7_⟩
     clear l
     clear a
     clear b
     clear HB
     clear h0_ h1_ h2_ h3_ h4_ h5_ h6_ h7_
     have u:=n0_
     have E:=n1_
     have ah:=n2_
     have ag:=n3_
     have l:=n4_
     have a:=n5_
     have b:=n6_
     have HB:=n7_
     clear n0_ n1_ n2_ n3_ n4_ n5_ n6_ n7_
     have hHeld:aU.cell? ⟨c,0,none⟩=some (.int .i64 T)∧aU.cell? ⟨c,1,none⟩=some (.bool Q)∧aU.cell? ⟨c,2,none⟩=some (.int .i64 X)∧aU.cell? ⟨c,3,none⟩=some (.int .u64 Y)∧aU.cell? ⟨d,0,none⟩=some (.int .i64 U)∧aU.cell? ⟨d,1,none⟩=some (.bool W)∧aU.cell? ⟨d,2,none⟩=some (.int .i64 aa)∧aU.cell? ⟨d,3,none⟩=some (.int .u64 ab):=hS_
     refine norm_ (a':=?_) ?_ ?_
     rotate_left
     ·simp only[putAll,Act.put,List.setIfInBounds_toArray,List.set_cons_zero,List.set_cons_succ]
      rfl
     refine two_ (i:=8) (j:=9) (Ni:=some 13) (Nj:=some 14) #[true,true,true,true,true,true,true,true,true,false,false,false] #[true,true,true,true,true,true,true,true,false,true,false,false] rfl rfl rfl rfl (two_of HT_.out (by kernel_rfl)) (by decide) (by decide) (fun K hK=>?_) (fun K hK=>?_)
     ·skip
      refine box_step ?hg (N:=13) ?hd (cs:=#[.int .i64 0,.slice none 0 0,.int .i64 0]) (t:=73) ?hr ?_;(case hd=>rfl);(case hg=>rfl);(case hr=>first|(go_simp;done)|(go_simp;rfl))
      intro m hg az hbox hb
      have v:=Aside0.mk hbox
      have aj:=zge hg HB
      have ak:=zge hg HB
      have O:=znl hg l
      have F:=zng hg l
      have y:=znl hg a
      have G:=zng hg a
      have z:=znl hg b
      have I:=zng hg b
      replace u:=Aside0.mk (Kd.R_below (by (with_reducible repeat (first|apply Kd.R_alloc|apply Kd.R_drewN|apply Kd.R_drew));exact u.out) hb)
      replace E:=Aside0.mk (Kd.R_below (by (with_reducible repeat (first|apply Kd.R_alloc|apply Kd.R_drewN|apply Kd.R_drew));exact E.out) hb)
      replace ah:=Aside0.mk (Kd.V_below (Kd.V_elderB (by (with_reducible repeat (first|apply Kd.V_alloc|apply Kd.V_drewN|apply Kd.V_drew));exact ah.out) m (Nat.le_of_eq hg.symm)) hb)
      replace ag:=Aside0.mk (Kd.V_below (Kd.V_elderB (by (with_reducible repeat (first|apply Kd.V_alloc|apply Kd.V_drewN|apply Kd.V_drew));exact ag.out) m (Nat.le_of_eq hg.symm)) hb)
      obtain⟨l,a,b,HB⟩:=zu3 l a b HB hb
      clear hb hbox hg
      refine hK.out _ _ ⟨(blk_cell a.out 0).trans rfl,(blk_cell a.out 1).trans rfl,(blk_cell a.out 2).trans rfl,(blk_cell a.out 3).trans rfl,(blk_cell b.out 0).trans rfl,(blk_cell b.out 1).trans rfl,(blk_cell b.out 2).trans rfl,(blk_cell b.out 3).trans rfl⟩ (fun hHeld=>?_)
      clear hK K
      refine norm_ (a':=?_) ?_ ?_
      rotate_left
      ·show Act.put _ (some 13) _=_
       simp only[Act.put,List.setIfInBounds_toArray,List.set_cons_zero,List.set_cons_succ,i64_w,i32_w]
       rfl
      exact norm_ (by first|(simp only[putAll,Act.put,List.setIfInBounds_toArray,List.set_cons_zero,List.set_cons_succ];done)|(simp only[putAll,Act.put,List.setIfInBounds_toArray,List.set_cons_zero,List.set_cons_succ];rfl)) (hJ1_3_4_8 (v407,v412,v417,v422,m) _ ⟨hHeld,(by (with_reducible repeat (first|apply Kd.R_alloc|apply Kd.R_drewN|apply Kd.R_drew));exact u.out),(by (with_reducible repeat (first|apply Kd.R_alloc|apply Kd.R_drewN|apply Kd.R_drew));exact E.out),(by (with_reducible repeat (first|apply Kd.V_alloc|apply Kd.V_drewN|apply Kd.V_drew));exact Kd.V_mono ah.out (fun _ hk=>⟨hk.1.1,⟨hk.1.2.1,⟨hk.1.2.2.1,⟨hk.1.2.2.2.1,⟨hk.1.2.2.2.2,hk.2⟩⟩⟩⟩⟩)),(by (with_reducible repeat (first|apply Kd.V_alloc|apply Kd.V_drewN|apply Kd.V_drew));exact Kd.V_mono ag.out (fun _ hk=>⟨hk.1.1,⟨hk.1.2.1,⟨hk.1.2.2.1,⟨hk.1.2.2.2.1,⟨hk.1.2.2.2.2,hk.2⟩⟩⟩⟩⟩)),(zk l),(zk a),(zk b),(zk v),aj.out,ak.out,O.out,F.out,y.out,G.out,z.out,I.out,(zb HB)⟩)
     skip
     refine box_step ?hg (N:=14) ?hd (cs:=#[.int .i64 0,.slice none 0 0,.int .i64 0]) (t:=73) ?hr ?_;(case hd=>rfl);(case hg=>rfl);(case hr=>first|(go_simp;done)|(go_simp;rfl))
     intro q hg az hbox hb
     have D:=Aside0.mk hbox
     have al:=zge hg HB
     have am:=zge hg HB
     have P:=znl hg l
     have J:=zng hg l
     have B:=znl hg a
     have L:=zng hg a
     have C:=znl hg b
     have M:=zng hg b
     replace u:=Aside0.mk (Kd.R_below (by (with_reducible repeat (first|apply Kd.R_alloc|apply Kd.R_drewN|apply Kd.R_drew));exact u.out) hb)
     replace E:=Aside0.mk (Kd.R_below (by (with_reducible repeat (first|apply Kd.R_alloc|apply Kd.R_drewN|apply Kd.R_drew));exact E.out) hb)
     replace ah:=Aside0.mk (Kd.V_below (Kd.V_elderB (by (with_reducible repeat (first|apply Kd.V_alloc|apply Kd.V_drewN|apply Kd.V_drew));exact ah.out) q (Nat.le_of_eq hg.symm)) hb)
     replace ag:=Aside0.mk (Kd.V_below (Kd.V_elderB (by (with_reducible repeat (first|apply Kd.V_alloc|apply Kd.V_drewN|apply Kd.V_drew));exact ag.out) q (Nat.le_of_eq hg.symm)) hb)
     obtain⟨l,a,b,HB⟩:=zu3 l a b HB hb
     clear hb hbox hg
     refine hK.out _ _ ⟨(blk_cell a.out 0).trans rfl,(blk_cell a.out 1).trans rfl,(blk_cell a.out 2).trans rfl,(blk_cell a.out 3).trans rfl,(blk_cell b.out 0).trans rfl,(blk_cell b.out 1).trans rfl,(blk_cell b.out 2).trans rfl,(blk_cell b.out 3).trans rfl⟩ (fun hHeld=>?_)
     clear hK K
     refine norm_ (a':=?_) ?_ ?_
     rotate_left
     ·show Act.put _ (some 14) _=_
      simp only[Act.put,List.setIfInBounds_toArray,List.set_cons_zero,List.set_cons_succ,i64_w,i32_w]
      rfl
     exact norm_ (by first|(simp only[putAll,Act.put,List.setIfInBounds_toArray,List.set_cons_zero,List.set_cons_succ];done)|(simp only[putAll,Act.put,List.setIfInBounds_toArray,List.set_cons_zero,List.set_cons_succ];rfl)) (hJ1_3_4_9 (v407,v412,v417,v422,q) _ ⟨hHeld,(by (with_reducible repeat (first|apply Kd.R_alloc|apply Kd.R_drewN|apply Kd.R_drew));exact u.out),(by (with_reducible repeat (first|apply Kd.R_alloc|apply Kd.R_drewN|apply Kd.R_drew));exact E.out),(by (with_reducible repeat (first|apply Kd.V_alloc|apply Kd.V_drewN|apply Kd.V_drew));exact Kd.V_mono ah.out (fun _ hk=>⟨hk.1.1,⟨hk.1.2.1,⟨hk.1.2.2.1,⟨hk.1.2.2.2.1,⟨hk.1.2.2.2.2,hk.2⟩⟩⟩⟩⟩)),(by (with_reducible repeat (first|apply Kd.V_alloc|apply Kd.V_drewN|apply Kd.V_drew));exact Kd.V_mono ag.out (fun _ hk=>⟨hk.1.1,⟨hk.1.2.1,⟨hk.1.2.2.1,⟨hk.1.2.2.2.1,⟨hk.1.2.2.2.2,hk.2⟩⟩⟩⟩⟩)),(zk l),(zk a),(zk b),(zk D),al.out,am.out,P.out,J.out,B.out,L.out,C.out,M.out,(zb HB)⟩)
    intro hJ1_3_4
    refine join_ (σ:=Value×Value×Nat) 7 #[true,true,true,true,false,false,false,false,true,false,false,false] (fun s_=>[(66,.agg #[.int .i64 aG,s_.1,.int .i64 aH]),(68,.agg #[.int .i64 aO,s_.2.1,.int .i64 aP]),(13,.pointer (some ⟨s_.2.2,0,none⟩))]) (fun s_ w'=>(w'.cell? ⟨c,0,none⟩=some (.int .i64 T)∧w'.cell? ⟨c,1,none⟩=some (.bool Q)∧w'.cell? ⟨c,2,none⟩=some (.int .i64 X)∧w'.cell? ⟨c,3,none⟩=some (.int .u64 Y)∧w'.cell? ⟨d,0,none⟩=some (.int .i64 U)∧w'.cell? ⟨d,1,none⟩=some (.bool W)∧w'.cell? ⟨d,2,none⟩=some (.int .i64 aa)∧w'.cell? ⟨d,3,none⟩=some (.int .u64 ab))∧(Kd.R (Kd.int .i64) 3 w' w.heap.size (fun k_=>some k_≠(s_.2.1:Value).ownBlock) s_.1 ai)∧(Kd.R (Kd.int .i64) 3 w' w.heap.size (fun k_=>some k_≠(s_.1:Value).ownBlock) s_.2.1 ao)∧(w'.heap[s]?=some (.cells #[.int .i64 ae,.int .i64 af] 23 (0,0)))∧(w'.heap[c]?=some (.cells #[.int .i64 T,.bool Q,.int .i64 X,.int .u64 Y] 34 (0,0)))∧(w'.heap[d]?=some (.cells #[.int .i64 U,.bool W,.int .i64 aa,.int .u64 ab] 34 (0,0)))∧(w'.heap[s_.2.2]?=some (.cells #[.int .i64 0,.slice none 0 0,.int .i64 0] 73 (0,0)))∧(w.heap.size≤s_.2.2)∧(w.heap.size≤s_.2.2)∧(s≠s_.2.2)∧(s_.2.2≠s)∧(c≠s_.2.2)∧(s_.2.2≠c)∧(d≠s_.2.2)∧(s_.2.2≠d)∧(Below w.heap.size w w')) ?_ ?_
    rotate_left
    rotate_left
    ·skip
     rintro⟨v407,v412,m⟩ aq ⟨hS_,h0_,h1_,h2_,h3_,h4_,h5_,h6_,h7_,h8_,h9_,h10_,h11_,h12_,h13_,h14_⟩
     have n0_:Aside0 (Kd.R (Kd.int .i64) 3 aq w.heap.size (fun k_=>some k_≠(v412:Value).ownBlock) v407 ai):=⟨h0_⟩
     have n1_:Aside0 (Kd.R (Kd.int .i64) 3 aq w.heap.size (fun k_=>some k_≠(v407:Value).ownBlock) v412 ao):=⟨h1_⟩
     have n2_:Aside0 (aq.heap[s]?=some (.cells #[.int .i64 ae,.int .i64 af] 23 (0,0))):=⟨h2_⟩
     have n3_:Aside0 (aq.heap[c]?=some (.cells #[.int .i64 T,.bool Q,.int .i64 X,.int .u64 Y] 34 (0,0))):=⟨h3_⟩
     have n4_:Aside0 (aq.heap[d]?=some (.cells #[.int .i64 U,.bool W,.int .i64 aa,.int .u64 ab] 34 (0,0))):=⟨h4_⟩
     have n5_:Aside0 (aq.heap[m]?=some (.cells #[.int .i64 0,.slice none 0 0,.int .i64 0] 73 (0,0))):=⟨h5_⟩
     have n6_:Aside0 (w.heap.size≤m):=⟨h6_⟩
     have n7_:Aside0 (w.heap.size≤m):=⟨h7_⟩
     have n8_:Aside0 (s≠m):=⟨h8_⟩
     have n9_:Aside0 (m≠s):=⟨h9_⟩
     have n10_:Aside0 (c≠m):=⟨h10_⟩
     have n11_:Aside0 (m≠c):=⟨h11_⟩
     have n12_:Aside0 (d≠m):=⟨h12_⟩
     have n13_:Aside0 (m≠d):=⟨h13_⟩
     have n14_:Aside0 (Below w.heap.size w aq):=⟨h14_⟩
     clear l
     clear a
     clear b
     clear HB
     clear h0_ h1_ h2_ h3_ h4_ h5_ h6_ h7_ h8_ h9_ h10_ h11_ h12_ h13_ h14_
     have u:=n0_
     have E:=n1_
     have l:=n2_
     have a:=n3_
     have b:=n4_
     have v:=n5_
     have aj:=n6_
     have ak:=n7_
     have O:=n8_
     have F:=n9_
     have y:=n10_
     have G:=n11_
     have z:=n12_
     have I:=n13_
     have HB:=n14_
     clear n0_ n1_ n2_ n3_ n4_ n5_ n6_ n7_ n8_ n9_ n10_ n11_ n12_ n13_ n14_
     have hHeld:aq.cell? ⟨c,0,none⟩=some (.int .i64 T)∧aq.cell? ⟨c,1,none⟩=some (.bool Q)∧aq.cell? ⟨c,2,none⟩=some (.int .i64 X)∧aq.cell? ⟨c,3,none⟩=some (.int .u64 Y)∧aq.cell? ⟨d,0,none⟩=some (.int .i64 U)∧aq.cell? ⟨d,1,none⟩=some (.bool W)∧aq.cell? ⟨d,2,none⟩=some (.int .i64 aa)∧aq.cell? ⟨d,3,none⟩=some (.int .u64 ab):=hS_
     obtain⟨aK,aL,aW⟩:=Kd.R_slice u.out
     (first|subst aW|(injection aW with f1_ f2_ f3_;have f4_:=f1_.symm;have f5_:=f3_.symm;clear f1_ f2_ f3_;subst f4_;subst f5_))
     obtain⟨aQ,aR,aX⟩:=Kd.R_slice E.out
     (first|subst aX|(injection aX with f1_ f2_ f3_;have f4_:=f1_.symm;have f5_:=f3_.symm;clear f1_ f2_ f3_;subst f4_;subst f5_))
     refine norm_ (a':=?_) ?_ ?_
     rotate_left
     ·simp only[putAll,Act.put,List.setIfInBounds_toArray,List.set_cons_zero,List.set_cons_succ]
      rfl
     refine two_ (i:=4) (j:=9) (Ni:=some 69) (Nj:=some 14) #[true,true,true,true,true,false,false,false,true,false,false,false] #[true,true,true,true,false,false,false,false,true,true,false,false] rfl rfl rfl rfl (two_of HT_.out (by kernel_rfl)) (by decide) (by decide) (fun K hK=>?_) (fun K hK=>?_)
     ·skip
      refine goes_ Try.func54 (by kernel_rfl) rfl #[.agg #[.int .i64 aG,.slice aK ai.length aL,.int .i64 aH],.agg #[.int .i64 aO,.slice aQ ao.length aR,.int .i64 aP]] (by rfl) rfl rfl (by (try simp only[List.map_toArray,List.map_cons,List.map_nil]);first|done|rfl|(simp only[List.length_drop,List.length_take];rfl)) ?_
      with_reducible refine (grottoref03_alike.calls a9 aG _ _ ai aH aO _ _ ao aP ar au ap av aw ax _ ?side1 ?side2 ?side3 ?side4 bK.out).mono ?_
      (case side1=>repeat (first|exact (Kd.R_reads' u.out).2.2|(with_reducible refine Kd.C_alloc ?_ _)|(with_reducible refine Kd.C_drewN ?_ _)|(with_reducible refine Kd.C_drew ?_)))
      (case side2=>exact (Kd.R_reads' u.out).2.1)
      (case side3=>repeat (first|exact (Kd.R_reads' E.out).2.2|(with_reducible refine Kd.C_alloc ?_ _)|(with_reducible refine Kd.C_drewN ?_ _)|(with_reducible refine Kd.C_drew ?_)))
      (case side4=>exact (Kd.R_reads' E.out).2.1)
      rintro e az ⟨v417,v422,rfl,ho0,ho1,hb⟩
      refine⟨_,rfl,?_⟩
      have ah:=Aside0.mk (Kd.V_lower (Kd.V_mono (ok':=fun k_=>some k_≠(.slice aK ai.length aL:Value).ownBlock∧some k_≠(.slice aQ ao.length aR:Value).ownBlock∧k_≠s∧k_≠c∧k_≠d∧k_≠m) ho0 (fun k_ hk_=>⟨(Kd.fresh' (Kd.R_lt (by (with_reducible repeat (first|apply Kd.R_alloc|apply Kd.R_drewN|apply Kd.R_drew));exact u.out)) k_ hk_),(Kd.fresh' (Kd.R_lt (by (with_reducible repeat (first|apply Kd.R_alloc|apply Kd.R_drewN|apply Kd.R_drew));exact E.out)) k_ hk_),(Kd.freshB (g:=s) (o:=.cells #[.int .i64 ae,.int .i64 af] 23 (0,0)) (zk l) k_ hk_),(Kd.freshB (g:=c) (o:=.cells #[.int .i64 T,.bool Q,.int .i64 X,.int .u64 Y] 34 (0,0)) (zk a) k_ hk_),(Kd.freshB (g:=d) (o:=.cells #[.int .i64 U,.bool W,.int .i64 aa,.int .u64 ab] 34 (0,0)) (zk b) k_ hk_),(Kd.freshB (g:=m) (o:=.cells #[.int .i64 0,.slice none 0 0,.int .i64 0] 73 (0,0)) (zk v) k_ hk_)⟩)) (below_size (zb HB)))
      have ag:=Aside0.mk (Kd.V_lower (Kd.V_mono (ok':=fun k_=>some k_≠(.slice aK ai.length aL:Value).ownBlock∧some k_≠(.slice aQ ao.length aR:Value).ownBlock∧k_≠s∧k_≠c∧k_≠d∧k_≠m) ho1 (fun k_ hk_=>⟨(Kd.fresh' (Kd.R_lt (by (with_reducible repeat (first|apply Kd.R_alloc|apply Kd.R_drewN|apply Kd.R_drew));exact u.out)) k_ hk_),(Kd.fresh' (Kd.R_lt (by (with_reducible repeat (first|apply Kd.R_alloc|apply Kd.R_drewN|apply Kd.R_drew));exact E.out)) k_ hk_),(Kd.freshB (g:=s) (o:=.cells #[.int .i64 ae,.int .i64 af] 23 (0,0)) (zk l) k_ hk_),(Kd.freshB (g:=c) (o:=.cells #[.int .i64 T,.bool Q,.int .i64 X,.int .u64 Y] 34 (0,0)) (zk a) k_ hk_),(Kd.freshB (g:=d) (o:=.cells #[.int .i64 U,.bool W,.int .i64 aa,.int .u64 ab] 34 (0,0)) (zk b) k_ hk_),(Kd.freshB (g:=m) (o:=.cells #[.int .i64 0,.slice none 0 0,.int .i64 0] 73 (0,0)) (zk v) k_ hk_)⟩)) (below_size (zb HB)))
      replace u:=Aside0.mk (Kd.R_below (by (with_reducible repeat (first|apply Kd.R_alloc|apply Kd.R_drewN|apply Kd.R_drew));exact u.out) hb)
      replace E:=Aside0.mk (Kd.R_below (by (with_reducible repeat (first|apply Kd.R_alloc|apply Kd.R_drewN|apply Kd.R_drew));exact E.out) hb)
      obtain⟨l,a,b,v,HB⟩:=zu4 l a b v HB hb
      try clear hb
      (try clear ho0)
      (try clear ho1)
      refine hK.out _ _ ⟨(blk_cell a.out 0).trans rfl,(blk_cell a.out 1).trans rfl,(blk_cell a.out 2).trans rfl,(blk_cell a.out 3).trans rfl,(blk_cell b.out 0).trans rfl,(blk_cell b.out 1).trans rfl,(blk_cell b.out 2).trans rfl,(blk_cell b.out 3).trans rfl⟩ (fun hHeld=>?_)
      clear hK K
      refine norm_ (a':=?_) ?_ ?_
      rotate_left
      ·show Act.put _ (some 69) _=_
       simp only[Act.put,List.setIfInBounds_toArray,List.set_cons_zero,List.set_cons_succ,i64_w,i32_w]
       rfl
      refine zpure_ (i:=5) (N:=some 64) #[true,true,true,true,true,true,false,false,true,false,false,false] (any_of HT_.out (by kernel_rfl)) ?_
      refine zpure_ (i:=6) (N:=some 70) #[true,true,true,true,true,true,true,false,true,false,false,false] (any_of HT_.out (by kernel_rfl)) ?_
      refine zpure_ (i:=7) (N:=some 71) #[true,true,true,true,true,true,true,true,true,false,false,false] (any_of HT_.out (by kernel_rfl)) ?_
      exact norm_ (by first|(simp only[putAll,Act.put,List.setIfInBounds_toArray,List.set_cons_zero,List.set_cons_succ];done)|(simp only[putAll,Act.put,List.setIfInBounds_toArray,List.set_cons_zero,List.set_cons_succ];rfl)) (hJ1_3_4_8 (.slice aK ai.length aL,.slice aQ ao.length aR,v417,v422,m) _ ⟨hHeld,(by (with_reducible repeat (first|apply Kd.R_alloc|apply Kd.R_drewN|apply Kd.R_drew));exact u.out),(by (with_reducible repeat (first|apply Kd.R_alloc|apply Kd.R_drewN|apply Kd.R_drew));exact E.out),(by (with_reducible repeat (first|apply Kd.V_alloc|apply Kd.V_drewN|apply Kd.V_drew));exact ah.out),(by (with_reducible repeat (first|apply Kd.V_alloc|apply Kd.V_drewN|apply Kd.V_drew));exact ag.out),(zk l),(zk a),(zk b),(zk v),aj.out,ak.out,O.out,F.out,y.out,G.out,z.out,I.out,(zb HB)⟩)
     skip
     refine box_step ?hg (N:=14) ?hd (cs:=#[.int .i64 0,.slice none 0 0,.int .i64 0]) (t:=73) ?hr ?_;(case hd=>rfl);(case hg=>rfl);(case hr=>first|(go_simp;done)|(go_simp;rfl))
     intro q hg aS hbox hb
     have D:=Aside0.mk hbox
     have al:=zge hg HB
     have am:=zge hg HB
     have P:=znl hg l
     have J:=zng hg l
     have B:=znl hg a
     have L:=zng hg a
     have C:=znl hg b
     have M:=zng hg b
     have Z:=znl hg v
     have ac:=zng hg v
     replace u:=Aside0.mk (Kd.R_below (by (with_reducible repeat (first|apply Kd.R_alloc|apply Kd.R_drewN|apply Kd.R_drew));exact u.out) hb)
     replace E:=Aside0.mk (Kd.R_below (by (with_reducible repeat (first|apply Kd.R_alloc|apply Kd.R_drewN|apply Kd.R_drew));exact E.out) hb)
     obtain⟨l,a,b,v,HB⟩:=zu4 l a b v HB hb
     clear hb hbox hg
     refine hK.out _ _ ⟨(blk_cell a.out 0).trans rfl,(blk_cell a.out 1).trans rfl,(blk_cell a.out 2).trans rfl,(blk_cell a.out 3).trans rfl,(blk_cell b.out 0).trans rfl,(blk_cell b.out 1).trans rfl,(blk_cell b.out 2).trans rfl,(blk_cell b.out 3).trans rfl⟩ (fun hHeld=>?_)
     clear hK K
     refine norm_ (a':=?_) ?_ ?_
     rotate_left
     ·show Act.put _ (some 14) _=_
      simp only[Act.put,List.setIfInBounds_toArray,List.set_cons_zero,List.set_cons_succ,i64_w,i32_w]
      rfl
     exact norm_ (by first|(simp only[putAll,Act.put,List.setIfInBounds_toArray,List.set_cons_zero,List.set_cons_succ];done)|(simp only[putAll,Act.put,List.setIfInBounds_toArray,List.set_cons_zero,List.set_cons_succ];rfl)) (hJ1_3_8_9 ((.slice aK ai.length aL),(.slice aQ ao.length aR),m,q) _ ⟨hHeld,(by (with_reducible repeat (first|apply Kd.R_alloc|apply Kd.R_drewN|apply Kd.R_drew));exact u.out),(by (with_reducible repeat (first|apply Kd.R_alloc|apply Kd.R_drewN|apply Kd.R_drew));exact E.out),(zk l),(zk a),(zk b),(zk v),(zk D),aj.out,ak.out,O.out,F.out,y.out,G.out,z.out,I.out,ac.out,Z.out,al.out,am.out,P.out,J.out,B.out,L.out,C.out,M.out,(zb HB)⟩)
    intro hJ1_3_8
    refine join_ (σ:=Value×Value×Nat) 7 #[true,true,true,true,false,false,false,false,false,true,false,false] (fun s_=>[(66,.agg #[.int .i64 aG,s_.1,.int .i64 aH]),(68,.agg #[.int .i64 aO,s_.2.1,.int .i64 aP]),(14,.pointer (some ⟨s_.2.2,0,none⟩))]) (fun s_ w'=>(w'.cell? ⟨c,0,none⟩=some (.int .i64 T)∧w'.cell? ⟨c,1,none⟩=some (.bool Q)∧w'.cell? ⟨c,2,none⟩=some (.int .i64 X)∧w'.cell? ⟨c,3,none⟩=some (.int .u64 Y)∧w'.cell? ⟨d,0,none⟩=some (.int .i64 U)∧w'.cell? ⟨d,1,none⟩=some (.bool W)∧w'.cell? ⟨d,2,none⟩=some (.int .i64 aa)∧w'.cell? ⟨d,3,none⟩=some (.int .u64 ab))∧(Kd.R (Kd.int .i64) 3 w' w.heap.size (fun k_=>some k_≠(s_.2.1:Value).ownBlock) s_.1 ai)∧(Kd.R (Kd.int .i64) 3 w' w.heap.size (fun k_=>some k_≠(s_.1:Value).ownBlock) s_.2.1 ao)∧(w'.heap[s]?=some (.cells #[.int .i64 ae,.int .i64 af] 23 (0,0)))∧(w'.heap[c]?=some (.cells #[.int .i64 T,.bool Q,.int .i64 X,.int .u64 Y] 34 (0,0)))∧(w'.heap[d]?=some (.cells #[.int .i64 U,.bool W,.int .i64 aa,.int .u64 ab] 34 (0,0)))∧(w'.heap[s_.2.2]?=some (.cells #[.int .i64 0,.slice none 0 0,.int .i64 0] 73 (0,0)))∧(w.heap.size≤s_.2.2)∧(w.heap.size≤s_.2.2)∧(s≠s_.2.2)∧(s_.2.2≠s)∧(c≠s_.2.2)∧(s_.2.2≠c)∧(d≠s_.2.2)∧(s_.2.2≠d)∧(Below w.heap.size w w')) ?_ ?_
    rotate_left
    rotate_left
    ·skip
     rintro⟨v407,v412,q⟩ aq ⟨hS_,h0_,h1_,h2_,h3_,h4_,h5_,h6_,h7_,h8_,h9_,h10_,h11_,h12_,h13_,h14_⟩
     have n0_:Aside0 (Kd.R (Kd.int .i64) 3 aq w.heap.size (fun k_=>some k_≠(v412:Value).ownBlock) v407 ai):=⟨h0_⟩
     have n1_:Aside0 (Kd.R (Kd.int .i64) 3 aq w.heap.size (fun k_=>some k_≠(v407:Value).ownBlock) v412 ao):=⟨h1_⟩
     have n2_:Aside0 (aq.heap[s]?=some (.cells #[.int .i64 ae,.int .i64 af] 23 (0,0))):=⟨h2_⟩
     have n3_:Aside0 (aq.heap[c]?=some (.cells #[.int .i64 T,.bool Q,.int .i64 X,.int .u64 Y] 34 (0,0))):=⟨h3_⟩
     have n4_:Aside0 (aq.heap[d]?=some (.cells #[.int .i64 U,.bool W,.int .i64 aa,.int .u64 ab] 34 (0,0))):=⟨h4_⟩
     have n5_:Aside0 (aq.heap[q]?=some (.cells #[.int .i64 0,.slice none 0 0,.int .i64 0] 73 (0,0))):=⟨h5_⟩
     have n6_:Aside0 (w.heap.size≤q):=⟨h6_⟩
     have n7_:Aside0 (w.heap.size≤q):=⟨h7_⟩
     have n8_:Aside0 (s≠q):=⟨h8_⟩
     have n9_:Aside0 (q≠s):=⟨h9_⟩
     have n10_:Aside0 (c≠q):=⟨h10_⟩
     have n11_:Aside0 (q≠c):=⟨h11_⟩
     have n12_:Aside0 (d≠q):=⟨h12_⟩
     have n13_:Aside0 (q≠d):=⟨h13_⟩
     have n14_:Aside0 (Below w.heap.size w aq):=⟨h14_⟩
     clear l
     clear a
     clear b
     clear HB
     clear h0_ h1_ h2_ h3_ h4_ h5_ h6_ h7_ h8_ h9_ h10_ h11_ h12_ h13_ h14_
     have u:=n0_
     have E:=n1_
     have l:=n2_
     have a:=n3_
     have b:=n4_
     have D:=n5_
     have al:=n6_
     have am:=n7_
     have P:=n8_
     have J:=n9_
     have B:=n10_
     have L:=n11_
     have C:=n12_
     have M:=n13_
     have HB:=n14_
     clear n0_ n1_ n2_ n3_ n4_ n5_ n6_ n7_ n8_ n9_ n10_ n11_ n12_ n13_ n14_
     have hHeld:aq.cell? ⟨c,0,none⟩=some (.int .i64 T)∧aq.cell? ⟨c,1,none⟩=some (.bool Q)∧aq.cell? ⟨c,2,none⟩=some (.int .i64 X)∧aq.cell? ⟨c,3,none⟩=some (.int .u64 Y)∧aq.cell? ⟨d,0,none⟩=some (.int .i64 U)∧aq.cell? ⟨d,1,none⟩=some (.bool W)∧aq.cell? ⟨d,2,none⟩=some (.int .i64 aa)∧aq.cell? ⟨d,3,none⟩=some (.int .u64 ab):=hS_
     obtain⟨aK,aL,aW⟩:=Kd.R_slice u.out
     (first|subst aW|(injection aW with f1_ f2_ f3_;have f4_:=f1_.symm;have f5_:=f3_.symm;clear f1_ f2_ f3_;subst f4_;subst f5_))
     obtain⟨aQ,aR,aX⟩:=Kd.R_slice E.out
     (first|subst aX|(injection aX with f1_ f2_ f3_;have f4_:=f1_.symm;have f5_:=f3_.symm;clear f1_ f2_ f3_;subst f4_;subst f5_))
     refine norm_ (a':=?_) ?_ ?_
     rotate_left
     ·simp only[putAll,Act.put,List.setIfInBounds_toArray,List.set_cons_zero,List.set_cons_succ]
      rfl
     refine two_ (i:=4) (j:=8) (Ni:=some 69) (Nj:=some 13) #[true,true,true,true,true,false,false,false,false,true,false,false] #[true,true,true,true,false,false,false,false,true,true,false,false] rfl rfl rfl rfl (two_of HT_.out (by kernel_rfl)) (by decide) (by decide) (fun K hK=>?_) (fun K hK=>?_)
     ·skip
      refine goes_ Try.func54 (by kernel_rfl) rfl #[.agg #[.int .i64 aG,.slice aK ai.length aL,.int .i64 aH],.agg #[.int .i64 aO,.slice aQ ao.length aR,.int .i64 aP]] (by rfl) rfl rfl (by (try simp only[List.map_toArray,List.map_cons,List.map_nil]);first|done|rfl|(simp only[List.length_drop,List.length_take];rfl)) ?_
      with_reducible refine (grottoref03_alike.calls a9 aG _ _ ai aH aO _ _ ao aP ar au ap av aw ax _ ?side1 ?side2 ?side3 ?side4 bK.out).mono ?_
      (case side1=>repeat (first|exact (Kd.R_reads' u.out).2.2|(with_reducible refine Kd.C_alloc ?_ _)|(with_reducible refine Kd.C_drewN ?_ _)|(with_reducible refine Kd.C_drew ?_)))
      (case side2=>exact (Kd.R_reads' u.out).2.1)
      (case side3=>repeat (first|exact (Kd.R_reads' E.out).2.2|(with_reducible refine Kd.C_alloc ?_ _)|(with_reducible refine Kd.C_drewN ?_ _)|(with_reducible refine Kd.C_drew ?_)))
      (case side4=>exact (Kd.R_reads' E.out).2.1)
      rintro e az ⟨v417,v422,rfl,ho0,ho1,hb⟩
      refine⟨_,rfl,?_⟩
      have ah:=Aside0.mk (Kd.V_lower (Kd.V_mono (ok':=fun k_=>some k_≠(.slice aK ai.length aL:Value).ownBlock∧some k_≠(.slice aQ ao.length aR:Value).ownBlock∧k_≠s∧k_≠c∧k_≠d∧k_≠q) ho0 (fun k_ hk_=>⟨(Kd.fresh' (Kd.R_lt (by (with_reducible repeat (first|apply Kd.R_alloc|apply Kd.R_drewN|apply Kd.R_drew));exact u.out)) k_ hk_),(Kd.fresh' (Kd.R_lt (by (with_reducible repeat (first|apply Kd.R_alloc|apply Kd.R_drewN|apply Kd.R_drew));exact E.out)) k_ hk_),(Kd.freshB (g:=s) (o:=.cells #[.int .i64 ae,.int .i64 af] 23 (0,0)) (zk l) k_ hk_),(Kd.freshB (g:=c) (o:=.cells #[.int .i64 T,.bool Q,.int .i64 X,.int .u64 Y] 34 (0,0)) (zk a) k_ hk_),(Kd.freshB (g:=d) (o:=.cells #[.int .i64 U,.bool W,.int .i64 aa,.int .u64 ab] 34 (0,0)) (zk b) k_ hk_),(Kd.freshB (g:=q) (o:=.cells #[.int .i64 0,.slice none 0 0,.int .i64 0] 73 (0,0)) (zk D) k_ hk_)⟩)) (below_size (zb HB)))
      have ag:=Aside0.mk (Kd.V_lower (Kd.V_mono (ok':=fun k_=>some k_≠(.slice aK ai.length aL:Value).ownBlock∧some k_≠(.slice aQ ao.length aR:Value).ownBlock∧k_≠s∧k_≠c∧k_≠d∧k_≠q) ho1 (fun k_ hk_=>⟨(Kd.fresh' (Kd.R_lt (by (with_reducible repeat (first|apply Kd.R_alloc|apply Kd.R_drewN|apply Kd.R_drew));exact u.out)) k_ hk_),(Kd.fresh' (Kd.R_lt (by (with_reducible repeat (first|apply Kd.R_alloc|apply Kd.R_drewN|apply Kd.R_drew));exact E.out)) k_ hk_),(Kd.freshB (g:=s) (o:=.cells #[.int .i64 ae,.int .i64 af] 23 (0,0)) (zk l) k_ hk_),(Kd.freshB (g:=c) (o:=.cells #[.int .i64 T,.bool Q,.int .i64 X,.int .u64 Y] 34 (0,0)) (zk a) k_ hk_),(Kd.freshB (g:=d) (o:=.cells #[.int .i64 U,.bool W,.int .i64 aa,.int .u64 ab] 34 (0,0)) (zk b) k_ hk_),(Kd.freshB (g:=q) (o:=.cells #[.int .i64 0,.slice none 0 0,.int .i64 0] 73 (0,0)) (zk D) k_ hk_)⟩)) (below_size (zb HB)))
      replace u:=Aside0.mk (Kd.R_below (by (with_reducible repeat (first|apply Kd.R_alloc|apply Kd.R_drewN|apply Kd.R_drew));exact u.out) hb)
      replace E:=Aside0.mk (Kd.R_below (by (with_reducible repeat (first|apply Kd.R_alloc|apply Kd.R_drewN|apply Kd.R_drew));exact E.out) hb)
      obtain⟨l,a,b,D,HB⟩:=zu4 l a b D HB hb
      try clear hb
      (try clear ho0)
      (try clear ho1)
      refine hK.out _ _ ⟨(blk_cell a.out 0).trans rfl,(blk_cell a.out 1).trans rfl,(blk_cell a.out 2).trans rfl,(blk_cell a.out 3).trans rfl,(blk_cell b.out 0).trans rfl,(blk_cell b.out 1).trans rfl,(blk_cell b.out 2).trans rfl,(blk_cell b.out 3).trans rfl⟩ (fun hHeld=>?_)
      clear hK K
      refine norm_ (a':=?_) ?_ ?_
      rotate_left
      ·show Act.put _ (some 69) _=_
       simp only[Act.put,List.setIfInBounds_toArray,List.set_cons_zero,List.set_cons_succ,i64_w,i32_w]
       rfl
      refine zpure_ (i:=5) (N:=some 64) #[true,true,true,true,true,true,false,false,false,true,false,false] (any_of HT_.out (by kernel_rfl)) ?_
      refine zpure_ (i:=6) (N:=some 70) #[true,true,true,true,true,true,true,false,false,true,false,false] (any_of HT_.out (by kernel_rfl)) ?_
      refine zpure_ (i:=7) (N:=some 71) #[true,true,true,true,true,true,true,true,false,true,false,false] (any_of HT_.out (by kernel_rfl)) ?_
      exact norm_ (by first|(simp only[putAll,Act.put,List.setIfInBounds_toArray,List.set_cons_zero,List.set_cons_succ];done)|(simp only[putAll,Act.put,List.setIfInBounds_toArray,List.set_cons_zero,List.set_cons_succ];rfl)) (hJ1_3_4_9 (.slice aK ai.length aL,.slice aQ ao.length aR,v417,v422,q) _ ⟨hHeld,(by (with_reducible repeat (first|apply Kd.R_alloc|apply Kd.R_drewN|apply Kd.R_drew));exact u.out),(by (with_reducible repeat (first|apply Kd.R_alloc|apply Kd.R_drewN|apply Kd.R_drew));exact E.out),(by (with_reducible repeat (first|apply Kd.V_alloc|apply Kd.V_drewN|apply Kd.V_drew));exact ah.out),(by (with_reducible repeat (first|apply Kd.V_alloc|apply Kd.V_drewN|apply Kd.V_drew));exact ag.out),(zk l),(zk a),(zk b),(zk D),al.out,am.out,P.out,J.out,B.out,L.out,C.out,M.out,(zb HB)⟩)
     skip
     refine box_step ?hg (N:=13) ?hd (cs:=#[.int .i64 0,.slice none 0 0,.int .i64 0]) (t:=73) ?hr ?_;(case hd=>rfl);(case hg=>rfl);(case hr=>first|(go_simp;done)|(go_simp;rfl))
     intro m hg aS hbox hb
     have v:=Aside0.mk hbox
     have aj:=zge hg HB
     have ak:=zge hg HB
     have O:=znl hg l
     have F:=zng hg l
     have y:=znl hg a
     have G:=zng hg a
     have z:=znl hg b
     have I:=zng hg b
     have ac:=znl hg D
     have Z:=zng hg D
     replace u:=Aside0.mk (Kd.R_below (by (with_reducible repeat (first|apply Kd.R_alloc|apply Kd.R_drewN|apply Kd.R_drew));exact u.out) hb)
     replace E:=Aside0.mk (Kd.R_below (by (with_reducible repeat (first|apply Kd.R_alloc|apply Kd.R_drewN|apply Kd.R_drew));exact E.out) hb)
     obtain⟨l,a,b,D,HB⟩:=zu4 l a b D HB hb
     clear hb hbox hg
     refine hK.out _ _ ⟨(blk_cell a.out 0).trans rfl,(blk_cell a.out 1).trans rfl,(blk_cell a.out 2).trans rfl,(blk_cell a.out 3).trans rfl,(blk_cell b.out 0).trans rfl,(blk_cell b.out 1).trans rfl,(blk_cell b.out 2).trans rfl,(blk_cell b.out 3).trans rfl⟩ (fun hHeld=>?_)
     clear hK K
     refine norm_ (a':=?_) ?_ ?_
     rotate_left
     ·show Act.put _ (some 13) _=_
      simp only[Act.put,List.setIfInBounds_toArray,List.set_cons_zero,List.set_cons_succ,i64_w,i32_w]
      rfl
     exact norm_ (by first|(simp only[putAll,Act.put,List.setIfInBounds_toArray,List.set_cons_zero,List.set_cons_succ];done)|(simp only[putAll,Act.put,List.setIfInBounds_toArray,List.set_cons_zero,List.set_cons_succ];rfl)) (hJ1_3_8_9 ((.slice aK ai.length aL),(.slice aQ ao.length aR),m,q) _ ⟨hHeld,(by (with_reducible repeat (first|apply Kd.R_alloc|apply Kd.R_drewN|apply Kd.R_drew));exact u.out),(by (with_reducible repeat (first|apply Kd.R_alloc|apply Kd.R_drewN|apply Kd.R_drew));exact E.out),(zk l),(zk a),(zk b),(zk v),(zk D),aj.out,ak.out,O.out,F.out,y.out,G.out,z.out,I.out,ac.out,Z.out,al.out,am.out,P.out,J.out,B.out,L.out,C.out,M.out,(zb HB)⟩)
    intro hJ1_3_9
    refine join_ (σ:=Value×Nat×Nat) 7 #[true,true,true,false,false,false,false,false,true,true,false,false] (fun s_=>[(66,.agg #[.int .i64 aG,s_.1,.int .i64 aH]),(13,.pointer (some ⟨s_.2.1,0,none⟩)),(14,.pointer (some ⟨s_.2.2,0,none⟩))]) (fun s_ w'=>(w'.cell? ⟨c,0,none⟩=some (.int .i64 T)∧w'.cell? ⟨c,1,none⟩=some (.bool Q)∧w'.cell? ⟨c,2,none⟩=some (.int .i64 X)∧w'.cell? ⟨c,3,none⟩=some (.int .u64 Y)∧w'.cell? ⟨d,0,none⟩=some (.int .i64 U)∧w'.cell? ⟨d,1,none⟩=some (.bool W)∧w'.cell? ⟨d,2,none⟩=some (.int .i64 aa)∧w'.cell? ⟨d,3,none⟩=some (.int .u64 ab))∧(Kd.R (Kd.int .i64) 3 w' w.heap.size (fun _=>True) s_.1 ai)∧(w'.heap[s]?=some (.cells #[.int .i64 ae,.int .i64 af] 23 (0,0)))∧(w'.heap[c]?=some (.cells #[.int .i64 T,.bool Q,.int .i64 X,.int .u64 Y] 34 (0,0)))∧(w'.heap[d]?=some (.cells #[.int .i64 U,.bool W,.int .i64 aa,.int .u64 ab] 34 (0,0)))∧(w'.heap[s_.2.1]?=some (.cells #[.int .i64 0,.slice none 0 0,.int .i64 0] 73 (0,0)))∧(w'.heap[s_.2.2]?=some (.cells #[.int .i64 0,.slice none 0 0,.int .i64 0] 73 (0,0)))∧(w.heap.size≤s_.2.1)∧(w.heap.size≤s_.2.1)∧(s≠s_.2.1)∧(s_.2.1≠s)∧(c≠s_.2.1)∧(s_.2.1≠c)∧(d≠s_.2.1)∧(s_.2.1≠d)∧(s_.2.2≠s_.2.1)∧(s_.2.1≠s_.2.2)∧(w.heap.size≤s_.2.2)∧(w.heap.size≤s_.2.2)∧(s≠s_.2.2)∧(s_.2.2≠s)∧(c≠s_.2.2)∧(s_.2.2≠c)∧(d≠s_.2.2)∧(s_.2.2≠d)∧(Below w.heap.size w w')) ?_ ?_
    rotate_left
    rotate_left
    ·skip
     rintro⟨v407,m,q⟩ aq ⟨hS_,h0_,h1_,h2_,h3_,h4_,h5_,h6_,h7_,h8_,h9_,h10_,h11_,h12_,h13_,h14_,h15_,h16_,h17_,h18_,h19_,h20_,h21_,h22_,h23_,h24_⟩
     have n0_:Aside0 (Kd.R (Kd.int .i64) 3 aq w.heap.size (fun _=>True) v407 ai):=⟨h0_⟩
     have n1_:Aside0 (aq.heap[s]?=some (.cells #[.int .i64 ae,.int .i64 af] 23 (0,0))):=⟨h1_⟩
     have n2_:Aside0 (aq.heap[c]?=some (.cells #[.int .i64 T,.bool Q,.int .i64 X,.int .u64 Y] 34 (0,0))):=⟨h2_⟩
     have n3_:Aside0 (aq.heap[d]?=some (.cells #[.int .i64 U,.bool W,.int .i64 aa,.int .u64 ab] 34 (0,0))):=⟨h3_⟩
     have n4_:Aside0 (aq.heap[m]?=some (.cells #[.int .i64 0,.slice none 0 0,.int .i64 0] 73 (0,0))):=⟨h4_⟩
     have n5_:Aside0 (aq.heap[q]?=some (.cells #[.int .i64 0,.slice none 0 0,.int .i64 0] 73 (0,0))):=⟨h5_⟩
     have n6_:Aside0 (w.heap.size≤m):=⟨h6_⟩
     have n7_:Aside0 (w.heap.size≤m):=⟨h7_⟩
     have n8_:Aside0 (s≠m):=⟨h8_⟩
     have n9_:Aside0 (m≠s):=⟨h9_⟩
     have n10_:Aside0 (c≠m):=⟨h10_⟩
     have n11_:Aside0 (m≠c):=⟨h11_⟩
     have n12_:Aside0 (d≠m):=⟨h12_⟩
     have n13_:Aside0 (m≠d):=⟨h13_⟩
     have n14_:Aside0 (q≠m):=⟨h14_⟩
     have n15_:Aside0 (m≠q):=⟨h15_⟩
     have n16_:Aside0 (w.heap.size≤q):=⟨h16_⟩
     have n17_:Aside0 (w.heap.size≤q):=⟨h17_⟩
     have n18_:Aside0 (s≠q):=⟨h18_⟩
     have n19_:Aside0 (q≠s):=⟨h19_⟩
     have n20_:Aside0 (c≠q):=⟨h20_⟩
     have n21_:Aside0 (q≠c):=⟨h21_⟩
     have n22_:Aside0 (d≠q):=⟨h22_⟩
     have n23_:Aside0 (q≠d):=⟨h23_⟩
     have n24_:Aside0 (Below w.heap.size w aq):=⟨h24_⟩
     clear l
     clear a
     clear b
     clear HB
     clear h0_ h1_ h2_ h3_ h4_ h5_ h6_ h7_ h8_ h9_ h10_ h11_ h12_ h13_ h14_ h15_ h16_ h17_ h18_ h19_ h20_ h21_ h22_ h23_ h24_
     have u:=n0_
     have l:=n1_
     have a:=n2_
     have b:=n3_
     have v:=n4_
     have D:=n5_
     have aj:=n6_
     have ak:=n7_
     have O:=n8_
     have F:=n9_
     have y:=n10_
     have G:=n11_
     have z:=n12_
     have I:=n13_
     have ac:=n14_
     have Z:=n15_
     have al:=n16_
     have am:=n17_
     have P:=n18_
     have J:=n19_
     have B:=n20_
     have L:=n21_
     have C:=n22_
     have M:=n23_
     have HB:=n24_
     clear n0_ n1_ n2_ n3_ n4_ n5_ n6_ n7_ n8_ n9_ n10_ n11_ n12_ n13_ n14_ n15_ n16_ n17_ n18_ n19_ n20_ n21_ n22_ n23_ n24_
     have hHeld:aq.cell? ⟨c,0,none⟩=some (.int .i64 T)∧aq.cell? ⟨c,1,none⟩=some (.bool Q)∧aq.cell? ⟨c,2,none⟩=some (.int .i64 X)∧aq.cell? ⟨c,3,none⟩=some (.int .u64 Y)∧aq.cell? ⟨d,0,none⟩=some (.int .i64 U)∧aq.cell? ⟨d,1,none⟩=some (.bool W)∧aq.cell? ⟨d,2,none⟩=some (.int .i64 aa)∧aq.cell? ⟨d,3,none⟩=some (.int .u64 ab):=hS_
     refine norm_ (a':=?_) ?_ ?_
     rotate_left
     ·simp only[putAll,Act.put,List.setIfInBounds_toArray,List.set_cons_zero,List.set_cons_succ]
      rfl
     refine one_ (i:=3) (N:=some 68) #[true,true,true,true,false,false,false,false,true,true,false,false] rfl rfl (one_of HT_.out (by kernel_rfl)) (by decide) (fun K hK=>?_)
     refine goes_ Try.func55 (by kernel_rfl) rfl #[.agg #[.int .i64 U,.bool W,.int .i64 aa,.int .u64 ab]] (by rfl) rfl rfl (by (try simp only[List.map_toArray,List.map_cons,List.map_nil]);first|done|rfl|(simp only[List.length_drop,List.length_take];rfl)) ?_
     with_reducible refine (grottoref03_exact.calls bJ.out).mono ?_
     rintro e aS ⟨v412,rfl,ho0,hb⟩
     refine⟨_,rfl,?_⟩
     have E:=Aside0.mk (Kd.R_lower (Kd.R_new' ho0 (Kd.R_lt (by (with_reducible repeat (first|apply Kd.R_alloc|apply Kd.R_drewN|apply Kd.R_drew));exact u.out))) (below_size (zb HB)))
     replace u:=Aside0.mk (Kd.R_elder' (by (with_reducible repeat (first|apply Kd.R_alloc|apply Kd.R_drewN|apply Kd.R_drew));exact u.out) (Kd.R_base ho0) hb)
     obtain⟨l,a,b,v,D,HB⟩:=zu5 l a b v D HB hb
     try clear hb
     (try clear ho0)
     refine hK.out _ _ ⟨(blk_cell a.out 0).trans rfl,(blk_cell a.out 1).trans rfl,(blk_cell a.out 2).trans rfl,(blk_cell a.out 3).trans rfl,(blk_cell b.out 0).trans rfl,(blk_cell b.out 1).trans rfl,(blk_cell b.out 2).trans rfl,(blk_cell b.out 3).trans rfl⟩ (fun hHeld=>?_)
     clear hK K
     refine norm_ (a':=?_) ?_ ?_
     rotate_left
     ·show Act.put _ (some 68) _=_
      simp only[Act.put,List.setIfInBounds_toArray,List.set_cons_zero,List.set_cons_succ,i64_w,i32_w]
      rfl
     exact norm_ (by first|(simp only[putAll,Act.put,List.setIfInBounds_toArray,List.set_cons_zero,List.set_cons_succ];done)|(simp only[putAll,Act.put,List.setIfInBounds_toArray,List.set_cons_zero,List.set_cons_succ];rfl)) (hJ1_3_8_9 (v407,v412,m,q) _ ⟨hHeld,(by (with_reducible repeat (first|apply Kd.R_alloc|apply Kd.R_drewN|apply Kd.R_drew));exact Kd.R_mono u.out (fun _ hk=>hk.2)),(by (with_reducible repeat (first|apply Kd.R_alloc|apply Kd.R_drewN|apply Kd.R_drew));exact Kd.R_mono E.out (fun _ hk=>hk.2)),(zk l),(zk a),(zk b),(zk v),(zk D),aj.out,ak.out,O.out,F.out,y.out,G.out,z.out,I.out,ac.out,Z.out,al.out,am.out,P.out,J.out,B.out,L.out,C.out,M.out,(zb HB)⟩)
    intro hJ1_8_9
    refine join_ (σ:=Value×Value) 8 #[true,true,true,true,false,false,false,false,false,false,false,false] (fun s_=>[(66,.agg #[.int .i64 aG,s_.1,.int .i64 aH]),(68,.agg #[.int .i64 aO,s_.2,.int .i64 aP])]) (fun s_ w'=>(w'.cell? ⟨c,0,none⟩=some (.int .i64 T)∧w'.cell? ⟨c,1,none⟩=some (.bool Q)∧w'.cell? ⟨c,2,none⟩=some (.int .i64 X)∧w'.cell? ⟨c,3,none⟩=some (.int .u64 Y)∧w'.cell? ⟨d,0,none⟩=some (.int .i64 U)∧w'.cell? ⟨d,1,none⟩=some (.bool W)∧w'.cell? ⟨d,2,none⟩=some (.int .i64 aa)∧w'.cell? ⟨d,3,none⟩=some (.int .u64 ab))∧(Kd.R (Kd.int .i64) 3 w' w.heap.size (fun k_=>some k_≠(s_.2:Value).ownBlock) s_.1 ai)∧(Kd.R (Kd.int .i64) 3 w' w.heap.size (fun k_=>some k_≠(s_.1:Value).ownBlock) s_.2 ao)∧(w'.heap[s]?=some (.cells #[.int .i64 ae,.int .i64 af] 23 (0,0)))∧(w'.heap[c]?=some (.cells #[.int .i64 T,.bool Q,.int .i64 X,.int .u64 Y] 34 (0,0)))∧(w'.heap[d]?=some (.cells #[.int .i64 U,.bool W,.int .i64 aa,.int .u64 ab] 34 (0,0)))∧(Below w.heap.size w w')) ?_ ?_
    rotate_left
    rotate_left
    ·skip
     rintro⟨v407,v412⟩ an ⟨hS_,h0_,h1_,h2_,h3_,h4_,h5_⟩
     have n0_:Aside0 (Kd.R (Kd.int .i64) 3 an w.heap.size (fun k_=>some k_≠(v412:Value).ownBlock) v407 ai):=⟨h0_⟩
     have n1_:Aside0 (Kd.R (Kd.int .i64) 3 an w.heap.size (fun k_=>some k_≠(v407:Value).ownBlock) v412 ao):=⟨h1_⟩
     have n2_:Aside0 (an.heap[s]?=some (.cells #[.int .i64 ae,.int .i64 af] 23 (0,0))):=⟨h2_⟩
     have n3_:Aside0 (an.heap[c]?=some (.cells #[.int .i64 T,.bool Q,.int .i64 X,.int .u64 Y] 34 (0,0))):=⟨h3_⟩
     have n4_:Aside0 (an.heap[d]?=some (.cells #[.int .i64 U,.bool W,.int .i64 aa,.int .u64 ab] 34 (0,0))):=⟨h4_⟩
     have n5_:Aside0 (Below w.heap.size w an):=⟨h5_⟩
     clear l
     clear a
     clear b
     clear HB
     clear h0_ h1_ h2_ h3_ h4_ h5_
     have u:=n0_
     have E:=n1_
     have l:=n2_
     have a:=n3_
     have b:=n4_
     have HB:=n5_
     clear n0_ n1_ n2_ n3_ n4_ n5_
     have hHeld:an.cell? ⟨c,0,none⟩=some (.int .i64 T)∧an.cell? ⟨c,1,none⟩=some (.bool Q)∧an.cell? ⟨c,2,none⟩=some (.int .i64 X)∧an.cell? ⟨c,3,none⟩=some (.int .u64 Y)∧an.cell? ⟨d,0,none⟩=some (.int .i64 U)∧an.cell? ⟨d,1,none⟩=some (.bool W)∧an.cell? ⟨d,2,none⟩=some (.int .i64 aa)∧an.cell? ⟨d,3,none⟩=some (.int .u64 ab):=hS_
     obtain⟨a3,a4,bO⟩:=Kd.R_slice u.out
     (first|subst bO|(injection bO with f1_ f2_ f3_;have f4_:=f1_.symm;have f5_:=f3_.symm;clear f1_ f2_ f3_;subst f4_;subst f5_))
     obtain⟨aK,aL,aW⟩:=Kd.R_slice E.out
     (first|subst aW|(injection aW with f1_ f2_ f3_;have f4_:=f1_.symm;have f5_:=f3_.symm;clear f1_ f2_ f3_;subst f4_;subst f5_))
     refine norm_ (a':=?_) ?_ ?_
     rotate_left
     ·simp only[putAll,Act.put,List.setIfInBounds_toArray,List.set_cons_zero,List.set_cons_succ]
      rfl
     refine three_ (i:=4) (j:=8) (k:=9) (Ni:=some 69) (Nj:=some 13) (Nk:=some 14) #[true,true,true,true,true,false,false,false,false,false,false,false] #[true,true,true,true,false,false,false,false,true,false,false,false] #[true,true,true,true,false,false,false,false,false,true,false,false] rfl rfl rfl rfl rfl rfl (three_of HT_.out (by kernel_rfl)) (by decide) (by decide) (by decide) (fun K hK=>?_) (fun K hK=>?_) (fun K hK=>?_)
     ·skip
      refine goes_ Try.func54 (by kernel_rfl) rfl #[.agg #[.int .i64 aG,.slice a3 ai.length a4,.int .i64 aH],.agg #[.int .i64 aO,.slice aK ao.length aL,.int .i64 aP]] (by rfl) rfl rfl (by (try simp only[List.map_toArray,List.map_cons,List.map_nil]);first|done|rfl|(simp only[List.length_drop,List.length_take];rfl)) ?_
      with_reducible refine (grottoref03_alike.calls a9 aG _ _ ai aH aO _ _ ao aP ar au ap av aw ax _ ?side1 ?side2 ?side3 ?side4 bK.out).mono ?_
      (case side1=>repeat (first|exact (Kd.R_reads' u.out).2.2|(with_reducible refine Kd.C_alloc ?_ _)|(with_reducible refine Kd.C_drewN ?_ _)|(with_reducible refine Kd.C_drew ?_)))
      (case side2=>exact (Kd.R_reads' u.out).2.1)
      (case side3=>repeat (first|exact (Kd.R_reads' E.out).2.2|(with_reducible refine Kd.C_alloc ?_ _)|(with_reducible refine Kd.C_drewN ?_ _)|(with_reducible refine Kd.C_drew ?_)))
      (case side4=>exact (Kd.R_reads' E.out).2.1)
      rintro e aU ⟨v417,v422,rfl,ho0,ho1,hb⟩
      refine⟨_,rfl,?_⟩
      have ah:=Aside0.mk (Kd.V_lower (Kd.V_mono (ok':=fun k_=>some k_≠(.slice a3 ai.length a4:Value).ownBlock∧some k_≠(.slice aK ao.length aL:Value).ownBlock∧k_≠s∧k_≠c∧k_≠d) ho0 (fun k_ hk_=>⟨(Kd.fresh' (Kd.R_lt (by (with_reducible repeat (first|apply Kd.R_alloc|apply Kd.R_drewN|apply Kd.R_drew));exact u.out)) k_ hk_),(Kd.fresh' (Kd.R_lt (by (with_reducible repeat (first|apply Kd.R_alloc|apply Kd.R_drewN|apply Kd.R_drew));exact E.out)) k_ hk_),(Kd.freshB (g:=s) (o:=.cells #[.int .i64 ae,.int .i64 af] 23 (0,0)) (zk l) k_ hk_),(Kd.freshB (g:=c) (o:=.cells #[.int .i64 T,.bool Q,.int .i64 X,.int .u64 Y] 34 (0,0)) (zk a) k_ hk_),(Kd.freshB (g:=d) (o:=.cells #[.int .i64 U,.bool W,.int .i64 aa,.int .u64 ab] 34 (0,0)) (zk b) k_ hk_)⟩)) (below_size (zb HB)))
      have ag:=Aside0.mk (Kd.V_lower (Kd.V_mono (ok':=fun k_=>some k_≠(.slice a3 ai.length a4:Value).ownBlock∧some k_≠(.slice aK ao.length aL:Value).ownBlock∧k_≠s∧k_≠c∧k_≠d) ho1 (fun k_ hk_=>⟨(Kd.fresh' (Kd.R_lt (by (with_reducible repeat (first|apply Kd.R_alloc|apply Kd.R_drewN|apply Kd.R_drew));exact u.out)) k_ hk_),(Kd.fresh' (Kd.R_lt (by (with_reducible repeat (first|apply Kd.R_alloc|apply Kd.R_drewN|apply Kd.R_drew));exact E.out)) k_ hk_),(Kd.freshB (g:=s) (o:=.cells #[.int .i64 ae,.int .i64 af] 23 (0,0)) (zk l) k_ hk_),(Kd.freshB (g:=c) (o:=.cells #[.int .i64 T,.bool Q,.int .i64 X,.int .u64 Y] 34 (0,0)) (zk a) k_ hk_),(Kd.freshB (g:=d) (o:=.cells #[.int .i64 U,.bool W,.int .i64 aa,.int .u64 ab] 34 (0,0)) (zk b) k_ hk_)⟩)) (below_size (zb HB)))
      replace u:=Aside0.mk (Kd.R_below (by (with_reducible repeat (first|apply Kd.R_alloc|apply Kd.R_drewN|apply Kd.R_drew));exact u.out) hb)
      replace E:=Aside0.mk (Kd.R_below (by (with_reducible repeat (first|apply Kd.R_alloc|apply Kd.R_drewN|apply Kd.R_drew));exact E.out) hb)
      obtain⟨l,a,b,HB⟩:=zu3 l a b HB hb
      try clear hb
      (try clear ho0)
      (try clear ho1)
      refine hK.out _ _ ⟨(blk_cell a.out 0).trans rfl,(blk_cell a.out 1).trans rfl,(blk_cell a.out 2).trans rfl,(blk_cell a.out 3).trans rfl,(blk_cell b.out 0).trans rfl,(blk_cell b.out 1).trans rfl,(blk_cell b.out 2).trans rfl,(blk_cell b.out 3).trans rfl⟩ (fun hHeld=>?_)
      clear hK K
      refine norm_ (a':=?_) ?_ ?_
      rotate_left
      ·show Act.put _ (some 69) _=_
       simp only[Act.put,List.setIfInBounds_toArray,List.set_cons_zero,List.set_cons_succ,i64_w,i32_w]
       rfl
      refine zpure_ (i:=5) (N:=some 64) #[true,true,true,true,true,true,false,false,false,false,false,false] (any_of HT_.out (by kernel_rfl)) ?_
      refine zpure_ (i:=6) (N:=some 70) #[true,true,true,true,true,true,true,false,false,false,false,false] (any_of HT_.out (by kernel_rfl)) ?_
      refine zpure_ (i:=7) (N:=some 71) #[true,true,true,true,true,true,true,true,false,false,false,false] (any_of HT_.out (by kernel_rfl)) ?_
      exact norm_ (by first|(simp only[putAll,Act.put,List.setIfInBounds_toArray,List.set_cons_zero,List.set_cons_succ];done)|(simp only[putAll,Act.put,List.setIfInBounds_toArray,List.set_cons_zero,List.set_cons_succ];rfl)) (hJ1_3_4 (.slice a3 ai.length a4,.slice aK ao.length aL,v417,v422) _ ⟨hHeld,(by (with_reducible repeat (first|apply Kd.R_alloc|apply Kd.R_drewN|apply Kd.R_drew));exact u.out),(by (with_reducible repeat (first|apply Kd.R_alloc|apply Kd.R_drewN|apply Kd.R_drew));exact E.out),(by (with_reducible repeat (first|apply Kd.V_alloc|apply Kd.V_drewN|apply Kd.V_drew));exact ah.out),(by (with_reducible repeat (first|apply Kd.V_alloc|apply Kd.V_drewN|apply Kd.V_drew));exact ag.out),(zk l),(zk a),(zk b),(zb HB)⟩)
     ·skip
      refine box_step ?hg (N:=13) ?hd (cs:=#[.int .i64 0,.slice none 0 0,.int .i64 0]) (t:=73) ?hr ?_;(case hd=>rfl);(case hg=>rfl);(case hr=>first|(go_simp;done)|(go_simp;rfl))
      intro m hg aq hbox hb
      have v:=Aside0.mk hbox
      have aj:=zge hg HB
      have ak:=zge hg HB
      have O:=znl hg l
      have F:=zng hg l
      have y:=znl hg a
      have G:=zng hg a
      have z:=znl hg b
      have I:=zng hg b
      replace u:=Aside0.mk (Kd.R_below (by (with_reducible repeat (first|apply Kd.R_alloc|apply Kd.R_drewN|apply Kd.R_drew));exact u.out) hb)
      replace E:=Aside0.mk (Kd.R_below (by (with_reducible repeat (first|apply Kd.R_alloc|apply Kd.R_drewN|apply Kd.R_drew));exact E.out) hb)
      obtain⟨l,a,b,HB⟩:=zu3 l a b HB hb
      clear hb hbox hg
      refine hK.out _ _ ⟨(blk_cell a.out 0).trans rfl,(blk_cell a.out 1).trans rfl,(blk_cell a.out 2).trans rfl,(blk_cell a.out 3).trans rfl,(blk_cell b.out 0).trans rfl,(blk_cell b.out 1).trans rfl,(blk_cell b.out 2).trans rfl,(blk_cell b.out 3).trans rfl⟩ (fun hHeld=>?_)
      clear hK K
      refine norm_ (a':=?_) ?_ ?_
      rotate_left
      ·show Act.put _ (some 13) _=_
       simp only[Act.put,List.setIfInBounds_toArray,List.set_cons_zero,List.set_cons_succ,i64_w,i32_w]
       rfl
      exact norm_ (by first|(simp only[putAll,Act.put,List.setIfInBounds_toArray,List.set_cons_zero,List.set_cons_succ];done)|(simp only[putAll,Act.put,List.setIfInBounds_toArray,List.set_cons_zero,List.set_cons_succ];rfl)) (hJ1_3_8 ((.slice a3 ai.length a4),(.slice aK ao.length aL),m) _ ⟨hHeld,(by (with_reducible repeat (first|apply Kd.R_alloc|apply Kd.R_drewN|apply Kd.R_drew));exact u.out),(by (with_reducible repeat (first|apply Kd.R_alloc|apply Kd.R_drewN|apply Kd.R_drew));exact E.out),(zk l),(zk a),(zk b),(zk v),aj.out,ak.out,O.out,F.out,y.out,G.out,z.out,I.out,(zb HB)⟩)
     skip
     refine box_step ?hg (N:=14) ?hd (cs:=#[.int .i64 0,.slice none 0 0,.int .i64 0]) (t:=73) ?hr ?_;(case hd=>rfl);(case hg=>rfl);(case hr=>first|(go_simp;done)|(go_simp;rfl))
     intro q hg aq hbox hb
     have D:=Aside0.mk hbox
     have al:=zge hg HB
     have am:=zge hg HB
     have P:=znl hg l
     have J:=zng hg l
     have B:=znl hg a
     have L:=zng hg a
     have C:=znl hg b
     have M:=zng hg b
     replace u:=Aside0.mk (Kd.R_below (by (with_reducible repeat (first|apply Kd.R_alloc|apply Kd.R_drewN|apply Kd.R_drew));exact u.out) hb)
     replace E:=Aside0.mk (Kd.R_below (by (with_reducible repeat (first|apply Kd.R_alloc|apply Kd.R_drewN|apply Kd.R_drew));exact E.out) hb)
     obtain⟨l,a,b,HB⟩:=zu3 l a b HB hb
     clear hb hbox hg
     refine hK.out _ _ ⟨(blk_cell a.out 0).trans rfl,(blk_cell a.out 1).trans rfl,(blk_cell a.out 2).trans rfl,(blk_cell a.out 3).trans rfl,(blk_cell b.out 0).trans rfl,(blk_cell b.out 1).trans rfl,(blk_cell b.out 2).trans rfl,(blk_cell b.out 3).trans rfl⟩ (fun hHeld=>?_)
     clear hK K
     refine norm_ (a':=?_) ?_ ?_
     rotate_left
     ·show Act.put _ (some 14) _=_
      simp only[Act.put,List.setIfInBounds_toArray,List.set_cons_zero,List.set_cons_succ,i64_w,i32_w]
      rfl
     exact norm_ (by first|(simp only[putAll,Act.put,List.setIfInBounds_toArray,List.set_cons_zero,List.set_cons_succ];done)|(simp only[putAll,Act.put,List.setIfInBounds_toArray,List.set_cons_zero,List.set_cons_succ];rfl)) (hJ1_3_9 ((.slice a3 ai.length a4),(.slice aK ao.length aL),q) _ ⟨hHeld,(by (with_reducible repeat (first|apply Kd.R_alloc|apply Kd.R_drewN|apply Kd.R_drew));exact u.out),(by (with_reducible repeat (first|apply Kd.R_alloc|apply Kd.R_drewN|apply Kd.R_drew));exact E.out),(zk l),(zk a),(zk b),(zk D),al.out,am.out,P.out,J.out,B.out,L.out,C.out,M.out,(zb HB)⟩)
    intro hJ1_3
    refine join_ (σ:=Value×Nat) 8 #[true,true,true,false,false,false,false,false,true,false,false,false] (fun s_=>[(66,.agg #[.int .i64 aG,s_.1,.int .i64 aH]),(13,.pointer (some ⟨s_.2,0,none⟩))]) (fun s_ w'=>(w'.cell? ⟨c,0,none⟩=some (.int .i64 T)∧w'.cell? ⟨c,1,none⟩=some (.bool Q)∧w'.cell? ⟨c,2,none⟩=some (.int .i64 X)∧w'.cell? ⟨c,3,none⟩=some (.int .u64 Y)∧w'.cell? ⟨d,0,none⟩=some (.int .i64 U)∧w'.cell? ⟨d,1,none⟩=some (.bool W)∧w'.cell? ⟨d,2,none⟩=some (.int .i64 aa)∧w'.cell? ⟨d,3,none⟩=some (.int .u64 ab))∧(Kd.R (Kd.int .i64) 3 w' w.heap.size (fun _=>True) s_.1 ai)∧(w'.heap[s]?=some (.cells #[.int .i64 ae,.int .i64 af] 23 (0,0)))∧(w'.heap[c]?=some (.cells #[.int .i64 T,.bool Q,.int .i64 X,.int .u64 Y] 34 (0,0)))∧(w'.heap[d]?=some (.cells #[.int .i64 U,.bool W,.int .i64 aa,.int .u64 ab] 34 (0,0)))∧(w'.heap[s_.2]?=some (.cells #[.int .i64 0,.slice none 0 0,.int .i64 0] 73 (0,0)))∧(w.heap.size≤s_.2)∧(w.heap.size≤s_.2)∧(s≠s_.2)∧(s_.2≠s)∧(c≠s_.2)∧(s_.2≠c)∧(d≠s_.2)∧(s_.2≠d)∧(Below w.heap.size w w')) ?_ ?_
    rotate_left
    rotate_left
    ·skip
     rintro⟨v407,m⟩ an ⟨hS_,h0_,h1_,h2_,h3_,h4_,h5_,h6_,h7_,h8_,h9_,h10_,h11_,h12_,h13_⟩
     have n0_:Aside0 (Kd.R (Kd.int .i64) 3 an w.heap.size (fun _=>True) v407 ai):=⟨h0_⟩
     have n1_:Aside0 (an.heap[s]?=some (.cells #[.int .i64 ae,.int .i64 af] 23 (0,0))):=⟨h1_⟩
     have n2_:Aside0 (an.heap[c]?=some (.cells #[.int .i64 T,.bool Q,.int .i64 X,.int .u64 Y] 34 (0,0))):=⟨h2_⟩
     have n3_:Aside0 (an.heap[d]?=some (.cells #[.int .i64 U,.bool W,.int .i64 aa,.int .u64 ab] 34 (0,0))):=⟨h3_⟩
     have n4_:Aside0 (an.heap[m]?=some (.cells #[.int .i64 0,.slice none 0 0,.int .i64 0] 73 (0,0))):=⟨h4_⟩
     have n5_:Aside0 (w.heap.size≤m):=⟨h5_⟩
     have n6_:Aside0 (w.heap.size≤m):=⟨h6_⟩
     have n7_:Aside0 (s≠m):=⟨h7_⟩
     have n8_:Aside0 (m≠s):=⟨h8_⟩
     have n9_:Aside0 (c≠m):=⟨h9_⟩
     have n10_:Aside0 (m≠c):=⟨h10_⟩
     have n11_:Aside0 (d≠m):=⟨h11_⟩
     have n12_:Aside0 (m≠d):=⟨h12_⟩
     have n13_:Aside0 (Below w.heap.size w an):=⟨h13_⟩
     clear l
     clear a
     clear b
     clear HB
     clear h0_ h1_ h2_ h3_ h4_ h5_ h6_ h7_ h8_ h9_ h10_ h11_ h12_ h13_
     have u:=n0_
     have l:=n1_
     have a:=n2_
     have b:=n3_
     have v:=n4_
     have aj:=n5_
     have ak:=n6_
     have O:=n7_
     have F:=n8_
     have y:=n9_
     have G:=n10_
     have z:=n11_
     have I:=n12_
     have HB:=n13_
     clear n0_ n1_ n2_ n3_ n4_ n5_ n6_ n7_ n8_ n9_ n10_ n11_ n12_ n13_
     have hHeld:an.cell? ⟨c,0,none⟩=some (.int .i64 T)∧an.cell? ⟨c,1,none⟩=some (.bool Q)∧an.cell? ⟨c,2,none⟩=some (.int .i64 X)∧an.cell? ⟨c,3,none⟩=some (.int .u64 Y)∧an.cell? ⟨d,0,none⟩=some (.int .i64 U)∧an.cell? ⟨d,1,none⟩=some (.bool W)∧an.cell? ⟨d,2,none⟩=some (.int .i64 aa)∧an.cell? ⟨d,3,none⟩=some (.int .u64 ab):=hS_
     refine norm_ (a':=?_) ?_ ?_
     rotate_left
     ·simp only[putAll,Act.put,List.setIfInBounds_toArray,List.set_cons_zero,List.set_cons_succ]
      rfl
     refine two_ (i:=3) (j:=9) (Ni:=some 68) (Nj:=some 14) #[true,true,true,true,false,false,false,false,true,false,false,false] #[true,true,true,false,false,false,false,false,true,true,false,false] rfl rfl rfl rfl (two_of HT_.out (by kernel_rfl)) (by decide) (by decide) (fun K hK=>?_) (fun K hK=>?_)
     ·skip
      refine goes_ Try.func55 (by kernel_rfl) rfl #[.agg #[.int .i64 U,.bool W,.int .i64 aa,.int .u64 ab]] (by rfl) rfl rfl (by (try simp only[List.map_toArray,List.map_cons,List.map_nil]);first|done|rfl|(simp only[List.length_drop,List.length_take];rfl)) ?_
      with_reducible refine (grottoref03_exact.calls bJ.out).mono ?_
      rintro e aq ⟨v412,rfl,ho0,hb⟩
      refine⟨_,rfl,?_⟩
      have E:=Aside0.mk (Kd.R_lower (Kd.R_new' ho0 (Kd.R_lt (by (with_reducible repeat (first|apply Kd.R_alloc|apply Kd.R_drewN|apply Kd.R_drew));exact u.out))) (below_size (zb HB)))
      replace u:=Aside0.mk (Kd.R_elder' (by (with_reducible repeat (first|apply Kd.R_alloc|apply Kd.R_drewN|apply Kd.R_drew));exact u.out) (Kd.R_base ho0) hb)
      obtain⟨l,a,b,v,HB⟩:=zu4 l a b v HB hb
      try clear hb
      (try clear ho0)
      refine hK.out _ _ ⟨(blk_cell a.out 0).trans rfl,(blk_cell a.out 1).trans rfl,(blk_cell a.out 2).trans rfl,(blk_cell a.out 3).trans rfl,(blk_cell b.out 0).trans rfl,(blk_cell b.out 1).trans rfl,(blk_cell b.out 2).trans rfl,(blk_cell b.out 3).trans rfl⟩ (fun hHeld=>?_)
      clear hK K
      refine norm_ (a':=?_) ?_ ?_
      rotate_left
      ·show Act.put _ (some 68) _=_
       simp only[Act.put,List.setIfInBounds_toArray,List.set_cons_zero,List.set_cons_succ,i64_w,i32_w]
       rfl
      exact norm_ (by first|(simp only[putAll,Act.put,List.setIfInBounds_toArray,List.set_cons_zero,List.set_cons_succ];done)|(simp only[putAll,Act.put,List.setIfInBounds_toArray,List.set_cons_zero,List.set_cons_succ];rfl)) (hJ1_3_8 (v407,v412,m) _ ⟨hHeld,(by (with_reducible repeat (first|apply Kd.R_alloc|apply Kd.R_drewN|apply Kd.R_drew));exact Kd.R_mono u.out (fun _ hk=>hk.2)),(by (with_reducible repeat (first|apply Kd.R_alloc|apply Kd.R_drewN|apply Kd.R_drew));exact Kd.R_mono E.out (fun _ hk=>hk.2)),(zk l),(zk a),(zk b),(zk v),aj.out,ak.out,O.out,F.out,y.out,G.out,z.out,I.out,(zb HB)⟩)
     skip
     refine box_step ?hg (N:=14) ?hd (cs:=#[.int .i64 0,.slice none 0 0,.int .i64 0]) (t:=73) ?hr ?_;(case hd=>rfl);(case hg=>rfl);(case hr=>first|(go_simp;done)|(go_simp;rfl))
     intro q hg aq hbox hb
     have D:=Aside0.mk hbox
     have al:=zge hg HB
     have am:=zge hg HB
     have P:=znl hg l
     have J:=zng hg l
     have B:=znl hg a
     have L:=zng hg a
     have C:=znl hg b
     have M:=zng hg b
     have Z:=znl hg v
     have ac:=zng hg v
     replace u:=Aside0.mk (Kd.R_below (by (with_reducible repeat (first|apply Kd.R_alloc|apply Kd.R_drewN|apply Kd.R_drew));exact u.out) hb)
     obtain⟨l,a,b,v,HB⟩:=zu4 l a b v HB hb
     clear hb hbox hg
     refine hK.out _ _ ⟨(blk_cell a.out 0).trans rfl,(blk_cell a.out 1).trans rfl,(blk_cell a.out 2).trans rfl,(blk_cell a.out 3).trans rfl,(blk_cell b.out 0).trans rfl,(blk_cell b.out 1).trans rfl,(blk_cell b.out 2).trans rfl,(blk_cell b.out 3).trans rfl⟩ (fun hHeld=>?_)
     clear hK K
     refine norm_ (a':=?_) ?_ ?_
     rotate_left
     ·show Act.put _ (some 14) _=_
      simp only[Act.put,List.setIfInBounds_toArray,List.set_cons_zero,List.set_cons_succ,i64_w,i32_w]
      rfl
     exact norm_ (by first|(simp only[putAll,Act.put,List.setIfInBounds_toArray,List.set_cons_zero,List.set_cons_succ];done)|(simp only[putAll,Act.put,List.setIfInBounds_toArray,List.set_cons_zero,List.set_cons_succ];rfl)) (hJ1_8_9 (v407,m,q) _ ⟨hHeld,(by (with_reducible repeat (first|apply Kd.R_alloc|apply Kd.R_drewN|apply Kd.R_drew));exact u.out),(zk l),(zk a),(zk b),(zk v),(zk D),aj.out,ak.out,O.out,F.out,y.out,G.out,z.out,I.out,ac.out,Z.out,al.out,am.out,P.out,J.out,B.out,L.out,C.out,M.out,(zb HB)⟩)
    intro hJ1_8
    refine join_ (σ:=Value×Nat) 8 #[true,true,true,false,false,false,false,false,false,true,false,false] (fun s_=>[(66,.agg #[.int .i64 aG,s_.1,.int .i64 aH]),(14,.pointer (some ⟨s_.2,0,none⟩))]) (fun s_ w'=>(w'.cell? ⟨c,0,none⟩=some (.int .i64 T)∧w'.cell? ⟨c,1,none⟩=some (.bool Q)∧w'.cell? ⟨c,2,none⟩=some (.int .i64 X)∧w'.cell? ⟨c,3,none⟩=some (.int .u64 Y)∧w'.cell? ⟨d,0,none⟩=some (.int .i64 U)∧w'.cell? ⟨d,1,none⟩=some (.bool W)∧w'.cell? ⟨d,2,none⟩=some (.int .i64 aa)∧w'.cell? ⟨d,3,none⟩=some (.int .u64 ab))∧(Kd.R (Kd.int .i64) 3 w' w.heap.size (fun _=>True) s_.1 ai)∧(w'.heap[s]?=some (.cells #[.int .i64 ae,.int .i64 af] 23 (0,0)))∧(w'.heap[c]?=some (.cells #[.int .i64 T,.bool Q,.int .i64 X,.int .u64 Y] 34 (0,0)))∧(w'.heap[d]?=some (.cells #[.int .i64 U,.bool W,.int .i64 aa,.int .u64 ab] 34 (0,0)))∧(w'.heap[s_.2]?=some (.cells #[.int .i64 0,.slice none 0 0,.int .i64 0] 73 (0,0)))∧(w.heap.size≤s_.2)∧(w.heap.size≤s_.2)∧(s≠s_.2)∧(s_.2≠s)∧(c≠s_.2)∧(s_.2≠c)∧(d≠s_.2)∧(s_.2≠d)∧(Below w.heap.size w w')) ?_ ?_
    rotate_left
    rotate_left
    ·skip
     rintro⟨v407,q⟩ an ⟨hS_,h0_,h1_,h2_,h3_,h4_,h5_,h6_,h7_,h8_,h9_,h10_,h11_,h12_,h13_⟩
     have n0_:Aside0 (Kd.R (Kd.int .i64) 3 an w.heap.size (fun _=>True) v407 ai):=⟨h0_⟩
     have n1_:Aside0 (an.heap[s]?=some (.cells #[.int .i64 ae,.int .i64 af] 23 (0,0))):=⟨h1_⟩
     have n2_:Aside0 (an.heap[c]?=some (.cells #[.int .i64 T,.bool Q,.int .i64 X,.int .u64 Y] 34 (0,0))):=⟨h2_⟩
     have n3_:Aside0 (an.heap[d]?=some (.cells #[.int .i64 U,.bool W,.int .i64 aa,.int .u64 ab] 34 (0,0))):=⟨h3_⟩
     have n4_:Aside0 (an.heap[q]?=some (.cells #[.int .i64 0,.slice none 0 0,.int .i64 0] 73 (0,0))):=⟨h4_⟩
     have n5_:Aside0 (w.heap.size≤q):=⟨h5_⟩
     have n6_:Aside0 (w.heap.size≤q):=⟨h6_⟩
     have n7_:Aside0 (s≠q):=⟨h7_⟩
     have n8_:Aside0 (q≠s):=⟨h8_⟩
     have n9_:Aside0 (c≠q):=⟨h9_⟩
     have n10_:Aside0 (q≠c):=⟨h10_⟩
     have n11_:Aside0 (d≠q):=⟨h11_⟩
     have n12_:Aside0 (q≠d):=⟨h12_⟩
     have n13_:Aside0 (Below w.heap.size w an):=⟨h13_⟩
     clear l
     clear a
     clear b
     clear HB
     clear h0_ h1_ h2_ h3_ h4_ h5_ h6_ h7_ h8_ h9_ h10_ h11_ h12_ h13_
     have u:=n0_
     have l:=n1_
     have a:=n2_
     have b:=n3_
     have D:=n4_
     have al:=n5_
     have am:=n6_
     have P:=n7_
     have J:=n8_
     have B:=n9_
     have L:=n10_
     have C:=n11_
     have M:=n12_
     have HB:=n13_
     clear n0_ n1_ n2_ n3_ n4_ n5_ n6_ n7_ n8_ n9_ n10_ n11_ n12_ n13_
     have hHeld:an.cell? ⟨c,0,none⟩=some (.int .i64 T)∧an.cell? ⟨c,1,none⟩=some (.bool Q)∧an.cell? ⟨c,2,none⟩=some (.int .i64 X)∧an.cell? ⟨c,3,none⟩=some (.int .u64 Y)∧an.cell? ⟨d,0,none⟩=some (.int .i64 U)∧an.cell? ⟨d,1,none⟩=some (.bool W)∧an.cell? ⟨d,2,none⟩=some (.int .i64 aa)∧an.cell? ⟨d,3,none⟩=some (.int .u64 ab):=hS_
     refine norm_ (a':=?_) ?_ ?_
     rotate_left
     ·simp only[putAll,Act.put,List.setIfInBounds_toArray,List.set_cons_zero,List.set_cons_succ]
      rfl
     refine two_ (i:=3) (j:=8) (Ni:=some 68) (Nj:=some 13) #[true,true,true,true,false,false,false,false,false,true,false,false] #[true,true,true,false,false,false,false,false,true,true,false,false] rfl rfl rfl rfl (two_of HT_.out (by kernel_rfl)) (by decide) (by decide) (fun K hK=>?_) (fun K hK=>?_)
     ·skip
      refine goes_ Try.func55 (by kernel_rfl) rfl #[.agg #[.int .i64 U,.bool W,.int .i64 aa,.int .u64 ab]] (by rfl) rfl rfl (by (try simp only[List.map_toArray,List.map_cons,List.map_nil]);first|done|rfl|(simp only[List.length_drop,List.length_take];rfl)) ?_
      with_reducible refine (grottoref03_exact.calls bJ.out).mono ?_
      rintro e aq ⟨v412,rfl,ho0,hb⟩
      refine⟨_,rfl,?_⟩
      have E:=Aside0.mk (Kd.R_lower (Kd.R_new' ho0 (Kd.R_lt (by (with_reducible repeat (first|apply Kd.R_alloc|apply Kd.R_drewN|apply Kd.R_drew));exact u.out))) (below_size (zb HB)))
      replace u:=Aside0.mk (Kd.R_elder' (by (with_reducible repeat (first|apply Kd.R_alloc|apply Kd.R_drewN|apply Kd.R_drew));exact u.out) (Kd.R_base ho0) hb)
      obtain⟨l,a,b,D,HB⟩:=zu4 l a b D HB hb
      try clear hb
      (try clear ho0)
      refine hK.out _ _ ⟨(blk_cell a.out 0).trans rfl,(blk_cell a.out 1).trans rfl,(blk_cell a.out 2).trans rfl,(blk_cell a.out 3).trans rfl,(blk_cell b.out 0).trans rfl,(blk_cell b.out 1).trans rfl,(blk_cell b.out 2).trans rfl,(blk_cell b.out 3).trans rfl⟩ (fun hHeld=>?_)
      clear hK K
      refine norm_ (a':=?_) ?_ ?_
      rotate_left
      ·show Act.put _ (some 68) _=_
       simp only[Act.put,List.setIfInBounds_toArray,List.set_cons_zero,List.set_cons_succ,i64_w,i32_w]
       rfl
      exact norm_ (by first|(simp only[putAll,Act.put,List.setIfInBounds_toArray,List.set_cons_zero,List.set_cons_succ];done)|(simp only[putAll,Act.put,List.setIfInBounds_toArray,List.set_cons_zero,List.set_cons_succ];rfl)) (hJ1_3_9 (v407,v412,q) _ ⟨hHeld,(by (with_reducible repeat (first|apply Kd.R_alloc|apply Kd.R_drewN|apply Kd.R_drew));exact Kd.R_mono u.out (fun _ hk=>hk.2)),(by (with_reducible repeat (first|apply Kd.R_alloc|apply Kd.R_drewN|apply Kd.R_drew));exact Kd.R_mono E.out (fun _ hk=>hk.2)),(zk l),(zk a),(zk b),(zk D),al.out,am.out,P.out,J.out,B.out,L.out,C.out,M.out,(zb HB)⟩)
     skip
     refine box_step ?hg (N:=13) ?hd (cs:=#[.int .i64 0,.slice none 0 0,.int .i64 0]) (t:=73) ?hr ?_;(case hd=>rfl);(case hg=>rfl);(case hr=>first|(go_simp;done)|(go_simp;rfl))
     intro m hg aq hbox hb
     have v:=Aside0.mk hbox
     have aj:=zge hg HB
     have ak:=zge hg HB
     have O:=znl hg l
     have F:=zng hg l
     have y:=znl hg a
     have G:=zng hg a
     have z:=znl hg b
     have I:=zng hg b
     have ac:=znl hg D
     have Z:=zng hg D
     replace u:=Aside0.mk (Kd.R_below (by (with_reducible repeat (first|apply Kd.R_alloc|apply Kd.R_drewN|apply Kd.R_drew));exact u.out) hb)
     obtain⟨l,a,b,D,HB⟩:=zu4 l a b D HB hb
     clear hb hbox hg
     refine hK.out _ _ ⟨(blk_cell a.out 0).trans rfl,(blk_cell a.out 1).trans rfl,(blk_cell a.out 2).trans rfl,(blk_cell a.out 3).trans rfl,(blk_cell b.out 0).trans rfl,(blk_cell b.out 1).trans rfl,(blk_cell b.out 2).trans rfl,(blk_cell b.out 3).trans rfl⟩ (fun hHeld=>?_)
     clear hK K
     refine norm_ (a':=?_) ?_ ?_
     rotate_left
     ·show Act.put _ (some 13) _=_
      simp only[Act.put,List.setIfInBounds_toArray,List.set_cons_zero,List.set_cons_succ,i64_w,i32_w]
      rfl
     exact norm_ (by first|(simp only[putAll,Act.put,List.setIfInBounds_toArray,List.set_cons_zero,List.set_cons_succ];done)|(simp only[putAll,Act.put,List.setIfInBounds_toArray,List.set_cons_zero,List.set_cons_succ];rfl)) (hJ1_8_9 (v407,m,q) _ ⟨hHeld,(by (with_reducible repeat (first|apply Kd.R_alloc|apply Kd.R_drewN|apply Kd.R_drew));exact u.out),(zk l),(zk a),(zk b),(zk v),(zk D),aj.out,ak.out,O.out,F.out,y.out,G.out,z.out,I.out,ac.out,Z.out,al.out,am.out,P.out,J.out,B.out,L.out,C.out,M.out,(zb HB)⟩)
    intro hJ1_9
    refine join_ (σ:=Nat×Nat) 8 #[true,false,true,false,false,false,false,false,true,true,false,false] (fun s_=>[(13,.pointer (some ⟨s_.1,0,none⟩)),(14,.pointer (some ⟨s_.2,0,none⟩))]) (fun s_ w'=>(w'.cell? ⟨c,0,none⟩=some (.int .i64 T)∧w'.cell? ⟨c,1,none⟩=some (.bool Q)∧w'.cell? ⟨c,2,none⟩=some (.int .i64 X)∧w'.cell? ⟨c,3,none⟩=some (.int .u64 Y)∧w'.cell? ⟨d,0,none⟩=some (.int .i64 U)∧w'.cell? ⟨d,1,none⟩=some (.bool W)∧w'.cell? ⟨d,2,none⟩=some (.int .i64 aa)∧w'.cell? ⟨d,3,none⟩=some (.int .u64 ab))∧(w'.heap[s]?=some (.cells #[.int .i64 ae,.int .i64 af] 23 (0,0)))∧(w'.heap[c]?=some (.cells #[.int .i64 T,.bool Q,.int .i64 X,.int .u64 Y] 34 (0,0)))∧(w'.heap[d]?=some (.cells #[.int .i64 U,.bool W,.int .i64 aa,.int .u64 ab] 34 (0,0)))∧(w'.heap[s_.1]?=some (.cells #[.int .i64 0,.slice none 0 0,.int .i64 0] 73 (0,0)))∧(w'.heap[s_.2]?=some (.cells #[.int .i64 0,.slice none 0 0,.int .i64 0] 73 (0,0)))∧(w.heap.size≤s_.1)∧(w.heap.size≤s_.1)∧(s≠s_.1)∧(s_.1≠s)∧(c≠s_.1)∧(s_.1≠c)∧(d≠s_.1)∧(s_.1≠d)∧(s_.2≠s_.1)∧(s_.1≠s_.2)∧(w.heap.size≤s_.2)∧(w.heap.size≤s_.2)∧(s≠s_.2)∧(s_.2≠s)∧(c≠s_.2)∧(s_.2≠c)∧(d≠s_.2)∧(s_.2≠d)∧(Below w.heap.size w w')) ?_ ?_
    rotate_left
    rotate_left
    ·skip
     rintro⟨m,q⟩ an ⟨hS_,h0_,h1_,h2_,h3_,h4_,h5_,h6_,h7_,h8_,h9_,h10_,h11_,h12_,h13_,h14_,h15_,h16_,h17_,h18_,h19_,h20_,h21_,h22_,h23_⟩
     have n0_:Aside0 (an.heap[s]?=some (.cells #[.int .i64 ae,.int .i64 af] 23 (0,0))):=⟨h0_⟩
     have n1_:Aside0 (an.heap[c]?=some (.cells #[.int .i64 T,.bool Q,.int .i64 X,.int .u64 Y] 34 (0,0))):=⟨h1_⟩
     have n2_:Aside0 (an.heap[d]?=some (.cells #[.int .i64 U,.bool W,.int .i64 aa,.int .u64 ab] 34 (0,0))):=⟨h2_⟩
     have n3_:Aside0 (an.heap[m]?=some (.cells #[.int .i64 0,.slice none 0 0,.int .i64 0] 73 (0,0))):=⟨h3_⟩
     have n4_:Aside0 (an.heap[q]?=some (.cells #[.int .i64 0,.slice none 0 0,.int .i64 0] 73 (0,0))):=⟨h4_⟩
     have n5_:Aside0 (w.heap.size≤m):=⟨h5_⟩
     have n6_:Aside0 (w.heap.size≤m):=⟨h6_⟩
     have n7_:Aside0 (s≠m):=⟨h7_⟩
     have n8_:Aside0 (m≠s):=⟨h8_⟩
     have n9_:Aside0 (c≠m):=⟨h9_⟩
     have n10_:Aside0 (m≠c):=⟨h10_⟩
     have n11_:Aside0 (d≠m):=⟨h11_⟩
     have n12_:Aside0 (m≠d):=⟨h12_⟩
     have n13_:Aside0 (q≠m):=⟨h13_⟩
     have n14_:Aside0 (m≠q):=⟨h14_⟩
     have n15_:Aside0 (w.heap.size≤q):=⟨h15_⟩
     have n16_:Aside0 (w.heap.size≤q):=⟨h16_⟩
     have n17_:Aside0 (s≠q):=⟨h17_⟩
     have n18_:Aside0 (q≠s):=⟨h18_⟩
     have n19_:Aside0 (c≠q):=⟨h19_⟩
     have n20_:Aside0 (q≠c):=⟨h20_⟩
     have n21_:Aside0 (d≠q):=⟨h21_⟩
     have n22_:Aside0 (q≠d):=⟨h22_⟩
     have n23_:Aside0 (Below w.heap.size w an):=⟨h23_⟩
     clear l
     clear a
     clear b
     clear HB
     clear h0_ h1_ h2_ h3_ h4_ h5_ h6_ h7_ h8_ h9_ h10_ h11_ h12_ h13_ h14_ h15_ h16_ h17_ h18_ h19_ h20_ h21_ h22_ h23_
     have l:=n0_
     have a:=n1_
     have b:=n2_
     have v:=n3_
     have D:=n4_
     have aj:=n5_
     have ak:=n6_
     have O:=n7_
     have F:=n8_
     have y:=n9_
     have G:=n10_
     have z:=n11_
     have I:=n12_
     have ac:=n13_
     have Z:=n14_
     have al:=n15_
     have am:=n16_
     have P:=n17_
     have J:=n18_
     have B:=n19_
     have L:=n20_
     have C:=n21_
     have M:=n22_
     have HB:=n23_
     clear n0_ n1_ n2_ n3_ n4_ n5_ n6_ n7_ n8_ n9_ n10_ n11_ n12_ n13_ n14_ n15_ n16_ n17_ n18_ n19_ n20_ n21_ n22_ n23_
     have hHeld:an.cell? ⟨c,0,none⟩=some (.int .i64 T)∧an.cell? ⟨c,1,none⟩=some (.bool Q)∧an.cell? ⟨c,2,none⟩=some (.int .i64 X)∧an.cell? ⟨c,3,none⟩=some (.int .u64 Y)∧an.cell? ⟨d,0,none⟩=some (.int .i64 U)∧an.cell? ⟨d,1,none⟩=some (.bool W)∧an.cell? ⟨d,2,none⟩=some (.int .i64 aa)∧an.cell? ⟨d,3,none⟩=some (.int .u64 ab):=hS_
     refine norm_ (a':=?_) ?_ ?_
     rotate_left
     ·simp only[putAll,Act.put,List.setIfInBounds_toArray,List.set_cons_zero,List.set_cons_succ]
      rfl
     refine one_ (i:=1) (N:=some 66) #[true,true,true,false,false,false,false,false,true,true,false,false] rfl rfl (one_of HT_.out (by kernel_rfl)) (by decide) (fun K hK=>?_)
     refine goes_ Try.func55 (by kernel_rfl) rfl #[.agg #[.int .i64 T,.bool Q,.int .i64 X,.int .u64 Y]] (by rfl) rfl rfl (by (try simp only[List.map_toArray,List.map_cons,List.map_nil]);first|done|rfl|(simp only[List.length_drop,List.length_take];rfl)) ?_
     with_reducible refine (grottoref03_exact.calls bI.out).mono ?_
     rintro e aq ⟨v407,rfl,ho0,hb⟩
     refine⟨_,rfl,?_⟩
     have u:=Aside0.mk (Kd.R_lower ho0 (below_size (zb HB)))
     obtain⟨l,a,b,v,D,HB⟩:=zu5 l a b v D HB hb
     try clear hb
     (try clear ho0)
     refine hK.out _ _ ⟨(blk_cell a.out 0).trans rfl,(blk_cell a.out 1).trans rfl,(blk_cell a.out 2).trans rfl,(blk_cell a.out 3).trans rfl,(blk_cell b.out 0).trans rfl,(blk_cell b.out 1).trans rfl,(blk_cell b.out 2).trans rfl,(blk_cell b.out 3).trans rfl⟩ (fun hHeld=>?_)
     clear hK K
     refine norm_ (a':=?_) ?_ ?_
     rotate_left
     ·show Act.put _ (some 66) _=_
      simp only[Act.put,List.setIfInBounds_toArray,List.set_cons_zero,List.set_cons_succ,i64_w,i32_w]
      rfl
     exact norm_ (by first|(simp only[putAll,Act.put,List.setIfInBounds_toArray,List.set_cons_zero,List.set_cons_succ];done)|(simp only[putAll,Act.put,List.setIfInBounds_toArray,List.set_cons_zero,List.set_cons_succ];rfl)) (hJ1_8_9 (v407,m,q) _ ⟨hHeld,(by (with_reducible repeat (first|apply Kd.R_alloc|apply Kd.R_drewN|apply Kd.R_drew));exact u.out),(zk l),(zk a),(zk b),(zk v),(zk D),aj.out,ak.out,O.out,F.out,y.out,G.out,z.out,I.out,ac.out,Z.out,al.out,am.out,P.out,J.out,B.out,L.out,C.out,M.out,(zb HB)⟩)
    intro hJ8_9
    refine join_ (σ:=Value) 9 #[true,true,true,false,false,false,false,false,false,false,false,false] (fun s_=>[(66,.agg #[.int .i64 aG,s_,.int .i64 aH])]) (fun s_ w'=>(w'.cell? ⟨c,0,none⟩=some (.int .i64 T)∧w'.cell? ⟨c,1,none⟩=some (.bool Q)∧w'.cell? ⟨c,2,none⟩=some (.int .i64 X)∧w'.cell? ⟨c,3,none⟩=some (.int .u64 Y)∧w'.cell? ⟨d,0,none⟩=some (.int .i64 U)∧w'.cell? ⟨d,1,none⟩=some (.bool W)∧w'.cell? ⟨d,2,none⟩=some (.int .i64 aa)∧w'.cell? ⟨d,3,none⟩=some (.int .u64 ab))∧(Kd.R (Kd.int .i64) 3 w' w.heap.size (fun _=>True) s_ ai)∧(w'.heap[s]?=some (.cells #[.int .i64 ae,.int .i64 af] 23 (0,0)))∧(w'.heap[c]?=some (.cells #[.int .i64 T,.bool Q,.int .i64 X,.int .u64 Y] 34 (0,0)))∧(w'.heap[d]?=some (.cells #[.int .i64 U,.bool W,.int .i64 aa,.int .u64 ab] 34 (0,0)))∧(Below w.heap.size w w')) ?_ ?_
    rotate_left
    rotate_left
    ·skip
     rintro v407 ay ⟨hS_,h0_,h1_,h2_,h3_,h4_⟩
     have n0_:Aside0 (Kd.R (Kd.int .i64) 3 ay w.heap.size (fun _=>True) v407 ai):=⟨h0_⟩
     have n1_:Aside0 (ay.heap[s]?=some (.cells #[.int .i64 ae,.int .i64 af] 23 (0,0))):=⟨h1_⟩
     have n2_:Aside0 (ay.heap[c]?=some (.cells #[.int .i64 T,.bool Q,.int .i64 X,.int .u64 Y] 34 (0,0))):=⟨h2_⟩
     have n3_:Aside0 (ay.heap[d]?=some (.cells #[.int .i64 U,.bool W,.int .i64 aa,.int .u64 ab] 34 (0,0))):=⟨h3_⟩
     have n4_:Aside0 (Below w.heap.size w ay):=⟨h4_⟩
     clear l
     clear a
     clear b
     clear HB
     clear h0_ h1_ h2_ h3_ h4_
     have u:=n0_
     have l:=n1_
     have a:=n2_
     have b:=n3_
     have HB:=n4_
     clear n0_ n1_ n2_ n3_ n4_
     have hHeld:ay.cell? ⟨c,0,none⟩=some (.int .i64 T)∧ay.cell? ⟨c,1,none⟩=some (.bool Q)∧ay.cell? ⟨c,2,none⟩=some (.int .i64 X)∧ay.cell? ⟨c,3,none⟩=some (.int .u64 Y)∧ay.cell? ⟨d,0,none⟩=some (.int .i64 U)∧ay.cell? ⟨d,1,none⟩=some (.bool W)∧ay.cell? ⟨d,2,none⟩=some (.int .i64 aa)∧ay.cell? ⟨d,3,none⟩=some (.int .u64 ab):=hS_
     refine norm_ (a':=?_) ?_ ?_
     rotate_left
     ·simp only[putAll,Act.put,List.setIfInBounds_toArray,List.set_cons_zero,List.set_cons_succ]
      rfl
     refine three_ (i:=3) (j:=8) (k:=9) (Ni:=some 68) (Nj:=some 13) (Nk:=some 14) #[true,true,true,true,false,false,false,false,false,false,false,false] #[true,true,true,false,false,false,false,false,true,false,false,false] #[true,true,true,false,false,false,false,false,false,true,false,false] rfl rfl rfl rfl rfl rfl (three_of HT_.out (by kernel_rfl)) (by decide) (by decide) (by decide) (fun K hK=>?_) (fun K hK=>?_) (fun K hK=>?_)
     ·skip
      refine goes_ Try.func55 (by kernel_rfl) rfl #[.agg #[.int .i64 U,.bool W,.int .i64 aa,.int .u64 ab]] (by rfl) rfl rfl (by (try simp only[List.map_toArray,List.map_cons,List.map_nil]);first|done|rfl|(simp only[List.length_drop,List.length_take];rfl)) ?_
      with_reducible refine (grottoref03_exact.calls bJ.out).mono ?_
      rintro e an ⟨v412,rfl,ho0,hb⟩
      refine⟨_,rfl,?_⟩
      have E:=Aside0.mk (Kd.R_lower (Kd.R_new' ho0 (Kd.R_lt (by (with_reducible repeat (first|apply Kd.R_alloc|apply Kd.R_drewN|apply Kd.R_drew));exact u.out))) (below_size (zb HB)))
      replace u:=Aside0.mk (Kd.R_elder' (by (with_reducible repeat (first|apply Kd.R_alloc|apply Kd.R_drewN|apply Kd.R_drew));exact u.out) (Kd.R_base ho0) hb)
      obtain⟨l,a,b,HB⟩:=zu3 l a b HB hb
      try clear hb
      (try clear ho0)
      refine hK.out _ _ ⟨(blk_cell a.out 0).trans rfl,(blk_cell a.out 1).trans rfl,(blk_cell a.out 2).trans rfl,(blk_cell a.out 3).trans rfl,(blk_cell b.out 0).trans rfl,(blk_cell b.out 1).trans rfl,(blk_cell b.out 2).trans rfl,(blk_cell b.out 3).trans rfl⟩ (fun hHeld=>?_)
      clear hK K
      refine norm_ (a':=?_) ?_ ?_
      rotate_left
      ·show Act.put _ (some 68) _=_
       simp only[Act.put,List.setIfInBounds_toArray,List.set_cons_zero,List.set_cons_succ,i64_w,i32_w]
       rfl
      exact norm_ (by first|(simp only[putAll,Act.put,List.setIfInBounds_toArray,List.set_cons_zero,List.set_cons_succ];done)|(simp only[putAll,Act.put,List.setIfInBounds_toArray,List.set_cons_zero,List.set_cons_succ];rfl)) (hJ1_3 (v407,v412) _ ⟨hHeld,(by (with_reducible repeat (first|apply Kd.R_alloc|apply Kd.R_drewN|apply Kd.R_drew));exact Kd.R_mono u.out (fun _ hk=>hk.2)),(by (with_reducible repeat (first|apply Kd.R_alloc|apply Kd.R_drewN|apply Kd.R_drew));exact Kd.R_mono E.out (fun _ hk=>hk.2)),(zk l),(zk a),(zk b),(zb HB)⟩)
     ·skip
      refine box_step ?hg (N:=13) ?hd (cs:=#[.int .i64 0,.slice none 0 0,.int .i64 0]) (t:=73) ?hr ?_;(case hd=>rfl);(case hg=>rfl);(case hr=>first|(go_simp;done)|(go_simp;rfl))
      intro m hg an hbox hb
      have v:=Aside0.mk hbox
      have aj:=zge hg HB
      have ak:=zge hg HB
      have O:=znl hg l
      have F:=zng hg l
      have y:=znl hg a
      have G:=zng hg a
      have z:=znl hg b
      have I:=zng hg b
      replace u:=Aside0.mk (Kd.R_below (by (with_reducible repeat (first|apply Kd.R_alloc|apply Kd.R_drewN|apply Kd.R_drew));exact u.out) hb)
      obtain⟨l,a,b,HB⟩:=zu3 l a b HB hb
      clear hb hbox hg
      refine hK.out _ _ ⟨(blk_cell a.out 0).trans rfl,(blk_cell a.out 1).trans rfl,(blk_cell a.out 2).trans rfl,(blk_cell a.out 3).trans rfl,(blk_cell b.out 0).trans rfl,(blk_cell b.out 1).trans rfl,(blk_cell b.out 2).trans rfl,(blk_cell b.out 3).trans rfl⟩ (fun hHeld=>?_)
      clear hK K
      refine norm_ (a':=?_) ?_ ?_
      rotate_left
      ·show Act.put _ (some 13) _=_
       simp only[Act.put,List.setIfInBounds_toArray,List.set_cons_zero,List.set_cons_succ,i64_w,i32_w]
       rfl
      exact norm_ (by first|(simp only[putAll,Act.put,List.setIfInBounds_toArray,List.set_cons_zero,List.set_cons_succ];done)|(simp only[putAll,Act.put,List.setIfInBounds_toArray,List.set_cons_zero,List.set_cons_succ];rfl)) (hJ1_8 (v407,m) _ ⟨hHeld,(by (with_reducible repeat (first|apply Kd.R_alloc|apply Kd.R_drewN|apply Kd.R_drew));exact u.out),(zk l),(zk a),(zk b),(zk v),aj.out,ak.out,O.out,F.out,y.out,G.out,z.out,I.out,(zb HB)⟩)
     skip
     refine box_step ?hg (N:=14) ?hd (cs:=#[.int .i64 0,.slice none 0 0,.int .i64 0]) (t:=73) ?hr ?_;(case hd=>rfl);(case hg=>rfl);(case hr=>first|(go_simp;done)|(go_simp;rfl))
     intro q hg an hbox hb
     have D:=Aside0.mk hbox
     have al:=zge hg HB
     have am:=zge hg HB
     have P:=znl hg l
     have J:=zng hg l
     have B:=znl hg a
     have L:=zng hg a
     have C:=znl hg b
     have M:=zng hg b
     replace u:=Aside0.mk (Kd.R_below (by (with_reducible repeat (first|apply Kd.R_alloc|apply Kd.R_drewN|apply Kd.R_drew));exact u.out) hb)
     obtain⟨l,a,b,HB⟩:=zu3 l a b HB hb
     clear hb hbox hg
     refine hK.out _ _ ⟨(blk_cell a.out 0).trans rfl,(blk_cell a.out 1).trans rfl,(blk_cell a.out 2).trans rfl,(blk_cell a.out 3).trans rfl,(blk_cell b.out 0).trans rfl,(blk_cell b.out 1).trans rfl,(blk_cell b.out 2).trans rfl,(blk_cell b.out 3).trans rfl⟩ (fun hHeld=>?_)
     clear hK K
     refine norm_ (a':=?_) ?_ ?_
     rotate_left
     ·show Act.put _ (some 14) _=_
      simp only[Act.put,List.setIfInBounds_toArray,List.set_cons_zero,List.set_cons_succ,i64_w,i32_w]
      rfl
     exact norm_ (by first|(simp only[putAll,Act.put,List.setIfInBounds_toArray,List.set_cons_zero,List.set_cons_succ];done)|(simp only[putAll,Act.put,List.setIfInBounds_toArray,List.set_cons_zero,List.set_cons_succ];rfl)) (hJ1_9 (v407,q) _ ⟨hHeld,(by (with_reducible repeat (first|apply Kd.R_alloc|apply Kd.R_drewN|apply Kd.R_drew));exact u.out),(zk l),(zk a),(zk b),(zk D),al.out,am.out,P.out,J.out,B.out,L.out,C.out,M.out,(zb HB)⟩)
    intro hJ1
    refine join_ (σ:=Nat) 9 #[true,false,true,false,false,false,false,false,true,false,false,false] (fun s_=>[(13,.pointer (some ⟨s_,0,none⟩))]) (fun s_ w'=>(w'.cell? ⟨c,0,none⟩=some (.int .i64 T)∧w'.cell? ⟨c,1,none⟩=some (.bool Q)∧w'.cell? ⟨c,2,none⟩=some (.int .i64 X)∧w'.cell? ⟨c,3,none⟩=some (.int .u64 Y)∧w'.cell? ⟨d,0,none⟩=some (.int .i64 U)∧w'.cell? ⟨d,1,none⟩=some (.bool W)∧w'.cell? ⟨d,2,none⟩=some (.int .i64 aa)∧w'.cell? ⟨d,3,none⟩=some (.int .u64 ab))∧(w'.heap[s]?=some (.cells #[.int .i64 ae,.int .i64 af] 23 (0,0)))∧(w'.heap[c]?=some (.cells #[.int .i64 T,.bool Q,.int .i64 X,.int .u64 Y] 34 (0,0)))∧(w'.heap[d]?=some (.cells #[.int .i64 U,.bool W,.int .i64 aa,.int .u64 ab] 34 (0,0)))∧(w'.heap[s_]?=some (.cells #[.int .i64 0,.slice none 0 0,.int .i64 0] 73 (0,0)))∧(w.heap.size≤s_)∧(w.heap.size≤s_)∧(s≠s_)∧(s_≠s)∧(c≠s_)∧(s_≠c)∧(d≠s_)∧(s_≠d)∧(Below w.heap.size w w')) ?_ ?_
    rotate_left
    rotate_left
    ·skip
     rintro m ay ⟨hS_,h0_,h1_,h2_,h3_,h4_,h5_,h6_,h7_,h8_,h9_,h10_,h11_,h12_⟩
     have n0_:Aside0 (ay.heap[s]?=some (.cells #[.int .i64 ae,.int .i64 af] 23 (0,0))):=⟨h0_⟩
     have n1_:Aside0 (ay.heap[c]?=some (.cells #[.int .i64 T,.bool Q,.int .i64 X,.int .u64 Y] 34 (0,0))):=⟨h1_⟩
     have n2_:Aside0 (ay.heap[d]?=some (.cells #[.int .i64 U,.bool W,.int .i64 aa,.int .u64 ab] 34 (0,0))):=⟨h2_⟩
     have n3_:Aside0 (ay.heap[m]?=some (.cells #[.int .i64 0,.slice none 0 0,.int .i64 0] 73 (0,0))):=⟨h3_⟩
     have n4_:Aside0 (w.heap.size≤m):=⟨h4_⟩
     have n5_:Aside0 (w.heap.size≤m):=⟨h5_⟩
     have n6_:Aside0 (s≠m):=⟨h6_⟩
     have n7_:Aside0 (m≠s):=⟨h7_⟩
     have n8_:Aside0 (c≠m):=⟨h8_⟩
     have n9_:Aside0 (m≠c):=⟨h9_⟩
     have n10_:Aside0 (d≠m):=⟨h10_⟩
     have n11_:Aside0 (m≠d):=⟨h11_⟩
     have n12_:Aside0 (Below w.heap.size w ay):=⟨h12_⟩
     clear l
     clear a
     clear b
     clear HB
     clear h0_ h1_ h2_ h3_ h4_ h5_ h6_ h7_ h8_ h9_ h10_ h11_ h12_
     have l:=n0_
     have a:=n1_
     have b:=n2_
     have v:=n3_
     have aj:=n4_
     have ak:=n5_
     have O:=n6_
     have F:=n7_
     have y:=n8_
     have G:=n9_
     have z:=n10_
     have I:=n11_
     have HB:=n12_
     clear n0_ n1_ n2_ n3_ n4_ n5_ n6_ n7_ n8_ n9_ n10_ n11_ n12_
     have hHeld:ay.cell? ⟨c,0,none⟩=some (.int .i64 T)∧ay.cell? ⟨c,1,none⟩=some (.bool Q)∧ay.cell? ⟨c,2,none⟩=some (.int .i64 X)∧ay.cell? ⟨c,3,none⟩=some (.int .u64 Y)∧ay.cell? ⟨d,0,none⟩=some (.int .i64 U)∧ay.cell? ⟨d,1,none⟩=some (.bool W)∧ay.cell? ⟨d,2,none⟩=some (.int .i64 aa)∧ay.cell? ⟨d,3,none⟩=some (.int .u64 ab):=hS_
     refine norm_ (a':=?_) ?_ ?_
     rotate_left
     ·simp only[putAll,Act.put,List.setIfInBounds_toArray,List.set_cons_zero,List.set_cons_succ]
      rfl
     refine two_ (i:=1) (j:=9) (Ni:=some 66) (Nj:=some 14) #[true,true,true,false,false,false,false,false,true,false,false,false] #[true,false,true,false,false,false,false,false,true,true,false,false] rfl rfl rfl rfl (two_of HT_.out (by kernel_rfl)) (by decide) (by decide) (fun K hK=>?_) (fun K hK=>?_)
     ·skip
      refine goes_ Try.func55 (by kernel_rfl) rfl #[.agg #[.int .i64 T,.bool Q,.int .i64 X,.int .u64 Y]] (by rfl) rfl rfl (by (try simp only[List.map_toArray,List.map_cons,List.map_nil]);first|done|rfl|(simp only[List.length_drop,List.length_take];rfl)) ?_
      with_reducible refine (grottoref03_exact.calls bI.out).mono ?_
      rintro e an ⟨v407,rfl,ho0,hb⟩
      refine⟨_,rfl,?_⟩
      have u:=Aside0.mk (Kd.R_lower ho0 (below_size (zb HB)))
      obtain⟨l,a,b,v,HB⟩:=zu4 l a b v HB hb
      try clear hb
      (try clear ho0)
      refine hK.out _ _ ⟨(blk_cell a.out 0).trans rfl,(blk_cell a.out 1).trans rfl,(blk_cell a.out 2).trans rfl,(blk_cell a.out 3).trans rfl,(blk_cell b.out 0).trans rfl,(blk_cell b.out 1).trans rfl,(blk_cell b.out 2).trans rfl,(blk_cell b.out 3).trans rfl⟩ (fun hHeld=>?_)
      clear hK K
      refine norm_ (a':=?_) ?_ ?_
      rotate_left
      ·show Act.put _ (some 66) _=_
       simp only[Act.put,List.setIfInBounds_toArray,List.set_cons_zero,List.set_cons_succ,i64_w,i32_w]
       rfl
      exact norm_ (by first|(simp only[putAll,Act.put,List.setIfInBounds_toArray,List.set_cons_zero,List.set_cons_succ];done)|(simp only[putAll,Act.put,List.setIfInBounds_toArray,List.set_cons_zero,List.set_cons_succ];rfl)) (hJ1_8 (v407,m) _ ⟨hHeld,(by (with_reducible repeat (first|apply Kd.R_alloc|apply Kd.R_drewN|apply Kd.R_drew));exact u.out),(zk l),(zk a),(zk b),(zk v),aj.out,ak.out,O.out,F.out,y.out,G.out,z.out,I.out,(zb HB)⟩)
     skip
     refine box_step ?hg (N:=14) ?hd (cs:=#[.int .i64 0,.slice none 0 0,.int .i64 0]) (t:=73) ?hr ?_;(case hd=>rfl);(case hg=>rfl);(case hr=>first|(go_simp;done)|(go_simp;rfl))
     intro q hg an hbox hb
     have D:=Aside0.mk hbox
     have al:=zge hg HB
     have am:=zge hg HB
     have P:=znl hg l
     have J:=zng hg l
     have B:=znl hg a
     have L:=zng hg a
     have C:=znl hg b
     have M:=zng hg b
     have Z:=znl hg v
     have ac:=zng hg v
     obtain⟨l,a,b,v,HB⟩:=zu4 l a b v HB hb
     clear hb hbox hg
     refine hK.out _ _ ⟨(blk_cell a.out 0).trans rfl,(blk_cell a.out 1).trans rfl,(blk_cell a.out 2).trans rfl,(blk_cell a.out 3).trans rfl,(blk_cell b.out 0).trans rfl,(blk_cell b.out 1).trans rfl,(blk_cell b.out 2).trans rfl,(blk_cell b.out 3).trans rfl⟩ (fun hHeld=>?_)
     clear hK K
     refine norm_ (a':=?_) ?_ ?_
     rotate_left
     ·show Act.put _ (some 14) _=_
      simp only[Act.put,List.setIfInBounds_toArray,List.set_cons_zero,List.set_cons_succ,i64_w,i32_w]
      rfl
     exact norm_ (by first|(simp only[putAll,Act.put,List.setIfInBounds_toArray,List.set_cons_zero,List.set_cons_succ];done)|(simp only[putAll,Act.put,List.setIfInBounds_toArray,List.set_cons_zero,List.set_cons_succ];rfl)) (hJ8_9 (m,q) _ ⟨hHeld,(zk l),(zk a),(zk b),(zk v),(zk D),aj.out,ak.out,O.out,F.out,y.out,G.out,z.out,I.out,ac.out,Z.out,al.out,am.out,P.out,J.out,B.out,L.out,C.out,M.out,(zb HB)⟩)
    intro hJ8
    refine join_ (σ:=Nat) 9 #[true,false,true,false,false,false,false,false,false,true,false,false] (fun s_=>[(14,.pointer (some ⟨s_,0,none⟩))]) (fun s_ w'=>(w'.cell? ⟨c,0,none⟩=some (.int .i64 T)∧w'.cell? ⟨c,1,none⟩=some (.bool Q)∧w'.cell? ⟨c,2,none⟩=some (.int .i64 X)∧w'.cell? ⟨c,3,none⟩=some (.int .u64 Y)∧w'.cell? ⟨d,0,none⟩=some (.int .i64 U)∧w'.cell? ⟨d,1,none⟩=some (.bool W)∧w'.cell? ⟨d,2,none⟩=some (.int .i64 aa)∧w'.cell? ⟨d,3,none⟩=some (.int .u64 ab))∧(w'.heap[s]?=some (.cells #[.int .i64 ae,.int .i64 af] 23 (0,0)))∧(w'.heap[c]?=some (.cells #[.int .i64 T,.bool Q,.int .i64 X,.int .u64 Y] 34 (0,0)))∧(w'.heap[d]?=some (.cells #[.int .i64 U,.bool W,.int .i64 aa,.int .u64 ab] 34 (0,0)))∧(w'.heap[s_]?=some (.cells #[.int .i64 0,.slice none 0 0,.int .i64 0] 73 (0,0)))∧(w.heap.size≤s_)∧(w.heap.size≤s_)∧(s≠s_)∧(s_≠s)∧(c≠s_)∧(s_≠c)∧(d≠s_)∧(s_≠d)∧(Below w.heap.size w w')) ?_ ?_
    rotate_left
    ·intro hJ9
     refine three_ (i:=1) (j:=8) (k:=9) (Ni:=some 66) (Nj:=some 13) (Nk:=some 14) #[true,true,true,false,false,false,false,false,false,false,false,false] #[true,false,true,false,false,false,false,false,true,false,false,false] #[true,false,true,false,false,false,false,false,false,true,false,false] rfl rfl rfl rfl rfl rfl (three_of HT_.out (by kernel_rfl)) (by decide) (by decide) (by decide) (fun K hK=>?_) (fun K hK=>?_) (fun K hK=>?_)
     ·skip
      refine goes_ Try.func55 (by kernel_rfl) rfl #[.agg #[.int .i64 T,.bool Q,.int .i64 X,.int .u64 Y]] (by rfl) rfl rfl (by (try simp only[List.map_toArray,List.map_cons,List.map_nil]);first|done|rfl|(simp only[List.length_drop,List.length_take];rfl)) ?_
      with_reducible refine (grottoref03_exact.calls bI.out).mono ?_
      rintro e dQ ⟨v407,rfl,ho0,hb⟩
      refine⟨_,rfl,?_⟩
      have u:=Aside0.mk (Kd.R_lower ho0 (below_size (zb HB)))
      obtain⟨l,a,b,HB⟩:=zu3 l a b HB hb
      try clear hb
      (try clear ho0)
      refine hK.out _ _ ⟨(blk_cell a.out 0).trans rfl,(blk_cell a.out 1).trans rfl,(blk_cell a.out 2).trans rfl,(blk_cell a.out 3).trans rfl,(blk_cell b.out 0).trans rfl,(blk_cell b.out 1).trans rfl,(blk_cell b.out 2).trans rfl,(blk_cell b.out 3).trans rfl⟩ (fun hHeld=>?_)
      clear hK K
      refine norm_ (a':=?_) ?_ ?_
      rotate_left
      ·show Act.put _ (some 66) _=_
       simp only[Act.put,List.setIfInBounds_toArray,List.set_cons_zero,List.set_cons_succ,i64_w,i32_w]
       rfl
      exact norm_ (by first|(simp only[putAll,Act.put,List.setIfInBounds_toArray,List.set_cons_zero,List.set_cons_succ];done)|(simp only[putAll,Act.put,List.setIfInBounds_toArray,List.set_cons_zero,List.set_cons_succ];rfl)) (hJ1 (v407) _ ⟨hHeld,(by (with_reducible repeat (first|apply Kd.R_alloc|apply Kd.R_drewN|apply Kd.R_drew));exact u.out),(zk l),(zk a),(zk b),(zb HB)⟩)
     ·skip
      refine box_step ?hg (N:=13) ?hd (cs:=#[.int .i64 0,.slice none 0 0,.int .i64 0]) (t:=73) ?hr ?_;(case hd=>rfl);(case hg=>rfl);(case hr=>first|(go_simp;done)|(go_simp;rfl))
      intro m hg dQ hbox hb
      have v:=Aside0.mk hbox
      have aj:=zge hg HB
      have ak:=zge hg HB
      have O:=znl hg l
      have F:=zng hg l
      have y:=znl hg a
      have G:=zng hg a
      have z:=znl hg b
      have I:=zng hg b
      obtain⟨l,a,b,HB⟩:=zu3 l a b HB hb
      clear hb hbox hg
      refine hK.out _ _ ⟨(blk_cell a.out 0).trans rfl,(blk_cell a.out 1).trans rfl,(blk_cell a.out 2).trans rfl,(blk_cell a.out 3).trans rfl,(blk_cell b.out 0).trans rfl,(blk_cell b.out 1).trans rfl,(blk_cell b.out 2).trans rfl,(blk_cell b.out 3).trans rfl⟩ (fun hHeld=>?_)
      clear hK K
      refine norm_ (a':=?_) ?_ ?_
      rotate_left
      ·show Act.put _ (some 13) _=_
       simp only[Act.put,List.setIfInBounds_toArray,List.set_cons_zero,List.set_cons_succ,i64_w,i32_w]
       rfl
      exact norm_ (by first|(simp only[putAll,Act.put,List.setIfInBounds_toArray,List.set_cons_zero,List.set_cons_succ];done)|(simp only[putAll,Act.put,List.setIfInBounds_toArray,List.set_cons_zero,List.set_cons_succ];rfl)) (hJ8 (m) _ ⟨hHeld,(zk l),(zk a),(zk b),(zk v),aj.out,ak.out,O.out,F.out,y.out,G.out,z.out,I.out,(zb HB)⟩)
     skip
     refine box_step ?hg (N:=14) ?hd (cs:=#[.int .i64 0,.slice none 0 0,.int .i64 0]) (t:=73) ?hr ?_;(case hd=>rfl);(case hg=>rfl);(case hr=>first|(go_simp;done)|(go_simp;rfl))
     intro q hg dQ hbox hb
     have D:=Aside0.mk hbox
     have al:=zge hg HB
     have am:=zge hg HB
     have P:=znl hg l
     have J:=zng hg l
     have B:=znl hg a
     have L:=zng hg a
     have C:=znl hg b
     have M:=zng hg b
     obtain⟨l,a,b,HB⟩:=zu3 l a b HB hb
     clear hb hbox hg
     refine hK.out _ _ ⟨(blk_cell a.out 0).trans rfl,(blk_cell a.out 1).trans rfl,(blk_cell a.out 2).trans rfl,(blk_cell a.out 3).trans rfl,(blk_cell b.out 0).trans rfl,(blk_cell b.out 1).trans rfl,(blk_cell b.out 2).trans rfl,(blk_cell b.out 3).trans rfl⟩ (fun hHeld=>?_)
     clear hK K
     refine norm_ (a':=?_) ?_ ?_
     rotate_left
     ·show Act.put _ (some 14) _=_
      simp only[Act.put,List.setIfInBounds_toArray,List.set_cons_zero,List.set_cons_succ,i64_w,i32_w]
      rfl
     exact norm_ (by first|(simp only[putAll,Act.put,List.setIfInBounds_toArray,List.set_cons_zero,List.set_cons_succ];done)|(simp only[putAll,Act.put,List.setIfInBounds_toArray,List.set_cons_zero,List.set_cons_succ];rfl)) (hJ9 (q) _ ⟨hHeld,(zk l),(zk a),(zk b),(zk D),al.out,am.out,P.out,J.out,B.out,L.out,C.out,M.out,(zb HB)⟩)
    skip
    rintro q ay ⟨hS_,h0_,h1_,h2_,h3_,h4_,h5_,h6_,h7_,h8_,h9_,h10_,h11_,h12_⟩
    have n0_:Aside0 (ay.heap[s]?=some (.cells #[.int .i64 ae,.int .i64 af] 23 (0,0))):=⟨h0_⟩
    have n1_:Aside0 (ay.heap[c]?=some (.cells #[.int .i64 T,.bool Q,.int .i64 X,.int .u64 Y] 34 (0,0))):=⟨h1_⟩
    have n2_:Aside0 (ay.heap[d]?=some (.cells #[.int .i64 U,.bool W,.int .i64 aa,.int .u64 ab] 34 (0,0))):=⟨h2_⟩
    have n3_:Aside0 (ay.heap[q]?=some (.cells #[.int .i64 0,.slice none 0 0,.int .i64 0] 73 (0,0))):=⟨h3_⟩
    have n4_:Aside0 (w.heap.size≤q):=⟨h4_⟩
    have n5_:Aside0 (w.heap.size≤q):=⟨h5_⟩
    have n6_:Aside0 (s≠q):=⟨h6_⟩
    have n7_:Aside0 (q≠s):=⟨h7_⟩
    have n8_:Aside0 (c≠q):=⟨h8_⟩
    have n9_:Aside0 (q≠c):=⟨h9_⟩
    have n10_:Aside0 (d≠q):=⟨h10_⟩
    have n11_:Aside0 (q≠d):=⟨h11_⟩
    have n12_:Aside0 (Below w.heap.size w ay):=⟨h12_⟩
    clear l
    clear a
    clear b
    clear HB
    clear h0_ h1_ h2_ h3_ h4_ h5_ h6_ h7_ h8_ h9_ h10_ h11_ h12_
    have l:=n0_
    have a:=n1_
    have b:=n2_
    have D:=n3_
    have al:=n4_
    have am:=n5_
    have P:=n6_
    have J:=n7_
    have B:=n8_
    have L:=n9_
    have C:=n10_
    have M:=n11_
    have HB:=n12_
    clear n0_ n1_ n2_ n3_ n4_ n5_ n6_ n7_ n8_ n9_ n10_ n11_ n12_
    have hHeld:ay.cell? ⟨c,0,none⟩=some (.int .i64 T)∧ay.cell? ⟨c,1,none⟩=some (.bool Q)∧ay.cell? ⟨c,2,none⟩=some (.int .i64 X)∧ay.cell? ⟨c,3,none⟩=some (.int .u64 Y)∧ay.cell? ⟨d,0,none⟩=some (.int .i64 U)∧ay.cell? ⟨d,1,none⟩=some (.bool W)∧ay.cell? ⟨d,2,none⟩=some (.int .i64 aa)∧ay.cell? ⟨d,3,none⟩=some (.int .u64 ab):=hS_
    refine norm_ (a':=?_) ?_ ?_
    rotate_left
    ·simp only[putAll,Act.put,List.setIfInBounds_toArray,List.set_cons_zero,List.set_cons_succ]
     rfl
    refine two_ (i:=1) (j:=8) (Ni:=some 66) (Nj:=some 13) #[true,true,true,false,false,false,false,false,false,true,false,false] #[true,false,true,false,false,false,false,false,true,true,false,false] rfl rfl rfl rfl (two_of HT_.out (by kernel_rfl)) (by decide) (by decide) (fun K hK=>?_) (fun K hK=>?_)
    ·skip
     refine goes_ Try.func55 (by kernel_rfl) rfl #[.agg #[.int .i64 T,.bool Q,.int .i64 X,.int .u64 Y]] (by rfl) rfl rfl (by (try simp only[List.map_toArray,List.map_cons,List.map_nil]);first|done|rfl|(simp only[List.length_drop,List.length_take];rfl)) ?_
     with_reducible refine (grottoref03_exact.calls bI.out).mono ?_
     rintro e an ⟨v407,rfl,ho0,hb⟩
     refine⟨_,rfl,?_⟩
     have u:=Aside0.mk (Kd.R_lower ho0 (below_size (zb HB)))
     obtain⟨l,a,b,D,HB⟩:=zu4 l a b D HB hb
     try clear hb
     (try clear ho0)
     refine hK.out _ _ ⟨(blk_cell a.out 0).trans rfl,(blk_cell a.out 1).trans rfl,(blk_cell a.out 2).trans rfl,(blk_cell a.out 3).trans rfl,(blk_cell b.out 0).trans rfl,(blk_cell b.out 1).trans rfl,(blk_cell b.out 2).trans rfl,(blk_cell b.out 3).trans rfl⟩ (fun hHeld=>?_)
     clear hK K
     refine norm_ (a':=?_) ?_ ?_
     rotate_left
     ·show Act.put _ (some 66) _=_
      simp only[Act.put,List.setIfInBounds_toArray,List.set_cons_zero,List.set_cons_succ,i64_w,i32_w]
      rfl
     exact norm_ (by first|(simp only[putAll,Act.put,List.setIfInBounds_toArray,List.set_cons_zero,List.set_cons_succ];done)|(simp only[putAll,Act.put,List.setIfInBounds_toArray,List.set_cons_zero,List.set_cons_succ];rfl)) (hJ1_9 (v407,q) _ ⟨hHeld,(by (with_reducible repeat (first|apply Kd.R_alloc|apply Kd.R_drewN|apply Kd.R_drew));exact u.out),(zk l),(zk a),(zk b),(zk D),al.out,am.out,P.out,J.out,B.out,L.out,C.out,M.out,(zb HB)⟩)
    skip
    refine box_step ?hg (N:=13) ?hd (cs:=#[.int .i64 0,.slice none 0 0,.int .i64 0]) (t:=73) ?hr ?_;(case hd=>rfl);(case hg=>rfl);(case hr=>first|(go_simp;done)|(go_simp;rfl))
    intro m hg an hbox hb
    have v:=Aside0.mk hbox
    have aj:=zge hg HB
    have ak:=zge hg HB
    have O:=znl hg l
    have F:=zng hg l
    have y:=znl hg a
    have G:=zng hg a
    have z:=znl hg b
    have I:=zng hg b
    have ac:=znl hg D
    have Z:=zng hg D
    obtain⟨l,a,b,D,HB⟩:=zu4 l a b D HB hb
    clear hb hbox hg
    refine hK.out _ _ ⟨(blk_cell a.out 0).trans rfl,(blk_cell a.out 1).trans rfl,(blk_cell a.out 2).trans rfl,(blk_cell a.out 3).trans rfl,(blk_cell b.out 0).trans rfl,(blk_cell b.out 1).trans rfl,(blk_cell b.out 2).trans rfl,(blk_cell b.out 3).trans rfl⟩ (fun hHeld=>?_)
    clear hK K
    refine norm_ (a':=?_) ?_ ?_
    rotate_left
    ·show Act.put _ (some 13) _=_
     simp only[Act.put,List.setIfInBounds_toArray,List.set_cons_zero,List.set_cons_succ,i64_w,i32_w]
     rfl
    exact norm_ (by first|(simp only[putAll,Act.put,List.setIfInBounds_toArray,List.set_cons_zero,List.set_cons_succ];done)|(simp only[putAll,Act.put,List.setIfInBounds_toArray,List.set_cons_zero,List.set_cons_succ];rfl)) (hJ8_9 (m,q) _ ⟨hHeld,(zk l),(zk a),(zk b),(zk v),(zk D),aj.out,ak.out,O.out,F.out,y.out,G.out,z.out,I.out,ac.out,Z.out,al.out,am.out,P.out,J.out,B.out,L.out,C.out,M.out,(zb HB)⟩)
   rintro⟨v407,v412,v417,v422,m,q⟩ aA ⟨hS_,h0_,h1_,h2_,h3_,h4_,h5_,h6_,h7_,h8_,h9_,h10_,h11_,h12_,h13_,h14_,h15_,h16_,h17_,h18_,h19_,h20_,h21_,h22_,h23_,h24_,h25_,h26_,h27_⟩
   have n0_:Aside0 (Kd.R (Kd.int .i64) 3 aA w.heap.size (fun k_=>some k_≠(v412:Value).ownBlock) v407 ai):=⟨h0_⟩
   have n1_:Aside0 (Kd.R (Kd.int .i64) 3 aA w.heap.size (fun k_=>some k_≠(v407:Value).ownBlock) v412 ao):=⟨h1_⟩
   have n2_:Aside0 (Kd.V (Kd.int .i64) 3 aA w.heap.size (fun k_=>some k_≠(v407:Value).ownBlock∧some k_≠(v412:Value).ownBlock∧k_≠s∧k_≠c∧k_≠d∧k_≠m∧k_≠q) v417 au):=⟨h2_⟩
   have n3_:Aside0 (Kd.V (Kd.int .i64) 3 aA w.heap.size (fun k_=>some k_≠(v407:Value).ownBlock∧some k_≠(v412:Value).ownBlock∧k_≠s∧k_≠c∧k_≠d∧k_≠m∧k_≠q) v422 aw):=⟨h3_⟩
   have n4_:Aside0 (aA.heap[s]?=some (.cells #[.int .i64 ae,.int .i64 af] 23 (0,0))):=⟨h4_⟩
   have n5_:Aside0 (aA.heap[c]?=some (.cells #[.int .i64 T,.bool Q,.int .i64 X,.int .u64 Y] 34 (0,0))):=⟨h5_⟩
   have n6_:Aside0 (aA.heap[d]?=some (.cells #[.int .i64 U,.bool W,.int .i64 aa,.int .u64 ab] 34 (0,0))):=⟨h6_⟩
   have n7_:Aside0 (aA.heap[m]?=some (.cells #[.int .i64 0,.slice none 0 0,.int .i64 0] 73 (0,0))):=⟨h7_⟩
   have n8_:Aside0 (aA.heap[q]?=some (.cells #[.int .i64 0,.slice none 0 0,.int .i64 0] 73 (0,0))):=⟨h8_⟩
   have n9_:Aside0 (w.heap.size≤m):=⟨h9_⟩
   have n10_:Aside0 (w.heap.size≤m):=⟨h10_⟩
   have n11_:Aside0 (s≠m):=⟨h11_⟩
   have n12_:Aside0 (m≠s):=⟨h12_⟩
   have n13_:Aside0 (c≠m):=⟨h13_⟩
   have n14_:Aside0 (m≠c):=⟨h14_⟩
   have n15_:Aside0 (d≠m):=⟨h15_⟩
   have n16_:Aside0 (m≠d):=⟨h16_⟩
   have n17_:Aside0 (q≠m):=⟨h17_⟩
   have n18_:Aside0 (m≠q):=⟨h18_⟩
   have n19_:Aside0 (w.heap.size≤q):=⟨h19_⟩
   have n20_:Aside0 (w.heap.size≤q):=⟨h20_⟩
   have n21_:Aside0 (s≠q):=⟨h21_⟩
   have n22_:Aside0 (q≠s):=⟨h22_⟩
   have n23_:Aside0 (c≠q):=⟨h23_⟩
   have n24_:Aside0 (q≠c):=⟨h24_⟩
   have n25_:Aside0 (d≠q):=⟨h25_⟩
   have n26_:Aside0 (q≠d):=⟨h26_⟩
   have n27_:Aside0 (Below w.heap.size w aA):=⟨h27_⟩
   clear l
   clear a
   clear b
   clear HB
   clear h0_ h1_ h2_ h3_ h4_ h5_ h6_ h7_ h8_ h9_ h10_ h11_ h12_ h13_ h14_ h15_ h16_ h17_ h18_ h19_ h20_ h21_ h22_ h23_ h24_ h25_ h26_ h27_
   have u:=n0_
   have E:=n1_
   have ah:=n2_
   have ag:=n3_
   have l:=n4_
   have a:=n5_
   have b:=n6_
   have v:=n7_
   have D:=n8_
   have aj:=n9_
   have ak:=n10_
   have O:=n11_
   have F:=n12_
   have y:=n13_
   have G:=n14_
   have z:=n15_
   have I:=n16_
   have ac:=n17_
   have Z:=n18_
   have al:=n19_
   have am:=n20_
   have P:=n21_
   have J:=n22_
   have B:=n23_
   have L:=n24_
   have C:=n25_
   have M:=n26_
   have HB:=n27_
   clear n0_ n1_ n2_ n3_ n4_ n5_ n6_ n7_ n8_ n9_ n10_ n11_ n12_ n13_ n14_ n15_ n16_ n17_ n18_ n19_ n20_ n21_ n22_ n23_ n24_ n25_ n26_ n27_
   have hHeld:aA.cell? ⟨c,0,none⟩=some (.int .i64 T)∧aA.cell? ⟨c,1,none⟩=some (.bool Q)∧aA.cell? ⟨c,2,none⟩=some (.int .i64 X)∧aA.cell? ⟨c,3,none⟩=some (.int .u64 Y)∧aA.cell? ⟨d,0,none⟩=some (.int .i64 U)∧aA.cell? ⟨d,1,none⟩=some (.bool W)∧aA.cell? ⟨d,2,none⟩=some (.int .i64 aa)∧aA.cell? ⟨d,3,none⟩=some (.int .u64 ab):=hS_
   obtain⟨aC,aD,bQ⟩:=Kd.V_slice ah.out
   (first|subst bQ|(injection bQ with f1_ f2_ f3_;have f4_:=f1_.symm;have f5_:=f3_.symm;clear f1_ f2_ f3_;subst f4_;subst f5_))
   obtain⟨aI,aJ,bR⟩:=Kd.V_slice ag.out
   (first|subst bR|(injection bR with f1_ f2_ f3_;have f4_:=f1_.symm;have f5_:=f3_.symm;clear f1_ f2_ f3_;subst f4_;subst f5_))
   refine norm_ (a':=?_) ?_ ?_
   rotate_left
   ·simp only[putAll,Act.put,List.setIfInBounds_toArray,List.set_cons_zero,List.set_cons_succ]
    rfl
   refine one_ (i:=10) (N:=none) #[true,true,true,true,true,true,true,true,true,true,true,false] rfl rfl (one_of HT_.out (by kernel_rfl)) (by decide) (fun K hK=>?_)
   have hs72:aA.cell? ⟨m,0,none⟩=some (.int .i64 0):=(blk_cell v.out 0).trans rfl
   have hfs72:=blk_frozen v.out 0
   have dR:=O.out
   have dS:=y.out
   have dT:=z.out
   have dU:=ac.out
   have dV:=F.out
   have dW:=G.out
   have dX:=I.out
   have dY:=Z.out
   have hs74:aA.cell? ⟨m,1,none⟩=some (.slice none 0 0):=(blk_cell v.out 1).trans rfl
   have hfs74:=blk_frozen v.out 1
   have dZ:=O.out
   have d0:=y.out
   have d1:=z.out
   have d2:=ac.out
   have d3:=F.out
   have d4:=G.out
   have d5:=I.out
   have d6:=Z.out
   have hs75:aA.cell? ⟨m,2,none⟩=some (.int .i64 0):=(blk_cell v.out 2).trans rfl
   have hfs75:=blk_frozen v.out 2
   have d7:=O.out
   have d8:=y.out
   have d9:=z.out
   have ea:=ac.out
   have eb:=F.out
   have ec:=G.out
   have ed:=I.out
   have ee:=Z.out
   refine skip_ (w1:=?_) (by rfl) rfl ?_ ?_
   rotate_left
   ·go_simp
    rfl
   refine hK.out _ _ ⟨((cell_far (p:=⟨m,_,none⟩) y.out _).trans (((cell_far (p:=⟨m,_,none⟩) y.out _).trans (((cell_far (p:=⟨m,_,none⟩) y.out _).trans (hHeld.1)))))),((cell_far (p:=⟨m,_,none⟩) y.out _).trans (((cell_far (p:=⟨m,_,none⟩) y.out _).trans (((cell_far (p:=⟨m,_,none⟩) y.out _).trans (hHeld.2.1)))))),((cell_far (p:=⟨m,_,none⟩) y.out _).trans (((cell_far (p:=⟨m,_,none⟩) y.out _).trans (((cell_far (p:=⟨m,_,none⟩) y.out _).trans (hHeld.2.2.1)))))),((cell_far (p:=⟨m,_,none⟩) y.out _).trans (((cell_far (p:=⟨m,_,none⟩) y.out _).trans (((cell_far (p:=⟨m,_,none⟩) y.out _).trans (hHeld.2.2.2.1)))))),((cell_far (p:=⟨m,_,none⟩) z.out _).trans (((cell_far (p:=⟨m,_,none⟩) z.out _).trans (((cell_far (p:=⟨m,_,none⟩) z.out _).trans (hHeld.2.2.2.2.1)))))),((cell_far (p:=⟨m,_,none⟩) z.out _).trans (((cell_far (p:=⟨m,_,none⟩) z.out _).trans (((cell_far (p:=⟨m,_,none⟩) z.out _).trans (hHeld.2.2.2.2.2.1)))))),((cell_far (p:=⟨m,_,none⟩) z.out _).trans (((cell_far (p:=⟨m,_,none⟩) z.out _).trans (((cell_far (p:=⟨m,_,none⟩) z.out _).trans (hHeld.2.2.2.2.2.2.1)))))),((cell_far (p:=⟨m,_,none⟩) z.out _).trans (((cell_far (p:=⟨m,_,none⟩) z.out _).trans (((cell_far (p:=⟨m,_,none⟩) z.out _).trans (hHeld.2.2.2.2.2.2.2))))))⟩ (fun hHeld=>?_)
   clear hK K
   refine one_ (i:=11) (N:=none) #[true,true,true,true,true,true,true,true,true,true,true,true] rfl rfl (one_of HT_.out (by kernel_rfl)) (by decide) (fun K hK=>?_)
   have hs76:aA.cell? ⟨q,0,none⟩=some (.int .i64 0):=(blk_cell D.out 0).trans rfl
   have hfs76:=blk_frozen D.out 0
   have ef:=P.out
   have eg:=B.out
   have eh:=C.out
   have ei:=Z.out
   have ej:=J.out
   have ek:=L.out
   have el:=M.out
   have em:=ac.out
   have hs78:aA.cell? ⟨q,1,none⟩=some (.slice none 0 0):=(blk_cell D.out 1).trans rfl
   have hfs78:=blk_frozen D.out 1
   have en:=P.out
   have eo:=B.out
   have ep:=C.out
   have eq:=Z.out
   have er:=J.out
   have es:=L.out
   have et:=M.out
   have eu:=ac.out
   have hs79:aA.cell? ⟨q,2,none⟩=some (.int .i64 0):=(blk_cell D.out 2).trans rfl
   have hfs79:=blk_frozen D.out 2
   have ev:=P.out
   have ew:=B.out
   have ex:=C.out
   have ey:=Z.out
   have ez:=J.out
   have eA:=L.out
   have eB:=M.out
   have eC:=ac.out
   refine skip_ (w1:=?_) (by rfl) rfl ?_ ?_
   rotate_left
   ·go_simp
    rfl
   refine hK.out _ _ ⟨((cell_far (p:=⟨q,_,none⟩) B.out _).trans (((cell_far (p:=⟨q,_,none⟩) B.out _).trans (((cell_far (p:=⟨q,_,none⟩) B.out _).trans (hHeld.1)))))),((cell_far (p:=⟨q,_,none⟩) B.out _).trans (((cell_far (p:=⟨q,_,none⟩) B.out _).trans (((cell_far (p:=⟨q,_,none⟩) B.out _).trans (hHeld.2.1)))))),((cell_far (p:=⟨q,_,none⟩) B.out _).trans (((cell_far (p:=⟨q,_,none⟩) B.out _).trans (((cell_far (p:=⟨q,_,none⟩) B.out _).trans (hHeld.2.2.1)))))),((cell_far (p:=⟨q,_,none⟩) B.out _).trans (((cell_far (p:=⟨q,_,none⟩) B.out _).trans (((cell_far (p:=⟨q,_,none⟩) B.out _).trans (hHeld.2.2.2.1)))))),((cell_far (p:=⟨q,_,none⟩) C.out _).trans (((cell_far (p:=⟨q,_,none⟩) C.out _).trans (((cell_far (p:=⟨q,_,none⟩) C.out _).trans (hHeld.2.2.2.2.1)))))),((cell_far (p:=⟨q,_,none⟩) C.out _).trans (((cell_far (p:=⟨q,_,none⟩) C.out _).trans (((cell_far (p:=⟨q,_,none⟩) C.out _).trans (hHeld.2.2.2.2.2.1)))))),((cell_far (p:=⟨q,_,none⟩) C.out _).trans (((cell_far (p:=⟨q,_,none⟩) C.out _).trans (((cell_far (p:=⟨q,_,none⟩) C.out _).trans (hHeld.2.2.2.2.2.2.1)))))),((cell_far (p:=⟨q,_,none⟩) C.out _).trans (((cell_far (p:=⟨q,_,none⟩) C.out _).trans (((cell_far (p:=⟨q,_,none⟩) C.out _).trans (hHeld.2.2.2.2.2.2.2))))))⟩ (fun hHeld=>?_)
   clear hK K
   refine done_ (done_of HT_.out (by kernel_rfl)) ?_
   have n0_:Aside0 (Kd.R (Kd.int .i64) 3 ((((((aA.setCell ⟨m,0,none⟩ (.int .i64 ar)).setCell ⟨m,1,none⟩ (.slice aC au.length aD)).setCell ⟨m,2,none⟩ (.int .i64 ap)).setCell ⟨q,0,none⟩ (.int .i64 av)).setCell ⟨q,1,none⟩ (.slice aI aw.length aJ)).setCell ⟨q,2,none⟩ (.int .i64 ax)) w.heap.size (fun k_=>some k_≠(v412:Value).ownBlock) v407 ai):=⟨by (with_reducible repeat (first|apply Kd.R_alloc|apply Kd.R_drewN|apply Kd.R_drew));exact Kd.R_mono (Kd.R_far (p:=⟨q,2,none⟩) (Kd.R_far (p:=⟨q,1,none⟩) (Kd.R_far (p:=⟨q,0,none⟩) (Kd.R_far (p:=⟨m,2,none⟩) (Kd.R_far (p:=⟨m,1,none⟩) (Kd.R_far (p:=⟨m,0,none⟩) (Kd.R_types (Kd.R_types u.out v.out (by decide)) D.out (by decide)) (fun _ hk=>hk.1.2) (.int .i64 ar)) (fun _ hk=>hk.1.2) (.slice aC au.length aD)) (fun _ hk=>hk.1.2) (.int .i64 ap)) (fun _ hk=>hk.2) (.int .i64 av)) (fun _ hk=>hk.2) (.slice aI aw.length aJ)) (fun _ hk=>hk.2) (.int .i64 ax)) (fun _ hk=>hk.1.1)⟩
   have n1_:Aside0 (Kd.R (Kd.int .i64) 3 ((((((aA.setCell ⟨m,0,none⟩ (.int .i64 ar)).setCell ⟨m,1,none⟩ (.slice aC au.length aD)).setCell ⟨m,2,none⟩ (.int .i64 ap)).setCell ⟨q,0,none⟩ (.int .i64 av)).setCell ⟨q,1,none⟩ (.slice aI aw.length aJ)).setCell ⟨q,2,none⟩ (.int .i64 ax)) w.heap.size (fun k_=>some k_≠(v407:Value).ownBlock) v412 ao):=⟨by (with_reducible repeat (first|apply Kd.R_alloc|apply Kd.R_drewN|apply Kd.R_drew));exact Kd.R_mono (Kd.R_far (p:=⟨q,2,none⟩) (Kd.R_far (p:=⟨q,1,none⟩) (Kd.R_far (p:=⟨q,0,none⟩) (Kd.R_far (p:=⟨m,2,none⟩) (Kd.R_far (p:=⟨m,1,none⟩) (Kd.R_far (p:=⟨m,0,none⟩) (Kd.R_types (Kd.R_types E.out v.out (by decide)) D.out (by decide)) (fun _ hk=>hk.1.2) (.int .i64 ar)) (fun _ hk=>hk.1.2) (.slice aC au.length aD)) (fun _ hk=>hk.1.2) (.int .i64 ap)) (fun _ hk=>hk.2) (.int .i64 av)) (fun _ hk=>hk.2) (.slice aI aw.length aJ)) (fun _ hk=>hk.2) (.int .i64 ax)) (fun _ hk=>hk.1.1)⟩
   have n2_:Aside0 (Kd.V (Kd.int .i64) 3 ((((((aA.setCell ⟨m,0,none⟩ (.int .i64 ar)).setCell ⟨m,1,none⟩ (.slice aC au.length aD)).setCell ⟨m,2,none⟩ (.int .i64 ap)).setCell ⟨q,0,none⟩ (.int .i64 av)).setCell ⟨q,1,none⟩ (.slice aI aw.length aJ)).setCell ⟨q,2,none⟩ (.int .i64 ax)) w.heap.size (fun k_=>some k_≠(v407:Value).ownBlock∧some k_≠(v412:Value).ownBlock∧k_≠s∧k_≠c∧k_≠d∧k_≠m∧k_≠q) (.slice aC au.length aD) au):=⟨by (with_reducible repeat (first|apply Kd.V_alloc|apply Kd.V_drewN|apply Kd.V_drew));exact Kd.V_mono (Kd.V_far (p:=⟨q,2,none⟩) (Kd.V_far (p:=⟨q,1,none⟩) (Kd.V_far (p:=⟨q,0,none⟩) (Kd.V_far (p:=⟨m,2,none⟩) (Kd.V_far (p:=⟨m,1,none⟩) (Kd.V_far (p:=⟨m,0,none⟩) (Kd.V_mono (Kd.V_mono ah.out (fun k_ hk=>(⟨hk,hk.2.2.2.2.2.1⟩:_∧k_≠m))) (fun k_ hk=>(⟨hk,hk.1.2.2.2.2.2.2⟩:_∧k_≠q))) (fun _ hk=>hk.1.2) (.int .i64 ar)) (fun _ hk=>hk.1.2) (.slice aC au.length aD)) (fun _ hk=>hk.1.2) (.int .i64 ap)) (fun _ hk=>hk.2) (.int .i64 av)) (fun _ hk=>hk.2) (.slice aI aw.length aJ)) (fun _ hk=>hk.2) (.int .i64 ax)) (fun _ hk=>⟨hk.1.1.1,⟨hk.1.1.2.1,⟨hk.1.1.2.2.1,⟨hk.1.1.2.2.2.1,⟨hk.1.1.2.2.2.2.1,⟨hk.1.1.2.2.2.2.2.1,hk.1.1.2.2.2.2.2.2⟩⟩⟩⟩⟩⟩)⟩
   have n3_:Aside0 (Kd.V (Kd.int .i64) 3 ((((((aA.setCell ⟨m,0,none⟩ (.int .i64 ar)).setCell ⟨m,1,none⟩ (.slice aC au.length aD)).setCell ⟨m,2,none⟩ (.int .i64 ap)).setCell ⟨q,0,none⟩ (.int .i64 av)).setCell ⟨q,1,none⟩ (.slice aI aw.length aJ)).setCell ⟨q,2,none⟩ (.int .i64 ax)) w.heap.size (fun k_=>some k_≠(v407:Value).ownBlock∧some k_≠(v412:Value).ownBlock∧k_≠s∧k_≠c∧k_≠d∧k_≠m∧k_≠q) (.slice aI aw.length aJ) aw):=⟨by (with_reducible repeat (first|apply Kd.V_alloc|apply Kd.V_drewN|apply Kd.V_drew));exact Kd.V_mono (Kd.V_far (p:=⟨q,2,none⟩) (Kd.V_far (p:=⟨q,1,none⟩) (Kd.V_far (p:=⟨q,0,none⟩) (Kd.V_far (p:=⟨m,2,none⟩) (Kd.V_far (p:=⟨m,1,none⟩) (Kd.V_far (p:=⟨m,0,none⟩) (Kd.V_mono (Kd.V_mono ag.out (fun k_ hk=>(⟨hk,hk.2.2.2.2.2.1⟩:_∧k_≠m))) (fun k_ hk=>(⟨hk,hk.1.2.2.2.2.2.2⟩:_∧k_≠q))) (fun _ hk=>hk.1.2) (.int .i64 ar)) (fun _ hk=>hk.1.2) (.slice aC au.length aD)) (fun _ hk=>hk.1.2) (.int .i64 ap)) (fun _ hk=>hk.2) (.int .i64 av)) (fun _ hk=>hk.2) (.slice aI aw.length aJ)) (fun _ hk=>hk.2) (.int .i64 ax)) (fun _ hk=>⟨hk.1.1.1,⟨hk.1.1.2.1,⟨hk.1.1.2.2.1,⟨hk.1.1.2.2.2.1,⟨hk.1.1.2.2.2.2.1,⟨hk.1.1.2.2.2.2.2.1,hk.1.1.2.2.2.2.2.2⟩⟩⟩⟩⟩⟩)⟩
   have n4_:Aside0 (((((((aA.setCell ⟨m,0,none⟩ (.int .i64 ar)).setCell ⟨m,1,none⟩ (.slice aC au.length aD)).setCell ⟨m,2,none⟩ (.int .i64 ap)).setCell ⟨q,0,none⟩ (.int .i64 av)).setCell ⟨q,1,none⟩ (.slice aI aw.length aJ)).setCell ⟨q,2,none⟩ (.int .i64 ax)).heap[s]?=some (.cells #[.int .i64 ae,.int .i64 af] 23 (0,0))):=⟨zk l⟩
   have n5_:Aside0 (((((((aA.setCell ⟨m,0,none⟩ (.int .i64 ar)).setCell ⟨m,1,none⟩ (.slice aC au.length aD)).setCell ⟨m,2,none⟩ (.int .i64 ap)).setCell ⟨q,0,none⟩ (.int .i64 av)).setCell ⟨q,1,none⟩ (.slice aI aw.length aJ)).setCell ⟨q,2,none⟩ (.int .i64 ax)).heap[c]?=some (.cells #[.int .i64 T,.bool Q,.int .i64 X,.int .u64 Y] 34 (0,0))):=⟨zk a⟩
   have n6_:Aside0 (((((((aA.setCell ⟨m,0,none⟩ (.int .i64 ar)).setCell ⟨m,1,none⟩ (.slice aC au.length aD)).setCell ⟨m,2,none⟩ (.int .i64 ap)).setCell ⟨q,0,none⟩ (.int .i64 av)).setCell ⟨q,1,none⟩ (.slice aI aw.length aJ)).setCell ⟨q,2,none⟩ (.int .i64 ax)).heap[d]?=some (.cells #[.int .i64 U,.bool W,.int .i64 aa,.int .u64 ab] 34 (0,0))):=⟨zk b⟩
   have n7_:Aside0 (((((((aA.setCell ⟨m,0,none⟩ (.int .i64 ar)).setCell ⟨m,1,none⟩ (.slice aC au.length aD)).setCell ⟨m,2,none⟩ (.int .i64 ap)).setCell ⟨q,0,none⟩ (.int .i64 av)).setCell ⟨q,1,none⟩ (.slice aI aw.length aJ)).setCell ⟨q,2,none⟩ (.int .i64 ax)).heap[m]?=some (.cells #[.int .i64 ar,.slice aC au.length aD,.int .i64 ap] 73 (0,0))):=⟨zkp v⟩
   have n8_:Aside0 (((((((aA.setCell ⟨m,0,none⟩ (.int .i64 ar)).setCell ⟨m,1,none⟩ (.slice aC au.length aD)).setCell ⟨m,2,none⟩ (.int .i64 ap)).setCell ⟨q,0,none⟩ (.int .i64 av)).setCell ⟨q,1,none⟩ (.slice aI aw.length aJ)).setCell ⟨q,2,none⟩ (.int .i64 ax)).heap[q]?=some (.cells #[.int .i64 av,.slice aI aw.length aJ,.int .i64 ax] 73 (0,0))):=⟨zkp D⟩
   have n9_:Aside0 (Below w.heap.size w ((((((aA.setCell ⟨m,0,none⟩ (.int .i64 ar)).setCell ⟨m,1,none⟩ (.slice aC au.length aD)).setCell ⟨m,2,none⟩ (.int .i64 ap)).setCell ⟨q,0,none⟩ (.int .i64 av)).setCell ⟨q,1,none⟩ (.slice aI aw.length aJ)).setCell ⟨q,2,none⟩ (.int .i64 ax))):=⟨zb HB⟩
   (try clear u)
   (try clear E)
   (try clear ah)
   (try clear ag)
   (try clear l)
   (try clear a)
   (try clear b)
   (try clear v)
   (try clear D)
   (try clear HB)
   generalize ((((((aA.setCell ⟨m,0,none⟩ (.int .i64 ar)).setCell ⟨m,1,none⟩ (.slice aC au.length aD)).setCell ⟨m,2,none⟩ (.int .i64 ap)).setCell ⟨q,0,none⟩ (.int .i64 av)).setCell ⟨q,1,none⟩ (.slice aI aw.length aJ)).setCell ⟨q,2,none⟩ (.int .i64 ax))=gi at n0_ n1_ n2_ n3_ n4_ n5_ n6_ n7_ n8_ n9_ ⊢
   have u:=n0_
   have E:=n1_
   have ah:=n2_
   have ag:=n3_
   have l:=n4_
   have a:=n5_
   have b:=n6_
   have v:=n7_
   have D:=n8_
   have HB:=n9_
   clear n0_ n1_ n2_ n3_ n4_ n5_ n6_ n7_ n8_ n9_
   obtain⟨fN,fO⟩:=z2 F
   obtain⟨fP,fQ⟩:=z2 G
   obtain⟨fR,fS⟩:=z2 I
   obtain⟨fT,fU⟩:=z2 Z
   obtain⟨eD,eE,eF,eG,eH,eI⟩:=zc3 v
   obtain⟨fV,fW⟩:=z2 J
   obtain⟨fX,fY⟩:=z2 L
   obtain⟨fZ,f0⟩:=z2 M
   obtain⟨eJ,eK,eL,eM,eN,eO⟩:=zc3 D
   try go_wp2_with (first|((with_reducible refine gate_callee (f:=56) rfl ?_);refine zgo (some 77) Try.func56 #[.slice aC au.length aD,.slice aI aw.length aJ] ?_;(with_reducible refine (grottoref02_Quo.calls a9 (fun k_=>(some k_≠(v407:Value).ownBlock∧(some k_≠(v412:Value).ownBlock∧(k_≠s∧(k_≠c∧(k_≠d∧(k_≠m∧k_≠q))))))) _ _ au _ _ aw bz bA _ ?side1 ?side2 ?side3 fE.out).mono ?_);(case side1=>exact ah.out);(case side2=>repeat (first|exact (Kd.V_reads' ag.out).2.2|(with_reducible refine Kd.C_alloc ?_ _)|(with_reducible refine Kd.C_drewN ?_ _)|(with_reducible refine Kd.C_drew ?_)));(case side3=>exact (Kd.V_reads' ag.out).2.1);rintro e f1 ⟨v428,v431,rfl,ho0,ho1,hb⟩;refine⟨_,rfl,?_⟩;have aM:=Aside0.mk (Kd.V_lower (Kd.V_mono (ok':=fun k_=>some k_≠(v407:Value).ownBlock∧some k_≠(v412:Value).ownBlock∧k_≠s∧k_≠c∧k_≠d∧k_≠m∧k_≠q) ho0 (fun k_ hk_=>⟨Or.elim hk_ (fun hs_=>hs_.1) (fun hn_=>(Kd.fresh' (Kd.R_lt (by (with_reducible repeat (first|apply Kd.R_alloc|apply Kd.R_drewN|apply Kd.R_drew));exact u.out)) k_ hn_)),Or.elim hk_ (fun hs_=>hs_.2.1) (fun hn_=>(Kd.fresh' (Kd.R_lt (by (with_reducible repeat (first|apply Kd.R_alloc|apply Kd.R_drewN|apply Kd.R_drew));exact E.out)) k_ hn_)),Or.elim hk_ (fun hs_=>hs_.2.2.1) (fun hn_=>(Kd.freshB (g:=s) (o:=.cells #[.int .i64 ae,.int .i64 af] 23 (0,0)) (zk l) k_ hn_)),Or.elim hk_ (fun hs_=>hs_.2.2.2.1) (fun hn_=>(Kd.freshB (g:=c) (o:=.cells #[.int .i64 T,.bool Q,.int .i64 X,.int .u64 Y] 34 (0,0)) (zk a) k_ hn_)),Or.elim hk_ (fun hs_=>hs_.2.2.2.2.1) (fun hn_=>(Kd.freshB (g:=d) (o:=.cells #[.int .i64 U,.bool W,.int .i64 aa,.int .u64 ab] 34 (0,0)) (zk b) k_ hn_)),Or.elim hk_ (fun hs_=>hs_.2.2.2.2.2.1) (fun hn_=>(Kd.freshB (g:=m) (o:=.cells #[.int .i64 ar,.slice aC au.length aD,.int .i64 ap] 73 (0,0)) (zk v) k_ hn_)),Or.elim hk_ (fun hs_=>hs_.2.2.2.2.2.2) (fun hn_=>(Kd.freshB (g:=q) (o:=.cells #[.int .i64 av,.slice aI aw.length aJ,.int .i64 ax] 73 (0,0)) (zk D) k_ hn_))⟩)) (below_size (zb HB)));have aN:=Aside0.mk (Kd.V_lower (Kd.V_mono (ok':=fun k_=>some k_≠(v407:Value).ownBlock∧some k_≠(v412:Value).ownBlock∧k_≠s∧k_≠c∧k_≠d∧k_≠m∧k_≠q) ho1 (fun k_ hk_=>⟨Or.elim hk_ (fun hs_=>hs_.1) (fun hn_=>(Kd.fresh' (Kd.R_lt (by (with_reducible repeat (first|apply Kd.R_alloc|apply Kd.R_drewN|apply Kd.R_drew));exact u.out)) k_ hn_)),Or.elim hk_ (fun hs_=>hs_.2.1) (fun hn_=>(Kd.fresh' (Kd.R_lt (by (with_reducible repeat (first|apply Kd.R_alloc|apply Kd.R_drewN|apply Kd.R_drew));exact E.out)) k_ hn_)),Or.elim hk_ (fun hs_=>hs_.2.2.1) (fun hn_=>(Kd.freshB (g:=s) (o:=.cells #[.int .i64 ae,.int .i64 af] 23 (0,0)) (zk l) k_ hn_)),Or.elim hk_ (fun hs_=>hs_.2.2.2.1) (fun hn_=>(Kd.freshB (g:=c) (o:=.cells #[.int .i64 T,.bool Q,.int .i64 X,.int .u64 Y] 34 (0,0)) (zk a) k_ hn_)),Or.elim hk_ (fun hs_=>hs_.2.2.2.2.1) (fun hn_=>(Kd.freshB (g:=d) (o:=.cells #[.int .i64 U,.bool W,.int .i64 aa,.int .u64 ab] 34 (0,0)) (zk b) k_ hn_)),Or.elim hk_ (fun hs_=>hs_.2.2.2.2.2.1) (fun hn_=>(Kd.freshB (g:=m) (o:=.cells #[.int .i64 ar,.slice aC au.length aD,.int .i64 ap] 73 (0,0)) (zk v) k_ hn_)),Or.elim hk_ (fun hs_=>hs_.2.2.2.2.2.2) (fun hn_=>(Kd.freshB (g:=q) (o:=.cells #[.int .i64 av,.slice aI aw.length aJ,.int .i64 ax] 73 (0,0)) (zk D) k_ hn_))⟩)) (below_size (zb HB)));replace u:=Aside0.mk (Kd.R_below (by (with_reducible repeat (first|apply Kd.R_alloc|apply Kd.R_drewN|apply Kd.R_drew));exact u.out) hb);replace E:=Aside0.mk (Kd.R_below (by (with_reducible repeat (first|apply Kd.R_alloc|apply Kd.R_drewN|apply Kd.R_drew));exact E.out) hb);replace ah:=Aside0.mk (Kd.V_below (by (with_reducible repeat (first|apply Kd.V_alloc|apply Kd.V_drewN|apply Kd.V_drew));exact ah.out) hb);replace ag:=Aside0.mk (Kd.V_below (by (with_reducible repeat (first|apply Kd.V_alloc|apply Kd.V_drewN|apply Kd.V_drew));exact ag.out) hb);obtain⟨l,a,b,v,D,HB⟩:=zu5 l a b v D HB hb;clear hb;(try clear ho0);(try clear ho1)))
   replace u:=Aside0.mk (Kd.R_drew u.out)
   replace E:=Aside0.mk (Kd.R_drew E.out)
   replace ah:=Aside0.mk (Kd.V_drew ah.out)
   replace ag:=Aside0.mk (Kd.V_drew ag.out)
   replace aM:=Aside0.mk (Kd.V_drew aM.out)
   replace aN:=Aside0.mk (Kd.V_drew aN.out)
   replace l:=Aside0.mk (blk_drew l.out)
   replace a:=Aside0.mk (blk_drew a.out)
   replace b:=Aside0.mk (blk_drew b.out)
   replace v:=Aside0.mk (blk_drew v.out)
   replace D:=Aside0.mk (blk_drew D.out)
   replace HB:=Aside0.mk (below_drew1 HB.out)
   refine start_ (n:=16) (S:=fun w'=>w'.cell? ⟨s,0,none⟩=some (.int .i64 ae)∧w'.cell? ⟨s,1,none⟩=some (.int .i64 af)∧w'.cell? ⟨c,0,none⟩=some (.int .i64 T)∧w'.cell? ⟨c,1,none⟩=some (.bool Q)∧w'.cell? ⟨c,2,none⟩=some (.int .i64 X)∧w'.cell? ⟨c,3,none⟩=some (.int .u64 Y)∧w'.cell? ⟨m,0,none⟩=some (.int .i64 ar)∧w'.cell? ⟨m,1,none⟩=some (.slice aC au.length aD)∧w'.cell? ⟨m,2,none⟩=some (.int .i64 ap)) (ds:=[]) #[false,false,false,false,false,false,false,false,false,false,false,false,false,false,false,false] (by kernel_rfl) rfl rfl ⟨(blk_cell l.out 0).trans rfl,(blk_cell l.out 1).trans rfl,(blk_cell a.out 0).trans rfl,(blk_cell a.out 1).trans rfl,(blk_cell a.out 2).trans rfl,(blk_cell a.out 3).trans rfl,(blk_cell v.out 0).trans rfl,(blk_cell v.out 1).trans rfl,(blk_cell v.out 2).trans rfl⟩ (fun hHeld=>?_);refine with_tabW grottoref03_Mod.tab11 grottoref03_Mod.bits11 (fun HT_ HW_=>?_)
   generalize f1.drew=gj at u E ah ag aM aN l a b v D HB hHeld ⊢
   refine zpure_ (i:=1) (N:=some 81) #[false,true,false,false,false,false,false,false,false,false,false,false,false,false,false,false] (any_of HT_.out (by kernel_rfl)) ?_
   refine zpure_ (i:=3) (N:=some 83) #[false,true,false,true,false,false,false,false,false,false,false,false,false,false,false,false] (any_of HT_.out (by kernel_rfl)) ?_
   refine zpure_ (i:=5) (N:=some 85) #[false,true,false,true,false,true,false,false,false,false,false,false,false,false,false,false] (any_of HT_.out (by kernel_rfl)) ?_
   refine zpure_ (i:=9) (N:=some 89) #[false,true,false,true,false,true,false,false,false,true,false,false,false,false,false,false] (any_of HT_.out (by kernel_rfl)) ?_
   refine zpure_ (i:=10) (N:=some 90) #[false,true,false,true,false,true,false,false,false,true,true,false,false,false,false,false] (any_of HT_.out (by kernel_rfl)) ?_
   refine ztake_ (i:=0) (N:=some 80) #[true,true,false,true,false,true,false,false,false,true,true,false,false,false,false,false] rfl (take_ofW HT_.out HW_.out (by kernel_rfl)) hHeld (Or.inl ⟨by rfl,by rintro w' ⟨s0,s1,s2,s3,s4,s5,s6,s7,s8⟩;go_simp;with_reducible rfl⟩) ?_
   refine ztake_ (i:=2) (N:=some 82) #[true,true,true,true,false,true,false,false,false,true,true,false,false,false,false,false] rfl (take_ofW HT_.out HW_.out (by kernel_rfl)) hHeld (Or.inl ⟨by rfl,by rintro w' ⟨s0,s1,s2,s3,s4,s5,s6,s7,s8⟩;go_simp;with_reducible rfl⟩) ?_
   refine ztake_ (i:=6) (N:=some 86) #[true,true,true,true,false,true,true,false,false,true,true,false,false,false,false,false] rfl (take_ofW HT_.out HW_.out (by kernel_rfl)) hHeld (Or.inl ⟨by rfl,by rintro w' ⟨s0,s1,s2,s3,s4,s5,s6,s7,s8⟩;go_simp;with_reducible rfl⟩) ?_
   refine ztake_ (i:=8) (N:=some 88) #[true,true,true,true,false,true,true,false,true,true,true,false,false,false,false,false] rfl (take_ofW HT_.out HW_.out (by kernel_rfl)) hHeld (Or.inl ⟨by rfl,by rintro w' ⟨s0,s1,s2,s3,s4,s5,s6,s7,s8⟩;go_simp;with_reducible rfl⟩) ?_
   refine one_ (i:=4) (N:=some 84) #[true,true,true,true,true,true,true,false,true,true,true,false,false,false,false,false] rfl rfl (one_of HT_.out (by kernel_rfl)) (by decide) (fun K hK=>?_)
   refine goes_ Try.func58 (by kernel_rfl) rfl #[] (by rfl) rfl rfl (by (try simp only[List.map_toArray,List.map_cons,List.map_nil]);first|done|rfl|(simp only[List.length_drop,List.length_take];rfl)) ?_
   with_reducible refine (grottoref03_one.calls  a0 _ fF.out).mono ?_
   rintro e gk ⟨v434,rfl,ho0,hb⟩
   refine⟨_,rfl,?_⟩
   have aT:=Aside0.mk (Kd.R_lower (Kd.R_new' (Kd.R_new' ho0 (Kd.R_lt (by (with_reducible repeat (first|apply Kd.R_alloc|apply Kd.R_drewN|apply Kd.R_drew));exact u.out))) (Kd.R_lt (by (with_reducible repeat (first|apply Kd.R_alloc|apply Kd.R_drewN|apply Kd.R_drew));exact E.out))) (below_size (zb HB)))
   replace u:=Aside0.mk (Kd.R_elder' (by (with_reducible repeat (first|apply Kd.R_alloc|apply Kd.R_drewN|apply Kd.R_drew));exact u.out) (Kd.R_base ho0) hb)
   replace E:=Aside0.mk (Kd.R_elder' (by (with_reducible repeat (first|apply Kd.R_alloc|apply Kd.R_drewN|apply Kd.R_drew));exact E.out) (Kd.R_base ho0) hb)
   replace ah:=Aside0.mk (Kd.V_elder' (by (with_reducible repeat (first|apply Kd.V_alloc|apply Kd.V_drewN|apply Kd.V_drew));exact ah.out) (Kd.R_base ho0) hb)
   replace ag:=Aside0.mk (Kd.V_elder' (by (with_reducible repeat (first|apply Kd.V_alloc|apply Kd.V_drewN|apply Kd.V_drew));exact ag.out) (Kd.R_base ho0) hb)
   replace aM:=Aside0.mk (Kd.V_elder' (by (with_reducible repeat (first|apply Kd.V_alloc|apply Kd.V_drewN|apply Kd.V_drew));exact aM.out) (Kd.R_base ho0) hb)
   replace aN:=Aside0.mk (Kd.V_elder' (by (with_reducible repeat (first|apply Kd.V_alloc|apply Kd.V_drewN|apply Kd.V_drew));exact aN.out) (Kd.R_base ho0) hb)
   obtain⟨l,a,b,v,D,HB⟩:=zu5 l a b v D HB hb
   try clear hb
   (try clear ho0)
   obtain⟨eP,eQ,bS⟩:=Kd.V_slice aN.out
   (first|subst bS|(injection bS with f1_ f2_ f3_;have f4_:=f1_.symm;have f5_:=f3_.symm;clear f1_ f2_ f3_;subst f4_;subst f5_))
   obtain⟨bc,bd,bT⟩:=Kd.R_slice aT.out
   (first|subst bT|(injection bT with f1_ f2_ f3_;have f4_:=f1_.symm;have f5_:=f3_.symm;clear f1_ f2_ f3_;subst f4_;subst f5_))
   refine hK.out _ _ ⟨(blk_cell l.out 0).trans rfl,(blk_cell l.out 1).trans rfl,(blk_cell a.out 0).trans rfl,(blk_cell a.out 1).trans rfl,(blk_cell a.out 2).trans rfl,(blk_cell a.out 3).trans rfl,(blk_cell v.out 0).trans rfl,(blk_cell v.out 1).trans rfl,(blk_cell v.out 2).trans rfl⟩ (fun hHeld=>?_)
   clear hK K
   refine norm_ (a':=?_) ?_ ?_
   rotate_left
   ·show Act.put _ (some 84) _=_
    simp only[Act.put,List.setIfInBounds_toArray,List.set_cons_zero,List.set_cons_succ,i64_w,i32_w]
    rfl
   refine one_ (i:=7) (N:=some 87) #[true,true,true,true,true,true,true,true,true,true,true,false,false,false,false,false] rfl rfl (one_of HT_.out (by kernel_rfl)) (by decide) (fun K hK=>?_)
   refine goes_ Try.func57 (by kernel_rfl) rfl #[.agg #[.int .i64 ae,.int .i64 af],.bool Q,.slice eP bA.length eQ,.slice bc a0.length bd,.int .i64 ap] (by rfl) rfl rfl (by (try simp only[List.map_toArray,List.map_cons,List.map_nil]);first|done|rfl|(simp only[List.length_drop,List.length_take];rfl)) ?_
   with_reducible refine (grottoref02_Near.calls a9 ae af Q (fun k_=>((some k_≠(v407:Value).ownBlock∧(some k_≠(v412:Value).ownBlock∧(k_≠s∧(k_≠c∧(k_≠d∧(k_≠m∧k_≠q))))))∧some k_≠(.slice bc a0.length bd:Value).ownBlock)) _ _ bA (fun k_=>some k_=(.slice bc a0.length bd:Value).ownBlock) _ _ a0 ap dG _ ?side1 ?side2 fG.out).mono ?_
   (case side1=>exact aN.out)
   (case side2=>exact Kd.R_V (Kd.R_tight rfl (Kd.R_types (Kd.R_types (Kd.R_types (Kd.R_types (Kd.R_types (aT.out) l.out (by decide)) a.out (by decide)) b.out (by decide)) v.out (by decide)) D.out (by decide))))
   rintro e gl ⟨rfl,hb⟩
   refine⟨_,rfl,?_⟩
   replace u:=Aside0.mk (Kd.R_below (by (with_reducible repeat (first|apply Kd.R_alloc|apply Kd.R_drewN|apply Kd.R_drew));exact u.out) hb)
   replace E:=Aside0.mk (Kd.R_below (by (with_reducible repeat (first|apply Kd.R_alloc|apply Kd.R_drewN|apply Kd.R_drew));exact E.out) hb)
   replace ah:=Aside0.mk (Kd.V_below (by (with_reducible repeat (first|apply Kd.V_alloc|apply Kd.V_drewN|apply Kd.V_drew));exact ah.out) hb)
   replace ag:=Aside0.mk (Kd.V_below (by (with_reducible repeat (first|apply Kd.V_alloc|apply Kd.V_drewN|apply Kd.V_drew));exact ag.out) hb)
   replace aM:=Aside0.mk (Kd.V_below (by (with_reducible repeat (first|apply Kd.V_alloc|apply Kd.V_drewN|apply Kd.V_drew));exact aM.out) hb)
   replace aN:=Aside0.mk (Kd.V_below (by (with_reducible repeat (first|apply Kd.V_alloc|apply Kd.V_drewN|apply Kd.V_drew));exact aN.out) hb)
   replace aT:=Aside0.mk (Kd.R_below (by (with_reducible repeat (first|apply Kd.R_alloc|apply Kd.R_drewN|apply Kd.R_drew));exact aT.out) hb)
   obtain⟨l,a,b,v,D,HB⟩:=zu5 l a b v D HB hb
   try clear hb
   refine hK.out _ _ ⟨(blk_cell l.out 0).trans rfl,(blk_cell l.out 1).trans rfl,(blk_cell a.out 0).trans rfl,(blk_cell a.out 1).trans rfl,(blk_cell a.out 2).trans rfl,(blk_cell a.out 3).trans rfl,(blk_cell v.out 0).trans rfl,(blk_cell v.out 1).trans rfl,(blk_cell v.out 2).trans rfl⟩ (fun hHeld=>?_)
   clear hK K
   refine norm_ (a':=?_) ?_ ?_
   rotate_left
   ·show Act.put _ (some 87) _=_
    simp only[Act.put,List.setIfInBounds_toArray,List.set_cons_zero,List.set_cons_succ,i64_w,i32_w]
    rfl
   refine one_ (i:=11) (N:=some 91) #[true,true,true,true,true,true,true,true,true,true,true,true,false,false,false,false] rfl rfl (one_of HT_.out (by kernel_rfl)) (by decide) (fun K hK=>?_)
   refine goes_ Try.func58 (by kernel_rfl) rfl #[] (by rfl) rfl rfl (by (try simp only[List.map_toArray,List.map_cons,List.map_nil]);first|done|rfl|(simp only[List.length_drop,List.length_take];rfl)) ?_
   with_reducible refine (grottoref03_one.calls  a7 _ fH.out).mono ?_
   rintro e gm ⟨v438,rfl,ho0,hb⟩
   refine⟨_,rfl,?_⟩
   have a6:=Aside0.mk (Kd.R_lower (Kd.R_new' (Kd.R_new' (Kd.R_new' ho0 (Kd.R_lt (by (with_reducible repeat (first|apply Kd.R_alloc|apply Kd.R_drewN|apply Kd.R_drew));exact u.out))) (Kd.R_lt (by (with_reducible repeat (first|apply Kd.R_alloc|apply Kd.R_drewN|apply Kd.R_drew));exact E.out))) (Kd.R_lt (by (with_reducible repeat (first|apply Kd.R_alloc|apply Kd.R_drewN|apply Kd.R_drew));exact aT.out))) (below_size (zb HB)))
   replace u:=Aside0.mk (Kd.R_elder' (by (with_reducible repeat (first|apply Kd.R_alloc|apply Kd.R_drewN|apply Kd.R_drew));exact u.out) (Kd.R_base ho0) hb)
   replace E:=Aside0.mk (Kd.R_elder' (by (with_reducible repeat (first|apply Kd.R_alloc|apply Kd.R_drewN|apply Kd.R_drew));exact E.out) (Kd.R_base ho0) hb)
   replace ah:=Aside0.mk (Kd.V_elder' (by (with_reducible repeat (first|apply Kd.V_alloc|apply Kd.V_drewN|apply Kd.V_drew));exact ah.out) (Kd.R_base ho0) hb)
   replace ag:=Aside0.mk (Kd.V_elder' (by (with_reducible repeat (first|apply Kd.V_alloc|apply Kd.V_drewN|apply Kd.V_drew));exact ag.out) (Kd.R_base ho0) hb)
   replace aM:=Aside0.mk (Kd.V_elder' (by (with_reducible repeat (first|apply Kd.V_alloc|apply Kd.V_drewN|apply Kd.V_drew));exact aM.out) (Kd.R_base ho0) hb)
   replace aN:=Aside0.mk (Kd.V_elder' (by (with_reducible repeat (first|apply Kd.V_alloc|apply Kd.V_drewN|apply Kd.V_drew));exact aN.out) (Kd.R_base ho0) hb)
   replace aT:=Aside0.mk (Kd.R_elder' (by (with_reducible repeat (first|apply Kd.R_alloc|apply Kd.R_drewN|apply Kd.R_drew));exact aT.out) (Kd.R_base ho0) hb)
   obtain⟨l,a,b,v,D,HB⟩:=zu5 l a b v D HB hb
   try clear hb
   (try clear ho0)
   obtain⟨eR,eS,bU⟩:=Kd.V_slice aM.out
   (first|subst bU|(injection bU with f1_ f2_ f3_;have f4_:=f1_.symm;have f5_:=f3_.symm;clear f1_ f2_ f3_;subst f4_;subst f5_))
   obtain⟨bB,bC,bV⟩:=Kd.R_slice a6.out
   (first|subst bV|(injection bV with f1_ f2_ f3_;have f4_:=f1_.symm;have f5_:=f3_.symm;clear f1_ f2_ f3_;subst f4_;subst f5_))
   refine hK.out _ _ ⟨(blk_cell l.out 0).trans rfl,(blk_cell l.out 1).trans rfl,(blk_cell a.out 0).trans rfl,(blk_cell a.out 1).trans rfl,(blk_cell a.out 2).trans rfl,(blk_cell a.out 3).trans rfl,(blk_cell v.out 0).trans rfl,(blk_cell v.out 1).trans rfl,(blk_cell v.out 2).trans rfl⟩ (fun hHeld=>?_)
   clear hK K
   refine norm_ (a':=?_) ?_ ?_
   rotate_left
   ·show Act.put _ (some 91) _=_
    simp only[Act.put,List.setIfInBounds_toArray,List.set_cons_zero,List.set_cons_succ,i64_w,i32_w]
    rfl
   refine one_ (i:=12) (N:=some 92) #[true,true,true,true,true,true,true,true,true,true,true,true,true,false,false,false] rfl rfl (one_of HT_.out (by kernel_rfl)) (by decide) (fun K hK=>?_)
   refine goes_ Try.func57 (by kernel_rfl) rfl #[.agg #[.int .i64 ae,.int .i64 af],.bool (Q != W),.slice eR bz.length eS,.slice bB a7.length bC,.int .i64 0] (by rfl) rfl rfl (by (try simp only[List.map_toArray,List.map_cons,List.map_nil]);first|done|rfl|(simp only[List.length_drop,List.length_take];rfl)) ?_
   with_reducible refine (grottoref02_Near.calls a9 ae af (Q != W) (fun k_=>(((some k_≠(v407:Value).ownBlock∧(some k_≠(v412:Value).ownBlock∧(k_≠s∧(k_≠c∧(k_≠d∧(k_≠m∧k_≠q))))))∧some k_≠(.slice bc a0.length bd:Value).ownBlock)∧some k_≠(.slice bB a7.length bC:Value).ownBlock)) _ _ bz (fun k_=>some k_=(.slice bB a7.length bC:Value).ownBlock) _ _ a7 0 dH _ ?side1 ?side2 fI.out).mono ?_
   (case side1=>exact aM.out)
   (case side2=>exact Kd.R_V (Kd.R_tight rfl (Kd.R_types (Kd.R_types (Kd.R_types (Kd.R_types (Kd.R_types (a6.out) l.out (by decide)) a.out (by decide)) b.out (by decide)) v.out (by decide)) D.out (by decide))))
   rintro e gn ⟨rfl,hb⟩
   refine⟨_,rfl,?_⟩
   replace u:=Aside0.mk (Kd.R_below (by (with_reducible repeat (first|apply Kd.R_alloc|apply Kd.R_drewN|apply Kd.R_drew));exact u.out) hb)
   replace E:=Aside0.mk (Kd.R_below (by (with_reducible repeat (first|apply Kd.R_alloc|apply Kd.R_drewN|apply Kd.R_drew));exact E.out) hb)
   replace ah:=Aside0.mk (Kd.V_below (by (with_reducible repeat (first|apply Kd.V_alloc|apply Kd.V_drewN|apply Kd.V_drew));exact ah.out) hb)
   replace ag:=Aside0.mk (Kd.V_below (by (with_reducible repeat (first|apply Kd.V_alloc|apply Kd.V_drewN|apply Kd.V_drew));exact ag.out) hb)
   replace aM:=Aside0.mk (Kd.V_below (by (with_reducible repeat (first|apply Kd.V_alloc|apply Kd.V_drewN|apply Kd.V_drew));exact aM.out) hb)
   replace aN:=Aside0.mk (Kd.V_below (by (with_reducible repeat (first|apply Kd.V_alloc|apply Kd.V_drewN|apply Kd.V_drew));exact aN.out) hb)
   replace aT:=Aside0.mk (Kd.R_below (by (with_reducible repeat (first|apply Kd.R_alloc|apply Kd.R_drewN|apply Kd.R_drew));exact aT.out) hb)
   replace a6:=Aside0.mk (Kd.R_below (by (with_reducible repeat (first|apply Kd.R_alloc|apply Kd.R_drewN|apply Kd.R_drew));exact a6.out) hb)
   obtain⟨l,a,b,v,D,HB⟩:=zu5 l a b v D HB hb
   try clear hb
   refine hK.out _ _ ⟨(blk_cell l.out 0).trans rfl,(blk_cell l.out 1).trans rfl,(blk_cell a.out 0).trans rfl,(blk_cell a.out 1).trans rfl,(blk_cell a.out 2).trans rfl,(blk_cell a.out 3).trans rfl,(blk_cell v.out 0).trans rfl,(blk_cell v.out 1).trans rfl,(blk_cell v.out 2).trans rfl⟩ (fun hHeld=>?_)
   clear hK K
   refine norm_ (a':=?_) ?_ ?_
   rotate_left
   ·show Act.put _ (some 92) _=_
    simp only[Act.put,List.setIfInBounds_toArray,List.set_cons_zero,List.set_cons_succ,i64_w,i32_w]
    rfl
   refine zpure_ (i:=13) (N:=some 6) #[true,true,true,true,true,true,true,true,true,true,true,true,true,true,false,false] (any_of HT_.out (by kernel_rfl)) ?_
   refine zpure_ (i:=14) (N:=some 7) #[true,true,true,true,true,true,true,true,true,true,true,true,true,true,true,false] (any_of HT_.out (by kernel_rfl)) ?_
   refine zpure_ (i:=15) (N:=some 8) #[true,true,true,true,true,true,true,true,true,true,true,true,true,true,true,true] (any_of HT_.out (by kernel_rfl)) ?_
   refine done_ (done_of HT_.out (by kernel_rfl)) ?_
   try go_wp2
   go_ret3
   exact zr HB
end Go.Proofs.Ytmmbgbchimangaa.PQ
