-- by a program of this claim
import Derived.Test.YtmmbgbchimangaaPQx0
import Derived.Test.YtmmbgbchimangaaPQx9
import Derived.Test.YtmmbgbchimangaaPQx10
import Derived.Test.YtmmbgbchimangaaPQx12
import Derived.Test.YtmmbgbchimangaaPQx16
namespace Go.Proofs.Ytmmbgbchimangaa.PQ
open Go.RowKit Go.Proofs.YtmmbgbchimangaaW.PrintWords Go.Proofs.YtmmbgbchimangaaW.PrintLast Go.Proofs.YtmmbgbchimangaaW.PrintMore Go.Proofs.Ytmmbgbchimangaa.Z
attribute [local go_sem] max2_int min2_int max_two min_two max_three min_three max_four min_four   -- for this text's walks alone
set_option linter.unusedVariables false
set_option linter.unusedSimpArgs false

/-! ### grottoref03_Cmp: function 23 -/
mutual
def grottoref03_Cmp.j0:Nat→Bool→Int→Bool→Int→Int→Int→Bool→Int→Int→Option (Int×Bool×Int)
 | 0,_,_,_,_,_,_,_,_,_=>none
 | k+1,m,a,b,c,d,e,g,h,i=>if m=true then (some (0,false,0)) else ((grottoref03_side.f a b c d).bind fun j=>((grottoref03_side.f e g h i).bind fun l=>(if j=0 then (grottoref03_Cmp.j1 k j l (l != 0) a b c d e g h i) else (grottoref03_Cmp.j1 k j l true a b c d e g h i))))
def grottoref03_Cmp.j1:Nat→Int→Int→Bool→Int→Bool→Int→Int→Int→Bool→Int→Int→Option (Int×Bool×Int)
 | 0,_,_,_,_,_,_,_,_,_,_,_=>none
 | k+1,d,e,g,h,i,j,l,m,n,o,p=>if g=true then (some (mx (-1) (mn 1 (wrap64 (d-e))),true,0)) else ((grottoref03_exact.f k m n o p).bind fun a=>((grottoref03_exact.f k h i j l).bind fun b=>((grottoref03_plus.f k b.1 b.2.1 b.2.2 (wrap64 (-a.1)) a.2.1 a.2.2).bind fun c=>((grottoref02_Bits.f k c.2.1).bind fun q=>(if q=0 then (some (0,true,0)) else (some (c.1,true,0)))))))
end
def grottoref03_Cmp.f (k:Nat) (a0_0:Int) (a0_1:Int) (a1:Int) (a2:Int):Option (Int×Bool×Int):=(grottoref03_open.f k a0_0 a0_1 a1 a2).bind fun a=>(if a.2.2.2.2.2.2.2.2=0 then (if a.1=4 then (grottoref03_Cmp.j0 k true a.1 a.2.1 a.2.2.1 a.2.2.2.1 a.2.2.2.2.1 a.2.2.2.2.2.1 a.2.2.2.2.2.2.1 a.2.2.2.2.2.2.2.1) else (grottoref03_Cmp.j0 k (a.2.2.2.2.1==4) a.1 a.2.1 a.2.2.1 a.2.2.2.1 a.2.2.2.2.1 a.2.2.2.2.2.1 a.2.2.2.2.2.2.1 a.2.2.2.2.2.2.2.1)) else (some (0,false,a.2.2.2.2.2.2.2.2)))
theorem grottoref03_Cmp.mono_l:∀ k,(∀ y0 y1 y2 y3 y4 y5 y6 y7 y8,LeO (grottoref03_Cmp.j0 k y0 y1 y2 y3 y4 y5 y6 y7 y8) (grottoref03_Cmp.j0 (k+1) y0 y1 y2 y3 y4 y5 y6 y7 y8))∧(∀ y0 y1 y2 y3 y4 y5 y6 y7 y8 y9 y10,LeO (grottoref03_Cmp.j1 k y0 y1 y2 y3 y4 y5 y6 y7 y8 y9 y10) (grottoref03_Cmp.j1 (k+1) y0 y1 y2 y3 y4 y5 y6 y7 y8 y9 y10))
 | 0=>⟨fun _ _ _ _ _ _ _ _ _ r h=>by simp[grottoref03_Cmp.j0] at h,fun _ _ _ _ _ _ _ _ _ _ _ r h=>by simp[grottoref03_Cmp.j1] at h⟩
 | k+1=>by
  obtain⟨ih0,ih1⟩:=grottoref03_Cmp.mono_l k
  refine⟨?_,?_⟩ <;> intros <;> (first|unfold grottoref03_Cmp.j0|unfold grottoref03_Cmp.j1) <;> (repeat' first|(with_reducible first|apply ih0|apply ih1|apply grottoref02_Bits.mono|apply grottoref03_exact.mono|apply grottoref03_open.mono|apply grottoref03_plus.mono|exact LeO.refl _|exact LeO.none _|refine LeO.ite ?_ ?_|refine LeO.bind ?_ (fun _=>?_))|refine LeO.ite ?_ ?_|refine LeO.bind ?_ (fun _=>?_))
theorem grottoref03_Cmp.mono:∀ a0 a1 a2 a3 k,LeO (grottoref03_Cmp.f k a0 a1 a2 a3) (grottoref03_Cmp.f (k+1) a0 a1 a2 a3):=by
 intro a0 a1 a2 a3 k
 obtain⟨ih0,ih1⟩:=grottoref03_Cmp.mono_l k
 unfold grottoref03_Cmp.f
 repeat' first|(with_reducible first|apply ih0|apply ih1|apply grottoref02_Bits.mono|apply grottoref03_exact.mono|apply grottoref03_open.mono|apply grottoref03_plus.mono|exact LeO.refl _|exact LeO.none _|refine LeO.ite ?_ ?_|refine LeO.bind ?_ (fun _=>?_))|refine LeO.ite ?_ ?_|refine LeO.bind ?_ (fun _=>?_)
set_option maxHeartbeats 8000000 in
set_option maxRecDepth 100000 in
theorem grottoref03_Cmp.calls {k:Nat} {aj:Int} {ak:Int} {a1:Int} {a2:Int} {r1:Int} {r2:Bool} {r3:Int} {w:World} (h:grottoref03_Cmp.f k aj ak a1 a2=some (r1,r2,r3)) :
  Calls Try.prog 23 #[.agg #[.int .i64 aj,.int .i64 ak],.int .u64 a1,.int .u64 a2] w fun e w'=>e=.returned (.tuple #[.int .i64 r1,.bool r2,.int .i64 r3])∧Below w.heap.size w w':=by
 have hu23:=Try.underlying23
 have hu34:=Try.underlying34
 have hu73:=Try.underlying73
 have HB:=Aside0.mk (Below.refl w.heap.size w)
 have H:=h
 unfold grottoref03_Cmp.f at H
 clear h
 obtain⟨⟨Y,Z,aa,ab,af,ag,ah,ai,cF⟩,A4,H⟩:=oB H
 try dsimp only at H
 by_cases c5:cF=0
 rotate_left
 ·rw[if_neg c5] at H
  obtain⟨br,bs⟩:=zf c5
  simp only[Option.some.injEq,Prod.mk.injEq] at H
  obtain⟨rfl,rfl,rfl⟩:=H
  go_enter Try.func23,Try.ntmps23
  go_wp2_with (first|((with_reducible refine gate_dst (N:=3) rfl ?_);refine zbox (N:=3) (cs:=#[.int .i64 aj,.int .i64 ak]) (t:=23) ?_;intro O hg f3 hbox hb;have l:=Aside0.mk hbox;have cd:=zge hg HB;have ce:=zge hg HB;replace HB:=zbs HB hb;clear hb hbox hg;obtain⟨ep,eq,er,es⟩:=zc2 l)|((with_reducible refine gate_callee (f:=53) rfl ?_);refine zgc (some 20) Try.func53 (grottoref03_open.calls A4.out) ?_;intro f4 hb;obtain⟨l,HB⟩:=zu1 l HB hb;clear hb)|((with_reducible refine gate_dst (N:=9) rfl ?_);refine zbox (N:=9) (cs:=#[.int .i64 0,.bool false,.int .i64 0,.int .u64 0]) (t:=34) ?_;intro y hg fE hbox hb;have a:=Aside0.mk hbox;have cf:=zge hg HB;have cg:=zge hg HB;have be:=znl hg l;have aq:=zng hg l;obtain⟨l,HB⟩:=zu1 l HB hb;clear hb hbox hg)|((with_reducible refine gate_dst (N:=10) rfl ?_);refine zbox (N:=10) (cs:=#[.int .i64 0,.bool false,.int .i64 0,.int .u64 0]) (t:=34) ?_;intro J hg fF hbox hb;have m:=Aside0.mk hbox;have ch:=zge hg HB;have ci:=zge hg HB;have bf:=znl hg l;have an:=zng hg l;have ar:=znl hg a;have ay:=zng hg a;obtain⟨l,a,HB⟩:=zu2 l a HB hb;clear hb hbox hg;obtain⟨ev,ew⟩:=z2 aq;obtain⟨ex,ey⟩:=z2 ar;obtain⟨co,cp,cq,cr,ct,cu,cv,cw⟩:=zc4 a;obtain⟨ez,eA⟩:=z2 an;obtain⟨cx,cy,cz,cA,cB,cC,cD,cE⟩:=zc4 m))
  go_ret3
  exact zr HB

 rw[if_pos c5] at H
 obtain⟨br,bs⟩:=zt c5
 clear c5
 have cc:=Aside0.mk H
 clear H
 go_enter Try.func23,Try.ntmps23
 go_upto_region 4 with (first|((with_reducible refine gate_dst (N:=3) rfl ?_);refine zbox (N:=3) (cs:=#[.int .i64 aj,.int .i64 ak]) (t:=23) ?_;intro O hg w7 hbox hb;have l:=Aside0.mk hbox;have cd:=zge hg HB;have ce:=zge hg HB;replace HB:=zbs HB hb;clear hb hbox hg;obtain⟨bl,bm,bn,bo⟩:=zc2 l)|((with_reducible refine gate_callee (f:=53) rfl ?_);refine zgc (some 20) Try.func53 (grottoref03_open.calls A4.out) ?_;intro w9 hb;obtain⟨l,HB⟩:=zu1 l HB hb;clear hb)|((with_reducible refine gate_dst (N:=9) rfl ?_);refine zbox (N:=9) (cs:=#[.int .i64 0,.bool false,.int .i64 0,.int .u64 0]) (t:=34) ?_;intro y hg fG hbox hb;have a:=Aside0.mk hbox;have cf:=zge hg HB;have cg:=zge hg HB;have be:=znl hg l;have aq:=zng hg l;obtain⟨l,HB⟩:=zu1 l HB hb;clear hb hbox hg)|((with_reducible refine gate_dst (N:=10) rfl ?_);refine zbox (N:=10) (cs:=#[.int .i64 0,.bool false,.int .i64 0,.int .u64 0]) (t:=34) ?_;intro J hg fH hbox hb;have m:=Aside0.mk hbox;have ch:=zge hg HB;have ci:=zge hg HB;have bf:=znl hg l;have an:=zng hg l;have ar:=znl hg a;have ay:=zng hg a;obtain⟨l,a,HB⟩:=zu2 l a HB hb;clear hb hbox hg;obtain⟨eD,eE⟩:=z2 aq;obtain⟨eF,eG⟩:=z2 ar;obtain⟨aR,aS,aT,aU,aV,aW,aX,aY⟩:=zc4 a;obtain⟨eH,eI⟩:=z2 an;obtain⟨aZ,a0,a3,a4,a5,a6,a7,a8⟩:=zc4 m))
 (try simp only[Act.put,List.setIfInBounds_toArray,List.set_cons_zero,List.set_cons_succ])
 go_cut [34] (fun v34 wc=>∃ (kq:Nat) (aO:Bool),v34=.bool aO∧Aside0 (grottoref03_Cmp.j0 kq aO Y Z aa ab af ag ah ai=some (r1,r2,r3))∧Aside0 (kq≤k)∧Aside0 (wc.heap[O]?=some (.cells #[.int .i64 aj,.int .i64 ak] 23 (0,0)))∧Aside0 (wc.heap[y]?=some (.cells #[.int .i64 Y,.bool Z,.int .i64 aa,.int .u64 ab] 34 (0,0)))∧Aside0 (wc.heap[J]?=some (.cells #[.int .i64 af,.bool ag,.int .i64 ah,.int .u64 ai] 34 (0,0)))∧Aside0 (Below w.heap.size w wc))
 case first =>
  have H:=cc.out
  clear cc
  by_cases bp:Y=4
  ·rw[if_pos bp] at H
   obtain⟨aC,bt⟩:=zt bp
   clear bp
   (first|rw[aC]|(simp only[i64_w,i32_w];rw[aC])|skip)
   have H':=Aside0.mk H
   clear H
   obtain⟨eJ,eK⟩:=z2 aq
   obtain⟨eL,eM⟩:=z2 ar
   obtain⟨bu,bv,bw,bx,bz,bA,bB,bC⟩:=zc4 a
   go_wp2
   go_meet
   case rel=>exact⟨_,(true),(by first|rfl|(simp[*];done)),H',⟨by omega⟩,⟨zk l⟩,⟨zkp a⟩,⟨zkp m⟩,⟨zb HB⟩⟩
  rw[if_neg bp] at H
  obtain⟨aC,bt⟩:=zf bp
  (first|rw[aC]|(simp only[i64_w,i32_w];rw[aC])|skip)
  have H':=Aside0.mk H
  clear H
  obtain⟨eN,eO⟩:=z2 aq
  obtain⟨eP,eQ⟩:=z2 ar
  obtain⟨bD,bE,bF,bG,bH,bI,bJ,bK⟩:=zc4 a
  obtain⟨eR,eS⟩:=z2 an
  obtain⟨bL,bM,bN,bO,bP,bQ,bR,bS⟩:=zc4 m
  go_wp2
  go_meet
  case rel=>exact⟨_,((af==4)),(by first|rfl|(simp[*];done)),H',⟨by omega⟩,⟨zk l⟩,⟨zkp a⟩,⟨zkp m⟩,⟨zb HB⟩⟩
 case rest =>
  clear cc
  try clear br bs aR aS aT aU aZ a0 a3 a4 bl bm aV aW aX aY a5 a6 a7 a8 bn bo
  obtain⟨kq,aO,rfl,HA,cH,l,a,m,HB⟩:=hcut
  cases kq with
  | zero=>exact absurd HA.out (by simp[grottoref03_Cmp.j0])
  | succ eT =>
   have H:=HA.out
   clear HA
   simp only[grottoref03_Cmp.j0] at H
   by_cases bT:aO=true
   ·subst bT
    rw[if_pos rfl] at H
    simp only[Option.some.injEq,Prod.mk.injEq] at H
    obtain⟨rfl,rfl,rfl⟩:=H
    go_wp2
    go_ret3
    exact zr HB
   replace bT:=Bool.eq_false_iff.mpr bT
   subst bT
   rw[if_neg nft] at H
   obtain⟨a9,eU,H⟩:=oB H
   obtain⟨ba,eV,H⟩:=oB H
   have bU:=Aside0.mk H
   clear H
   try go_wp2
   replace l:=Aside0.mk (blk_drew l.out)
   replace a:=Aside0.mk (blk_drew a.out)
   replace m:=Aside0.mk (blk_drew m.out)
   replace HB:=Aside0.mk (below_drew1 HB.out)
   refine start_ (n:=6) (S:=fun w'=>w'.cell? ⟨y,0,none⟩=some (.int .i64 Y)∧w'.cell? ⟨y,1,none⟩=some (.bool Z)∧w'.cell? ⟨y,2,none⟩=some (.int .i64 aa)∧w'.cell? ⟨y,3,none⟩=some (.int .u64 ab)∧w'.cell? ⟨J,0,none⟩=some (.int .i64 af)∧w'.cell? ⟨J,1,none⟩=some (.bool ag)∧w'.cell? ⟨J,2,none⟩=some (.int .i64 ah)∧w'.cell? ⟨J,3,none⟩=some (.int .u64 ai)) (ds:=[]) #[false,false,false,false,false,false] (by kernel_rfl) rfl rfl ⟨(blk_cell a.out 0).trans rfl,(blk_cell a.out 1).trans rfl,(blk_cell a.out 2).trans rfl,(blk_cell a.out 3).trans rfl,(blk_cell m.out 0).trans rfl,(blk_cell m.out 1).trans rfl,(blk_cell m.out 2).trans rfl,(blk_cell m.out 3).trans rfl⟩ (fun hHeld=>?_)
   generalize wc.drew=fI at l a m HB hHeld ⊢
   refine ztake_ (i:=0) (N:=some 35) #[true,false,false,false,false,false] rfl (by kernel_rfl) hHeld (Or.inl ⟨by rfl,by rintro w' ⟨s0,s1,s2,s3,s4,s5,s6,s7⟩;go_simp;with_reducible rfl⟩) ?_
   refine ztake_ (i:=2) (N:=some 37) #[true,false,true,false,false,false] rfl (by kernel_rfl) hHeld (Or.inl ⟨by rfl,by rintro w' ⟨s0,s1,s2,s3,s4,s5,s6,s7⟩;go_simp;with_reducible rfl⟩) ?_
   refine one_ (i:=1) (N:=some 36) #[true,true,true,false,false,false] rfl rfl (by kernel_rfl) (by decide) (fun K hK=>?_)
   refine goes_ Try.func63 (by kernel_rfl) rfl #[.agg #[.int .i64 Y,.bool Z,.int .i64 aa,.int .u64 ab]] (by rfl) rfl rfl (by (try simp only[List.map_toArray,List.map_cons,List.map_nil]);first|done|rfl|(simp only[List.length_drop,List.length_take];rfl)) ?_
   with_reducible refine (grottoref03_side.calls eU.out).mono ?_
   rintro e fJ ⟨rfl,hb⟩
   refine⟨_,rfl,?_⟩
   obtain⟨l,a,m,HB⟩:=zu3 l a m HB hb
   try clear hb
   refine hK.out _ _ ⟨(blk_cell a.out 0).trans rfl,(blk_cell a.out 1).trans rfl,(blk_cell a.out 2).trans rfl,(blk_cell a.out 3).trans rfl,(blk_cell m.out 0).trans rfl,(blk_cell m.out 1).trans rfl,(blk_cell m.out 2).trans rfl,(blk_cell m.out 3).trans rfl⟩ (fun hHeld=>?_)
   clear hK K
   refine norm_ (a':=?_) ?_ ?_
   rotate_left
   ·show Act.put _ (some 36) _=_
    simp only[Act.put,List.setIfInBounds_toArray,List.set_cons_zero,List.set_cons_succ,i64_w,i32_w]
    rfl
   refine one_ (i:=3) (N:=some 38) #[true,true,true,true,false,false] rfl rfl (by kernel_rfl) (by decide) (fun K hK=>?_)
   refine goes_ Try.func63 (by kernel_rfl) rfl #[.agg #[.int .i64 af,.bool ag,.int .i64 ah,.int .u64 ai]] (by rfl) rfl rfl (by (try simp only[List.map_toArray,List.map_cons,List.map_nil]);first|done|rfl|(simp only[List.length_drop,List.length_take];rfl)) ?_
   with_reducible refine (grottoref03_side.calls eV.out).mono ?_
   rintro e fK ⟨rfl,hb⟩
   refine⟨_,rfl,?_⟩
   obtain⟨l,a,m,HB⟩:=zu3 l a m HB hb
   try clear hb
   refine hK.out _ _ ⟨(blk_cell a.out 0).trans rfl,(blk_cell a.out 1).trans rfl,(blk_cell a.out 2).trans rfl,(blk_cell a.out 3).trans rfl,(blk_cell m.out 0).trans rfl,(blk_cell m.out 1).trans rfl,(blk_cell m.out 2).trans rfl,(blk_cell m.out 3).trans rfl⟩ (fun hHeld=>?_)
   clear hK K
   refine norm_ (a':=?_) ?_ ?_
   rotate_left
   ·show Act.put _ (some 38) _=_
    simp only[Act.put,List.setIfInBounds_toArray,List.set_cons_zero,List.set_cons_succ,i64_w,i32_w]
    rfl
   refine zpure_ (i:=4) (N:=some 12) #[true,true,true,true,true,false] (by kernel_rfl) ?_
   refine zpure_ (i:=5) (N:=some 13) #[true,true,true,true,true,true] (by kernel_rfl) ?_
   refine done_ (by kernel_rfl) ?_
   go_upto_region 7 with (fail)
   go_cut [44] (fun v44 wc=>∃ (kq:Nat) (aE:Bool),v44=.bool aE∧Aside0 (grottoref03_Cmp.j1 kq a9 ba aE Y Z aa ab af ag ah ai=some (r1,r2,r3))∧Aside0 (kq≤eT)∧Aside0 (wc.heap[O]?=some (.cells #[.int .i64 aj,.int .i64 ak] 23 (0,0)))∧Aside0 (wc.heap[y]?=some (.cells #[.int .i64 Y,.bool Z,.int .i64 aa,.int .u64 ab] 34 (0,0)))∧Aside0 (wc.heap[J]?=some (.cells #[.int .i64 af,.bool ag,.int .i64 ah,.int .u64 ai] 34 (0,0)))∧Aside0 (Below w.heap.size w wc))
   case first =>
    have H:=bU.out
    clear bU
    by_cases bV:a9=0
    ·rw[if_pos bV] at H
     obtain⟨aF,cj⟩:=zt bV
     clear bV
     (first|rw[aF]|(simp only[i64_w,i32_w];rw[aF])|skip)
     have H':=Aside0.mk H
     clear H
     go_wp2
     go_meet
     case rel=>exact⟨_,((ba != 0)),(by first|rfl|(simp[*];done)),H',⟨by have:=cH.out;first|omega|exact Nat.le_refl _⟩,⟨zk l⟩,⟨zk a⟩,⟨zk m⟩,⟨zb HB⟩⟩
    rw[if_neg bV] at H
    obtain⟨aF,cj⟩:=zf bV
    (first|rw[aF]|(simp only[i64_w,i32_w];rw[aF])|skip)
    have H':=Aside0.mk H
    clear H
    go_wp2
    go_meet
    case rel=>exact⟨_,(true),(by first|rfl|(simp[*];done)),H',⟨by have:=cH.out;first|omega|exact Nat.le_refl _⟩,⟨zk l⟩,⟨zk a⟩,⟨zk m⟩,⟨zb HB⟩⟩
   case rest =>
    clear bU
    try clear c1 c2 p2 br bs fM fN fO bp aC bt fP fQ fR fS fT fU bT aR aS aT aU aZ a0 a3 a4 bu bv bw bx bD bE bF bG bL bM bN bO bl bm aV aW aX aY a5 a6 a7 a8 bz bA bB bC bH bI bJ bK bP bQ bR bS bn bo p2
    obtain⟨kq,aE,rfl,HA,fD,l,a,m,HB⟩:=hcut
    cases kq with
    | zero=>exact absurd HA.out (by simp[grottoref03_Cmp.j1])
    | succ aD =>
     have H:=HA.out
     clear HA
     simp only[grottoref03_Cmp.j1] at H
     by_cases b2:aE=true
     ·subst b2
      rw[if_pos rfl] at H
      obtain⟨bb,aP⟩:∃ j_:Int,(mn 1 (wrap64 (a9-ba)))=j_:=⟨_,rfl⟩
      first|rw[aP] at H|simp only[aP] at H
      have et:(if (wrap64 (a9-ba))<1 then (wrap64 (a9-ba)) else 1)=bb:=aP
      obtain⟨b4,aQ⟩:∃ j_:Int,(mx (-1) (bb))=j_:=⟨_,rfl⟩
      first|rw[aQ] at H|simp only[aQ] at H
      have eu:(if (-1)<(bb) then (bb) else (-1))=b4:=aQ
      simp only[Option.some.injEq,Prod.mk.injEq] at H
      obtain⟨rfl,rfl,rfl⟩:=H
      go_wp2
      go_ret3
      exact⟨by first|rfl|(simp[errW_none,errW_some] <;> rfl)|(simp only[←aP,←aQ];first|rfl|(simp[errW_none,errW_some] <;> rfl))|(simp[*,errW_none,errW_some] <;> rfl),zb HB⟩
     replace b2:=Bool.eq_false_iff.mpr b2
     subst b2
     rw[if_neg nft] at H
     obtain⟨⟨D,B,P⟩,cI,H⟩:=oB H
     try dsimp only at H
     obtain⟨⟨au,ac,av⟩,b3,H⟩:=oB H
     try dsimp only at H
     obtain⟨⟨al,ae,am⟩,bq,H⟩:=oB H
     try dsimp only at H
     obtain⟨bW,cJ,H⟩:=oB H
     by_cases bX:bW=0
     ·rw[if_pos bX] at H
      obtain⟨ck,cl⟩:=zt bX
      clear bX
      simp only[Option.some.injEq,Prod.mk.injEq] at H
      obtain⟨rfl,rfl,rfl⟩:=H
      obtain⟨eW,eX⟩:=z2 an
      obtain⟨eY,eZ⟩:=z2 ay
      obtain⟨cK,cL,cM,cN,cO,cP,cQ,cR⟩:=zc4 m
      try go_wp2_with (first|((with_reducible refine gate_callee (f:=55) rfl ?_);refine zgo (some 51) Try.func55 #[.agg #[.int .i64 af,.bool ag,.int .i64 ah,.int .u64 ai]] ?_;(with_reducible refine (grottoref03_exact.calls cI.out).mono ?_);rintro e fV ⟨v625,rfl,ho0,hb⟩;refine⟨_,rfl,?_⟩;have s:=Aside0.mk (Kd.R_lower ho0 (below_size (zb HB)));obtain⟨l,a,m,HB⟩:=zu3 l a m HB hb;clear hb;(try clear ho0))|((with_reducible refine gate_dst (N:=14) rfl ?_);refine zbox (N:=14) (cs:=#[.int .i64 0,.slice none 0 0,.int .i64 0]) (t:=73) ?_;intro q hg bg hbox hb;have b:=Aside0.mk hbox;have cm:=zge hg HB;have cn:=zge hg HB;have bh:=znl hg l;have az:=zng hg l;have bi:=znl hg a;have aA:=zng hg a;have bj:=znl hg m;have aB:=zng hg m;replace s:=Aside0.mk (Kd.R_below (by (with_reducible repeat (first|apply Kd.R_alloc|apply Kd.R_drewN|apply Kd.R_drew));exact s.out) hb);obtain⟨l,a,m,HB⟩:=zu3 l a m HB hb;clear hb hbox hg;obtain⟨e0,e1⟩:=z2 az;obtain⟨e2,e3⟩:=z2 aA;obtain⟨e4,e5⟩:=z2 aB;obtain⟨cS,cT,cU,cV,cW,cX⟩:=zc3 b;obtain⟨T,U,cY⟩:=Kd.R_slice s.out;subst cY))
      have n0_:Aside0 (Kd.R (Kd.int .i64) 3 ((((bg.setCell ⟨q,0,none⟩ (.int .i64 D)).setCell ⟨q,1,none⟩ (.slice T B.length U)).setCell ⟨q,2,none⟩ (.int .i64 P)).setCell ⟨q,0,none⟩ (.int .i64 (wrap64 (-D)))) w.heap.size (fun _=>True) (.slice T B.length U) B):=⟨by (with_reducible repeat (first|apply Kd.R_alloc|apply Kd.R_drewN|apply Kd.R_drew));exact Kd.R_mono (Kd.R_far (p:=⟨q,0,none⟩) (Kd.R_far (p:=⟨q,2,none⟩) (Kd.R_far (p:=⟨q,1,none⟩) (Kd.R_far (p:=⟨q,0,none⟩) (Kd.R_types s.out b.out (by decide)) (fun _ hk=>hk.2) (.int .i64 D)) (fun _ hk=>hk.2) (.slice T B.length U)) (fun _ hk=>hk.2) (.int .i64 P)) (fun _ hk=>hk.2) (.int .i64 (wrap64 (-D)))) (fun _ hk=>trivial)⟩
      have n1_:Aside0 (((((bg.setCell ⟨q,0,none⟩ (.int .i64 D)).setCell ⟨q,1,none⟩ (.slice T B.length U)).setCell ⟨q,2,none⟩ (.int .i64 P)).setCell ⟨q,0,none⟩ (.int .i64 (wrap64 (-D)))).heap[O]?=some (.cells #[.int .i64 aj,.int .i64 ak] 23 (0,0))):=⟨zk l⟩
      have n2_:Aside0 (((((bg.setCell ⟨q,0,none⟩ (.int .i64 D)).setCell ⟨q,1,none⟩ (.slice T B.length U)).setCell ⟨q,2,none⟩ (.int .i64 P)).setCell ⟨q,0,none⟩ (.int .i64 (wrap64 (-D)))).heap[y]?=some (.cells #[.int .i64 Y,.bool Z,.int .i64 aa,.int .u64 ab] 34 (0,0))):=⟨zk a⟩
      have n3_:Aside0 (((((bg.setCell ⟨q,0,none⟩ (.int .i64 D)).setCell ⟨q,1,none⟩ (.slice T B.length U)).setCell ⟨q,2,none⟩ (.int .i64 P)).setCell ⟨q,0,none⟩ (.int .i64 (wrap64 (-D)))).heap[J]?=some (.cells #[.int .i64 af,.bool ag,.int .i64 ah,.int .u64 ai] 34 (0,0))):=⟨zk m⟩
      have n4_:Aside0 (((((bg.setCell ⟨q,0,none⟩ (.int .i64 D)).setCell ⟨q,1,none⟩ (.slice T B.length U)).setCell ⟨q,2,none⟩ (.int .i64 P)).setCell ⟨q,0,none⟩ (.int .i64 (wrap64 (-D)))).heap[q]?=some (.cells #[.int .i64 (wrap64 (-D)),.slice T B.length U,.int .i64 P] 73 (0,0))):=⟨zkp b⟩
      have n5_:Aside0 (Below w.heap.size w ((((bg.setCell ⟨q,0,none⟩ (.int .i64 D)).setCell ⟨q,1,none⟩ (.slice T B.length U)).setCell ⟨q,2,none⟩ (.int .i64 P)).setCell ⟨q,0,none⟩ (.int .i64 (wrap64 (-D))))):=⟨zb HB⟩
      (try clear s)
      (try clear l)
      (try clear a)
      (try clear m)
      (try clear b)
      (try clear HB)
      generalize ((((bg.setCell ⟨q,0,none⟩ (.int .i64 D)).setCell ⟨q,1,none⟩ (.slice T B.length U)).setCell ⟨q,2,none⟩ (.int .i64 P)).setCell ⟨q,0,none⟩ (.int .i64 (wrap64 (-D))))=e6 at n0_ n1_ n2_ n3_ n4_ n5_ ⊢
      have s:=n0_
      have l:=n1_
      have a:=n2_
      have m:=n3_
      have b:=n4_
      have HB:=n5_
      clear n0_ n1_ n2_ n3_ n4_ n5_
      replace s:=Aside0.mk (Kd.R_drew s.out)
      replace l:=Aside0.mk (blk_drew l.out)
      replace a:=Aside0.mk (blk_drew a.out)
      replace m:=Aside0.mk (blk_drew m.out)
      replace b:=Aside0.mk (blk_drew b.out)
      replace HB:=Aside0.mk (below_drew1 HB.out)
      refine start_ (n:=6) (S:=fun w'=>w'.cell? ⟨y,0,none⟩=some (.int .i64 Y)∧w'.cell? ⟨y,1,none⟩=some (.bool Z)∧w'.cell? ⟨y,2,none⟩=some (.int .i64 aa)∧w'.cell? ⟨y,3,none⟩=some (.int .u64 ab)∧w'.cell? ⟨q,0,none⟩=some (.int .i64 (wrap64 (-D)))∧w'.cell? ⟨q,1,none⟩=some (.slice T B.length U)∧w'.cell? ⟨q,2,none⟩=some (.int .i64 P)) (ds:=[]) #[false,false,false,false,false,false] (by kernel_rfl) rfl rfl ⟨(blk_cell a.out 0).trans rfl,(blk_cell a.out 1).trans rfl,(blk_cell a.out 2).trans rfl,(blk_cell a.out 3).trans rfl,(blk_cell b.out 0).trans rfl,(blk_cell b.out 1).trans rfl,(blk_cell b.out 2).trans rfl⟩ (fun hHeld=>?_)
      generalize e6.drew=fW at s l a m b HB hHeld ⊢
      refine ztake_ (i:=0) (N:=some 56) #[true,false,false,false,false,false] rfl (by kernel_rfl) hHeld (Or.inl ⟨by rfl,by rintro w' ⟨s0,s1,s2,s3,s4,s5,s6⟩;go_simp;with_reducible rfl⟩) ?_
      refine ztake_ (i:=2) (N:=some 58) #[true,false,true,false,false,false] rfl (by kernel_rfl) hHeld (Or.inl ⟨by rfl,by rintro w' ⟨s0,s1,s2,s3,s4,s5,s6⟩;go_simp;with_reducible rfl⟩) ?_
      refine join_ (σ:=Value×Value×Nat) 1 #[true,true,true,true,true,false] (fun s_=>[(57,.agg #[.int .i64 au,s_.1,.int .i64 av]),(59,.agg #[.int .i64 al,s_.2.1,.int .i64 am]),(15,.pointer (some ⟨s_.2.2,0,none⟩))]) (fun s_ w'=>(w'.cell? ⟨y,0,none⟩=some (.int .i64 Y)∧w'.cell? ⟨y,1,none⟩=some (.bool Z)∧w'.cell? ⟨y,2,none⟩=some (.int .i64 aa)∧w'.cell? ⟨y,3,none⟩=some (.int .u64 ab)∧w'.cell? ⟨q,0,none⟩=some (.int .i64 (wrap64 (-D)))∧w'.cell? ⟨q,1,none⟩=some (.slice T B.length U)∧w'.cell? ⟨q,2,none⟩=some (.int .i64 P))∧(Kd.R (Kd.int .i64) 3 w' w.heap.size (fun k_=>some k_≠(s_.1:Value).ownBlock) (.slice T B.length U) B)∧(Kd.R (Kd.int .i64) 3 w' w.heap.size (fun k_=>some k_≠(.slice T B.length U:Value).ownBlock) s_.1 ac)∧(Kd.V (Kd.int .i64) 3 w' w.heap.size (fun k_=>some k_≠(.slice T B.length U:Value).ownBlock∧some k_≠(s_.1:Value).ownBlock∧k_≠O∧k_≠y∧k_≠J∧k_≠q∧k_≠s_.2.2) s_.2.1 ae)∧(w'.heap[O]?=some (.cells #[.int .i64 aj,.int .i64 ak] 23 (0,0)))∧(w'.heap[y]?=some (.cells #[.int .i64 Y,.bool Z,.int .i64 aa,.int .u64 ab] 34 (0,0)))∧(w'.heap[J]?=some (.cells #[.int .i64 af,.bool ag,.int .i64 ah,.int .u64 ai] 34 (0,0)))∧(w'.heap[q]?=some (.cells #[.int .i64 (wrap64 (-D)),.slice T B.length U,.int .i64 P] 73 (0,0)))∧(w'.heap[s_.2.2]?=some (.cells #[.int .i64 0,.slice none 0 0,.int .i64 0] 73 (0,0)))∧(w.heap.size≤s_.2.2)∧(w.heap.size≤s_.2.2)∧(O≠s_.2.2)∧(s_.2.2≠O)∧(y≠s_.2.2)∧(s_.2.2≠y)∧(J≠s_.2.2)∧(s_.2.2≠J)∧(q≠s_.2.2)∧(s_.2.2≠q)∧(Below w.heap.size w w')) ?_ ?_
      rotate_left
      ·intro hCont
       refine two_ (i:=1) (j:=4) (Ni:=some 57) (Nj:=some 15) #[true,true,true,false,false,false] #[true,false,true,false,true,false] rfl rfl rfl rfl (by kernel_rfl) (by decide) (by decide) (fun K hK=>?_) (fun K hK=>?_)
       rotate_left
       ·skip
        refine box_step ?hg (N:=15) ?hd (cs:=#[.int .i64 0,.slice none 0 0,.int .i64 0]) (t:=73) ?hr ?_;(case hd=>rfl);(case hg=>rfl);(case hr=>first|(go_simp;done)|(go_simp;rfl))
        intro d hg e7 hbox hb
        have C:=Aside0.mk hbox
        have ao:=zge hg HB
        have ap:=zge hg HB
        have L:=znl hg l
        have E:=zng hg l
        have u:=znl hg a
        have F:=zng hg a
        have M:=znl hg m
        have G:=zng hg m
        have v:=znl hg b
        have I:=zng hg b
        replace s:=Aside0.mk (Kd.R_below (by (with_reducible repeat (first|apply Kd.R_alloc|apply Kd.R_drewN|apply Kd.R_drew));exact s.out) hb)
        obtain⟨l,a,m,b,HB⟩:=zu4 l a m b HB hb
        clear hb hbox hg
        refine hK.out _ _ ⟨(blk_cell a.out 0).trans rfl,(blk_cell a.out 1).trans rfl,(blk_cell a.out 2).trans rfl,(blk_cell a.out 3).trans rfl,(blk_cell b.out 0).trans rfl,(blk_cell b.out 1).trans rfl,(blk_cell b.out 2).trans rfl⟩ (fun hHeld=>?_)
        clear hK K
        refine norm_ (a':=?_) ?_ ?_
        rotate_left
        ·show Act.put _ (some 15) _=_
         simp only[Act.put,List.setIfInBounds_toArray,List.set_cons_zero,List.set_cons_succ,i64_w,i32_w]
         rfl
        refine one_ (i:=1) (N:=some 57) #[true,true,true,false,true,false] rfl rfl (by kernel_rfl) (by decide) (fun K hK=>?_)
        refine goes_ Try.func55 (by kernel_rfl) rfl #[.agg #[.int .i64 Y,.bool Z,.int .i64 aa,.int .u64 ab]] (by rfl) rfl rfl (by (try simp only[List.map_toArray,List.map_cons,List.map_nil]);first|done|rfl|(simp only[List.length_drop,List.length_take];rfl)) ?_
        with_reducible refine (grottoref03_exact.calls b3.out).mono ?_
        rintro e e8 ⟨v631,rfl,ho0,hb⟩
        refine⟨_,rfl,?_⟩
        have z:=Aside0.mk (Kd.R_lower (Kd.R_new' ho0 (Kd.R_lt (by (with_reducible repeat (first|apply Kd.R_alloc|apply Kd.R_drewN|apply Kd.R_drew));exact s.out))) (below_size (zb HB)))
        replace s:=Aside0.mk (Kd.R_elder' (by (with_reducible repeat (first|apply Kd.R_alloc|apply Kd.R_drewN|apply Kd.R_drew));exact s.out) (Kd.R_base ho0) hb)
        obtain⟨l,a,m,b,C,HB⟩:=zu5 l a m b C HB hb
        try clear hb
        (try clear ho0)
        obtain⟨aG,aH,bc⟩:=Kd.R_slice z.out
        (first|subst bc|(injection bc with f1_ f2_ f3_;have f4_:=f1_.symm;have f5_:=f3_.symm;clear f1_ f2_ f3_;subst f4_;subst f5_))
        refine hK.out _ _ ⟨(blk_cell a.out 0).trans rfl,(blk_cell a.out 1).trans rfl,(blk_cell a.out 2).trans rfl,(blk_cell a.out 3).trans rfl,(blk_cell b.out 0).trans rfl,(blk_cell b.out 1).trans rfl,(blk_cell b.out 2).trans rfl⟩ (fun hHeld=>?_)
        clear hK K
        refine norm_ (a':=?_) ?_ ?_
        rotate_left
        ·show Act.put _ (some 57) _=_
         simp only[Act.put,List.setIfInBounds_toArray,List.set_cons_zero,List.set_cons_succ,i64_w,i32_w]
         rfl
        refine one_ (i:=3) (N:=some 59) #[true,true,true,true,true,false] rfl rfl (by kernel_rfl) (by decide) (fun K hK=>?_)
        refine goes_ Try.func64 (by kernel_rfl) rfl #[.agg #[.int .i64 au,.slice aG ac.length aH,.int .i64 av],.agg #[.int .i64 (wrap64 (-D)),.slice T B.length U,.int .i64 P]] (by rfl) rfl rfl (by (try simp only[List.map_toArray,List.map_cons,List.map_nil]);first|done|rfl|(simp only[List.length_drop,List.length_take];rfl)) ?_
        with_reducible refine (grottoref03_plus.calls aD au _ _ ac av (wrap64 (-D)) _ _ B P al ae am _ ?side1 ?side2 ?side3 ?side4 bq.out).mono ?_
        (case side1=>repeat (first|exact (Kd.R_reads' z.out).2.2|(with_reducible refine Kd.C_alloc ?_ _)|(with_reducible refine Kd.C_drewN ?_ _)|(with_reducible refine Kd.C_drew ?_)))
        (case side2=>exact (Kd.R_reads' z.out).2.1)
        (case side3=>repeat (first|exact (Kd.R_reads' s.out).2.2|(with_reducible refine Kd.C_alloc ?_ _)|(with_reducible refine Kd.C_drewN ?_ _)|(with_reducible refine Kd.C_drew ?_)))
        (case side4=>exact (Kd.R_reads' s.out).2.1)
        rintro e cZ ⟨v636,rfl,ho0,hb⟩
        refine⟨_,rfl,?_⟩
        have Q:=Aside0.mk (Kd.V_lower (Kd.V_mono (ok':=fun k_=>some k_≠(.slice T B.length U:Value).ownBlock∧some k_≠(.slice aG ac.length aH:Value).ownBlock∧k_≠O∧k_≠y∧k_≠J∧k_≠q∧k_≠d) ho0 (fun k_ hk_=>⟨(Kd.fresh' (Kd.R_lt (by (with_reducible repeat (first|apply Kd.R_alloc|apply Kd.R_drewN|apply Kd.R_drew));exact s.out)) k_ hk_),(Kd.fresh' (Kd.R_lt (by (with_reducible repeat (first|apply Kd.R_alloc|apply Kd.R_drewN|apply Kd.R_drew));exact z.out)) k_ hk_),(Kd.freshB (g:=O) (o:=.cells #[.int .i64 aj,.int .i64 ak] 23 (0,0)) (zk l) k_ hk_),(Kd.freshB (g:=y) (o:=.cells #[.int .i64 Y,.bool Z,.int .i64 aa,.int .u64 ab] 34 (0,0)) (zk a) k_ hk_),(Kd.freshB (g:=J) (o:=.cells #[.int .i64 af,.bool ag,.int .i64 ah,.int .u64 ai] 34 (0,0)) (zk m) k_ hk_),(Kd.freshB (g:=q) (o:=.cells #[.int .i64 (wrap64 (-D)),.slice T B.length U,.int .i64 P] 73 (0,0)) (zk b) k_ hk_),(Kd.freshB (g:=d) (o:=.cells #[.int .i64 0,.slice none 0 0,.int .i64 0] 73 (0,0)) (zk C) k_ hk_)⟩)) (below_size (zb HB)))
        replace s:=Aside0.mk (Kd.R_below (by (with_reducible repeat (first|apply Kd.R_alloc|apply Kd.R_drewN|apply Kd.R_drew));exact s.out) hb)
        replace z:=Aside0.mk (Kd.R_below (by (with_reducible repeat (first|apply Kd.R_alloc|apply Kd.R_drewN|apply Kd.R_drew));exact z.out) hb)
        obtain⟨l,a,m,b,C,HB⟩:=zu5 l a m b C HB hb
        try clear hb
        (try clear ho0)
        refine hK.out _ _ ⟨(blk_cell a.out 0).trans rfl,(blk_cell a.out 1).trans rfl,(blk_cell a.out 2).trans rfl,(blk_cell a.out 3).trans rfl,(blk_cell b.out 0).trans rfl,(blk_cell b.out 1).trans rfl,(blk_cell b.out 2).trans rfl⟩ (fun hHeld=>?_)
        clear hK K
        refine norm_ (a':=?_) ?_ ?_
        rotate_left
        ·show Act.put _ (some 59) _=_
         simp only[Act.put,List.setIfInBounds_toArray,List.set_cons_zero,List.set_cons_succ,i64_w,i32_w]
         rfl
        exact norm_ (by simp only[putAll,Act.put,List.setIfInBounds_toArray,List.set_cons_zero,List.set_cons_succ]) (hCont (.slice aG ac.length aH,v636,d) _ ⟨hHeld,(by (with_reducible repeat (first|apply Kd.R_alloc|apply Kd.R_drewN|apply Kd.R_drew));exact Kd.R_mono s.out (fun _ hk=>hk.2)),(by (with_reducible repeat (first|apply Kd.R_alloc|apply Kd.R_drewN|apply Kd.R_drew));exact Kd.R_mono z.out (fun _ hk=>hk.2)),(by (with_reducible repeat (first|apply Kd.V_alloc|apply Kd.V_drewN|apply Kd.V_drew));exact Q.out),(zk l),(zk a),(zk m),(zk b),(zk C),ao.out,ap.out,L.out,E.out,u.out,F.out,M.out,G.out,v.out,I.out,(zb HB)⟩)
       skip
       refine goes_ Try.func55 (by kernel_rfl) rfl #[.agg #[.int .i64 Y,.bool Z,.int .i64 aa,.int .u64 ab]] (by rfl) rfl rfl (by (try simp only[List.map_toArray,List.map_cons,List.map_nil]);first|done|rfl|(simp only[List.length_drop,List.length_take];rfl)) ?_
       with_reducible refine (grottoref03_exact.calls b3.out).mono ?_
       rintro e e7 ⟨v631,rfl,ho0,hb⟩
       refine⟨_,rfl,?_⟩
       have z:=Aside0.mk (Kd.R_lower (Kd.R_new' ho0 (Kd.R_lt (by (with_reducible repeat (first|apply Kd.R_alloc|apply Kd.R_drewN|apply Kd.R_drew));exact s.out))) (below_size (zb HB)))
       replace s:=Aside0.mk (Kd.R_elder' (by (with_reducible repeat (first|apply Kd.R_alloc|apply Kd.R_drewN|apply Kd.R_drew));exact s.out) (Kd.R_base ho0) hb)
       obtain⟨l,a,m,b,HB⟩:=zu4 l a m b HB hb
       try clear hb
       (try clear ho0)
       obtain⟨bY,bZ,b5⟩:=Kd.R_slice z.out
       (first|subst b5|(injection b5 with f1_ f2_ f3_;have f4_:=f1_.symm;have f5_:=f3_.symm;clear f1_ f2_ f3_;subst f4_;subst f5_))
       refine hK.out _ _ ⟨(blk_cell a.out 0).trans rfl,(blk_cell a.out 1).trans rfl,(blk_cell a.out 2).trans rfl,(blk_cell a.out 3).trans rfl,(blk_cell b.out 0).trans rfl,(blk_cell b.out 1).trans rfl,(blk_cell b.out 2).trans rfl⟩ (fun hHeld=>?_)
       clear hK K
       refine norm_ (a':=?_) ?_ ?_
       rotate_left
       ·show Act.put _ (some 57) _=_
        simp only[Act.put,List.setIfInBounds_toArray,List.set_cons_zero,List.set_cons_succ,i64_w,i32_w]
        rfl
       refine two_ (i:=3) (j:=4) (Ni:=some 59) (Nj:=some 15) #[true,true,true,true,false,false] #[true,true,true,false,true,false] rfl rfl rfl rfl (by kernel_rfl) (by decide) (by decide) (fun K hK=>?_) (fun K hK=>?_)
       ·skip
        refine goes_ Try.func64 (by kernel_rfl) rfl #[.agg #[.int .i64 au,.slice bY ac.length bZ,.int .i64 av],.agg #[.int .i64 (wrap64 (-D)),.slice T B.length U,.int .i64 P]] (by rfl) rfl rfl (by (try simp only[List.map_toArray,List.map_cons,List.map_nil]);first|done|rfl|(simp only[List.length_drop,List.length_take];rfl)) ?_
        with_reducible refine (grottoref03_plus.calls aD au _ _ ac av (wrap64 (-D)) _ _ B P al ae am _ ?side1 ?side2 ?side3 ?side4 bq.out).mono ?_
        (case side1=>repeat (first|exact (Kd.R_reads' z.out).2.2|(with_reducible refine Kd.C_alloc ?_ _)|(with_reducible refine Kd.C_drewN ?_ _)|(with_reducible refine Kd.C_drew ?_)))
        (case side2=>exact (Kd.R_reads' z.out).2.1)
        (case side3=>repeat (first|exact (Kd.R_reads' s.out).2.2|(with_reducible refine Kd.C_alloc ?_ _)|(with_reducible refine Kd.C_drewN ?_ _)|(with_reducible refine Kd.C_drew ?_)))
        (case side4=>exact (Kd.R_reads' s.out).2.1)
        rintro e fX ⟨v636,rfl,ho0,hb⟩
        refine⟨_,rfl,?_⟩
        have Q:=Aside0.mk (Kd.V_lower (Kd.V_mono (ok':=fun k_=>some k_≠(.slice T B.length U:Value).ownBlock∧some k_≠(.slice bY ac.length bZ:Value).ownBlock∧k_≠O∧k_≠y∧k_≠J∧k_≠q) ho0 (fun k_ hk_=>⟨(Kd.fresh' (Kd.R_lt (by (with_reducible repeat (first|apply Kd.R_alloc|apply Kd.R_drewN|apply Kd.R_drew));exact s.out)) k_ hk_),(Kd.fresh' (Kd.R_lt (by (with_reducible repeat (first|apply Kd.R_alloc|apply Kd.R_drewN|apply Kd.R_drew));exact z.out)) k_ hk_),(Kd.freshB (g:=O) (o:=.cells #[.int .i64 aj,.int .i64 ak] 23 (0,0)) (zk l) k_ hk_),(Kd.freshB (g:=y) (o:=.cells #[.int .i64 Y,.bool Z,.int .i64 aa,.int .u64 ab] 34 (0,0)) (zk a) k_ hk_),(Kd.freshB (g:=J) (o:=.cells #[.int .i64 af,.bool ag,.int .i64 ah,.int .u64 ai] 34 (0,0)) (zk m) k_ hk_),(Kd.freshB (g:=q) (o:=.cells #[.int .i64 (wrap64 (-D)),.slice T B.length U,.int .i64 P] 73 (0,0)) (zk b) k_ hk_)⟩)) (below_size (zb HB)))
        replace s:=Aside0.mk (Kd.R_below (by (with_reducible repeat (first|apply Kd.R_alloc|apply Kd.R_drewN|apply Kd.R_drew));exact s.out) hb)
        replace z:=Aside0.mk (Kd.R_below (by (with_reducible repeat (first|apply Kd.R_alloc|apply Kd.R_drewN|apply Kd.R_drew));exact z.out) hb)
        obtain⟨l,a,m,b,HB⟩:=zu4 l a m b HB hb
        try clear hb
        (try clear ho0)
        refine hK.out _ _ ⟨(blk_cell a.out 0).trans rfl,(blk_cell a.out 1).trans rfl,(blk_cell a.out 2).trans rfl,(blk_cell a.out 3).trans rfl,(blk_cell b.out 0).trans rfl,(blk_cell b.out 1).trans rfl,(blk_cell b.out 2).trans rfl⟩ (fun hHeld=>?_)
        clear hK K
        refine norm_ (a':=?_) ?_ ?_
        rotate_left
        ·show Act.put _ (some 59) _=_
         simp only[Act.put,List.setIfInBounds_toArray,List.set_cons_zero,List.set_cons_succ,i64_w,i32_w]
         rfl
        refine one_ (i:=4) (N:=some 15) #[true,true,true,true,true,false] rfl rfl (by kernel_rfl) (by decide) (fun K hK=>?_)
        refine box_step ?hg (N:=15) ?hd (cs:=#[.int .i64 0,.slice none 0 0,.int .i64 0]) (t:=73) ?hr ?_;(case hd=>rfl);(case hg=>rfl);(case hr=>first|(go_simp;done)|(go_simp;rfl))
        intro d hg cZ hbox hb
        have C:=Aside0.mk hbox
        have ao:=zge hg HB
        have ap:=zge hg HB
        have L:=znl hg l
        have E:=zng hg l
        have u:=znl hg a
        have F:=zng hg a
        have M:=znl hg m
        have G:=zng hg m
        have v:=znl hg b
        have I:=zng hg b
        replace s:=Aside0.mk (Kd.R_below (by (with_reducible repeat (first|apply Kd.R_alloc|apply Kd.R_drewN|apply Kd.R_drew));exact s.out) hb)
        replace z:=Aside0.mk (Kd.R_below (by (with_reducible repeat (first|apply Kd.R_alloc|apply Kd.R_drewN|apply Kd.R_drew));exact z.out) hb)
        replace Q:=Aside0.mk (Kd.V_below (Kd.V_elderB (by (with_reducible repeat (first|apply Kd.V_alloc|apply Kd.V_drewN|apply Kd.V_drew));exact Q.out) d (Nat.le_of_eq hg.symm)) hb)
        obtain⟨l,a,m,b,HB⟩:=zu4 l a m b HB hb
        clear hb hbox hg
        refine hK.out _ _ ⟨(blk_cell a.out 0).trans rfl,(blk_cell a.out 1).trans rfl,(blk_cell a.out 2).trans rfl,(blk_cell a.out 3).trans rfl,(blk_cell b.out 0).trans rfl,(blk_cell b.out 1).trans rfl,(blk_cell b.out 2).trans rfl⟩ (fun hHeld=>?_)
        clear hK K
        refine norm_ (a':=?_) ?_ ?_
        rotate_left
        ·show Act.put _ (some 15) _=_
         simp only[Act.put,List.setIfInBounds_toArray,List.set_cons_zero,List.set_cons_succ,i64_w,i32_w]
         rfl
        exact norm_ (by simp only[putAll,Act.put,List.setIfInBounds_toArray,List.set_cons_zero,List.set_cons_succ]) (hCont (.slice bY ac.length bZ,v636,d) _ ⟨hHeld,(by (with_reducible repeat (first|apply Kd.R_alloc|apply Kd.R_drewN|apply Kd.R_drew));exact Kd.R_mono s.out (fun _ hk=>hk.2)),(by (with_reducible repeat (first|apply Kd.R_alloc|apply Kd.R_drewN|apply Kd.R_drew));exact Kd.R_mono z.out (fun _ hk=>hk.2)),(by (with_reducible repeat (first|apply Kd.V_alloc|apply Kd.V_drewN|apply Kd.V_drew));exact Kd.V_mono Q.out (fun _ hk=>⟨hk.1.1,⟨hk.1.2.1,⟨hk.1.2.2.1,⟨hk.1.2.2.2.1,⟨hk.1.2.2.2.2.1,⟨hk.1.2.2.2.2.2,hk.2⟩⟩⟩⟩⟩⟩)),(zk l),(zk a),(zk m),(zk b),(zk C),ao.out,ap.out,L.out,E.out,u.out,F.out,M.out,G.out,v.out,I.out,(zb HB)⟩)
       skip
       refine box_step ?hg (N:=15) ?hd (cs:=#[.int .i64 0,.slice none 0 0,.int .i64 0]) (t:=73) ?hr ?_;(case hd=>rfl);(case hg=>rfl);(case hr=>first|(go_simp;done)|(go_simp;rfl))
       intro d hg e8 hbox hb
       have C:=Aside0.mk hbox
       have ao:=zge hg HB
       have ap:=zge hg HB
       have L:=znl hg l
       have E:=zng hg l
       have u:=znl hg a
       have F:=zng hg a
       have M:=znl hg m
       have G:=zng hg m
       have v:=znl hg b
       have I:=zng hg b
       replace s:=Aside0.mk (Kd.R_below (by (with_reducible repeat (first|apply Kd.R_alloc|apply Kd.R_drewN|apply Kd.R_drew));exact s.out) hb)
       replace z:=Aside0.mk (Kd.R_below (by (with_reducible repeat (first|apply Kd.R_alloc|apply Kd.R_drewN|apply Kd.R_drew));exact z.out) hb)
       obtain⟨l,a,m,b,HB⟩:=zu4 l a m b HB hb
       clear hb hbox hg
       obtain⟨aG,aH,bc⟩:=Kd.R_slice z.out
       (first|subst bc|(injection bc with f1_ f2_ f3_;have f4_:=f1_.symm;have f5_:=f3_.symm;clear f1_ f2_ f3_;subst f4_;subst f5_))
       refine hK.out _ _ ⟨(blk_cell a.out 0).trans rfl,(blk_cell a.out 1).trans rfl,(blk_cell a.out 2).trans rfl,(blk_cell a.out 3).trans rfl,(blk_cell b.out 0).trans rfl,(blk_cell b.out 1).trans rfl,(blk_cell b.out 2).trans rfl⟩ (fun hHeld=>?_)
       clear hK K
       refine norm_ (a':=?_) ?_ ?_
       rotate_left
       ·show Act.put _ (some 15) _=_
        simp only[Act.put,List.setIfInBounds_toArray,List.set_cons_zero,List.set_cons_succ,i64_w,i32_w]
        rfl
       refine one_ (i:=3) (N:=some 59) #[true,true,true,true,true,false] rfl rfl (by kernel_rfl) (by decide) (fun K hK=>?_)
       refine goes_ Try.func64 (by kernel_rfl) rfl #[.agg #[.int .i64 au,.slice aG ac.length aH,.int .i64 av],.agg #[.int .i64 (wrap64 (-D)),.slice T B.length U,.int .i64 P]] (by rfl) rfl rfl (by (try simp only[List.map_toArray,List.map_cons,List.map_nil]);first|done|rfl|(simp only[List.length_drop,List.length_take];rfl)) ?_
       with_reducible refine (grottoref03_plus.calls aD au _ _ ac av (wrap64 (-D)) _ _ B P al ae am _ ?side1 ?side2 ?side3 ?side4 bq.out).mono ?_
       (case side1=>repeat (first|exact (Kd.R_reads' z.out).2.2|(with_reducible refine Kd.C_alloc ?_ _)|(with_reducible refine Kd.C_drewN ?_ _)|(with_reducible refine Kd.C_drew ?_)))
       (case side2=>exact (Kd.R_reads' z.out).2.1)
       (case side3=>repeat (first|exact (Kd.R_reads' s.out).2.2|(with_reducible refine Kd.C_alloc ?_ _)|(with_reducible refine Kd.C_drewN ?_ _)|(with_reducible refine Kd.C_drew ?_)))
       (case side4=>exact (Kd.R_reads' s.out).2.1)
       rintro e cZ ⟨v636,rfl,ho0,hb⟩
       refine⟨_,rfl,?_⟩
       have Q:=Aside0.mk (Kd.V_lower (Kd.V_mono (ok':=fun k_=>some k_≠(.slice T B.length U:Value).ownBlock∧some k_≠(.slice aG ac.length aH:Value).ownBlock∧k_≠O∧k_≠y∧k_≠J∧k_≠q∧k_≠d) ho0 (fun k_ hk_=>⟨(Kd.fresh' (Kd.R_lt (by (with_reducible repeat (first|apply Kd.R_alloc|apply Kd.R_drewN|apply Kd.R_drew));exact s.out)) k_ hk_),(Kd.fresh' (Kd.R_lt (by (with_reducible repeat (first|apply Kd.R_alloc|apply Kd.R_drewN|apply Kd.R_drew));exact z.out)) k_ hk_),(Kd.freshB (g:=O) (o:=.cells #[.int .i64 aj,.int .i64 ak] 23 (0,0)) (zk l) k_ hk_),(Kd.freshB (g:=y) (o:=.cells #[.int .i64 Y,.bool Z,.int .i64 aa,.int .u64 ab] 34 (0,0)) (zk a) k_ hk_),(Kd.freshB (g:=J) (o:=.cells #[.int .i64 af,.bool ag,.int .i64 ah,.int .u64 ai] 34 (0,0)) (zk m) k_ hk_),(Kd.freshB (g:=q) (o:=.cells #[.int .i64 (wrap64 (-D)),.slice T B.length U,.int .i64 P] 73 (0,0)) (zk b) k_ hk_),(Kd.freshB (g:=d) (o:=.cells #[.int .i64 0,.slice none 0 0,.int .i64 0] 73 (0,0)) (zk C) k_ hk_)⟩)) (below_size (zb HB)))
       replace s:=Aside0.mk (Kd.R_below (by (with_reducible repeat (first|apply Kd.R_alloc|apply Kd.R_drewN|apply Kd.R_drew));exact s.out) hb)
       replace z:=Aside0.mk (Kd.R_below (by (with_reducible repeat (first|apply Kd.R_alloc|apply Kd.R_drewN|apply Kd.R_drew));exact z.out) hb)
       obtain⟨l,a,m,b,C,HB⟩:=zu5 l a m b C HB hb
       try clear hb
       (try clear ho0)
       refine hK.out _ _ ⟨(blk_cell a.out 0).trans rfl,(blk_cell a.out 1).trans rfl,(blk_cell a.out 2).trans rfl,(blk_cell a.out 3).trans rfl,(blk_cell b.out 0).trans rfl,(blk_cell b.out 1).trans rfl,(blk_cell b.out 2).trans rfl⟩ (fun hHeld=>?_)
       clear hK K
       refine norm_ (a':=?_) ?_ ?_
       rotate_left
       ·show Act.put _ (some 59) _=_
        simp only[Act.put,List.setIfInBounds_toArray,List.set_cons_zero,List.set_cons_succ,i64_w,i32_w]
        rfl
       exact norm_ (by simp only[putAll,Act.put,List.setIfInBounds_toArray,List.set_cons_zero,List.set_cons_succ]) (hCont (.slice aG ac.length aH,v636,d) _ ⟨hHeld,(by (with_reducible repeat (first|apply Kd.R_alloc|apply Kd.R_drewN|apply Kd.R_drew));exact Kd.R_mono s.out (fun _ hk=>hk.2)),(by (with_reducible repeat (first|apply Kd.R_alloc|apply Kd.R_drewN|apply Kd.R_drew));exact Kd.R_mono z.out (fun _ hk=>hk.2)),(by (with_reducible repeat (first|apply Kd.V_alloc|apply Kd.V_drewN|apply Kd.V_drew));exact Q.out),(zk l),(zk a),(zk m),(zk b),(zk C),ao.out,ap.out,L.out,E.out,u.out,F.out,M.out,G.out,v.out,I.out,(zb HB)⟩)
      rintro⟨v631,v636,d⟩ aw ⟨hS_,h0_,h1_,h2_,h3_,h4_,h5_,h6_,h7_,h8_,h9_,h10_,h11_,h12_,h13_,h14_,h15_,h16_,h17_,h18_⟩
      have n0_:Aside0 (Kd.R (Kd.int .i64) 3 aw w.heap.size (fun k_=>some k_≠(v631:Value).ownBlock) (.slice T B.length U) B):=⟨h0_⟩
      have n1_:Aside0 (Kd.R (Kd.int .i64) 3 aw w.heap.size (fun k_=>some k_≠(.slice T B.length U:Value).ownBlock) v631 ac):=⟨h1_⟩
      have n2_:Aside0 (Kd.V (Kd.int .i64) 3 aw w.heap.size (fun k_=>some k_≠(.slice T B.length U:Value).ownBlock∧some k_≠(v631:Value).ownBlock∧k_≠O∧k_≠y∧k_≠J∧k_≠q∧k_≠d) v636 ae):=⟨h2_⟩
      have n3_:Aside0 (aw.heap[O]?=some (.cells #[.int .i64 aj,.int .i64 ak] 23 (0,0))):=⟨h3_⟩
      have n4_:Aside0 (aw.heap[y]?=some (.cells #[.int .i64 Y,.bool Z,.int .i64 aa,.int .u64 ab] 34 (0,0))):=⟨h4_⟩
      have n5_:Aside0 (aw.heap[J]?=some (.cells #[.int .i64 af,.bool ag,.int .i64 ah,.int .u64 ai] 34 (0,0))):=⟨h5_⟩
      have n6_:Aside0 (aw.heap[q]?=some (.cells #[.int .i64 (wrap64 (-D)),.slice T B.length U,.int .i64 P] 73 (0,0))):=⟨h6_⟩
      have n7_:Aside0 (aw.heap[d]?=some (.cells #[.int .i64 0,.slice none 0 0,.int .i64 0] 73 (0,0))):=⟨h7_⟩
      have n8_:Aside0 (w.heap.size≤d):=⟨h8_⟩
      have n9_:Aside0 (w.heap.size≤d):=⟨h9_⟩
      have n10_:Aside0 (O≠d):=⟨h10_⟩
      have n11_:Aside0 (d≠O):=⟨h11_⟩
      have n12_:Aside0 (y≠d):=⟨h12_⟩
      have n13_:Aside0 (d≠y):=⟨h13_⟩
      have n14_:Aside0 (J≠d):=⟨h14_⟩
      have n15_:Aside0 (d≠J):=⟨h15_⟩
      have n16_:Aside0 (q≠d):=⟨h16_⟩
      have n17_:Aside0 (d≠q):=⟨h17_⟩
      have n18_:Aside0 (Below w.heap.size w aw):=⟨h18_⟩
      clear s
      clear l
      clear a
      clear m
      clear b
      clear HB
      clear h0_ h1_ h2_ h3_ h4_ h5_ h6_ h7_ h8_ h9_ h10_ h11_ h12_ h13_ h14_ h15_ h16_ h17_ h18_
      have s:=n0_
      have z:=n1_
      have Q:=n2_
      have l:=n3_
      have a:=n4_
      have m:=n5_
      have b:=n6_
      have C:=n7_
      have ao:=n8_
      have ap:=n9_
      have L:=n10_
      have E:=n11_
      have u:=n12_
      have F:=n13_
      have M:=n14_
      have G:=n15_
      have v:=n16_
      have I:=n17_
      have HB:=n18_
      clear n0_ n1_ n2_ n3_ n4_ n5_ n6_ n7_ n8_ n9_ n10_ n11_ n12_ n13_ n14_ n15_ n16_ n17_ n18_
      have hHeld:aw.cell? ⟨y,0,none⟩=some (.int .i64 Y)∧aw.cell? ⟨y,1,none⟩=some (.bool Z)∧aw.cell? ⟨y,2,none⟩=some (.int .i64 aa)∧aw.cell? ⟨y,3,none⟩=some (.int .u64 ab)∧aw.cell? ⟨q,0,none⟩=some (.int .i64 (wrap64 (-D)))∧aw.cell? ⟨q,1,none⟩=some (.slice T B.length U)∧aw.cell? ⟨q,2,none⟩=some (.int .i64 P):=hS_
      obtain⟨aM,aI,b6⟩:=Kd.V_slice Q.out
      (first|subst b6|(injection b6 with f1_ f2_ f3_;have f4_:=f1_.symm;have f5_:=f3_.symm;clear f1_ f2_ f3_;subst f4_;subst f5_))
      refine norm_ (a':=?_) ?_ ?_
      rotate_left
      ·simp only[putAll,Act.put,List.setIfInBounds_toArray,List.set_cons_zero,List.set_cons_succ]
       rfl
      refine one_ (i:=5) (N:=none) #[true,true,true,true,true,true] rfl rfl (by kernel_rfl) (by decide) (fun K hK=>?_)
      have hs59:aw.cell? ⟨d,0,none⟩=some (.int .i64 0):=(blk_cell C.out 0).trans rfl
      have hfs59:=blk_frozen C.out 0
      have c0:=L.out
      have c3:=u.out
      have c4:=M.out
      have c6:=v.out
      have c7:=E.out
      have c8:=F.out
      have c9:=G.out
      have da:=I.out
      have hs61:aw.cell? ⟨d,1,none⟩=some (.slice none 0 0):=(blk_cell C.out 1).trans rfl
      have hfs61:=blk_frozen C.out 1
      have db:=L.out
      have dc:=u.out
      have dd:=M.out
      have de:=v.out
      have df:=E.out
      have dg:=F.out
      have dh:=G.out
      have di:=I.out
      have hs62:aw.cell? ⟨d,2,none⟩=some (.int .i64 0):=(blk_cell C.out 2).trans rfl
      have hfs62:=blk_frozen C.out 2
      have dj:=L.out
      have dk:=u.out
      have dl:=M.out
      have dm:=v.out
      have dn:=E.out
      have dp:=F.out
      have dq:=G.out
      have dr:=I.out
      refine skip_ (w1:=?_) (by rfl) rfl ?_ ?_
      rotate_left
      ·go_simp
       rfl
      refine hK.out _ _ ⟨((cell_far (p:=⟨d,_,none⟩) u.out _).trans (((cell_far (p:=⟨d,_,none⟩) u.out _).trans (((cell_far (p:=⟨d,_,none⟩) u.out _).trans (hHeld.1)))))),((cell_far (p:=⟨d,_,none⟩) u.out _).trans (((cell_far (p:=⟨d,_,none⟩) u.out _).trans (((cell_far (p:=⟨d,_,none⟩) u.out _).trans (hHeld.2.1)))))),((cell_far (p:=⟨d,_,none⟩) u.out _).trans (((cell_far (p:=⟨d,_,none⟩) u.out _).trans (((cell_far (p:=⟨d,_,none⟩) u.out _).trans (hHeld.2.2.1)))))),((cell_far (p:=⟨d,_,none⟩) u.out _).trans (((cell_far (p:=⟨d,_,none⟩) u.out _).trans (((cell_far (p:=⟨d,_,none⟩) u.out _).trans (hHeld.2.2.2.1)))))),((cell_far (p:=⟨d,_,none⟩) v.out _).trans (((cell_far (p:=⟨d,_,none⟩) v.out _).trans (((cell_far (p:=⟨d,_,none⟩) v.out _).trans (hHeld.2.2.2.2.1)))))),((cell_far (p:=⟨d,_,none⟩) v.out _).trans (((cell_far (p:=⟨d,_,none⟩) v.out _).trans (((cell_far (p:=⟨d,_,none⟩) v.out _).trans (hHeld.2.2.2.2.2.1)))))),((cell_far (p:=⟨d,_,none⟩) v.out _).trans (((cell_far (p:=⟨d,_,none⟩) v.out _).trans (((cell_far (p:=⟨d,_,none⟩) v.out _).trans (hHeld.2.2.2.2.2.2))))))⟩ (fun hHeld=>?_)
      clear hK K
      refine done_ (by kernel_rfl) ?_
      obtain⟨e9,fa⟩:=z2 E
      obtain⟨fb,fc⟩:=z2 F
      obtain⟨fd,fe⟩:=z2 G
      obtain⟨ff,fg⟩:=z2 I
      obtain⟨dt,du,dv,dw,dx,dy⟩:=zc3 C
      try go_wp2_with (first|((with_reducible refine gate_callee (f:=65) rfl ?_);refine zgo (some 62) Try.func65 #[.slice aM ae.length aI] ?_;(with_reducible refine (grottoref02_Bits.calls aD _ _ ae bW _ ?side1 ?side2 cJ.out).mono ?_);(case side1=>refine (Kd.V_reads' (e:=3) (base:=w.heap.size) (ok:=fun k_=>(some k_≠(.slice T B.length U:Value).ownBlock∧(some k_≠(v631:Value).ownBlock∧(k_≠O∧(k_≠y∧(k_≠J∧(k_≠q∧k_≠d))))))) (n:=ae.length) (c:=aI) ?_).2.2;exact (by (with_reducible repeat (first|apply Kd.V_alloc|apply Kd.V_drewN|apply Kd.V_drew));exact (Kd.V_mono (Kd.V_far (p:=⟨d,2,none⟩) (Kd.V_far (p:=⟨d,1,none⟩) (Kd.V_far (p:=⟨d,0,none⟩) (Kd.V_mono Q.out (fun k_ hk=>(⟨hk,hk.2.2.2.2.2.2⟩:_∧k_≠d))) (fun _ hk=>hk.2) (.int .i64 al)) (fun _ hk=>hk.2) (.slice aM ae.length aI)) (fun _ hk=>hk.2) (.int .i64 am)) (fun _ h_=>h_.1))));(case side2=>exact (Kd.V_reads' Q.out).2.1);rintro e fY ⟨rfl,hb⟩;refine⟨_,rfl,?_⟩;replace s:=Aside0.mk (Kd.R_below (by (with_reducible repeat (first|apply Kd.R_alloc|apply Kd.R_drewN|apply Kd.R_drew));exact (Kd.R_mono (Kd.R_far (p:=⟨d,2,none⟩) (Kd.R_far (p:=⟨d,1,none⟩) (Kd.R_far (p:=⟨d,0,none⟩) (Kd.R_types s.out C.out (by decide)) (fun _ hk=>hk.2) (.int .i64 al)) (fun _ hk=>hk.2) (.slice aM ae.length aI)) (fun _ hk=>hk.2) (.int .i64 am)) (fun _ h_=>h_.1))) hb);replace z:=Aside0.mk (Kd.R_below (by (with_reducible repeat (first|apply Kd.R_alloc|apply Kd.R_drewN|apply Kd.R_drew));exact (Kd.R_mono (Kd.R_far (p:=⟨d,2,none⟩) (Kd.R_far (p:=⟨d,1,none⟩) (Kd.R_far (p:=⟨d,0,none⟩) (Kd.R_types z.out C.out (by decide)) (fun _ hk=>hk.2) (.int .i64 al)) (fun _ hk=>hk.2) (.slice aM ae.length aI)) (fun _ hk=>hk.2) (.int .i64 am)) (fun _ h_=>h_.1))) hb);replace Q:=Aside0.mk (Kd.V_below (by (with_reducible repeat (first|apply Kd.V_alloc|apply Kd.V_drewN|apply Kd.V_drew));exact (Kd.V_mono (Kd.V_far (p:=⟨d,2,none⟩) (Kd.V_far (p:=⟨d,1,none⟩) (Kd.V_far (p:=⟨d,0,none⟩) (Kd.V_mono Q.out (fun k_ hk=>(⟨hk,hk.2.2.2.2.2.2⟩:_∧k_≠d))) (fun _ hk=>hk.2) (.int .i64 al)) (fun _ hk=>hk.2) (.slice aM ae.length aI)) (fun _ hk=>hk.2) (.int .i64 am)) (fun _ h_=>h_.1))) hb);obtain⟨l,a,m,b,HB⟩:=zu4 l a m b HB hb;replace C:=zkbo (o:=.cells #[.int .i64 al,.slice aM ae.length aI,.int .i64 am] 73 (0,0)) C hb;clear hb))
      go_ret3
      exact zr HB
     rw[if_neg bX] at H
     obtain⟨ck,cl⟩:=zf bX
     simp only[Option.some.injEq,Prod.mk.injEq] at H
     obtain⟨rfl,rfl,rfl⟩:=H
     obtain⟨fh,fi⟩:=z2 an
     obtain⟨fj,fk⟩:=z2 ay
     obtain⟨dz,dA,dB,dC,dD,dE,dF,dG⟩:=zc4 m
     try go_wp2_with (first|((with_reducible refine gate_callee (f:=55) rfl ?_);refine zgo (some 51) Try.func55 #[.agg #[.int .i64 af,.bool ag,.int .i64 ah,.int .u64 ai]] ?_;(with_reducible refine (grottoref03_exact.calls cI.out).mono ?_);rintro e fZ ⟨v625,rfl,ho0,hb⟩;refine⟨_,rfl,?_⟩;have s:=Aside0.mk (Kd.R_lower ho0 (below_size (zb HB)));obtain⟨l,a,m,HB⟩:=zu3 l a m HB hb;clear hb;(try clear ho0))|((with_reducible refine gate_dst (N:=14) rfl ?_);refine zbox (N:=14) (cs:=#[.int .i64 0,.slice none 0 0,.int .i64 0]) (t:=73) ?_;intro q hg bk hbox hb;have b:=Aside0.mk hbox;have cm:=zge hg HB;have cn:=zge hg HB;have bh:=znl hg l;have az:=zng hg l;have bi:=znl hg a;have aA:=zng hg a;have bj:=znl hg m;have aB:=zng hg m;replace s:=Aside0.mk (Kd.R_below (by (with_reducible repeat (first|apply Kd.R_alloc|apply Kd.R_drewN|apply Kd.R_drew));exact s.out) hb);obtain⟨l,a,m,HB⟩:=zu3 l a m HB hb;clear hb hbox hg;obtain⟨fl,fm⟩:=z2 az;obtain⟨fn,fo⟩:=z2 aA;obtain⟨fp,fq⟩:=z2 aB;obtain⟨dH,dI,dJ,dK,dL,dM⟩:=zc3 b;obtain⟨W,X,dN⟩:=Kd.R_slice s.out;subst dN))
     have n0_:Aside0 (Kd.R (Kd.int .i64) 3 ((((bk.setCell ⟨q,0,none⟩ (.int .i64 D)).setCell ⟨q,1,none⟩ (.slice W B.length X)).setCell ⟨q,2,none⟩ (.int .i64 P)).setCell ⟨q,0,none⟩ (.int .i64 (wrap64 (-D)))) w.heap.size (fun _=>True) (.slice W B.length X) B):=⟨by (with_reducible repeat (first|apply Kd.R_alloc|apply Kd.R_drewN|apply Kd.R_drew));exact Kd.R_mono (Kd.R_far (p:=⟨q,0,none⟩) (Kd.R_far (p:=⟨q,2,none⟩) (Kd.R_far (p:=⟨q,1,none⟩) (Kd.R_far (p:=⟨q,0,none⟩) (Kd.R_types s.out b.out (by decide)) (fun _ hk=>hk.2) (.int .i64 D)) (fun _ hk=>hk.2) (.slice W B.length X)) (fun _ hk=>hk.2) (.int .i64 P)) (fun _ hk=>hk.2) (.int .i64 (wrap64 (-D)))) (fun _ hk=>trivial)⟩
     have n1_:Aside0 (((((bk.setCell ⟨q,0,none⟩ (.int .i64 D)).setCell ⟨q,1,none⟩ (.slice W B.length X)).setCell ⟨q,2,none⟩ (.int .i64 P)).setCell ⟨q,0,none⟩ (.int .i64 (wrap64 (-D)))).heap[O]?=some (.cells #[.int .i64 aj,.int .i64 ak] 23 (0,0))):=⟨zk l⟩
     have n2_:Aside0 (((((bk.setCell ⟨q,0,none⟩ (.int .i64 D)).setCell ⟨q,1,none⟩ (.slice W B.length X)).setCell ⟨q,2,none⟩ (.int .i64 P)).setCell ⟨q,0,none⟩ (.int .i64 (wrap64 (-D)))).heap[y]?=some (.cells #[.int .i64 Y,.bool Z,.int .i64 aa,.int .u64 ab] 34 (0,0))):=⟨zk a⟩
     have n3_:Aside0 (((((bk.setCell ⟨q,0,none⟩ (.int .i64 D)).setCell ⟨q,1,none⟩ (.slice W B.length X)).setCell ⟨q,2,none⟩ (.int .i64 P)).setCell ⟨q,0,none⟩ (.int .i64 (wrap64 (-D)))).heap[J]?=some (.cells #[.int .i64 af,.bool ag,.int .i64 ah,.int .u64 ai] 34 (0,0))):=⟨zk m⟩
     have n4_:Aside0 (((((bk.setCell ⟨q,0,none⟩ (.int .i64 D)).setCell ⟨q,1,none⟩ (.slice W B.length X)).setCell ⟨q,2,none⟩ (.int .i64 P)).setCell ⟨q,0,none⟩ (.int .i64 (wrap64 (-D)))).heap[q]?=some (.cells #[.int .i64 (wrap64 (-D)),.slice W B.length X,.int .i64 P] 73 (0,0))):=⟨zkp b⟩
     have n5_:Aside0 (Below w.heap.size w ((((bk.setCell ⟨q,0,none⟩ (.int .i64 D)).setCell ⟨q,1,none⟩ (.slice W B.length X)).setCell ⟨q,2,none⟩ (.int .i64 P)).setCell ⟨q,0,none⟩ (.int .i64 (wrap64 (-D))))):=⟨zb HB⟩
     (try clear s)
     (try clear l)
     (try clear a)
     (try clear m)
     (try clear b)
     (try clear HB)
     generalize ((((bk.setCell ⟨q,0,none⟩ (.int .i64 D)).setCell ⟨q,1,none⟩ (.slice W B.length X)).setCell ⟨q,2,none⟩ (.int .i64 P)).setCell ⟨q,0,none⟩ (.int .i64 (wrap64 (-D))))=fr at n0_ n1_ n2_ n3_ n4_ n5_ ⊢
     have s:=n0_
     have l:=n1_
     have a:=n2_
     have m:=n3_
     have b:=n4_
     have HB:=n5_
     clear n0_ n1_ n2_ n3_ n4_ n5_
     replace s:=Aside0.mk (Kd.R_drew s.out)
     replace l:=Aside0.mk (blk_drew l.out)
     replace a:=Aside0.mk (blk_drew a.out)
     replace m:=Aside0.mk (blk_drew m.out)
     replace b:=Aside0.mk (blk_drew b.out)
     replace HB:=Aside0.mk (below_drew1 HB.out)
     refine start_ (n:=6) (S:=fun w'=>w'.cell? ⟨y,0,none⟩=some (.int .i64 Y)∧w'.cell? ⟨y,1,none⟩=some (.bool Z)∧w'.cell? ⟨y,2,none⟩=some (.int .i64 aa)∧w'.cell? ⟨y,3,none⟩=some (.int .u64 ab)∧w'.cell? ⟨q,0,none⟩=some (.int .i64 (wrap64 (-D)))∧w'.cell? ⟨q,1,none⟩=some (.slice W B.length X)∧w'.cell? ⟨q,2,none⟩=some (.int .i64 P)) (ds:=[]) #[false,false,false,false,false,false] (by kernel_rfl) rfl rfl ⟨(blk_cell a.out 0).trans rfl,(blk_cell a.out 1).trans rfl,(blk_cell a.out 2).trans rfl,(blk_cell a.out 3).trans rfl,(blk_cell b.out 0).trans rfl,(blk_cell b.out 1).trans rfl,(blk_cell b.out 2).trans rfl⟩ (fun hHeld=>?_)
     generalize fr.drew=f0 at s l a m b HB hHeld ⊢
     refine ztake_ (i:=0) (N:=some 56) #[true,false,false,false,false,false] rfl (by kernel_rfl) hHeld (Or.inl ⟨by rfl,by rintro w' ⟨s0,s1,s2,s3,s4,s5,s6⟩;go_simp;with_reducible rfl⟩) ?_
     refine ztake_ (i:=2) (N:=some 58) #[true,false,true,false,false,false] rfl (by kernel_rfl) hHeld (Or.inl ⟨by rfl,by rintro w' ⟨s0,s1,s2,s3,s4,s5,s6⟩;go_simp;with_reducible rfl⟩) ?_
     refine join_ (σ:=Value×Value×Nat) 1 #[true,true,true,true,true,false] (fun s_=>[(57,.agg #[.int .i64 au,s_.1,.int .i64 av]),(59,.agg #[.int .i64 al,s_.2.1,.int .i64 am]),(15,.pointer (some ⟨s_.2.2,0,none⟩))]) (fun s_ w'=>(w'.cell? ⟨y,0,none⟩=some (.int .i64 Y)∧w'.cell? ⟨y,1,none⟩=some (.bool Z)∧w'.cell? ⟨y,2,none⟩=some (.int .i64 aa)∧w'.cell? ⟨y,3,none⟩=some (.int .u64 ab)∧w'.cell? ⟨q,0,none⟩=some (.int .i64 (wrap64 (-D)))∧w'.cell? ⟨q,1,none⟩=some (.slice W B.length X)∧w'.cell? ⟨q,2,none⟩=some (.int .i64 P))∧(Kd.R (Kd.int .i64) 3 w' w.heap.size (fun k_=>some k_≠(s_.1:Value).ownBlock) (.slice W B.length X) B)∧(Kd.R (Kd.int .i64) 3 w' w.heap.size (fun k_=>some k_≠(.slice W B.length X:Value).ownBlock) s_.1 ac)∧(Kd.V (Kd.int .i64) 3 w' w.heap.size (fun k_=>some k_≠(.slice W B.length X:Value).ownBlock∧some k_≠(s_.1:Value).ownBlock∧k_≠O∧k_≠y∧k_≠J∧k_≠q∧k_≠s_.2.2) s_.2.1 ae)∧(w'.heap[O]?=some (.cells #[.int .i64 aj,.int .i64 ak] 23 (0,0)))∧(w'.heap[y]?=some (.cells #[.int .i64 Y,.bool Z,.int .i64 aa,.int .u64 ab] 34 (0,0)))∧(w'.heap[J]?=some (.cells #[.int .i64 af,.bool ag,.int .i64 ah,.int .u64 ai] 34 (0,0)))∧(w'.heap[q]?=some (.cells #[.int .i64 (wrap64 (-D)),.slice W B.length X,.int .i64 P] 73 (0,0)))∧(w'.heap[s_.2.2]?=some (.cells #[.int .i64 0,.slice none 0 0,.int .i64 0] 73 (0,0)))∧(w.heap.size≤s_.2.2)∧(w.heap.size≤s_.2.2)∧(O≠s_.2.2)∧(s_.2.2≠O)∧(y≠s_.2.2)∧(s_.2.2≠y)∧(J≠s_.2.2)∧(s_.2.2≠J)∧(q≠s_.2.2)∧(s_.2.2≠q)∧(Below w.heap.size w w')) ?_ ?_
     rotate_left
     ·intro hCont
      refine two_ (i:=1) (j:=4) (Ni:=some 57) (Nj:=some 15) #[true,true,true,false,false,false] #[true,false,true,false,true,false] rfl rfl rfl rfl (by kernel_rfl) (by decide) (by decide) (fun K hK=>?_) (fun K hK=>?_)
      rotate_left
      ·skip
       refine box_step ?hg (N:=15) ?hd (cs:=#[.int .i64 0,.slice none 0 0,.int .i64 0]) (t:=73) ?hr ?_;(case hd=>rfl);(case hg=>rfl);(case hr=>first|(go_simp;done)|(go_simp;rfl))
       intro d hg fs hbox hb
       have C:=Aside0.mk hbox
       have ao:=zge hg HB
       have ap:=zge hg HB
       have L:=znl hg l
       have E:=zng hg l
       have u:=znl hg a
       have F:=zng hg a
       have M:=znl hg m
       have G:=zng hg m
       have v:=znl hg b
       have I:=zng hg b
       replace s:=Aside0.mk (Kd.R_below (by (with_reducible repeat (first|apply Kd.R_alloc|apply Kd.R_drewN|apply Kd.R_drew));exact s.out) hb)
       obtain⟨l,a,m,b,HB⟩:=zu4 l a m b HB hb
       clear hb hbox hg
       refine hK.out _ _ ⟨(blk_cell a.out 0).trans rfl,(blk_cell a.out 1).trans rfl,(blk_cell a.out 2).trans rfl,(blk_cell a.out 3).trans rfl,(blk_cell b.out 0).trans rfl,(blk_cell b.out 1).trans rfl,(blk_cell b.out 2).trans rfl⟩ (fun hHeld=>?_)
       clear hK K
       refine norm_ (a':=?_) ?_ ?_
       rotate_left
       ·show Act.put _ (some 15) _=_
        simp only[Act.put,List.setIfInBounds_toArray,List.set_cons_zero,List.set_cons_succ,i64_w,i32_w]
        rfl
       refine one_ (i:=1) (N:=some 57) #[true,true,true,false,true,false] rfl rfl (by kernel_rfl) (by decide) (fun K hK=>?_)
       refine goes_ Try.func55 (by kernel_rfl) rfl #[.agg #[.int .i64 Y,.bool Z,.int .i64 aa,.int .u64 ab]] (by rfl) rfl rfl (by (try simp only[List.map_toArray,List.map_cons,List.map_nil]);first|done|rfl|(simp only[List.length_drop,List.length_take];rfl)) ?_
       with_reducible refine (grottoref03_exact.calls b3.out).mono ?_
       rintro e ft ⟨v631,rfl,ho0,hb⟩
       refine⟨_,rfl,?_⟩
       have z:=Aside0.mk (Kd.R_lower (Kd.R_new' ho0 (Kd.R_lt (by (with_reducible repeat (first|apply Kd.R_alloc|apply Kd.R_drewN|apply Kd.R_drew));exact s.out))) (below_size (zb HB)))
       replace s:=Aside0.mk (Kd.R_elder' (by (with_reducible repeat (first|apply Kd.R_alloc|apply Kd.R_drewN|apply Kd.R_drew));exact s.out) (Kd.R_base ho0) hb)
       obtain⟨l,a,m,b,C,HB⟩:=zu5 l a m b C HB hb
       try clear hb
       (try clear ho0)
       obtain⟨aJ,aK,bd⟩:=Kd.R_slice z.out
       (first|subst bd|(injection bd with f1_ f2_ f3_;have f4_:=f1_.symm;have f5_:=f3_.symm;clear f1_ f2_ f3_;subst f4_;subst f5_))
       refine hK.out _ _ ⟨(blk_cell a.out 0).trans rfl,(blk_cell a.out 1).trans rfl,(blk_cell a.out 2).trans rfl,(blk_cell a.out 3).trans rfl,(blk_cell b.out 0).trans rfl,(blk_cell b.out 1).trans rfl,(blk_cell b.out 2).trans rfl⟩ (fun hHeld=>?_)
       clear hK K
       refine norm_ (a':=?_) ?_ ?_
       rotate_left
       ·show Act.put _ (some 57) _=_
        simp only[Act.put,List.setIfInBounds_toArray,List.set_cons_zero,List.set_cons_succ,i64_w,i32_w]
        rfl
       refine one_ (i:=3) (N:=some 59) #[true,true,true,true,true,false] rfl rfl (by kernel_rfl) (by decide) (fun K hK=>?_)
       refine goes_ Try.func64 (by kernel_rfl) rfl #[.agg #[.int .i64 au,.slice aJ ac.length aK,.int .i64 av],.agg #[.int .i64 (wrap64 (-D)),.slice W B.length X,.int .i64 P]] (by rfl) rfl rfl (by (try simp only[List.map_toArray,List.map_cons,List.map_nil]);first|done|rfl|(simp only[List.length_drop,List.length_take];rfl)) ?_
       with_reducible refine (grottoref03_plus.calls aD au _ _ ac av (wrap64 (-D)) _ _ B P al ae am _ ?side1 ?side2 ?side3 ?side4 bq.out).mono ?_
       (case side1=>repeat (first|exact (Kd.R_reads' z.out).2.2|(with_reducible refine Kd.C_alloc ?_ _)|(with_reducible refine Kd.C_drewN ?_ _)|(with_reducible refine Kd.C_drew ?_)))
       (case side2=>exact (Kd.R_reads' z.out).2.1)
       (case side3=>repeat (first|exact (Kd.R_reads' s.out).2.2|(with_reducible refine Kd.C_alloc ?_ _)|(with_reducible refine Kd.C_drewN ?_ _)|(with_reducible refine Kd.C_drew ?_)))
       (case side4=>exact (Kd.R_reads' s.out).2.1)
       rintro e dO ⟨v636,rfl,ho0,hb⟩
       refine⟨_,rfl,?_⟩
       have Q:=Aside0.mk (Kd.V_lower (Kd.V_mono (ok':=fun k_=>some k_≠(.slice W B.length X:Value).ownBlock∧some k_≠(.slice aJ ac.length aK:Value).ownBlock∧k_≠O∧k_≠y∧k_≠J∧k_≠q∧k_≠d) ho0 (fun k_ hk_=>⟨(Kd.fresh' (Kd.R_lt (by (with_reducible repeat (first|apply Kd.R_alloc|apply Kd.R_drewN|apply Kd.R_drew));exact s.out)) k_ hk_),(Kd.fresh' (Kd.R_lt (by (with_reducible repeat (first|apply Kd.R_alloc|apply Kd.R_drewN|apply Kd.R_drew));exact z.out)) k_ hk_),(Kd.freshB (g:=O) (o:=.cells #[.int .i64 aj,.int .i64 ak] 23 (0,0)) (zk l) k_ hk_),(Kd.freshB (g:=y) (o:=.cells #[.int .i64 Y,.bool Z,.int .i64 aa,.int .u64 ab] 34 (0,0)) (zk a) k_ hk_),(Kd.freshB (g:=J) (o:=.cells #[.int .i64 af,.bool ag,.int .i64 ah,.int .u64 ai] 34 (0,0)) (zk m) k_ hk_),(Kd.freshB (g:=q) (o:=.cells #[.int .i64 (wrap64 (-D)),.slice W B.length X,.int .i64 P] 73 (0,0)) (zk b) k_ hk_),(Kd.freshB (g:=d) (o:=.cells #[.int .i64 0,.slice none 0 0,.int .i64 0] 73 (0,0)) (zk C) k_ hk_)⟩)) (below_size (zb HB)))
       replace s:=Aside0.mk (Kd.R_below (by (with_reducible repeat (first|apply Kd.R_alloc|apply Kd.R_drewN|apply Kd.R_drew));exact s.out) hb)
       replace z:=Aside0.mk (Kd.R_below (by (with_reducible repeat (first|apply Kd.R_alloc|apply Kd.R_drewN|apply Kd.R_drew));exact z.out) hb)
       obtain⟨l,a,m,b,C,HB⟩:=zu5 l a m b C HB hb
       try clear hb
       (try clear ho0)
       refine hK.out _ _ ⟨(blk_cell a.out 0).trans rfl,(blk_cell a.out 1).trans rfl,(blk_cell a.out 2).trans rfl,(blk_cell a.out 3).trans rfl,(blk_cell b.out 0).trans rfl,(blk_cell b.out 1).trans rfl,(blk_cell b.out 2).trans rfl⟩ (fun hHeld=>?_)
       clear hK K
       refine norm_ (a':=?_) ?_ ?_
       rotate_left
       ·show Act.put _ (some 59) _=_
        simp only[Act.put,List.setIfInBounds_toArray,List.set_cons_zero,List.set_cons_succ,i64_w,i32_w]
        rfl
       exact norm_ (by simp only[putAll,Act.put,List.setIfInBounds_toArray,List.set_cons_zero,List.set_cons_succ]) (hCont (.slice aJ ac.length aK,v636,d) _ ⟨hHeld,(by (with_reducible repeat (first|apply Kd.R_alloc|apply Kd.R_drewN|apply Kd.R_drew));exact Kd.R_mono s.out (fun _ hk=>hk.2)),(by (with_reducible repeat (first|apply Kd.R_alloc|apply Kd.R_drewN|apply Kd.R_drew));exact Kd.R_mono z.out (fun _ hk=>hk.2)),(by (with_reducible repeat (first|apply Kd.V_alloc|apply Kd.V_drewN|apply Kd.V_drew));exact Q.out),(zk l),(zk a),(zk m),(zk b),(zk C),ao.out,ap.out,L.out,E.out,u.out,F.out,M.out,G.out,v.out,I.out,(zb HB)⟩)
      skip
      refine goes_ Try.func55 (by kernel_rfl) rfl #[.agg #[.int .i64 Y,.bool Z,.int .i64 aa,.int .u64 ab]] (by rfl) rfl rfl (by (try simp only[List.map_toArray,List.map_cons,List.map_nil]);first|done|rfl|(simp only[List.length_drop,List.length_take];rfl)) ?_
      with_reducible refine (grottoref03_exact.calls b3.out).mono ?_
      rintro e fs ⟨v631,rfl,ho0,hb⟩
      refine⟨_,rfl,?_⟩
      have z:=Aside0.mk (Kd.R_lower (Kd.R_new' ho0 (Kd.R_lt (by (with_reducible repeat (first|apply Kd.R_alloc|apply Kd.R_drewN|apply Kd.R_drew));exact s.out))) (below_size (zb HB)))
      replace s:=Aside0.mk (Kd.R_elder' (by (with_reducible repeat (first|apply Kd.R_alloc|apply Kd.R_drewN|apply Kd.R_drew));exact s.out) (Kd.R_base ho0) hb)
      obtain⟨l,a,m,b,HB⟩:=zu4 l a m b HB hb
      try clear hb
      (try clear ho0)
      obtain⟨b0,b1,b7⟩:=Kd.R_slice z.out
      (first|subst b7|(injection b7 with f1_ f2_ f3_;have f4_:=f1_.symm;have f5_:=f3_.symm;clear f1_ f2_ f3_;subst f4_;subst f5_))
      refine hK.out _ _ ⟨(blk_cell a.out 0).trans rfl,(blk_cell a.out 1).trans rfl,(blk_cell a.out 2).trans rfl,(blk_cell a.out 3).trans rfl,(blk_cell b.out 0).trans rfl,(blk_cell b.out 1).trans rfl,(blk_cell b.out 2).trans rfl⟩ (fun hHeld=>?_)
      clear hK K
      refine norm_ (a':=?_) ?_ ?_
      rotate_left
      ·show Act.put _ (some 57) _=_
       simp only[Act.put,List.setIfInBounds_toArray,List.set_cons_zero,List.set_cons_succ,i64_w,i32_w]
       rfl
      refine two_ (i:=3) (j:=4) (Ni:=some 59) (Nj:=some 15) #[true,true,true,true,false,false] #[true,true,true,false,true,false] rfl rfl rfl rfl (by kernel_rfl) (by decide) (by decide) (fun K hK=>?_) (fun K hK=>?_)
      ·skip
       refine goes_ Try.func64 (by kernel_rfl) rfl #[.agg #[.int .i64 au,.slice b0 ac.length b1,.int .i64 av],.agg #[.int .i64 (wrap64 (-D)),.slice W B.length X,.int .i64 P]] (by rfl) rfl rfl (by (try simp only[List.map_toArray,List.map_cons,List.map_nil]);first|done|rfl|(simp only[List.length_drop,List.length_take];rfl)) ?_
       with_reducible refine (grottoref03_plus.calls aD au _ _ ac av (wrap64 (-D)) _ _ B P al ae am _ ?side1 ?side2 ?side3 ?side4 bq.out).mono ?_
       (case side1=>repeat (first|exact (Kd.R_reads' z.out).2.2|(with_reducible refine Kd.C_alloc ?_ _)|(with_reducible refine Kd.C_drewN ?_ _)|(with_reducible refine Kd.C_drew ?_)))
       (case side2=>exact (Kd.R_reads' z.out).2.1)
       (case side3=>repeat (first|exact (Kd.R_reads' s.out).2.2|(with_reducible refine Kd.C_alloc ?_ _)|(with_reducible refine Kd.C_drewN ?_ _)|(with_reducible refine Kd.C_drew ?_)))
       (case side4=>exact (Kd.R_reads' s.out).2.1)
       rintro e f1 ⟨v636,rfl,ho0,hb⟩
       refine⟨_,rfl,?_⟩
       have Q:=Aside0.mk (Kd.V_lower (Kd.V_mono (ok':=fun k_=>some k_≠(.slice W B.length X:Value).ownBlock∧some k_≠(.slice b0 ac.length b1:Value).ownBlock∧k_≠O∧k_≠y∧k_≠J∧k_≠q) ho0 (fun k_ hk_=>⟨(Kd.fresh' (Kd.R_lt (by (with_reducible repeat (first|apply Kd.R_alloc|apply Kd.R_drewN|apply Kd.R_drew));exact s.out)) k_ hk_),(Kd.fresh' (Kd.R_lt (by (with_reducible repeat (first|apply Kd.R_alloc|apply Kd.R_drewN|apply Kd.R_drew));exact z.out)) k_ hk_),(Kd.freshB (g:=O) (o:=.cells #[.int .i64 aj,.int .i64 ak] 23 (0,0)) (zk l) k_ hk_),(Kd.freshB (g:=y) (o:=.cells #[.int .i64 Y,.bool Z,.int .i64 aa,.int .u64 ab] 34 (0,0)) (zk a) k_ hk_),(Kd.freshB (g:=J) (o:=.cells #[.int .i64 af,.bool ag,.int .i64 ah,.int .u64 ai] 34 (0,0)) (zk m) k_ hk_),(Kd.freshB (g:=q) (o:=.cells #[.int .i64 (wrap64 (-D)),.slice W B.length X,.int .i64 P] 73 (0,0)) (zk b) k_ hk_)⟩)) (below_size (zb HB)))
       replace s:=Aside0.mk (Kd.R_below (by (with_reducible repeat (first|apply Kd.R_alloc|apply Kd.R_drewN|apply Kd.R_drew));exact s.out) hb)
       replace z:=Aside0.mk (Kd.R_below (by (with_reducible repeat (first|apply Kd.R_alloc|apply Kd.R_drewN|apply Kd.R_drew));exact z.out) hb)
       obtain⟨l,a,m,b,HB⟩:=zu4 l a m b HB hb
       try clear hb
       (try clear ho0)
       refine hK.out _ _ ⟨(blk_cell a.out 0).trans rfl,(blk_cell a.out 1).trans rfl,(blk_cell a.out 2).trans rfl,(blk_cell a.out 3).trans rfl,(blk_cell b.out 0).trans rfl,(blk_cell b.out 1).trans rfl,(blk_cell b.out 2).trans rfl⟩ (fun hHeld=>?_)
       clear hK K
       refine norm_ (a':=?_) ?_ ?_
       rotate_left
       ·show Act.put _ (some 59) _=_
        simp only[Act.put,List.setIfInBounds_toArray,List.set_cons_zero,List.set_cons_succ,i64_w,i32_w]
        rfl
       refine one_ (i:=4) (N:=some 15) #[true,true,true,true,true,false] rfl rfl (by kernel_rfl) (by decide) (fun K hK=>?_)
       refine box_step ?hg (N:=15) ?hd (cs:=#[.int .i64 0,.slice none 0 0,.int .i64 0]) (t:=73) ?hr ?_;(case hd=>rfl);(case hg=>rfl);(case hr=>first|(go_simp;done)|(go_simp;rfl))
       intro d hg dO hbox hb
       have C:=Aside0.mk hbox
       have ao:=zge hg HB
       have ap:=zge hg HB
       have L:=znl hg l
       have E:=zng hg l
       have u:=znl hg a
       have F:=zng hg a
       have M:=znl hg m
       have G:=zng hg m
       have v:=znl hg b
       have I:=zng hg b
       replace s:=Aside0.mk (Kd.R_below (by (with_reducible repeat (first|apply Kd.R_alloc|apply Kd.R_drewN|apply Kd.R_drew));exact s.out) hb)
       replace z:=Aside0.mk (Kd.R_below (by (with_reducible repeat (first|apply Kd.R_alloc|apply Kd.R_drewN|apply Kd.R_drew));exact z.out) hb)
       replace Q:=Aside0.mk (Kd.V_below (Kd.V_elderB (by (with_reducible repeat (first|apply Kd.V_alloc|apply Kd.V_drewN|apply Kd.V_drew));exact Q.out) d (Nat.le_of_eq hg.symm)) hb)
       obtain⟨l,a,m,b,HB⟩:=zu4 l a m b HB hb
       clear hb hbox hg
       refine hK.out _ _ ⟨(blk_cell a.out 0).trans rfl,(blk_cell a.out 1).trans rfl,(blk_cell a.out 2).trans rfl,(blk_cell a.out 3).trans rfl,(blk_cell b.out 0).trans rfl,(blk_cell b.out 1).trans rfl,(blk_cell b.out 2).trans rfl⟩ (fun hHeld=>?_)
       clear hK K
       refine norm_ (a':=?_) ?_ ?_
       rotate_left
       ·show Act.put _ (some 15) _=_
        simp only[Act.put,List.setIfInBounds_toArray,List.set_cons_zero,List.set_cons_succ,i64_w,i32_w]
        rfl
       exact norm_ (by simp only[putAll,Act.put,List.setIfInBounds_toArray,List.set_cons_zero,List.set_cons_succ]) (hCont (.slice b0 ac.length b1,v636,d) _ ⟨hHeld,(by (with_reducible repeat (first|apply Kd.R_alloc|apply Kd.R_drewN|apply Kd.R_drew));exact Kd.R_mono s.out (fun _ hk=>hk.2)),(by (with_reducible repeat (first|apply Kd.R_alloc|apply Kd.R_drewN|apply Kd.R_drew));exact Kd.R_mono z.out (fun _ hk=>hk.2)),(by (with_reducible repeat (first|apply Kd.V_alloc|apply Kd.V_drewN|apply Kd.V_drew));exact Kd.V_mono Q.out (fun _ hk=>⟨hk.1.1,⟨hk.1.2.1,⟨hk.1.2.2.1,⟨hk.1.2.2.2.1,⟨hk.1.2.2.2.2.1,⟨hk.1.2.2.2.2.2,hk.2⟩⟩⟩⟩⟩⟩)),(zk l),(zk a),(zk m),(zk b),(zk C),ao.out,ap.out,L.out,E.out,u.out,F.out,M.out,G.out,v.out,I.out,(zb HB)⟩)
      skip
      refine box_step ?hg (N:=15) ?hd (cs:=#[.int .i64 0,.slice none 0 0,.int .i64 0]) (t:=73) ?hr ?_;(case hd=>rfl);(case hg=>rfl);(case hr=>first|(go_simp;done)|(go_simp;rfl))
      intro d hg ft hbox hb
      have C:=Aside0.mk hbox
      have ao:=zge hg HB
      have ap:=zge hg HB
      have L:=znl hg l
      have E:=zng hg l
      have u:=znl hg a
      have F:=zng hg a
      have M:=znl hg m
      have G:=zng hg m
      have v:=znl hg b
      have I:=zng hg b
      replace s:=Aside0.mk (Kd.R_below (by (with_reducible repeat (first|apply Kd.R_alloc|apply Kd.R_drewN|apply Kd.R_drew));exact s.out) hb)
      replace z:=Aside0.mk (Kd.R_below (by (with_reducible repeat (first|apply Kd.R_alloc|apply Kd.R_drewN|apply Kd.R_drew));exact z.out) hb)
      obtain⟨l,a,m,b,HB⟩:=zu4 l a m b HB hb
      clear hb hbox hg
      obtain⟨aJ,aK,bd⟩:=Kd.R_slice z.out
      (first|subst bd|(injection bd with f1_ f2_ f3_;have f4_:=f1_.symm;have f5_:=f3_.symm;clear f1_ f2_ f3_;subst f4_;subst f5_))
      refine hK.out _ _ ⟨(blk_cell a.out 0).trans rfl,(blk_cell a.out 1).trans rfl,(blk_cell a.out 2).trans rfl,(blk_cell a.out 3).trans rfl,(blk_cell b.out 0).trans rfl,(blk_cell b.out 1).trans rfl,(blk_cell b.out 2).trans rfl⟩ (fun hHeld=>?_)
      clear hK K
      refine norm_ (a':=?_) ?_ ?_
      rotate_left
      ·show Act.put _ (some 15) _=_
       simp only[Act.put,List.setIfInBounds_toArray,List.set_cons_zero,List.set_cons_succ,i64_w,i32_w]
       rfl
      refine one_ (i:=3) (N:=some 59) #[true,true,true,true,true,false] rfl rfl (by kernel_rfl) (by decide) (fun K hK=>?_)
      refine goes_ Try.func64 (by kernel_rfl) rfl #[.agg #[.int .i64 au,.slice aJ ac.length aK,.int .i64 av],.agg #[.int .i64 (wrap64 (-D)),.slice W B.length X,.int .i64 P]] (by rfl) rfl rfl (by (try simp only[List.map_toArray,List.map_cons,List.map_nil]);first|done|rfl|(simp only[List.length_drop,List.length_take];rfl)) ?_
      with_reducible refine (grottoref03_plus.calls aD au _ _ ac av (wrap64 (-D)) _ _ B P al ae am _ ?side1 ?side2 ?side3 ?side4 bq.out).mono ?_
      (case side1=>repeat (first|exact (Kd.R_reads' z.out).2.2|(with_reducible refine Kd.C_alloc ?_ _)|(with_reducible refine Kd.C_drewN ?_ _)|(with_reducible refine Kd.C_drew ?_)))
      (case side2=>exact (Kd.R_reads' z.out).2.1)
      (case side3=>repeat (first|exact (Kd.R_reads' s.out).2.2|(with_reducible refine Kd.C_alloc ?_ _)|(with_reducible refine Kd.C_drewN ?_ _)|(with_reducible refine Kd.C_drew ?_)))
      (case side4=>exact (Kd.R_reads' s.out).2.1)
      rintro e dO ⟨v636,rfl,ho0,hb⟩
      refine⟨_,rfl,?_⟩
      have Q:=Aside0.mk (Kd.V_lower (Kd.V_mono (ok':=fun k_=>some k_≠(.slice W B.length X:Value).ownBlock∧some k_≠(.slice aJ ac.length aK:Value).ownBlock∧k_≠O∧k_≠y∧k_≠J∧k_≠q∧k_≠d) ho0 (fun k_ hk_=>⟨(Kd.fresh' (Kd.R_lt (by (with_reducible repeat (first|apply Kd.R_alloc|apply Kd.R_drewN|apply Kd.R_drew));exact s.out)) k_ hk_),(Kd.fresh' (Kd.R_lt (by (with_reducible repeat (first|apply Kd.R_alloc|apply Kd.R_drewN|apply Kd.R_drew));exact z.out)) k_ hk_),(Kd.freshB (g:=O) (o:=.cells #[.int .i64 aj,.int .i64 ak] 23 (0,0)) (zk l) k_ hk_),(Kd.freshB (g:=y) (o:=.cells #[.int .i64 Y,.bool Z,.int .i64 aa,.int .u64 ab] 34 (0,0)) (zk a) k_ hk_),(Kd.freshB (g:=J) (o:=.cells #[.int .i64 af,.bool ag,.int .i64 ah,.int .u64 ai] 34 (0,0)) (zk m) k_ hk_),(Kd.freshB (g:=q) (o:=.cells #[.int .i64 (wrap64 (-D)),.slice W B.length X,.int .i64 P] 73 (0,0)) (zk b) k_ hk_),(Kd.freshB (g:=d) (o:=.cells #[.int .i64 0,.slice none 0 0,.int .i64 0] 73 (0,0)) (zk C) k_ hk_)⟩)) (below_size (zb HB)))
      replace s:=Aside0.mk (Kd.R_below (by (with_reducible repeat (first|apply Kd.R_alloc|apply Kd.R_drewN|apply Kd.R_drew));exact s.out) hb)
      replace z:=Aside0.mk (Kd.R_below (by (with_reducible repeat (first|apply Kd.R_alloc|apply Kd.R_drewN|apply Kd.R_drew));exact z.out) hb)
      obtain⟨l,a,m,b,C,HB⟩:=zu5 l a m b C HB hb
      try clear hb
      (try clear ho0)
      refine hK.out _ _ ⟨(blk_cell a.out 0).trans rfl,(blk_cell a.out 1).trans rfl,(blk_cell a.out 2).trans rfl,(blk_cell a.out 3).trans rfl,(blk_cell b.out 0).trans rfl,(blk_cell b.out 1).trans rfl,(blk_cell b.out 2).trans rfl⟩ (fun hHeld=>?_)
      clear hK K
      refine norm_ (a':=?_) ?_ ?_
      rotate_left
      ·show Act.put _ (some 59) _=_
       simp only[Act.put,List.setIfInBounds_toArray,List.set_cons_zero,List.set_cons_succ,i64_w,i32_w]
       rfl
      exact norm_ (by simp only[putAll,Act.put,List.setIfInBounds_toArray,List.set_cons_zero,List.set_cons_succ]) (hCont (.slice aJ ac.length aK,v636,d) _ ⟨hHeld,(by (with_reducible repeat (first|apply Kd.R_alloc|apply Kd.R_drewN|apply Kd.R_drew));exact Kd.R_mono s.out (fun _ hk=>hk.2)),(by (with_reducible repeat (first|apply Kd.R_alloc|apply Kd.R_drewN|apply Kd.R_drew));exact Kd.R_mono z.out (fun _ hk=>hk.2)),(by (with_reducible repeat (first|apply Kd.V_alloc|apply Kd.V_drewN|apply Kd.V_drew));exact Q.out),(zk l),(zk a),(zk m),(zk b),(zk C),ao.out,ap.out,L.out,E.out,u.out,F.out,M.out,G.out,v.out,I.out,(zb HB)⟩)
     rintro⟨v631,v636,d⟩ ax ⟨hS_,h0_,h1_,h2_,h3_,h4_,h5_,h6_,h7_,h8_,h9_,h10_,h11_,h12_,h13_,h14_,h15_,h16_,h17_,h18_⟩
     have n0_:Aside0 (Kd.R (Kd.int .i64) 3 ax w.heap.size (fun k_=>some k_≠(v631:Value).ownBlock) (.slice W B.length X) B):=⟨h0_⟩
     have n1_:Aside0 (Kd.R (Kd.int .i64) 3 ax w.heap.size (fun k_=>some k_≠(.slice W B.length X:Value).ownBlock) v631 ac):=⟨h1_⟩
     have n2_:Aside0 (Kd.V (Kd.int .i64) 3 ax w.heap.size (fun k_=>some k_≠(.slice W B.length X:Value).ownBlock∧some k_≠(v631:Value).ownBlock∧k_≠O∧k_≠y∧k_≠J∧k_≠q∧k_≠d) v636 ae):=⟨h2_⟩
     have n3_:Aside0 (ax.heap[O]?=some (.cells #[.int .i64 aj,.int .i64 ak] 23 (0,0))):=⟨h3_⟩
     have n4_:Aside0 (ax.heap[y]?=some (.cells #[.int .i64 Y,.bool Z,.int .i64 aa,.int .u64 ab] 34 (0,0))):=⟨h4_⟩
     have n5_:Aside0 (ax.heap[J]?=some (.cells #[.int .i64 af,.bool ag,.int .i64 ah,.int .u64 ai] 34 (0,0))):=⟨h5_⟩
     have n6_:Aside0 (ax.heap[q]?=some (.cells #[.int .i64 (wrap64 (-D)),.slice W B.length X,.int .i64 P] 73 (0,0))):=⟨h6_⟩
     have n7_:Aside0 (ax.heap[d]?=some (.cells #[.int .i64 0,.slice none 0 0,.int .i64 0] 73 (0,0))):=⟨h7_⟩
     have n8_:Aside0 (w.heap.size≤d):=⟨h8_⟩
     have n9_:Aside0 (w.heap.size≤d):=⟨h9_⟩
     have n10_:Aside0 (O≠d):=⟨h10_⟩
     have n11_:Aside0 (d≠O):=⟨h11_⟩
     have n12_:Aside0 (y≠d):=⟨h12_⟩
     have n13_:Aside0 (d≠y):=⟨h13_⟩
     have n14_:Aside0 (J≠d):=⟨h14_⟩
     have n15_:Aside0 (d≠J):=⟨h15_⟩
     have n16_:Aside0 (q≠d):=⟨h16_⟩
     have n17_:Aside0 (d≠q):=⟨h17_⟩
     have n18_:Aside0 (Below w.heap.size w ax):=⟨h18_⟩
     clear s
     clear l
     clear a
     clear m
     clear b
     clear HB
     clear h0_ h1_ h2_ h3_ h4_ h5_ h6_ h7_ h8_ h9_ h10_ h11_ h12_ h13_ h14_ h15_ h16_ h17_ h18_
     have s:=n0_
     have z:=n1_
     have Q:=n2_
     have l:=n3_
     have a:=n4_
     have m:=n5_
     have b:=n6_
     have C:=n7_
     have ao:=n8_
     have ap:=n9_
     have L:=n10_
     have E:=n11_
     have u:=n12_
     have F:=n13_
     have M:=n14_
     have G:=n15_
     have v:=n16_
     have I:=n17_
     have HB:=n18_
     clear n0_ n1_ n2_ n3_ n4_ n5_ n6_ n7_ n8_ n9_ n10_ n11_ n12_ n13_ n14_ n15_ n16_ n17_ n18_
     have hHeld:ax.cell? ⟨y,0,none⟩=some (.int .i64 Y)∧ax.cell? ⟨y,1,none⟩=some (.bool Z)∧ax.cell? ⟨y,2,none⟩=some (.int .i64 aa)∧ax.cell? ⟨y,3,none⟩=some (.int .u64 ab)∧ax.cell? ⟨q,0,none⟩=some (.int .i64 (wrap64 (-D)))∧ax.cell? ⟨q,1,none⟩=some (.slice W B.length X)∧ax.cell? ⟨q,2,none⟩=some (.int .i64 P):=hS_
     obtain⟨aN,aL,b8⟩:=Kd.V_slice Q.out
     (first|subst b8|(injection b8 with f1_ f2_ f3_;have f4_:=f1_.symm;have f5_:=f3_.symm;clear f1_ f2_ f3_;subst f4_;subst f5_))
     refine norm_ (a':=?_) ?_ ?_
     rotate_left
     ·simp only[putAll,Act.put,List.setIfInBounds_toArray,List.set_cons_zero,List.set_cons_succ]
      rfl
     refine one_ (i:=5) (N:=none) #[true,true,true,true,true,true] rfl rfl (by kernel_rfl) (by decide) (fun K hK=>?_)
     have hs86:ax.cell? ⟨d,0,none⟩=some (.int .i64 0):=(blk_cell C.out 0).trans rfl
     have hfs86:=blk_frozen C.out 0
     have dP:=L.out
     have dQ:=u.out
     have dR:=M.out
     have dS:=v.out
     have dT:=E.out
     have dU:=F.out
     have dV:=G.out
     have dW:=I.out
     have hs88:ax.cell? ⟨d,1,none⟩=some (.slice none 0 0):=(blk_cell C.out 1).trans rfl
     have hfs88:=blk_frozen C.out 1
     have dX:=L.out
     have dY:=u.out
     have dZ:=M.out
     have d0:=v.out
     have d1:=E.out
     have d2:=F.out
     have d3:=G.out
     have d4:=I.out
     have hs89:ax.cell? ⟨d,2,none⟩=some (.int .i64 0):=(blk_cell C.out 2).trans rfl
     have hfs89:=blk_frozen C.out 2
     have d5:=L.out
     have d6:=u.out
     have d7:=M.out
     have d8:=v.out
     have d9:=E.out
     have ea:=F.out
     have eb:=G.out
     have ec:=I.out
     refine skip_ (w1:=?_) (by rfl) rfl ?_ ?_
     rotate_left
     ·go_simp
      rfl
     refine hK.out _ _ ⟨((cell_far (p:=⟨d,_,none⟩) u.out _).trans (((cell_far (p:=⟨d,_,none⟩) u.out _).trans (((cell_far (p:=⟨d,_,none⟩) u.out _).trans (hHeld.1)))))),((cell_far (p:=⟨d,_,none⟩) u.out _).trans (((cell_far (p:=⟨d,_,none⟩) u.out _).trans (((cell_far (p:=⟨d,_,none⟩) u.out _).trans (hHeld.2.1)))))),((cell_far (p:=⟨d,_,none⟩) u.out _).trans (((cell_far (p:=⟨d,_,none⟩) u.out _).trans (((cell_far (p:=⟨d,_,none⟩) u.out _).trans (hHeld.2.2.1)))))),((cell_far (p:=⟨d,_,none⟩) u.out _).trans (((cell_far (p:=⟨d,_,none⟩) u.out _).trans (((cell_far (p:=⟨d,_,none⟩) u.out _).trans (hHeld.2.2.2.1)))))),((cell_far (p:=⟨d,_,none⟩) v.out _).trans (((cell_far (p:=⟨d,_,none⟩) v.out _).trans (((cell_far (p:=⟨d,_,none⟩) v.out _).trans (hHeld.2.2.2.2.1)))))),((cell_far (p:=⟨d,_,none⟩) v.out _).trans (((cell_far (p:=⟨d,_,none⟩) v.out _).trans (((cell_far (p:=⟨d,_,none⟩) v.out _).trans (hHeld.2.2.2.2.2.1)))))),((cell_far (p:=⟨d,_,none⟩) v.out _).trans (((cell_far (p:=⟨d,_,none⟩) v.out _).trans (((cell_far (p:=⟨d,_,none⟩) v.out _).trans (hHeld.2.2.2.2.2.2))))))⟩ (fun hHeld=>?_)
     clear hK K
     refine done_ (by kernel_rfl) ?_
     obtain⟨fu,fv⟩:=z2 E
     obtain⟨fw,fx⟩:=z2 F
     obtain⟨fy,fz⟩:=z2 G
     obtain⟨fA,fB⟩:=z2 I
     obtain⟨ed,ee,ef,eg,eh,ei⟩:=zc3 C
     try go_wp2_with (first|((with_reducible refine gate_callee (f:=65) rfl ?_);refine zgo (some 62) Try.func65 #[.slice aN ae.length aL] ?_;(with_reducible refine (grottoref02_Bits.calls aD _ _ ae bW _ ?side1 ?side2 cJ.out).mono ?_);(case side1=>refine (Kd.V_reads' (e:=3) (base:=w.heap.size) (ok:=fun k_=>(some k_≠(.slice W B.length X:Value).ownBlock∧(some k_≠(v631:Value).ownBlock∧(k_≠O∧(k_≠y∧(k_≠J∧(k_≠q∧k_≠d))))))) (n:=ae.length) (c:=aL) ?_).2.2;exact (by (with_reducible repeat (first|apply Kd.V_alloc|apply Kd.V_drewN|apply Kd.V_drew));exact (Kd.V_mono (Kd.V_far (p:=⟨d,2,none⟩) (Kd.V_far (p:=⟨d,1,none⟩) (Kd.V_far (p:=⟨d,0,none⟩) (Kd.V_mono Q.out (fun k_ hk=>(⟨hk,hk.2.2.2.2.2.2⟩:_∧k_≠d))) (fun _ hk=>hk.2) (.int .i64 al)) (fun _ hk=>hk.2) (.slice aN ae.length aL)) (fun _ hk=>hk.2) (.int .i64 am)) (fun _ h_=>h_.1))));(case side2=>exact (Kd.V_reads' Q.out).2.1);rintro e f2 ⟨rfl,hb⟩;refine⟨_,rfl,?_⟩;replace s:=Aside0.mk (Kd.R_below (by (with_reducible repeat (first|apply Kd.R_alloc|apply Kd.R_drewN|apply Kd.R_drew));exact (Kd.R_mono (Kd.R_far (p:=⟨d,2,none⟩) (Kd.R_far (p:=⟨d,1,none⟩) (Kd.R_far (p:=⟨d,0,none⟩) (Kd.R_types s.out C.out (by decide)) (fun _ hk=>hk.2) (.int .i64 al)) (fun _ hk=>hk.2) (.slice aN ae.length aL)) (fun _ hk=>hk.2) (.int .i64 am)) (fun _ h_=>h_.1))) hb);replace z:=Aside0.mk (Kd.R_below (by (with_reducible repeat (first|apply Kd.R_alloc|apply Kd.R_drewN|apply Kd.R_drew));exact (Kd.R_mono (Kd.R_far (p:=⟨d,2,none⟩) (Kd.R_far (p:=⟨d,1,none⟩) (Kd.R_far (p:=⟨d,0,none⟩) (Kd.R_types z.out C.out (by decide)) (fun _ hk=>hk.2) (.int .i64 al)) (fun _ hk=>hk.2) (.slice aN ae.length aL)) (fun _ hk=>hk.2) (.int .i64 am)) (fun _ h_=>h_.1))) hb);replace Q:=Aside0.mk (Kd.V_below (by (with_reducible repeat (first|apply Kd.V_alloc|apply Kd.V_drewN|apply Kd.V_drew));exact (Kd.V_mono (Kd.V_far (p:=⟨d,2,none⟩) (Kd.V_far (p:=⟨d,1,none⟩) (Kd.V_far (p:=⟨d,0,none⟩) (Kd.V_mono Q.out (fun k_ hk=>(⟨hk,hk.2.2.2.2.2.2⟩:_∧k_≠d))) (fun _ hk=>hk.2) (.int .i64 al)) (fun _ hk=>hk.2) (.slice aN ae.length aL)) (fun _ hk=>hk.2) (.int .i64 am)) (fun _ h_=>h_.1))) hb);obtain⟨l,a,m,b,HB⟩:=zu4 l a m b HB hb;replace C:=zkbo (o:=.cells #[.int .i64 al,.slice aN ae.length aL,.int .i64 am] 73 (0,0)) C hb;clear hb;obtain⟨ej,ek,el,em,en,eo⟩:=zc3 C))
     go_ret3
     exact zr HB
end Go.Proofs.Ytmmbgbchimangaa.PQ
