-- by a program of this claim
import Derived.Test.YtmmbgbchimangaaPQx0
import Derived.Test.YtmmbgbchimangaaPQx8
import Derived.Test.YtmmbgbchimangaaPQx9
import Derived.Test.YtmmbgbchimangaaPQx10
import Derived.Test.YtmmbgbchimangaaPQx11
namespace Go.Proofs.Ytmmbgbchimangaa.PQ
open Go.RowKit Go.Proofs.YtmmbgbchimangaaW.PrintWords Go.Proofs.YtmmbgbchimangaaW.PrintLast Go.Proofs.YtmmbgbchimangaaW.PrintMore Go.Proofs.Ytmmbgbchimangaa.Z
attribute [local go_sem] max2_int min2_int max_two min_two max_three min_three max_four min_four   -- for this text's walks alone
set_option linter.unusedVariables false
set_option linter.unusedSimpArgs false

/-! ### grottoref03_Convert: function 31 -/
def grottoref03_Convert.j0:Nat→Bool→Int→Int→Int→Bool→Int→Int→Option (Int×Int)
 | 0,_,_,_,_,_,_,_=>none
 | k+1,e,a,b,c,d,g,h=>if e=true then (some (0,1)) else (if c=4 then ((grottoref02_NaN.f k a b).bind fun i=>(some (i,0))) else (if c=3 then ((grottoref02_Inf.f k a b d).bind fun j=>(some (j,0))) else ((grottoref02_NatOf.f k h).bind fun l=>((grottoref03_one.f).bind fun m=>((grottoref02_Near.f k a b d l m g).bind fun n=>(some (n,0)))))))
def grottoref03_Convert.f (k:Nat) (a0_0:Int) (a0_1:Int) (a1_0:Int) (a1_1:Int) (a2:Int):Option (Int×Int):=(grottoref02_Open.f k a0_0 a0_1 a2).bind fun a=>(if a.2.2.2.2=0 then ((grottoref02_Check.f a1_0 a1_1).bind fun b=>(grottoref03_Convert.j0 k (b != 0) a1_0 a1_1 a.1 a.2.1 a.2.2.1 a.2.2.2.1)) else (grottoref03_Convert.j0 k true a1_0 a1_1 a.1 a.2.1 a.2.2.1 a.2.2.2.1))
theorem grottoref03_Convert.mono_l:∀ k,(∀ y0 y1 y2 y3 y4 y5 y6,LeO (grottoref03_Convert.j0 k y0 y1 y2 y3 y4 y5 y6) (grottoref03_Convert.j0 (k+1) y0 y1 y2 y3 y4 y5 y6))
 | 0=>fun _ _ _ _ _ _ _ r h=>by simp[grottoref03_Convert.j0] at h
 | k+1=>by
  have ih0:=grottoref03_Convert.mono_l k
  intros;unfold grottoref03_Convert.j0;repeat' first|(with_reducible first|apply ih0|apply grottoref02_Inf.mono|apply grottoref02_NaN.mono|apply grottoref02_NatOf.mono|apply grottoref02_Near.mono|apply grottoref02_Open.mono|exact LeO.refl _|exact LeO.none _|refine LeO.ite ?_ ?_|refine LeO.bind ?_ (fun _=>?_))|refine LeO.ite ?_ ?_|refine LeO.bind ?_ (fun _=>?_)
theorem grottoref03_Convert.mono:∀ a0 a1 a2 a3 a4 k,LeO (grottoref03_Convert.f k a0 a1 a2 a3 a4) (grottoref03_Convert.f (k+1) a0 a1 a2 a3 a4):=by
 intro a0 a1 a2 a3 a4 k
 have ih0:=grottoref03_Convert.mono_l k
 unfold grottoref03_Convert.f
 repeat' first|(with_reducible first|apply ih0|apply grottoref02_Inf.mono|apply grottoref02_NaN.mono|apply grottoref02_NatOf.mono|apply grottoref02_Near.mono|apply grottoref02_Open.mono|exact LeO.refl _|exact LeO.none _|refine LeO.ite ?_ ?_|refine LeO.bind ?_ (fun _=>?_))|refine LeO.ite ?_ ?_|refine LeO.bind ?_ (fun _=>?_)
def grottoref03_Convert.T9:Bool×List (List Nat×List Nat):=(true,[([],[]),([],[]),([1],[1]),([],[]),([3],[3]),([4],[4]),([5],[]),([],[]),([7],[7]),([0,2,5,6,8,6],[0,2,5,6,8]),([9,9,0,1,2,3,4,5,6,7,8,9],[9]),([10,0,1,2,3,4,5,6,7,8,9,10],[])])
def grottoref03_Convert.B9:List Nat:=[0,0,2,0,8,24,56,0,128,511,1023,2047]
theorem grottoref03_Convert.tab9:rtab .any (opsOf Try.f31 9)=grottoref03_Convert.T9:=by kernel_rfl
theorem grottoref03_Convert.bits9:waitsOk grottoref03_Convert.T9.2 grottoref03_Convert.B9=true:=by kernel_rfl
set_option maxHeartbeats 8000000 in
set_option maxRecDepth 100000 in
theorem grottoref03_Convert.calls {k:Nat} {D:Int} {E:Int} {l:Int} {m:Int} {a2:Int} {r1:Int} {r2:Int} {w:World} (h:grottoref03_Convert.f k D E l m a2=some (r1,r2)) :
  Calls Try.prog 31 #[.agg #[.int .i64 D,.int .i64 E],.agg #[.int .i64 l,.int .i64 m],.int .u64 a2] w fun e w'=>e=.returned (.tuple #[.int .u64 r1,.int .i64 r2])∧Below w.heap.size w w':=by
 have hu23:=Try.underlying23
 have hu34:=Try.underlying34
 have HB:=Aside0.mk (Below.refl w.heap.size w)
 have H:=h
 unfold grottoref03_Convert.f at H
 clear h
 obtain⟨⟨v,y,z,F,aw⟩,A4,H⟩:=oB H
 try dsimp only at H
 have am:=Aside0.mk H
 clear H
 go_enter Try.func31,Try.ntmps31
 go_upto_region 2 with (first|((with_reducible refine gate_dst (N:=3) rfl ?_);refine zbox (N:=3) (cs:=#[.int .i64 D,.int .i64 E]) (t:=23) ?_;intro an hg w6 hbox hb;have c:=Aside0.mk hbox;have bc:=zge hg HB;have bd:=zge hg HB;replace HB:=zbs HB hb;clear hb hbox hg)|((with_reducible refine gate_dst (N:=4) rfl ?_);refine zbox (N:=4) (cs:=#[.int .i64 l,.int .i64 m]) (t:=23) ?_;intro G hg w7 hbox hb;have b:=Aside0.mk hbox;have be:=zge hg HB;have bf:=zge hg HB;have I:=znl hg c;have p:=zng hg c;obtain⟨c,HB⟩:=zu1 c HB hb;clear hb hbox hg;obtain⟨bO,bP⟩:=z2 I;obtain⟨ab,ac,ad,ae⟩:=zc2 c)|((with_reducible refine gate_callee (f:=20) rfl ?_);refine zgc (some 13) Try.func20 (grottoref02_Open.calls A4.out) ?_;intro bT hb;obtain⟨c,b,HB⟩:=zu2 c b HB hb;clear hb)|((with_reducible refine gate_dst (N:=8) rfl ?_);refine zbox (N:=8) (cs:=#[.int .i64 0,.bool false,.int .i64 0,.int .u64 0]) (t:=34) ?_;intro s hg bU hbox hb;have a:=Aside0.mk hbox;have bg:=zge hg HB;have bh:=zge hg HB;have ao:=znl hg c;have g:=zng hg c;have J:=znl hg b;have j:=zng hg b;obtain⟨c,b,HB⟩:=zu2 c b HB hb;clear hb hbox hg;obtain⟨bi,bj⟩:=z2 g;obtain⟨bk,bl⟩:=z2 j;obtain⟨O,P,Q,R,T,U,V,W⟩:=zc4 a))
 (try simp only[Act.put,List.setIfInBounds_toArray,List.set_cons_zero,List.set_cons_succ])
 go_cut [22] (fun v22 wc=>∃ (kq:Nat) (B:Bool),v22=.bool B∧Aside0 (grottoref03_Convert.j0 kq B l m v y z F=some (r1,r2))∧Aside0 (kq≤k)∧Aside0 (wc.heap[an]?=some (.cells #[.int .i64 D,.int .i64 E] 23 (0,0)))∧Aside0 (wc.heap[G]?=some (.cells #[.int .i64 l,.int .i64 m] 23 (0,0)))∧Aside0 (wc.heap[s]?=some (.cells #[.int .i64 v,.bool y,.int .i64 z,.int .u64 F] 34 (0,0)))∧Aside0 (Below w.heap.size w wc))
 case first =>
  have H:=am.out
  clear am
  by_cases X:aw=0
  ·rw[if_pos X] at H
   obtain⟨u,ap⟩:=zt X
   clear X
   (first|rw[u]|(simp only[i64_w,i32_w];rw[u])|skip)
   obtain⟨M,bm,H⟩:=oB H
   have H':=Aside0.mk H
   clear H
   obtain⟨bn,bo⟩:=z2 p
   obtain⟨bp,bq⟩:=z2 J
   obtain⟨ax,ay,az,aA⟩:=zc2 b
   go_wp2_with (first|(go_at_call 38;(with_reducible refine (grottoref02_Check.calls bm.out).mono ?_);rintro e bV ⟨rfl,hb⟩;replace c:=zkb c hb;replace b:=zkb b hb;replace a:=zkbo (o:=.cells #[.int .i64 v,.bool y,.int .i64 z,.int .u64 F] 34 (0,0)) a hb;replace HB:=zbs HB hb;clear hb))
   go_meet
   case rel=>exact⟨_,((M != 0)),(by first|rfl|(simp[*];done)),H',⟨by omega⟩,⟨zk c⟩,⟨zk b⟩,⟨zk a⟩,⟨zb HB⟩⟩
  rw[if_neg X] at H
  obtain⟨u,ap⟩:=zf X
  (first|rw[u]|(simp only[i64_w,i32_w];rw[u])|skip)
  have H':=Aside0.mk H
  clear H
  go_wp2
  go_meet
  case rel=>exact⟨_,(true),(by first|rfl|(simp[*];done)),H',⟨by omega⟩,⟨zk c⟩,⟨zk b⟩,⟨zkp a⟩,⟨zb HB⟩⟩
 case rest =>
  clear am
  try clear O P Q R ab ac T U V W ad ae
  obtain⟨kq,B,rfl,HA,bW,c,b,a,HB⟩:=hcut
  cases kq with
  | zero=>exact absurd HA.out (by simp[grottoref03_Convert.j0])
  | succ br =>
   have H:=HA.out
   clear HA
   simp only[grottoref03_Convert.j0] at H
   by_cases af:B=true
   ·subst af
    rw[if_pos rfl] at H
    simp only[Option.some.injEq,Prod.mk.injEq] at H
    obtain⟨rfl,rfl⟩:=H
    go_wp2
    go_ret2
    exact zr HB
   replace af:=Bool.eq_false_iff.mpr af
   subst af
   rw[if_neg nft] at H
   by_cases Y:v=4
   ·rw[if_pos Y] at H
    obtain⟨aq,ar⟩:=zt Y
    clear Y
    obtain⟨bQ,bs,H⟩:=oB H
    simp only[Option.some.injEq,Prod.mk.injEq] at H
    obtain⟨rfl,rfl⟩:=H
    obtain⟨bt,bu⟩:=z2 g
    obtain⟨bv,bw⟩:=z2 j
    obtain⟨aB,aC,aD,aE,aF,aG,aH,aI⟩:=zc4 a
    obtain⟨bx,bz⟩:=z2 p
    obtain⟨aJ,aK,aL,aM⟩:=zc2 b
    go_wp2_with (first|((with_reducible refine gate_callee (f:=21) rfl ?_);refine zgc (some 28) Try.func21 (grottoref02_NaN.calls bs.out) ?_;intro bX hb;obtain⟨c,b,a,HB⟩:=zu3 c b a HB hb;clear hb))
    go_ret2
    exact zr HB
   rw[if_neg Y] at H
   obtain⟨aq,ar⟩:=zf Y
   by_cases Z:v=3
   ·rw[if_pos Z] at H
    obtain⟨au,av⟩:=zt Z
    clear Z
    obtain⟨bR,bA,H⟩:=oB H
    simp only[Option.some.injEq,Prod.mk.injEq] at H
    obtain⟨rfl,rfl⟩:=H
    obtain⟨bB,bC⟩:=z2 g
    obtain⟨bD,bE⟩:=z2 j
    obtain⟨aN,aO,aP,aQ,aR,aS,aT,aU⟩:=zc4 a
    obtain⟨bF,bG⟩:=z2 p
    obtain⟨aV,aW,aX,aY⟩:=zc2 b
    go_wp2_with (first|((with_reducible refine gate_callee (f:=67) rfl ?_);refine zgc (some 34) Try.func67 (grottoref02_Inf.calls bA.out) ?_;intro bY hb;obtain⟨c,b,a,HB⟩:=zu3 c b a HB hb;clear hb))
    go_ret2
    exact zr HB
   rw[if_neg Z] at H
   obtain⟨au,av⟩:=zf Z
   obtain⟨aa,bH,H⟩:=oB H
   obtain⟨L,bI,H⟩:=oB H
   obtain⟨aZ,bJ,H⟩:=oB H
   simp only[Option.some.injEq,Prod.mk.injEq] at H
   obtain⟨rfl,rfl⟩:=H
   obtain⟨bK,bL⟩:=z2 g
   obtain⟨bM,bN⟩:=z2 j
   obtain⟨a0,a1,a3,a4,a5,a6,a7,a8⟩:=zc4 a
   try go_wp2
   replace c:=Aside0.mk (blk_drew c.out)
   replace b:=Aside0.mk (blk_drew b.out)
   replace a:=Aside0.mk (blk_drew a.out)
   replace HB:=Aside0.mk (below_drew1 HB.out)
   refine start_ (n:=12) (S:=fun w'=>w'.cell? ⟨G,0,none⟩=some (.int .i64 l)∧w'.cell? ⟨G,1,none⟩=some (.int .i64 m)∧w'.cell? ⟨s,0,none⟩=some (.int .i64 v)∧w'.cell? ⟨s,1,none⟩=some (.bool y)∧w'.cell? ⟨s,2,none⟩=some (.int .i64 z)∧w'.cell? ⟨s,3,none⟩=some (.int .u64 F)) (ds:=[]) #[false,false,false,false,false,false,false,false,false,false,false,false] (by kernel_rfl) rfl rfl ⟨(blk_cell b.out 0).trans rfl,(blk_cell b.out 1).trans rfl,(blk_cell a.out 0).trans rfl,(blk_cell a.out 1).trans rfl,(blk_cell a.out 2).trans rfl,(blk_cell a.out 3).trans rfl⟩ (fun hHeld=>?_);refine with_tabW grottoref03_Convert.tab9 grottoref03_Convert.bits9 (fun HT_ HW_=>?_)
   generalize wc.drew=bZ at c b a HB hHeld ⊢
   refine zpure_ (i:=1) (N:=some 36) #[false,true,false,false,false,false,false,false,false,false,false,false] (any_of HT_.out (by kernel_rfl)) ?_
   refine zpure_ (i:=3) (N:=some 38) #[false,true,false,true,false,false,false,false,false,false,false,false] (any_of HT_.out (by kernel_rfl)) ?_
   refine zpure_ (i:=7) (N:=some 42) #[false,true,false,true,false,false,false,true,false,false,false,false] (any_of HT_.out (by kernel_rfl)) ?_
   refine ztake_ (i:=0) (N:=some 35) #[true,true,false,true,false,false,false,true,false,false,false,false] rfl (take_ofW HT_.out HW_.out (by kernel_rfl)) hHeld (Or.inl ⟨by rfl,by rintro w' ⟨s0,s1,s2,s3,s4,s5⟩;go_simp;with_reducible rfl⟩) ?_
   refine ztake_ (i:=2) (N:=some 37) #[true,true,true,true,false,false,false,true,false,false,false,false] rfl (take_ofW HT_.out HW_.out (by kernel_rfl)) hHeld (Or.inl ⟨by rfl,by rintro w' ⟨s0,s1,s2,s3,s4,s5⟩;go_simp;with_reducible rfl⟩) ?_
   refine ztake_ (i:=4) (N:=some 39) #[true,true,true,true,true,false,false,true,false,false,false,false] rfl (take_ofW HT_.out HW_.out (by kernel_rfl)) hHeld (Or.inl ⟨by rfl,by rintro w' ⟨s0,s1,s2,s3,s4,s5⟩;go_simp;with_reducible rfl⟩) ?_
   refine ztake_ (i:=8) (N:=some 43) #[true,true,true,true,true,false,false,true,true,false,false,false] rfl (take_ofW HT_.out HW_.out (by kernel_rfl)) hHeld (Or.inl ⟨by rfl,by rintro w' ⟨s0,s1,s2,s3,s4,s5⟩;go_simp;with_reducible rfl⟩) ?_
   refine one_ (i:=5) (N:=some 40) #[true,true,true,true,true,true,false,true,true,false,false,false] rfl rfl (one_of HT_.out (by kernel_rfl)) (by decide) (fun K hK=>?_)
   refine goes_ Try.func72 (by kernel_rfl) rfl #[.int .u64 F] (by rfl) rfl rfl (by (try simp only[List.map_toArray,List.map_cons,List.map_nil]);first|done|rfl|(simp only[List.length_drop,List.length_take];rfl)) ?_
   with_reducible refine (grottoref02_NatOf.calls bH.out).mono ?_
   rintro e b0 ⟨v880,rfl,ho0,hb⟩
   refine⟨_,rfl,?_⟩
   have q:=Aside0.mk (Kd.R_lower ho0 (below_size (zb HB)))
   obtain⟨c,b,a,HB⟩:=zu3 c b a HB hb
   try clear hb
   (try clear ho0)
   refine hK.out _ _ ⟨(blk_cell b.out 0).trans rfl,(blk_cell b.out 1).trans rfl,(blk_cell a.out 0).trans rfl,(blk_cell a.out 1).trans rfl,(blk_cell a.out 2).trans rfl,(blk_cell a.out 3).trans rfl⟩ (fun hHeld=>?_)
   clear hK K
   refine norm_ (a':=?_) ?_ ?_
   rotate_left
   ·show Act.put _ (some 40) _=_
    simp only[Act.put,List.setIfInBounds_toArray,List.set_cons_zero,List.set_cons_succ,i64_w,i32_w]
    rfl
   refine one_ (i:=6) (N:=some 41) #[true,true,true,true,true,true,true,true,true,false,false,false] rfl rfl (one_of HT_.out (by kernel_rfl)) (by decide) (fun K hK=>?_)
   refine goes_ Try.func58 (by kernel_rfl) rfl #[] (by rfl) rfl rfl (by (try simp only[List.map_toArray,List.map_cons,List.map_nil]);first|done|rfl|(simp only[List.length_drop,List.length_take];rfl)) ?_
   with_reducible refine (grottoref03_one.calls  L _ bI.out).mono ?_
   rintro e b1 ⟨v883,rfl,ho0,hb⟩
   refine⟨_,rfl,?_⟩
   have C:=Aside0.mk (Kd.R_lower (Kd.R_new' ho0 (Kd.R_lt (by (with_reducible repeat (first|apply Kd.R_alloc|apply Kd.R_drewN|apply Kd.R_drew));exact q.out))) (below_size (zb HB)))
   replace q:=Aside0.mk (Kd.R_elder' (by (with_reducible repeat (first|apply Kd.R_alloc|apply Kd.R_drewN|apply Kd.R_drew));exact q.out) (Kd.R_base ho0) hb)
   obtain⟨c,b,a,HB⟩:=zu3 c b a HB hb
   try clear hb
   (try clear ho0)
   obtain⟨ag,ah,ai⟩:=Kd.R_slice q.out
   (first|subst ai|(injection ai with f1_ f2_ f3_;have f4_:=f1_.symm;have f5_:=f3_.symm;clear f1_ f2_ f3_;subst f4_;subst f5_))
   obtain⟨aj,ak,al⟩:=Kd.R_slice C.out
   (first|subst al|(injection al with f1_ f2_ f3_;have f4_:=f1_.symm;have f5_:=f3_.symm;clear f1_ f2_ f3_;subst f4_;subst f5_))
   refine hK.out _ _ ⟨(blk_cell b.out 0).trans rfl,(blk_cell b.out 1).trans rfl,(blk_cell a.out 0).trans rfl,(blk_cell a.out 1).trans rfl,(blk_cell a.out 2).trans rfl,(blk_cell a.out 3).trans rfl⟩ (fun hHeld=>?_)
   clear hK K
   refine norm_ (a':=?_) ?_ ?_
   rotate_left
   ·show Act.put _ (some 41) _=_
    simp only[Act.put,List.setIfInBounds_toArray,List.set_cons_zero,List.set_cons_succ,i64_w,i32_w]
    rfl
   refine one_ (i:=9) (N:=some 44) #[true,true,true,true,true,true,true,true,true,true,false,false] rfl rfl (one_of HT_.out (by kernel_rfl)) (by decide) (fun K hK=>?_)
   refine goes_ Try.func57 (by kernel_rfl) rfl #[.agg #[.int .i64 l,.int .i64 m],.bool y,.slice ag aa.length ah,.slice aj L.length ak,.int .i64 z] (by rfl) rfl rfl (by (try simp only[List.map_toArray,List.map_cons,List.map_nil]);first|done|rfl|(simp only[List.length_drop,List.length_take];rfl)) ?_
   with_reducible refine (grottoref02_Near.calls br l m y (fun k_=>some k_=(.slice ag aa.length ah:Value).ownBlock) _ _ aa (fun k_=>some k_=(.slice aj L.length ak:Value).ownBlock) _ _ L z aZ _ ?side1 ?side2 bJ.out).mono ?_
   (case side1=>exact Kd.R_V (Kd.R_tight rfl (Kd.R_types (Kd.R_types (Kd.R_types (q.out) c.out (by decide)) b.out (by decide)) a.out (by decide))))
   (case side2=>exact Kd.R_V (Kd.R_tight rfl (Kd.R_types (Kd.R_types (Kd.R_types (C.out) c.out (by decide)) b.out (by decide)) a.out (by decide))))
   rintro e b2 ⟨rfl,hb⟩
   refine⟨_,rfl,?_⟩
   replace q:=Aside0.mk (Kd.R_below (by (with_reducible repeat (first|apply Kd.R_alloc|apply Kd.R_drewN|apply Kd.R_drew));exact q.out) hb)
   replace C:=Aside0.mk (Kd.R_below (by (with_reducible repeat (first|apply Kd.R_alloc|apply Kd.R_drewN|apply Kd.R_drew));exact C.out) hb)
   obtain⟨c,b,a,HB⟩:=zu3 c b a HB hb
   try clear hb
   refine hK.out _ _ ⟨(blk_cell b.out 0).trans rfl,(blk_cell b.out 1).trans rfl,(blk_cell a.out 0).trans rfl,(blk_cell a.out 1).trans rfl,(blk_cell a.out 2).trans rfl,(blk_cell a.out 3).trans rfl⟩ (fun hHeld=>?_)
   clear hK K
   refine norm_ (a':=?_) ?_ ?_
   rotate_left
   ·show Act.put _ (some 44) _=_
    simp only[Act.put,List.setIfInBounds_toArray,List.set_cons_zero,List.set_cons_succ,i64_w,i32_w]
    rfl
   refine zpure_ (i:=10) (N:=some 6) #[true,true,true,true,true,true,true,true,true,true,true,false] (any_of HT_.out (by kernel_rfl)) ?_
   refine zpure_ (i:=11) (N:=some 7) #[true,true,true,true,true,true,true,true,true,true,true,true] (any_of HT_.out (by kernel_rfl)) ?_
   refine done_ (done_of HT_.out (by kernel_rfl)) ?_
   try go_wp2
   go_ret2
   exact zr HB

end Go.Proofs.Ytmmbgbchimangaa.PQ
