-- by a program of this claim
import Derived.Test.YthkifpdachjlgaaPQx0
import Derived.Test.YthkifpdachjlgaaPQx11
import Derived.Test.YthkifpdachjlgaaPQx12
import Derived.Test.YthkifpdachjlgaaPQx13
import Derived.Test.YthkifpdachjlgaaPQx14
namespace Go.Proofs.Ythkifpdachjlgaa.PQ
open Go.RowKit Go.Proofs.YthkifpdachjlgaaW.PrintWords Go.Proofs.YthkifpdachjlgaaW.PrintLast Go.Proofs.YthkifpdachjlgaaW.PrintMore Go.Proofs.Ythkifpdachjlgaa.Z
attribute [local go_sem] max2_int min2_int max_two min_two max_three min_three max_four min_four   -- for this text's walks alone
set_option linter.unusedVariables false
set_option linter.unusedSimpArgs false

/-! ### grottoref03_Convert: function 57 -/
def grottoref03_Convert.j0:Nat→Bool→Int→Int→Int→Bool→Int→Int→Option (Int×Int)
 | 0,_,_,_,_,_,_,_=>none
 | k+1,e,a,b,c,d,g,h=>if e=true then (some (0,1)) else (if c=4 then ((grottoref02_NaN.f k a b).bind fun i=>(some (i,0))) else (if c=3 then ((grottoref02_Inf.f k a b d).bind fun j=>(some (j,0))) else ((grottoref02_NatOf.f k h).bind fun l=>((grottoref03_one.f).bind fun m=>((grottoref02_Near.f k a b d l m g).bind fun n=>(some (n,0)))))))
def grottoref03_Convert.f (k:Nat) (a0_0:Int) (a0_1:Int) (a1_0:Int) (a1_1:Int) (a2:Int):Option (Int×Int):=(grottoref02_Open.f k a0_0 a0_1 a2).bind fun a=>(if a.2.2.2.2=0 then ((grottoref02_Check.f a1_0 a1_1).bind fun b=>(grottoref03_Convert.j0 k (b != 0) a1_0 a1_1 a.1 a.2.1 a.2.2.1 a.2.2.2.1)) else (grottoref03_Convert.j0 k true a1_0 a1_1 a.1 a.2.1 a.2.2.1 a.2.2.2.1))
theorem grottoref03_Convert.mono_l:∀ k,(∀ y0 y1 y2 y3 y4 y5 y6,LeO (grottoref03_Convert.j0 k y0 y1 y2 y3 y4 y5 y6) (grottoref03_Convert.j0 (k+1) y0 y1 y2 y3 y4 y5 y6))
 | 0=>fun _ _ _ _ _ _ _ r h=>by simp[grottoref03_Convert.j0] at h
 | k+1=>by
  have ih0:=grottoref03_Convert.mono_l k
  intros;unfold grottoref03_Convert.j0;repeat' first|(with_reducible first|apply ih0|apply grottoref02_Inf.mono|apply grottoref02_NaN.mono|apply grottoref02_NatOf.mono|apply grottoref02_Near.mono|apply grottoref02_Open.mono|exact LeO.refl _|exact LeO.none _|refine LeO.ite ?_ ?_|refine LeO.bind ?_ (fun _=>?_))|refine LeO.ite ?_ ?_|refine LeO.bind ?_ (fun _=>?_)
theorem grottoref03_Convert.mono:∀ a0 a1 a2 a3 a4 k,LeO (grottoref03_Convert.f k a0 a1 a2 a3 a4) (grottoref03_Convert.f (k+1) a0 a1 a2 a3 a4):=by
 intro a0 a1 a2 a3 a4 k
 have ih0:=grottoref03_Convert.mono_l k
 unfold grottoref03_Convert.f
 repeat' first|(with_reducible first|apply ih0|apply grottoref02_Inf.mono|apply grottoref02_NaN.mono|apply grottoref02_NatOf.mono|apply grottoref02_Near.mono|apply grottoref02_Open.mono|exact LeO.refl _|exact LeO.none _|refine LeO.ite ?_ ?_|refine LeO.bind ?_ (fun _=>?_))|refine LeO.ite ?_ ?_|refine LeO.bind ?_ (fun _=>?_)
def grottoref03_Convert.T9:Bool×List (List Nat×List Nat):=(true,[([],[]),([],[]),([1],[1]),([],[]),([3],[3]),([4],[4]),([5],[]),([],[]),([7],[7]),([0,2,5,6,8,6],[0,2,5,6,8]),([9,9,0,1,2,3,4,5,6,7,8,9],[9]),([10,0,1,2,3,4,5,6,7,8,9,10],[])])
def grottoref03_Convert.B9:List Nat:=[0,0,2,0,8,24,56,0,128,511,1023,2047]
theorem grottoref03_Convert.tab9:rtab .any (opsOf Try.f57 9)=grottoref03_Convert.T9:=by kernel_rfl
theorem grottoref03_Convert.bits9:waitsOk grottoref03_Convert.T9.2 grottoref03_Convert.B9=true:=by kernel_rfl
set_option maxHeartbeats 8000000 in
set_option maxRecDepth 100000 in
theorem grottoref03_Convert.calls {k:Nat} {J:Int} {L:Int} {p:Int} {q:Int} {a2:Int} {r1:Int} {r2:Int} {w:World} (h:grottoref03_Convert.f k J L p q a2=some (r1,r2)) :
  Calls Try.prog 57 #[.agg #[.int .i64 J,.int .i64 L],.agg #[.int .i64 p,.int .i64 q],.int .u64 a2] w fun e w'=>e=.returned (.tuple #[.int .u64 r1,.int .i64 r2])∧Below w.heap.size w w':=by
 have hu58:=Try.underlying58
 have hu89:=Try.underlying89
 have HB:=Aside0.mk (Below.refl w.heap.size w)
 have H:=h
 unfold grottoref03_Convert.f at H
 clear h
 obtain⟨⟨u,v,y,B,ao⟩,A4,H⟩:=oB H
 try dsimp only at H
 have ap:=Aside0.mk H
 clear H
 go_enter Try.func57,Try.ntmps57
 go_upto_region 2 with (first|((with_reducible refine gate_dst (N:=3) rfl ?_);refine zbox (N:=3) (cs:=#[.int .i64 J,.int .i64 L]) (t:=58) ?_;intro ab hg w6 hbox hb;have c:=Aside0.mk hbox;have bb:=zge hg HB;have bc:=zge hg HB;replace HB:=zbs HB hb;clear hb hbox hg)|((with_reducible refine gate_dst (N:=4) rfl ?_);refine zbox (N:=4) (cs:=#[.int .i64 p,.int .i64 q]) (t:=58) ?_;intro D hg w7 hbox hb;have b:=Aside0.mk hbox;have bd:=zge hg HB;have be:=zge hg HB;have E:=znl hg c;have l:=zng hg c;obtain⟨c,HB⟩:=zu1 c HB hb;clear hb hbox hg;obtain⟨bQ,bR⟩:=z2 E;obtain⟨ac,ad,ae,af⟩:=zc2 c)|((with_reducible refine gate_callee (f:=74) rfl ?_);refine zgc (some 13) Try.func74 (grottoref02_Open.calls A4.out) ?_;intro bT hb;obtain⟨c,b,HB⟩:=zu2 c b HB hb;clear hb)|((with_reducible refine gate_dst (N:=8) rfl ?_);refine zbox (N:=8) (cs:=#[.int .i64 0,.bool false,.int .i64 0,.int .u64 0]) (t:=89) ?_;intro s hg bU hbox hb;have a:=Aside0.mk hbox;have bf:=zge hg HB;have bg:=zge hg HB;have ag:=znl hg c;have g:=zng hg c;have F:=znl hg b;have j:=zng hg b;obtain⟨c,b,HB⟩:=zu2 c b HB hb;clear hb hbox hg;obtain⟨bi,bj⟩:=z2 g;obtain⟨bk,bl⟩:=z2 j;obtain⟨P,Q,R,T,U,V,W,X⟩:=zc4 a))
 (try simp only[Act.put,List.setIfInBounds_toArray,List.set_cons_zero,List.set_cons_succ])
 go_cut [22] (fun v22 wc=>∃ (kq:Nat) (G:Bool),v22=.bool G∧Aside0 (grottoref03_Convert.j0 kq G p q u v y B=some (r1,r2))∧Aside0 (kq≤k)∧Aside0 (wc.heap[ab]?=some (.cells #[.int .i64 J,.int .i64 L] 58 (0,0)))∧Aside0 (wc.heap[D]?=some (.cells #[.int .i64 p,.int .i64 q] 58 (0,0)))∧Aside0 (wc.heap[s]?=some (.cells #[.int .i64 u,.bool v,.int .i64 y,.int .u64 B] 89 (0,0)))∧Aside0 (Below w.heap.size w wc))
 case first =>
  have H:=ap.out
  clear ap
  by_cases Y:ao=0
  ·rw[if_pos Y] at H
   obtain⟨C,aq⟩:=zt Y
   clear Y
   (first|rw[C]|(simp only[i64_w,i32_w];rw[C])|skip)
   obtain⟨M,bm,H⟩:=oB H
   have H':=Aside0.mk H
   clear H
   obtain⟨bn,bo⟩:=z2 l
   obtain⟨bp,bq⟩:=z2 F
   obtain⟨ay,az,aA,aB⟩:=zc2 b
   go_wp2_with (first|(go_at_call 99;(with_reducible refine (grottoref02_Check.calls bm.out).mono ?_);rintro e bV ⟨rfl,hb⟩;replace c:=zkb c hb;replace b:=zkb b hb;replace a:=zkbo (o:=.cells #[.int .i64 u,.bool v,.int .i64 y,.int .u64 B] 89 (0,0)) a hb;replace HB:=zbs HB hb;clear hb))
   go_meet
   case rel=>exact⟨_,((M != 0)),(by first|rfl|(simp[*];done)),H',⟨by omega⟩,⟨zk c⟩,⟨zk b⟩,⟨zk a⟩,⟨zb HB⟩⟩
  rw[if_neg Y] at H
  obtain⟨C,aq⟩:=zf Y
  (first|rw[C]|(simp only[i64_w,i32_w];rw[C])|skip)
  have H':=Aside0.mk H
  clear H
  go_wp2
  go_meet
  case rel=>exact⟨_,(true),(by first|rfl|(simp[*];done)),H',⟨by omega⟩,⟨zk c⟩,⟨zk b⟩,⟨zkp a⟩,⟨zb HB⟩⟩
 case rest =>
  clear ap
  try clear P Q R T ac ad U V W X ae af
  obtain⟨kq,G,rfl,HA,bW,c,b,a,HB⟩:=hcut
  cases kq with
  | zero=>exact absurd HA.out (by simp[grottoref03_Convert.j0])
  | succ br =>
   have H:=HA.out
   clear HA
   simp only[grottoref03_Convert.j0] at H
   by_cases ah:G=true
   ·subst ah
    rw[if_pos rfl] at H
    simp only[Option.some.injEq,Prod.mk.injEq] at H
    obtain⟨rfl,rfl⟩:=H
    go_wp2
    go_ret2
    exact zr HB
   replace ah:=Bool.eq_false_iff.mpr ah
   subst ah
   rw[if_neg nft] at H
   by_cases Z:u=4
   ·rw[if_pos Z] at H
    obtain⟨ar,au⟩:=zt Z
    clear Z
    obtain⟨bs,bt,H⟩:=oB H
    simp only[Option.some.injEq,Prod.mk.injEq] at H
    obtain⟨rfl,rfl⟩:=H
    obtain⟨bu,bv⟩:=z2 g
    obtain⟨bw,bx⟩:=z2 j
    obtain⟨aC,aD,aE,aF,aG,aH,aI,aJ⟩:=zc4 a
    obtain⟨bz,bA⟩:=z2 l
    obtain⟨aK,aL,aM,aN⟩:=zc2 b
    go_wp2_with (first|((with_reducible refine gate_callee (f:=67) rfl ?_);refine zgc (some 28) Try.func67 (grottoref02_NaN.calls bt.out) ?_;intro bX hb;obtain⟨c,b,a,HB⟩:=zu3 c b a HB hb;clear hb))
    go_ret2
    exact zr HB
   rw[if_neg Z] at H
   obtain⟨ar,au⟩:=zf Z
   by_cases aa:u=3
   ·rw[if_pos aa] at H
    obtain⟨av,aw⟩:=zt aa
    clear aa
    obtain⟨bB,bC,H⟩:=oB H
    simp only[Option.some.injEq,Prod.mk.injEq] at H
    obtain⟨rfl,rfl⟩:=H
    obtain⟨bD,bE⟩:=z2 g
    obtain⟨bF,bG⟩:=z2 j
    obtain⟨aO,aP,aQ,aR,aS,aT,aU,aV⟩:=zc4 a
    obtain⟨bH,bI⟩:=z2 l
    obtain⟨aW,aX,aY,aZ⟩:=zc2 b
    go_wp2_with (first|((with_reducible refine gate_callee (f:=68) rfl ?_);refine zgc (some 34) Try.func68 (grottoref02_Inf.calls bC.out) ?_;intro bY hb;obtain⟨c,b,a,HB⟩:=zu3 c b a HB hb;clear hb))
    go_ret2
    exact zr HB
   rw[if_neg aa] at H
   obtain⟨av,aw⟩:=zf aa
   obtain⟨O,bJ,H⟩:=oB H
   obtain⟨I,bK,H⟩:=oB H
   obtain⟨ax,bL,H⟩:=oB H
   simp only[Option.some.injEq,Prod.mk.injEq] at H
   obtain⟨rfl,rfl⟩:=H
   obtain⟨bM,bN⟩:=z2 g
   obtain⟨bO,bP⟩:=z2 j
   obtain⟨a0,a1,a3,a4,a5,a6,a7,a8⟩:=zc4 a
   try go_wp2
   replace c:=Aside0.mk (blk_drew c.out)
   replace b:=Aside0.mk (blk_drew b.out)
   replace a:=Aside0.mk (blk_drew a.out)
   replace HB:=Aside0.mk (below_drew1 HB.out)
   refine start_ (n:=12) (S:=fun w'=>w'.cell? ⟨D,0,none⟩=some (.int .i64 p)∧w'.cell? ⟨D,1,none⟩=some (.int .i64 q)∧w'.cell? ⟨s,0,none⟩=some (.int .i64 u)∧w'.cell? ⟨s,1,none⟩=some (.bool v)∧w'.cell? ⟨s,2,none⟩=some (.int .i64 y)∧w'.cell? ⟨s,3,none⟩=some (.int .u64 B)) (ds:=[]) #[false,false,false,false,false,false,false,false,false,false,false,false] (by kernel_rfl) rfl rfl ⟨(blk_cell b.out 0).trans rfl,(blk_cell b.out 1).trans rfl,(blk_cell a.out 0).trans rfl,(blk_cell a.out 1).trans rfl,(blk_cell a.out 2).trans rfl,(blk_cell a.out 3).trans rfl⟩ (fun hHeld=>?_);refine with_tabW grottoref03_Convert.tab9 grottoref03_Convert.bits9 (fun HT_ HW_=>?_)
   generalize wc.drew=bZ at c b a HB hHeld ⊢
   refine zpure_ (i:=1) (N:=some 36) #[false,true,false,false,false,false,false,false,false,false,false,false] (any_of HT_.out (by kernel_rfl)) ?_
   refine zpure_ (i:=3) (N:=some 38) #[false,true,false,true,false,false,false,false,false,false,false,false] (any_of HT_.out (by kernel_rfl)) ?_
   refine zpure_ (i:=7) (N:=some 42) #[false,true,false,true,false,false,false,true,false,false,false,false] (any_of HT_.out (by kernel_rfl)) ?_
   refine ztake_ (i:=0) (N:=some 35) #[true,true,false,true,false,false,false,true,false,false,false,false] rfl (take_ofW HT_.out HW_.out (by kernel_rfl)) hHeld (Or.inl ⟨by rfl,by rintro w' ⟨s0,s1,s2,s3,s4,s5⟩;go_simp;with_reducible rfl⟩) ?_
   refine ztake_ (i:=2) (N:=some 37) #[true,true,true,true,false,false,false,true,false,false,false,false] rfl (take_ofW HT_.out HW_.out (by kernel_rfl)) hHeld (Or.inl ⟨by rfl,by rintro w' ⟨s0,s1,s2,s3,s4,s5⟩;go_simp;with_reducible rfl⟩) ?_
   refine ztake_ (i:=4) (N:=some 39) #[true,true,true,true,true,false,false,true,false,false,false,false] rfl (take_ofW HT_.out HW_.out (by kernel_rfl)) hHeld (Or.inl ⟨by rfl,by rintro w' ⟨s0,s1,s2,s3,s4,s5⟩;go_simp;with_reducible rfl⟩) ?_
   refine ztake_ (i:=8) (N:=some 43) #[true,true,true,true,true,false,false,true,true,false,false,false] rfl (take_ofW HT_.out HW_.out (by kernel_rfl)) hHeld (Or.inl ⟨by rfl,by rintro w' ⟨s0,s1,s2,s3,s4,s5⟩;go_simp;with_reducible rfl⟩) ?_
   refine one_ (i:=5) (N:=some 40) #[true,true,true,true,true,true,false,true,true,false,false,false] rfl rfl (one_of HT_.out (by kernel_rfl)) (by decide) (fun K hK=>?_)
   refine goes_ Try.func51 (by kernel_rfl) rfl #[.int .u64 B] (by rfl) rfl rfl (by (try simp only[List.map_toArray,List.map_cons,List.map_nil]);first|done|rfl|(simp only[List.length_drop,List.length_take];rfl)) ?_
   with_reducible refine (grottoref02_NatOf.calls bJ.out).mono ?_
   rintro e b0 ⟨v1234,rfl,ho0,hb⟩
   refine⟨_,rfl,?_⟩
   have m:=Aside0.mk (Kd.R_lower ho0 (below_size (zb HB)))
   obtain⟨c,b,a,HB⟩:=zu3 c b a HB hb
   try clear hb
   (try clear ho0)
   refine hK.out _ _ ⟨(blk_cell b.out 0).trans rfl,(blk_cell b.out 1).trans rfl,(blk_cell a.out 0).trans rfl,(blk_cell a.out 1).trans rfl,(blk_cell a.out 2).trans rfl,(blk_cell a.out 3).trans rfl⟩ (fun hHeld=>?_)
   clear hK K
   refine norm_ (a':=?_) ?_ ?_
   rotate_left
   ·show Act.put _ (some 40) _=_
    simp only[Act.put,List.setIfInBounds_toArray,List.set_cons_zero,List.set_cons_succ,i64_w,i32_w]
    rfl
   refine one_ (i:=6) (N:=some 41) #[true,true,true,true,true,true,true,true,true,false,false,false] rfl rfl (one_of HT_.out (by kernel_rfl)) (by decide) (fun K hK=>?_)
   refine goes_ Try.func73 (by kernel_rfl) rfl #[] (by rfl) rfl rfl (by (try simp only[List.map_toArray,List.map_cons,List.map_nil]);first|done|rfl|(simp only[List.length_drop,List.length_take];rfl)) ?_
   with_reducible refine (grottoref03_one.calls  I _ bK.out).mono ?_
   rintro e b1 ⟨v1237,rfl,ho0,hb⟩
   refine⟨_,rfl,?_⟩
   have z:=Aside0.mk (Kd.R_lower (Kd.R_new' ho0 (Kd.R_lt (by (with_reducible repeat (first|apply Kd.R_alloc|apply Kd.R_drewN|apply Kd.R_drew));exact m.out))) (below_size (zb HB)))
   replace m:=Aside0.mk (Kd.R_elder' (by (with_reducible repeat (first|apply Kd.R_alloc|apply Kd.R_drewN|apply Kd.R_drew));exact m.out) (Kd.R_base ho0) hb)
   obtain⟨c,b,a,HB⟩:=zu3 c b a HB hb
   try clear hb
   (try clear ho0)
   obtain⟨ai,aj,ak⟩:=Kd.R_slice m.out
   (first|subst ak|(injection ak with f1_ f2_ f3_;have f4_:=f1_.symm;have f5_:=f3_.symm;clear f1_ f2_ f3_;subst f4_;subst f5_))
   obtain⟨al,am,an⟩:=Kd.R_slice z.out
   (first|subst an|(injection an with f1_ f2_ f3_;have f4_:=f1_.symm;have f5_:=f3_.symm;clear f1_ f2_ f3_;subst f4_;subst f5_))
   refine hK.out _ _ ⟨(blk_cell b.out 0).trans rfl,(blk_cell b.out 1).trans rfl,(blk_cell a.out 0).trans rfl,(blk_cell a.out 1).trans rfl,(blk_cell a.out 2).trans rfl,(blk_cell a.out 3).trans rfl⟩ (fun hHeld=>?_)
   clear hK K
   refine norm_ (a':=?_) ?_ ?_
   rotate_left
   ·show Act.put _ (some 41) _=_
    simp only[Act.put,List.setIfInBounds_toArray,List.set_cons_zero,List.set_cons_succ,i64_w,i32_w]
    rfl
   refine one_ (i:=9) (N:=some 44) #[true,true,true,true,true,true,true,true,true,true,false,false] rfl rfl (one_of HT_.out (by kernel_rfl)) (by decide) (fun K hK=>?_)
   refine goes_ Try.func50 (by kernel_rfl) rfl #[.agg #[.int .i64 p,.int .i64 q],.bool v,.slice ai O.length aj,.slice al I.length am,.int .i64 y] (by rfl) rfl rfl (by (try simp only[List.map_toArray,List.map_cons,List.map_nil]);first|done|rfl|(simp only[List.length_drop,List.length_take];rfl)) ?_
   with_reducible refine (grottoref02_Near.calls br p q v (fun k_=>some k_=(.slice ai O.length aj:Value).ownBlock) _ _ O (fun k_=>some k_=(.slice al I.length am:Value).ownBlock) _ _ I y ax _ ?side1 ?side2 bL.out).mono ?_
   (case side1=>exact Kd.R_V (Kd.R_tight rfl (Kd.R_types (Kd.R_types (Kd.R_types (m.out) c.out (by decide)) b.out (by decide)) a.out (by decide))))
   (case side2=>exact Kd.R_V (Kd.R_tight rfl (Kd.R_types (Kd.R_types (Kd.R_types (z.out) c.out (by decide)) b.out (by decide)) a.out (by decide))))
   rintro e b2 ⟨rfl,hb⟩
   refine⟨_,rfl,?_⟩
   replace m:=Aside0.mk (Kd.R_below (by (with_reducible repeat (first|apply Kd.R_alloc|apply Kd.R_drewN|apply Kd.R_drew));exact m.out) hb)
   replace z:=Aside0.mk (Kd.R_below (by (with_reducible repeat (first|apply Kd.R_alloc|apply Kd.R_drewN|apply Kd.R_drew));exact z.out) hb)
   obtain⟨c,b,a,HB⟩:=zu3 c b a HB hb
   try clear hb
   refine hK.out _ _ ⟨(blk_cell b.out 0).trans rfl,(blk_cell b.out 1).trans rfl,(blk_cell a.out 0).trans rfl,(blk_cell a.out 1).trans rfl,(blk_cell a.out 2).trans rfl,(blk_cell a.out 3).trans rfl⟩ (fun hHeld=>?_)
   clear hK K
   refine norm_ (a':=?_) ?_ ?_
   rotate_left
   ·show Act.put _ (some 44) _=_
    simp only[Act.put,List.setIfInBounds_toArray,List.set_cons_zero,List.set_cons_succ,i64_w,i32_w]
    rfl
   refine zpure_ (i:=10) (N:=some 6) #[true,true,true,true,true,true,true,true,true,true,true,false] (any_of HT_.out (by kernel_rfl)) ?_
   refine zpure_ (i:=11) (N:=some 7) #[true,true,true,true,true,true,true,true,true,true,true,true] (any_of HT_.out (by kernel_rfl)) ?_
   refine done_ (done_of HT_.out (by kernel_rfl)) ?_
   try go_wp2
   go_ret2
   exact zr HB

end Go.Proofs.Ythkifpdachjlgaa.PQ
