-- by a program of this claim
import Derived.Test.YthkifpdachjlgaaPQx0
import Derived.Test.YthkifpdachjlgaaPQx11
import Derived.Test.YthkifpdachjlgaaPQx12
import Derived.Test.YthkifpdachjlgaaPQx13
import Derived.Test.YthkifpdachjlgaaPQx14
namespace Go.Proofs.Ythkifpdachjlgaa.PQ
open Go.RowKit Go.Proofs.YthkifpdachjlgaaW.PrintWords Go.Proofs.YthkifpdachjlgaaW.PrintLast Go.Proofs.YthkifpdachjlgaaW.PrintMore Go.Proofs.Ythkifpdachjlgaa.Z
attribute [local go_sem] max2_int min2_int max_two min_two max_three min_three max_four min_four   -- for this text's walks alone
set_option linter.unusedVariables false
set_option linter.unusedSimpArgs false

/-! ### grottoref03_whole: function 94 -/
def grottoref03_whole.j0:Nat→List Int→List Int→Bool→Option (List Int×Bool)
 | 0,_,_,_=>none
 | k+1,a,b,c=>if c=true then ((grottoref03_one.f).bind fun d=>((grottoref02_Plus.f k a d).bind fun e=>((grottoref02_Bits.f k b).bind fun g=>(some (e,decide (g>0)))))) else ((grottoref02_Bits.f k b).bind fun h=>(some (a,decide (h>0))))
def grottoref03_whole.f (k:Nat) (a0_0:Int) (a0_1:Bool) (a0_2:Int) (a0_3:Int) (a1:Bool):Option (List Int×Bool):=if a0_2≥0 then ((grottoref02_NatOf.f k a0_3).bind fun c=>((grottoref02_Up.f k c a0_2).bind fun d=>(some (d,false)))) else ((grottoref03_one.f).bind fun e=>((grottoref02_Up.f k e (wrap64 (-a0_2))).bind fun b=>((grottoref02_NatOf.f k a0_3).bind fun g=>((grottoref02_Quo.f k g b).bind fun a=>(if a1=true then ((grottoref02_Up.f k a.2 1).bind fun h=>((grottoref02_Cmp.f k h b).bind fun i=>(grottoref03_whole.j0 k a.1 a.2 (decide (i≥0))))) else (grottoref03_whole.j0 k a.1 a.2 false))))))
theorem grottoref03_whole.mono_l:∀ k,(∀ y0 y1 y2,LeO (grottoref03_whole.j0 k y0 y1 y2) (grottoref03_whole.j0 (k+1) y0 y1 y2))
 | 0=>fun _ _ _ r h=>by simp[grottoref03_whole.j0] at h
 | k+1=>by
  have ih0:=grottoref03_whole.mono_l k
  intros;unfold grottoref03_whole.j0;repeat' first|(with_reducible first|apply ih0|apply grottoref02_Bits.mono|apply grottoref02_Cmp.mono|apply grottoref02_NatOf.mono|apply grottoref02_Plus.mono|apply grottoref02_Quo.mono|apply grottoref02_Up.mono|exact LeO.refl _|exact LeO.none _|refine LeO.ite ?_ ?_|refine LeO.bind ?_ (fun _=>?_))|refine LeO.ite ?_ ?_|refine LeO.bind ?_ (fun _=>?_)
theorem grottoref03_whole.mono:∀ a0 a1 a2 a3 a4 k,LeO (grottoref03_whole.f k a0 a1 a2 a3 a4) (grottoref03_whole.f (k+1) a0 a1 a2 a3 a4):=by
 intro a0 a1 a2 a3 a4 k
 have ih0:=grottoref03_whole.mono_l k
 unfold grottoref03_whole.f
 repeat' first|(with_reducible first|apply ih0|apply grottoref02_Bits.mono|apply grottoref02_Cmp.mono|apply grottoref02_NatOf.mono|apply grottoref02_Plus.mono|apply grottoref02_Quo.mono|apply grottoref02_Up.mono|exact LeO.refl _|exact LeO.none _|refine LeO.ite ?_ ?_|refine LeO.bind ?_ (fun _=>?_))|refine LeO.ite ?_ ?_|refine LeO.bind ?_ (fun _=>?_)
def grottoref03_whole.T2:Bool×List (List Nat×List Nat):=(true,[([],[]),([0],[0]),([1],[1]),([],[]),([3],[3]),([2,4,2],[2,4]),([5,5,0,1,2,3,4,5],[5]),([6,0,1,2,3,4,5,6],[])])
def grottoref03_whole.B2:List Nat:=[0,1,3,0,8,31,63,127]
theorem grottoref03_whole.tab2:rtab .any (opsOf Try.f94 2)=grottoref03_whole.T2:=by kernel_rfl
theorem grottoref03_whole.bits2:waitsOk grottoref03_whole.T2.2 grottoref03_whole.B2=true:=by kernel_rfl
set_option maxHeartbeats 8000000 in
set_option maxRecDepth 100000 in
theorem grottoref03_whole.calls {k:Nat} {p:Int} {q:Bool} {d:Int} {m:Int} {a1:Bool} {r1:List Int} {r2:Bool} {w:World} (h:grottoref03_whole.f k p q d m a1=some (r1,r2)) :
  Calls Try.prog 94 #[.agg #[.int .i64 p,.bool q,.int .i64 d,.int .u64 m],.bool a1] w fun e w'=>∃ v0_:Value,e=.returned (.tuple #[v0_,.bool r2])∧Kd.V (Kd.int .i64) 3 w' w.heap.size (fun k_=>(w.heap.size≤k_)) v0_ r1∧Below w.heap.size w w':=by
 have hu89:=Try.underlying89
 have HB:=Aside0.mk (Below.refl w.heap.size w)
 have H:=h
 unfold grottoref03_whole.f at H
 clear h
 by_cases c3:d≥0
 ·rw[if_pos c3] at H
  have au:decide (0≤d)=true:=decide_eq_true c3
  clear c3
  obtain⟨I,A4,H⟩:=oB H
  obtain⟨U,A5,H⟩:=oB H
  simp only[Option.some.injEq,Prod.mk.injEq] at H
  obtain⟨rfl,rfl⟩:=H
  go_enter Try.func94,Try.ntmps94
  try go_wp2_with (first|((with_reducible refine gate_dst (N:=2) rfl ?_);refine zbox (N:=2) (cs:=#[.int .i64 p,.bool q,.int .i64 d,.int .u64 m]) (t:=89) ?_;intro b hg w6 hbox hb;have a:=Aside0.mk hbox;have aB:=zge hg HB;have aC:=zge hg HB;replace HB:=zbs HB hb;clear hb hbox hg;obtain⟨a2,a3,a4,a5,a6,a7,a8,a9⟩:=zc4 a))
  replace a:=Aside0.mk (blk_drew a.out)
  replace HB:=Aside0.mk (below_drew1 HB.out)
  refine start_ (n:=8) (S:=fun w'=>w'.cell? ⟨b,0,none⟩=some (.int .i64 p)∧w'.cell? ⟨b,1,none⟩=some (.bool q)∧w'.cell? ⟨b,2,none⟩=some (.int .i64 d)∧w'.cell? ⟨b,3,none⟩=some (.int .u64 m)) (ds:=[]) #[false,false,false,false,false,false,false,false] (by kernel_rfl) rfl rfl ⟨(blk_cell a.out 0).trans rfl,(blk_cell a.out 1).trans rfl,(blk_cell a.out 2).trans rfl,(blk_cell a.out 3).trans rfl⟩ (fun hHeld=>?_);refine with_tabW grottoref03_whole.tab2 grottoref03_whole.bits2 (fun HT_ HW_=>?_)
  generalize w6.drew=w8 at a HB hHeld ⊢
  refine zpure_ (i:=0) (N:=some 12) #[true,false,false,false,false,false,false,false] (any_of HT_.out (by kernel_rfl)) ?_
  refine zpure_ (i:=3) (N:=some 15) #[true,false,false,true,false,false,false,false] (any_of HT_.out (by kernel_rfl)) ?_
  refine ztake_ (i:=1) (N:=some 13) #[true,true,false,true,false,false,false,false] rfl (take_ofW HT_.out HW_.out (by kernel_rfl)) hHeld (Or.inl ⟨by rfl,by rintro w' ⟨s0,s1,s2,s3⟩;go_simp;with_reducible rfl⟩) ?_
  refine ztake_ (i:=4) (N:=some 16) #[true,true,false,true,true,false,false,false] rfl (take_ofW HT_.out HW_.out (by kernel_rfl)) hHeld (Or.inl ⟨by rfl,by rintro w' ⟨s0,s1,s2,s3⟩;go_simp;with_reducible rfl⟩) ?_
  refine one_ (i:=2) (N:=some 14) #[true,true,true,true,true,false,false,false] rfl rfl (one_of HT_.out (by kernel_rfl)) (by decide) (fun K hK=>?_)
  refine goes_ Try.func51 (by kernel_rfl) rfl #[.int .u64 m] (by rfl) rfl rfl (by (try simp only[List.map_toArray,List.map_cons,List.map_nil]);first|done|rfl|(simp only[List.length_drop,List.length_take];rfl)) ?_
  with_reducible refine (grottoref02_NatOf.calls A4.out).mono ?_
  rintro e w9 ⟨v802,rfl,ho0,hb⟩
  refine⟨_,rfl,?_⟩
  have y:=Aside0.mk (Kd.R_lower (Kd.R_newM (M:=fun k_=>(w.heap.size≤k_)) ho0 (below_size (zb HB)) (fun k_ h_=>h_)) (below_size (zb HB)))
  obtain⟨a,HB⟩:=zu1 a HB hb
  try clear hb
  (try clear ho0)
  obtain⟨av,aw,ax⟩:=Kd.R_slice y.out
  (first|subst ax|(injection ax with f1_ f2_ f3_;have f4_:=f1_.symm;have f5_:=f3_.symm;clear f1_ f2_ f3_;subst f4_;subst f5_))
  refine hK.out _ _ ⟨(blk_cell a.out 0).trans rfl,(blk_cell a.out 1).trans rfl,(blk_cell a.out 2).trans rfl,(blk_cell a.out 3).trans rfl⟩ (fun hHeld=>?_)
  clear hK K
  refine norm_ (a':=?_) ?_ ?_
  rotate_left
  ·show Act.put _ (some 14) _=_
   simp only[Act.put,List.setIfInBounds_toArray,List.set_cons_zero,List.set_cons_succ,i64_w,i32_w]
   rfl
  refine one_ (i:=5) (N:=some 17) #[true,true,true,true,true,true,false,false] rfl rfl (one_of HT_.out (by kernel_rfl)) (by decide) (fun K hK=>?_)
  refine goes_ Try.func79 (by kernel_rfl) rfl #[.slice av I.length aw,.int .i64 d] (by rfl) rfl rfl (by (try simp only[List.map_toArray,List.map_cons,List.map_nil]);first|done|rfl|(simp only[List.length_drop,List.length_take];rfl)) ?_
  with_reducible refine (grottoref02_Up.calls k _ _ I d U _ ?side1 ?side2 A5.out).mono ?_
  (case side1=>repeat (first|exact (Kd.R_reads' y.out).2.2|(with_reducible refine Kd.C_alloc ?_ _)|(with_reducible refine Kd.C_drewN ?_ _)|(with_reducible refine Kd.C_drew ?_)))
  (case side2=>exact (Kd.R_reads' y.out).2.1)
  rintro e bt ⟨v805,rfl,ho0,hb⟩
  refine⟨_,rfl,?_⟩
  have aD:=Aside0.mk (Kd.V_lower (Kd.V_mono (ok':=fun k_=>(w.heap.size≤k_)∧some k_≠(.slice av I.length aw:Value).ownBlock∧k_≠b) ho0 (fun k_ hk_=>⟨(Nat.le_trans (below_size (zb HB)) hk_),(Kd.fresh' (Kd.R_lt (by (with_reducible repeat (first|apply Kd.R_alloc|apply Kd.R_drewN|apply Kd.R_drew));exact y.out)) k_ hk_),(Kd.freshB (g:=b) (o:=.cells #[.int .i64 p,.bool q,.int .i64 d,.int .u64 m] 89 (0,0)) (zk a) k_ hk_)⟩)) (below_size (zb HB)))
  replace y:=Aside0.mk (Kd.R_below (by (with_reducible repeat (first|apply Kd.R_alloc|apply Kd.R_drewN|apply Kd.R_drew));exact y.out) hb)
  obtain⟨a,HB⟩:=zu1 a HB hb
  try clear hb
  (try clear ho0)
  refine hK.out _ _ ⟨(blk_cell a.out 0).trans rfl,(blk_cell a.out 1).trans rfl,(blk_cell a.out 2).trans rfl,(blk_cell a.out 3).trans rfl⟩ (fun hHeld=>?_)
  clear hK K
  refine norm_ (a':=?_) ?_ ?_
  rotate_left
  ·show Act.put _ (some 17) _=_
   simp only[Act.put,List.setIfInBounds_toArray,List.set_cons_zero,List.set_cons_succ,i64_w,i32_w]
   rfl
  refine zpure_ (i:=6) (N:=some 4) #[true,true,true,true,true,true,true,false] (any_of HT_.out (by kernel_rfl)) ?_
  refine zpure_ (i:=7) (N:=some 5) #[true,true,true,true,true,true,true,true] (any_of HT_.out (by kernel_rfl)) ?_
  refine done_ (done_of HT_.out (by kernel_rfl)) ?_
  try go_wp2
  go_ret2
  exact⟨_,by first|rfl|(simp[errW_none,errW_some] <;> rfl)|(simp[*,errW_none,errW_some] <;> rfl),by (with_reducible repeat (first|apply Kd.V_alloc|apply Kd.V_drewN|apply Kd.V_drew));exact Kd.V_mono aD.out (fun _ hk=>hk.1),zb HB⟩
 rw[if_neg c3] at H
 have au:decide (0≤d)=false:=decide_eq_false c3
 clear c3
 obtain⟨v,ba,H⟩:=oB H
 obtain⟨D,bb,H⟩:=oB H
 obtain⟨G,bc,H⟩:=oB H
 obtain⟨⟨J,B⟩,bd,H⟩:=oB H
 try dsimp only at H
 have W:=Aside0.mk H
 clear H
 go_enter Try.func94,Try.ntmps94
 try go_wp2_with (first|((with_reducible refine gate_dst (N:=2) rfl ?_);refine zbox (N:=2) (cs:=#[.int .i64 p,.bool q,.int .i64 d,.int .u64 m]) (t:=89) ?_;intro b hg be hbox hb;have a:=Aside0.mk hbox;have aB:=zge hg HB;have aC:=zge hg HB;replace HB:=zbs HB hb;clear hb hbox hg;obtain⟨X,Y,Z,aa,ab,ac,ad,ae⟩:=zc4 a))
 replace a:=Aside0.mk (blk_drew a.out)
 replace HB:=Aside0.mk (below_drew1 HB.out)
 refine start_ (n:=6) (S:=fun w'=>w'.cell? ⟨b,0,none⟩=some (.int .i64 p)∧w'.cell? ⟨b,1,none⟩=some (.bool q)∧w'.cell? ⟨b,2,none⟩=some (.int .i64 d)∧w'.cell? ⟨b,3,none⟩=some (.int .u64 m)) (ds:=[]) #[false,false,false,false,false,false] (by kernel_rfl) rfl rfl ⟨(blk_cell a.out 0).trans rfl,(blk_cell a.out 1).trans rfl,(blk_cell a.out 2).trans rfl,(blk_cell a.out 3).trans rfl⟩ (fun hHeld=>?_)
 generalize be.drew=bu at a HB hHeld ⊢
 refine zpure_ (i:=1) (N:=some 19) #[false,true,false,false,false,false] (by kernel_rfl) ?_
 refine ztake_ (i:=2) (N:=some 20) #[false,true,true,false,false,false] rfl (by kernel_rfl) hHeld (Or.inl ⟨by rfl,by rintro w' ⟨s0,s1,s2,s3⟩;go_simp;with_reducible rfl⟩) ?_
 refine zpure_ (i:=3) (N:=some 21) #[false,true,true,true,false,false] (by kernel_rfl) ?_
 refine one_ (i:=0) (N:=some 18) #[true,true,true,true,false,false] rfl rfl (by kernel_rfl) (by decide) (fun K hK=>?_)
 refine goes_ Try.func73 (by kernel_rfl) rfl #[] (by rfl) rfl rfl (by (try simp only[List.map_toArray,List.map_cons,List.map_nil]);first|done|rfl|(simp only[List.length_drop,List.length_take];rfl)) ?_
 with_reducible refine (grottoref03_one.calls  v _ ba.out).mono ?_
 rintro e bv ⟨v808,rfl,ho0,hb⟩
 refine⟨_,rfl,?_⟩
 have c:=Aside0.mk (Kd.R_lower (Kd.R_newM (M:=fun k_=>(w.heap.size≤k_)) ho0 (below_size (zb HB)) (fun k_ h_=>h_)) (below_size (zb HB)))
 obtain⟨a,HB⟩:=zu1 a HB hb
 try clear hb
 (try clear ho0)
 obtain⟨L,O,ay⟩:=Kd.R_slice c.out
 (first|subst ay|(injection ay with f1_ f2_ f3_;have f4_:=f1_.symm;have f5_:=f3_.symm;clear f1_ f2_ f3_;subst f4_;subst f5_))
 refine hK.out _ _ ⟨(blk_cell a.out 0).trans rfl,(blk_cell a.out 1).trans rfl,(blk_cell a.out 2).trans rfl,(blk_cell a.out 3).trans rfl⟩ (fun hHeld=>?_)
 clear hK K
 refine norm_ (a':=?_) ?_ ?_
 rotate_left
 ·show Act.put _ (some 18) _=_
  simp only[Act.put,List.setIfInBounds_toArray,List.set_cons_zero,List.set_cons_succ,i64_w,i32_w]
  rfl
 refine one_ (i:=4) (N:=some 22) #[true,true,true,true,true,false] rfl rfl (by kernel_rfl) (by decide) (fun K hK=>?_)
 refine goes_ Try.func79 (by kernel_rfl) rfl #[.slice L v.length O,.int .i64 (wrap64 (-d))] (by rfl) rfl rfl (by (try simp only[List.map_toArray,List.map_cons,List.map_nil]);first|done|rfl|(simp only[List.length_drop,List.length_take];rfl)) ?_
 with_reducible refine (grottoref02_Up.calls k _ _ v (wrap64 (-d)) D _ ?side1 ?side2 bb.out).mono ?_
 (case side1=>repeat (first|exact (Kd.R_reads' c.out).2.2|(with_reducible refine Kd.C_alloc ?_ _)|(with_reducible refine Kd.C_drewN ?_ _)|(with_reducible refine Kd.C_drew ?_)))
 (case side2=>exact (Kd.R_reads' c.out).2.1)
 rintro e bw ⟨v811,rfl,ho0,hb⟩
 refine⟨_,rfl,?_⟩
 have l:=Aside0.mk (Kd.V_lower (Kd.V_mono (ok':=fun k_=>(w.heap.size≤k_)∧some k_≠(.slice L v.length O:Value).ownBlock∧k_≠b) ho0 (fun k_ hk_=>⟨(Nat.le_trans (below_size (zb HB)) hk_),(Kd.fresh' (Kd.R_lt (by (with_reducible repeat (first|apply Kd.R_alloc|apply Kd.R_drewN|apply Kd.R_drew));exact c.out)) k_ hk_),(Kd.freshB (g:=b) (o:=.cells #[.int .i64 p,.bool q,.int .i64 d,.int .u64 m] 89 (0,0)) (zk a) k_ hk_)⟩)) (below_size (zb HB)))
 replace c:=Aside0.mk (Kd.R_below (by (with_reducible repeat (first|apply Kd.R_alloc|apply Kd.R_drewN|apply Kd.R_drew));exact c.out) hb)
 obtain⟨a,HB⟩:=zu1 a HB hb
 try clear hb
 (try clear ho0)
 refine hK.out _ _ ⟨(blk_cell a.out 0).trans rfl,(blk_cell a.out 1).trans rfl,(blk_cell a.out 2).trans rfl,(blk_cell a.out 3).trans rfl⟩ (fun hHeld=>?_)
 clear hK K
 refine norm_ (a':=?_) ?_ ?_
 rotate_left
 ·show Act.put _ (some 22) _=_
  simp only[Act.put,List.setIfInBounds_toArray,List.set_cons_zero,List.set_cons_succ,i64_w,i32_w]
  rfl
 refine zpure_ (i:=5) (N:=some 6) #[true,true,true,true,true,true] (by kernel_rfl) ?_
 refine done_ (by kernel_rfl) ?_
 obtain⟨af,ag,ah,ai,aj,ak,al,am⟩:=zc4 a
 go_upto_region 5 with (first|((with_reducible refine gate_callee (f:=51) rfl ?_);refine zgo (some 26) Try.func51 #[.int .u64 m] ?_;(with_reducible refine (grottoref02_NatOf.calls bc.out).mono ?_);rintro e bx ⟨v814,rfl,ho0,hb⟩;refine⟨_,rfl,?_⟩;have j:=Aside0.mk (Kd.R_lower (Kd.R_new' (Kd.R_newM (M:=fun k_=>(w.heap.size≤k_)) ho0 (below_size (zb HB)) (fun k_ h_=>h_)) (Kd.R_lt (by (with_reducible repeat (first|apply Kd.R_alloc|apply Kd.R_drewN|apply Kd.R_drew));exact c.out))) (below_size (zb HB)));replace c:=Aside0.mk (Kd.R_elder' (by (with_reducible repeat (first|apply Kd.R_alloc|apply Kd.R_drewN|apply Kd.R_drew));exact c.out) (Kd.R_base ho0) hb);replace l:=Aside0.mk (Kd.V_elder' (by (with_reducible repeat (first|apply Kd.V_alloc|apply Kd.V_drewN|apply Kd.V_drew));exact l.out) (Kd.R_base ho0) hb);obtain⟨a,HB⟩:=zu1 a HB hb;clear hb;(try clear ho0);obtain⟨an,ao,aF⟩:=Kd.R_slice j.out;subst aF;obtain⟨aG,aH,aI⟩:=Kd.V_slice l.out;subst aI)|((with_reducible refine gate_callee (f:=78) rfl ?_);refine zgo (some 28) Try.func78 #[.slice an G.length ao,.slice aG D.length aH] ?_;(with_reducible refine (grottoref02_Quo.calls k (fun k_=>some k_=(.slice an G.length ao:Value).ownBlock) _ _ G _ _ D J B _ ?side1 ?side2 ?side3 bd.out).mono ?_);(case side1=>exact Kd.R_V (Kd.R_tight rfl (Kd.R_types (j.out) a.out (by decide))));(case side2=>repeat (first|exact (Kd.V_reads' l.out).2.2|(with_reducible refine Kd.C_alloc ?_ _)|(with_reducible refine Kd.C_drewN ?_ _)|(with_reducible refine Kd.C_drew ?_)));(case side3=>exact (Kd.V_reads' l.out).2.1);rintro e bz ⟨v817,v820,rfl,ho0,ho1,hb⟩;refine⟨_,rfl,?_⟩;have z:=Aside0.mk (Kd.V_lower (Kd.V_mono (ok':=fun k_=>(w.heap.size≤k_)∧some k_≠(.slice L v.length O:Value).ownBlock∧k_≠b) ho0 (fun k_ hk_=>⟨Or.elim hk_ (fun hs_=>((Kd.R_types (j.out) a.out (by decide)).1 k_ hs_.symm).1.1.1) (fun hn_=>(Nat.le_trans (below_size (zb HB)) hn_)),Or.elim hk_ (fun hs_=>((Kd.R_types (j.out) a.out (by decide)).1 k_ hs_.symm).1.2) (fun hn_=>(Kd.fresh' (Kd.R_lt (by (with_reducible repeat (first|apply Kd.R_alloc|apply Kd.R_drewN|apply Kd.R_drew));exact c.out)) k_ hn_)),Or.elim hk_ (fun hs_=>((Kd.R_types (j.out) a.out (by decide)).1 k_ hs_.symm).2) (fun hn_=>(Kd.freshB (g:=b) (o:=.cells #[.int .i64 p,.bool q,.int .i64 d,.int .u64 m] 89 (0,0)) (zk a) k_ hn_))⟩)) (below_size (zb HB)));have s:=Aside0.mk (Kd.V_lower (Kd.V_mono (ok':=fun k_=>(w.heap.size≤k_)∧some k_≠(.slice L v.length O:Value).ownBlock∧k_≠b) ho1 (fun k_ hk_=>⟨Or.elim hk_ (fun hs_=>((Kd.R_types (j.out) a.out (by decide)).1 k_ hs_.symm).1.1.1) (fun hn_=>(Nat.le_trans (below_size (zb HB)) hn_)),Or.elim hk_ (fun hs_=>((Kd.R_types (j.out) a.out (by decide)).1 k_ hs_.symm).1.2) (fun hn_=>(Kd.fresh' (Kd.R_lt (by (with_reducible repeat (first|apply Kd.R_alloc|apply Kd.R_drewN|apply Kd.R_drew));exact c.out)) k_ hn_)),Or.elim hk_ (fun hs_=>((Kd.R_types (j.out) a.out (by decide)).1 k_ hs_.symm).2) (fun hn_=>(Kd.freshB (g:=b) (o:=.cells #[.int .i64 p,.bool q,.int .i64 d,.int .u64 m] 89 (0,0)) (zk a) k_ hn_))⟩)) (below_size (zb HB)));replace c:=Aside0.mk (Kd.R_below (by (with_reducible repeat (first|apply Kd.R_alloc|apply Kd.R_drewN|apply Kd.R_drew));exact c.out) hb);replace l:=Aside0.mk (Kd.V_below (by (with_reducible repeat (first|apply Kd.V_alloc|apply Kd.V_drewN|apply Kd.V_drew));exact l.out) hb);replace j:=Aside0.mk (Kd.R_below (by (with_reducible repeat (first|apply Kd.R_alloc|apply Kd.R_drewN|apply Kd.R_drew));exact j.out) hb);obtain⟨a,HB⟩:=zu1 a HB hb;clear hb;(try clear ho0);(try clear ho1)))
 (try simp only[Act.put,List.setIfInBounds_toArray,List.set_cons_zero,List.set_cons_succ])
 go_cut [38] (fun v38 wc=>∃ (kq:Nat) (C:Bool),v38=.bool C∧Aside0 (grottoref03_whole.j0 kq J B C=some (r1,r2))∧Aside0 (kq≤k)∧Aside0 (Kd.V (Kd.int .i64) 3 wc w.heap.size (fun k_=>(w.heap.size≤k_)∧k_≠b) v817 J)∧Aside0 (Kd.V (Kd.int .i64) 3 wc w.heap.size (fun k_=>(w.heap.size≤k_)∧k_≠b) v820 B)∧Aside0 (wc.heap[b]?=some (.cells #[.int .i64 p,.bool q,.int .i64 d,.int .u64 m] 89 (0,0)))∧Aside0 (Below w.heap.size w wc))
 case first =>
  have H:=W.out
  clear W
  by_cases aq:a1=true
  ·subst aq
   rw[if_pos rfl] at H
   obtain⟨Q,bf,H⟩:=oB H
   obtain⟨R,bg,H⟩:=oB H
   have H':=Aside0.mk H
   clear H
   obtain⟨bl,bm,aJ⟩:=Kd.V_slice s.out
   subst aJ
   go_wp2_with (first|(go_at_call 79;(with_reducible refine (grottoref02_Up.calls k _ _ B 1 Q _ ?side1 ?side2 bf.out).mono ?_);(case side1=>repeat (first|exact (Kd.V_reads' s.out).2.2|(with_reducible refine Kd.C_alloc ?_ _)|(with_reducible refine Kd.C_drewN ?_ _)|(with_reducible refine Kd.C_drew ?_)));(case side2=>exact (Kd.V_reads' s.out).2.1);rintro e bA ⟨v823,rfl,ho0,hb⟩;have F:=Aside0.mk (Kd.V_lower (Kd.V_mono (ok':=fun k_=>(w.heap.size≤k_)∧some k_≠(.slice L v.length O:Value).ownBlock∧some k_≠(.slice an G.length ao:Value).ownBlock∧k_≠b) ho0 (fun k_ hk_=>⟨(Nat.le_trans (below_size (zb HB)) hk_),(Kd.fresh' (Kd.R_lt (by (with_reducible repeat (first|apply Kd.R_alloc|apply Kd.R_drewN|apply Kd.R_drew));exact c.out)) k_ hk_),(Kd.fresh' (Kd.R_lt (by (with_reducible repeat (first|apply Kd.R_alloc|apply Kd.R_drewN|apply Kd.R_drew));exact j.out)) k_ hk_),(Kd.freshB (g:=b) (o:=.cells #[.int .i64 p,.bool q,.int .i64 d,.int .u64 m] 89 (0,0)) (zk a) k_ hk_)⟩)) (below_size (zb HB)));replace c:=Aside0.mk (Kd.R_below (by (with_reducible repeat (first|apply Kd.R_alloc|apply Kd.R_drewN|apply Kd.R_drew));exact c.out) hb);replace l:=Aside0.mk (Kd.V_below (by (with_reducible repeat (first|apply Kd.V_alloc|apply Kd.V_drewN|apply Kd.V_drew));exact l.out) hb);replace j:=Aside0.mk (Kd.R_below (by (with_reducible repeat (first|apply Kd.R_alloc|apply Kd.R_drewN|apply Kd.R_drew));exact j.out) hb);replace z:=Aside0.mk (Kd.V_below (by (with_reducible repeat (first|apply Kd.V_alloc|apply Kd.V_drewN|apply Kd.V_drew));exact z.out) hb);replace s:=Aside0.mk (Kd.V_below (by (with_reducible repeat (first|apply Kd.V_alloc|apply Kd.V_drewN|apply Kd.V_drew));exact s.out) hb);obtain⟨a,HB⟩:=zu1 a HB hb;clear hb;(try clear ho0);obtain⟨bn,bo,aK⟩:=Kd.V_slice F.out;subst aK)|(go_at_call 81;(with_reducible refine (grottoref02_Cmp.calls k _ _ Q _ _ D R _ ?side1 ?side2 ?side3 ?side4 bg.out).mono ?_);(case side1=>repeat (first|exact (Kd.V_reads' F.out).2.2|(with_reducible refine Kd.C_alloc ?_ _)|(with_reducible refine Kd.C_drewN ?_ _)|(with_reducible refine Kd.C_drew ?_)));(case side2=>exact (Kd.V_reads' F.out).2.1);(case side3=>repeat (first|exact (Kd.V_reads' l.out).2.2|(with_reducible refine Kd.C_alloc ?_ _)|(with_reducible refine Kd.C_drewN ?_ _)|(with_reducible refine Kd.C_drew ?_)));(case side4=>exact (Kd.V_reads' l.out).2.1);rintro e bB ⟨rfl,hb⟩;replace c:=Aside0.mk (Kd.R_below (by (with_reducible repeat (first|apply Kd.R_alloc|apply Kd.R_drewN|apply Kd.R_drew));exact c.out) hb);replace l:=Aside0.mk (Kd.V_below (by (with_reducible repeat (first|apply Kd.V_alloc|apply Kd.V_drewN|apply Kd.V_drew));exact l.out) hb);replace j:=Aside0.mk (Kd.R_below (by (with_reducible repeat (first|apply Kd.R_alloc|apply Kd.R_drewN|apply Kd.R_drew));exact j.out) hb);replace z:=Aside0.mk (Kd.V_below (by (with_reducible repeat (first|apply Kd.V_alloc|apply Kd.V_drewN|apply Kd.V_drew));exact z.out) hb);replace s:=Aside0.mk (Kd.V_below (by (with_reducible repeat (first|apply Kd.V_alloc|apply Kd.V_drewN|apply Kd.V_drew));exact s.out) hb);replace F:=Aside0.mk (Kd.V_below (by (with_reducible repeat (first|apply Kd.V_alloc|apply Kd.V_drewN|apply Kd.V_drew));exact F.out) hb);obtain⟨a,HB⟩:=zu1 a HB hb;clear hb))
   go_meet
   case rel=>exact⟨_,(decide (R≥0)),(by first|rfl|(simp[*];done)),H',⟨by omega⟩,⟨by (with_reducible repeat (first|apply Kd.V_alloc|apply Kd.V_drewN|apply Kd.V_drew));exact Kd.V_mono z.out (fun _ hk=>⟨hk.1,hk.2.2⟩)⟩,⟨by (with_reducible repeat (first|apply Kd.V_alloc|apply Kd.V_drewN|apply Kd.V_drew));exact Kd.V_mono s.out (fun _ hk=>⟨hk.1,hk.2.2⟩)⟩,⟨zk a⟩,⟨zb HB⟩⟩
  replace aq:=Bool.eq_false_iff.mpr aq
  subst aq
  rw[if_neg nft] at H
  have H':=Aside0.mk H
  clear H
  go_wp2
  go_meet
  case rel=>exact⟨_,(false),(by first|rfl|(simp[*];done)),H',⟨by omega⟩,⟨by (with_reducible repeat (first|apply Kd.V_alloc|apply Kd.V_drewN|apply Kd.V_drew));exact Kd.V_mono z.out (fun _ hk=>⟨hk.1,hk.2.2⟩)⟩,⟨by (with_reducible repeat (first|apply Kd.V_alloc|apply Kd.V_drewN|apply Kd.V_drew));exact Kd.V_mono s.out (fun _ hk=>⟨hk.1,hk.2.2⟩)⟩,⟨zk a⟩,⟨zb HB⟩⟩
 case rest =>
  clear W
  try clear au X Y Z aa af ag ah ai ab ac ad ae aj ak al am
  obtain⟨kq,C,rfl,HA,bp,HO_7,HO_8,a,HB⟩:=hcut
  cases kq with
  | zero=>exact absurd HA.out (by simp[grottoref03_whole.j0])
  | succ ap =>
   have H:=HA.out
   clear HA
   simp only[grottoref03_whole.j0] at H
   by_cases ar:C=true
   ·subst ar
    rw[if_pos rfl] at H
    obtain⟨T,bh,H⟩:=oB H
    obtain⟨aL,bi,H⟩:=oB H
    obtain⟨aM,bj,H⟩:=oB H
    simp only[Option.some.injEq,Prod.mk.injEq] at H
    obtain⟨rfl,rfl⟩:=H
    go_wp2_with (first|((with_reducible refine gate_callee (f:=73) rfl ?_);refine zgo (some 40) Try.func73 #[] ?_;(with_reducible refine (grottoref03_one.calls  T _ bh.out).mono ?_);rintro e bC ⟨v827,rfl,ho0,hb⟩;refine⟨_,rfl,?_⟩;have u:=Aside0.mk (Kd.R_lower (Kd.R_newM (M:=fun k_=>(w.heap.size≤k_)) ho0 (below_size (zb HB)) (fun k_ h_=>h_)) (below_size (zb HB)));replace HO_7:=Aside0.mk (Kd.V_elder' (by (with_reducible repeat (first|apply Kd.V_alloc|apply Kd.V_drewN|apply Kd.V_drew));exact HO_7.out) (Kd.R_base ho0) hb);replace HO_8:=Aside0.mk (Kd.V_elder' (by (with_reducible repeat (first|apply Kd.V_alloc|apply Kd.V_drewN|apply Kd.V_drew));exact HO_8.out) (Kd.R_base ho0) hb);obtain⟨a,HB⟩:=zu1 a HB hb;clear hb;(try clear ho0);obtain⟨aN,aO,aP⟩:=Kd.V_slice HO_7.out;subst aP;obtain⟨az,aA,aQ⟩:=Kd.R_slice u.out;subst aQ)|((with_reducible refine gate_callee (f:=80) rfl ?_);refine zgo (some 41) Try.func80 #[.slice aN J.length aO,.slice az T.length aA] ?_;(with_reducible refine (grottoref02_Plus.calls ap _ _ J _ _ T aL _ ?side1 ?side2 ?side3 ?side4 bi.out).mono ?_);(case side1=>repeat (first|exact (Kd.V_reads' HO_7.out).2.2|(with_reducible refine Kd.C_alloc ?_ _)|(with_reducible refine Kd.C_drewN ?_ _)|(with_reducible refine Kd.C_drew ?_)));(case side2=>exact (Kd.V_reads' HO_7.out).2.1);(case side3=>repeat (first|exact (Kd.R_reads' u.out).2.2|(with_reducible refine Kd.C_alloc ?_ _)|(with_reducible refine Kd.C_drewN ?_ _)|(with_reducible refine Kd.C_drew ?_)));(case side4=>exact (Kd.R_reads' u.out).2.1);rintro e bD ⟨v830,rfl,ho0,hb⟩;refine⟨_,rfl,?_⟩;have P:=Aside0.mk (Kd.V_lower (Kd.V_mono (ok':=fun k_=>(w.heap.size≤k_)∧some k_≠(.slice az T.length aA:Value).ownBlock∧k_≠b) ho0 (fun k_ hk_=>⟨(Nat.le_trans (below_size (zb HB)) hk_),(Kd.fresh' (Kd.R_lt (by (with_reducible repeat (first|apply Kd.R_alloc|apply Kd.R_drewN|apply Kd.R_drew));exact u.out)) k_ hk_),(Kd.freshB (g:=b) (o:=.cells #[.int .i64 p,.bool q,.int .i64 d,.int .u64 m] 89 (0,0)) (zk a) k_ hk_)⟩)) (below_size (zb HB)));replace HO_7:=Aside0.mk (Kd.V_below (by (with_reducible repeat (first|apply Kd.V_alloc|apply Kd.V_drewN|apply Kd.V_drew));exact HO_7.out) hb);replace HO_8:=Aside0.mk (Kd.V_below (by (with_reducible repeat (first|apply Kd.V_alloc|apply Kd.V_drewN|apply Kd.V_drew));exact HO_8.out) hb);replace u:=Aside0.mk (Kd.R_below (by (with_reducible repeat (first|apply Kd.R_alloc|apply Kd.R_drewN|apply Kd.R_drew));exact u.out) hb);obtain⟨a,HB⟩:=zu1 a HB hb;clear hb;(try clear ho0);obtain⟨aR,aS,aT⟩:=Kd.V_slice HO_8.out;subst aT)|((with_reducible refine gate_callee (f:=72) rfl ?_);refine zgo (some 44) Try.func72 #[.slice aR B.length aS] ?_;(with_reducible refine (grottoref02_Bits.calls ap _ _ B aM _ ?side1 ?side2 bj.out).mono ?_);(case side1=>repeat (first|exact (Kd.V_reads' HO_8.out).2.2|(with_reducible refine Kd.C_alloc ?_ _)|(with_reducible refine Kd.C_drewN ?_ _)|(with_reducible refine Kd.C_drew ?_)));(case side2=>exact (Kd.V_reads' HO_8.out).2.1);rintro e bE ⟨rfl,hb⟩;refine⟨_,rfl,?_⟩;replace HO_7:=Aside0.mk (Kd.V_below (by (with_reducible repeat (first|apply Kd.V_alloc|apply Kd.V_drewN|apply Kd.V_drew));exact HO_7.out) hb);replace HO_8:=Aside0.mk (Kd.V_below (by (with_reducible repeat (first|apply Kd.V_alloc|apply Kd.V_drewN|apply Kd.V_drew));exact HO_8.out) hb);replace u:=Aside0.mk (Kd.R_below (by (with_reducible repeat (first|apply Kd.R_alloc|apply Kd.R_drewN|apply Kd.R_drew));exact u.out) hb);replace P:=Aside0.mk (Kd.V_below (by (with_reducible repeat (first|apply Kd.V_alloc|apply Kd.V_drewN|apply Kd.V_drew));exact P.out) hb);obtain⟨a,HB⟩:=zu1 a HB hb;clear hb))
    go_ret2
    exact⟨_,by first|rfl|(simp[errW_none,errW_some] <;> rfl)|(simp[*,errW_none,errW_some] <;> rfl),by (with_reducible repeat (first|apply Kd.V_alloc|apply Kd.V_drewN|apply Kd.V_drew));exact Kd.V_mono P.out (fun _ hk=>hk.1),zb HB⟩
   replace ar:=Bool.eq_false_iff.mpr ar
   subst ar
   rw[if_neg nft] at H
   obtain⟨aU,bk,H⟩:=oB H
   simp only[Option.some.injEq,Prod.mk.injEq] at H
   obtain⟨rfl,rfl⟩:=H
   obtain⟨aV,aW,aX⟩:=Kd.V_slice HO_8.out
   subst aX
   go_wp2_with (first|((with_reducible refine gate_callee (f:=72) rfl ?_);refine zgo (some 44) Try.func72 #[.slice aV B.length aW] ?_;(with_reducible refine (grottoref02_Bits.calls ap _ _ B aU _ ?side1 ?side2 bk.out).mono ?_);(case side1=>repeat (first|exact (Kd.V_reads' HO_8.out).2.2|(with_reducible refine Kd.C_alloc ?_ _)|(with_reducible refine Kd.C_drewN ?_ _)|(with_reducible refine Kd.C_drew ?_)));(case side2=>exact (Kd.V_reads' HO_8.out).2.1);rintro e bF ⟨rfl,hb⟩;refine⟨_,rfl,?_⟩;replace HO_7:=Aside0.mk (Kd.V_below (by (with_reducible repeat (first|apply Kd.V_alloc|apply Kd.V_drewN|apply Kd.V_drew));exact HO_7.out) hb);replace HO_8:=Aside0.mk (Kd.V_below (by (with_reducible repeat (first|apply Kd.V_alloc|apply Kd.V_drewN|apply Kd.V_drew));exact HO_8.out) hb);obtain⟨a,HB⟩:=zu1 a HB hb;clear hb))
   go_ret2
   exact⟨_,by first|rfl|(simp[errW_none,errW_some] <;> rfl)|(simp[*,errW_none,errW_some] <;> rfl),by (with_reducible repeat (first|apply Kd.V_alloc|apply Kd.V_drewN|apply Kd.V_drew));exact Kd.V_mono HO_7.out (fun _ hk=>hk.1),zb HB⟩

/-! ### grottoref03_step: function 82 -/
def grottoref03_step.j0:Nat→List Int→Bool→Int→Int→Int→Bool→Int→Int→Option (Int×Int)
 | 0,_,_,_,_,_,_,_,_=>none
 | k+1,a,e,b,c,n,d,o,p=>if e=true then ((grottoref03_one.f).bind fun g=>((grottoref02_Plus.f k a g).bind fun h=>((grottoref03_one.f).bind fun i=>((grottoref02_Near.f k b c d h i 0).bind fun j=>(some (j,0)))))) else ((grottoref03_one.f).bind fun l=>((grottoref02_Near.f k b c d a l 0).bind fun m=>(some (m,0))))
def grottoref03_step.f (k:Nat) (a0_0:Int) (a0_1:Int) (a1:Int) (a2:Bool):Option (Int×Int):=(grottoref02_Open.f k a0_0 a0_1 a1).bind fun a=>(if a.2.2.2.2=0 then (if a.1=4 then ((grottoref02_NaN.f k a0_0 a0_1).bind fun c=>(some (c,0))) else (if a.1=2 then ((grottoref03_whole.f k a.1 a.2.1 a.2.2.1 a.2.2.2.1 false).bind fun b=>(if b.2=true then (grottoref03_step.j0 k b.1 (a2 != a.2.1) a0_0 a0_1 a.1 a.2.1 a.2.2.1 a.2.2.2.1) else (grottoref03_step.j0 k b.1 false a0_0 a0_1 a.1 a.2.1 a.2.2.1 a.2.2.2.1))) else (some (a1,0)))) else (some (0,a.2.2.2.2)))
theorem grottoref03_step.mono_l:∀ k,(∀ y0 y1 y2 y3 y4 y5 y6 y7,LeO (grottoref03_step.j0 k y0 y1 y2 y3 y4 y5 y6 y7) (grottoref03_step.j0 (k+1) y0 y1 y2 y3 y4 y5 y6 y7))
 | 0=>fun _ _ _ _ _ _ _ _ r h=>by simp[grottoref03_step.j0] at h
 | k+1=>by
  have ih0:=grottoref03_step.mono_l k
  intros;unfold grottoref03_step.j0;repeat' first|(with_reducible first|apply ih0|apply grottoref02_NaN.mono|apply grottoref02_Near.mono|apply grottoref02_Open.mono|apply grottoref02_Plus.mono|apply grottoref03_whole.mono|exact LeO.refl _|exact LeO.none _|refine LeO.ite ?_ ?_|refine LeO.bind ?_ (fun _=>?_))|refine LeO.ite ?_ ?_|refine LeO.bind ?_ (fun _=>?_)
theorem grottoref03_step.mono:∀ a0 a1 a2 a3 k,LeO (grottoref03_step.f k a0 a1 a2 a3) (grottoref03_step.f (k+1) a0 a1 a2 a3):=by
 intro a0 a1 a2 a3 k
 have ih0:=grottoref03_step.mono_l k
 unfold grottoref03_step.f
 repeat' first|(with_reducible first|apply ih0|apply grottoref02_NaN.mono|apply grottoref02_Near.mono|apply grottoref02_Open.mono|apply grottoref02_Plus.mono|apply grottoref03_whole.mono|exact LeO.refl _|exact LeO.none _|refine LeO.ite ?_ ?_|refine LeO.bind ?_ (fun _=>?_))|refine LeO.ite ?_ ?_|refine LeO.bind ?_ (fun _=>?_)
def grottoref03_step.T11:Bool×List (List Nat×List Nat):=(true,[([],[]),([],[]),([1],[1]),([],[]),([],[]),([0,2,3,4,4],[0,2,3,4]),([5,5,0,1,2,3,4,5],[5]),([6,0,1,2,3,4,5,6],[])])
def grottoref03_step.B11:List Nat:=[0,0,2,0,0,31,63,127]
theorem grottoref03_step.tab11:rtab .any (opsOf Try.f82 11)=grottoref03_step.T11:=by kernel_rfl
theorem grottoref03_step.bits11:waitsOk grottoref03_step.T11.2 grottoref03_step.B11=true:=by kernel_rfl
set_option maxHeartbeats 8000000 in
set_option maxRecDepth 100000 in
theorem grottoref03_step.calls {k:Nat} {m:Int} {p:Int} {a1:Int} {a2:Bool} {r1:Int} {r2:Int} {w:World} (h:grottoref03_step.f k m p a1 a2=some (r1,r2)) :
  Calls Try.prog 82 #[.agg #[.int .i64 m,.int .i64 p],.int .u64 a1,.bool a2] w fun e w'=>e=.returned (.tuple #[.int .u64 r1,.int .i64 r2])∧Below w.heap.size w w':=by
 have hu58:=Try.underlying58
 have hu89:=Try.underlying89
 have HB:=Aside0.mk (Below.refl w.heap.size w)
 have H:=h
 unfold grottoref03_step.f at H
 clear h
 obtain⟨⟨v,s,z,B,aG⟩,A4,H⟩:=oB H
 try dsimp only at H
 by_cases c5:aG=0
 ·rw[if_pos c5] at H
  obtain⟨ax,ay⟩:=zt c5
  clear c5
  by_cases c6:v=4
  ·rw[if_pos c6] at H
   obtain⟨az,aA⟩:=zt c6
   clear c6
   obtain⟨aw,A7,H⟩:=oB H
   simp only[Option.some.injEq,Prod.mk.injEq] at H
   obtain⟨rfl,rfl⟩:=H
   go_enter Try.func82,Try.ntmps82
   go_wp2_with (first|((with_reducible refine gate_dst (N:=3) rfl ?_);refine zbox (N:=3) (cs:=#[.int .i64 m,.int .i64 p]) (t:=58) ?_;intro l hg w8 hbox hb;have a:=Aside0.mk hbox;have M:=zge hg HB;have O:=zge hg HB;replace HB:=zbs HB hb;clear hb hbox hg;obtain⟨bJ,bK,bL,bM⟩:=zc2 a)|((with_reducible refine gate_callee (f:=74) rfl ?_);refine zgc (some 15) Try.func74 (grottoref02_Open.calls A4.out) ?_;intro b7 hb;obtain⟨a,HB⟩:=zu1 a HB hb;clear hb)|((with_reducible refine gate_dst (N:=8) rfl ?_);refine zbox (N:=8) (cs:=#[.int .i64 0,.bool false,.int .i64 0,.int .u64 0]) (t:=89) ?_;intro c hg b8 hbox hb;have b:=Aside0.mk hbox;have P:=zge hg HB;have Q:=zge hg HB;have y:=znl hg a;have j:=zng hg a;obtain⟨a,HB⟩:=zu1 a HB hb;clear hb hbox hg;obtain⟨bN,bO⟩:=z2 j;obtain⟨aI,aJ,aK,aL,aM,aN,aO,aP⟩:=zc4 b;obtain⟨aQ,aR,aS,aT⟩:=zc2 a)|((with_reducible refine gate_callee (f:=67) rfl ?_);refine zgc (some 27) Try.func67 (grottoref02_NaN.calls A7.out) ?_;intro b9 hb;replace a:=zkb a hb;replace b:=zkbo (o:=.cells #[.int .i64 v,.bool s,.int .i64 z,.int .u64 B] 89 (0,0)) b hb;replace HB:=zbs HB hb;clear hb))
   go_ret2
   exact zr HB
  rw[if_neg c6] at H
  obtain⟨az,aA⟩:=zf c6
  by_cases R:v=2
  ·rw[if_pos R] at H
   obtain⟨T,U⟩:=zt R
   clear R
   obtain⟨⟨D,aU⟩,bP,H⟩:=oB H
   try dsimp only at H
   have W:=Aside0.mk H
   clear H
   go_enter Try.func82,Try.ntmps82
   go_upto_region 9 with (first|((with_reducible refine gate_dst (N:=3) rfl ?_);refine zbox (N:=3) (cs:=#[.int .i64 m,.int .i64 p]) (t:=58) ?_;intro l hg ca hbox hb;have a:=Aside0.mk hbox;have M:=zge hg HB;have O:=zge hg HB;replace HB:=zbs HB hb;clear hb hbox hg;obtain⟨X,Y,Z,aa⟩:=zc2 a)|((with_reducible refine gate_callee (f:=74) rfl ?_);refine zgc (some 15) Try.func74 (grottoref02_Open.calls A4.out) ?_;intro cb hb;obtain⟨a,HB⟩:=zu1 a HB hb;clear hb)|((with_reducible refine gate_dst (N:=8) rfl ?_);refine zbox (N:=8) (cs:=#[.int .i64 0,.bool false,.int .i64 0,.int .u64 0]) (t:=89) ?_;intro c hg cc hbox hb;have b:=Aside0.mk hbox;have P:=zge hg HB;have Q:=zge hg HB;have y:=znl hg a;have j:=zng hg a;obtain⟨a,HB⟩:=zu1 a HB hb;clear hb hbox hg;obtain⟨bQ,bR⟩:=z2 j;obtain⟨ab,ac,ad,ae,af,ag,ah,ai⟩:=zc4 b)|((with_reducible refine gate_callee (f:=94) rfl ?_);refine zgo (some 35) Try.func94 #[.agg #[.int .i64 v,.bool s,.int .i64 z,.int .u64 B],.bool false] ?_;(with_reducible refine (grottoref03_whole.calls bP.out).mono ?_);rintro e cd ⟨v843,rfl,ho0,hb⟩;refine⟨_,rfl,?_⟩;have aj:=Aside0.mk (Kd.V_lower (Kd.V_mono (ok':=fun k_=>k_≠l∧k_≠c) ho0 (fun k_ hk_=>⟨(Kd.freshB (g:=l) (o:=.cells #[.int .i64 m,.int .i64 p] 58 (0,0)) (zk a) k_ hk_),(Kd.freshB (g:=c) (o:=.cells #[.int .i64 v,.bool s,.int .i64 z,.int .u64 B] 89 (0,0)) (zkp b) k_ hk_)⟩)) (below_size (zb HB)));replace a:=zkb a hb;replace b:=zkbo (o:=.cells #[.int .i64 v,.bool s,.int .i64 z,.int .u64 B] 89 (0,0)) b hb;replace HB:=zbs HB hb;clear hb;(try clear ho0)))
   (try simp only[Act.put,List.setIfInBounds_toArray,List.set_cons_zero,List.set_cons_succ])
   go_cut [44] (fun v44 wc=>∃ (kq:Nat) (C:Bool),v44=.bool C∧Aside0 (grottoref03_step.j0 kq D C m p v s z B=some (r1,r2))∧Aside0 (kq≤k)∧Aside0 (Kd.V (Kd.int .i64) 3 wc w.heap.size (fun k_=>k_≠l∧k_≠c) v843 D)∧Aside0 (wc.heap[l]?=some (.cells #[.int .i64 m,.int .i64 p] 58 (0,0)))∧Aside0 (wc.heap[c]?=some (.cells #[.int .i64 v,.bool s,.int .i64 z,.int .u64 B] 89 (0,0)))∧Aside0 (Below w.heap.size w wc))
   case first =>
    have H:=W.out
    clear W
    by_cases au:aU=true
    ·subst au
     rw[if_pos rfl] at H
     have H':=Aside0.mk H
     clear H
     obtain⟨bS,bT⟩:=z2 j
     obtain⟨aV,aW,aX,aY,aZ,a0,a3,a4⟩:=zc4 b
     go_wp2
     go_meet
     case rel=>exact⟨_,((a2 != s)),(by first|rfl|(simp[*];done)),H',⟨by omega⟩,⟨by (with_reducible repeat (first|apply Kd.V_alloc|apply Kd.V_drewN|apply Kd.V_drew));exact aj.out⟩,⟨zk a⟩,⟨zk b⟩,⟨zb HB⟩⟩
    replace au:=Bool.eq_false_iff.mpr au
    subst au
    rw[if_neg nft] at H
    have H':=Aside0.mk H
    clear H
    go_wp2
    go_meet
    case rel=>exact⟨_,(false),(by first|rfl|(simp[*];done)),H',⟨by omega⟩,⟨by (with_reducible repeat (first|apply Kd.V_alloc|apply Kd.V_drewN|apply Kd.V_drew));exact aj.out⟩,⟨zk a⟩,⟨zk b⟩,⟨zb HB⟩⟩
   case rest =>
    clear W
    try clear ax ay c6 az aA T U X Y ab ac ad ae Z aa af ag ah ai
    obtain⟨kq,C,rfl,HA,b5,HO_10,a,b,HB⟩:=hcut
    cases kq with
    | zero=>exact absurd HA.out (by simp[grottoref03_step.j0])
    | succ ak =>
     have H:=HA.out
     clear HA
     simp only[grottoref03_step.j0] at H
     by_cases av:C=true
     ·subst av
      rw[if_pos rfl] at H
      obtain⟨G,bU,H⟩:=oB H
      obtain⟨al,bV,H⟩:=oB H
      obtain⟨I,bW,H⟩:=oB H
      obtain⟨a5,bX,H⟩:=oB H
      simp only[Option.some.injEq,Prod.mk.injEq] at H
      obtain⟨rfl,rfl⟩:=H
      try go_wp2_with (first|((with_reducible refine gate_callee (f:=73) rfl ?_);refine zgo (some 46) Try.func73 #[] ?_;(with_reducible refine (grottoref03_one.calls  G _ bU.out).mono ?_);rintro e ce ⟨v847,rfl,ho0,hb⟩;refine⟨_,rfl,?_⟩;have q:=Aside0.mk (Kd.R_lower ho0 (below_size (zb HB)));replace HO_10:=Aside0.mk (Kd.V_elder' (by (with_reducible repeat (first|apply Kd.V_alloc|apply Kd.V_drewN|apply Kd.V_drew));exact HO_10.out) (Kd.R_base ho0) hb);obtain⟨a,b,HB⟩:=zu2 a b HB hb;clear hb;(try clear ho0);obtain⟨a6,a7,a8⟩:=Kd.V_slice HO_10.out;subst a8;obtain⟨am,an,a9⟩:=Kd.R_slice q.out;subst a9)|((with_reducible refine gate_callee (f:=80) rfl ?_);refine zgo (some 47) Try.func80 #[.slice a6 D.length a7,.slice am G.length an] ?_;(with_reducible refine (grottoref02_Plus.calls ak _ _ D _ _ G al _ ?side1 ?side2 ?side3 ?side4 bV.out).mono ?_);(case side1=>repeat (first|exact (Kd.V_reads' HO_10.out).2.2|(with_reducible refine Kd.C_alloc ?_ _)|(with_reducible refine Kd.C_drewN ?_ _)|(with_reducible refine Kd.C_drew ?_)));(case side2=>exact (Kd.V_reads' HO_10.out).2.1);(case side3=>repeat (first|exact (Kd.R_reads' q.out).2.2|(with_reducible refine Kd.C_alloc ?_ _)|(with_reducible refine Kd.C_drewN ?_ _)|(with_reducible refine Kd.C_drew ?_)));(case side4=>exact (Kd.R_reads' q.out).2.1);rintro e bY ⟨v850,rfl,ho0,hb⟩;refine⟨_,rfl,?_⟩;have u:=Aside0.mk (Kd.V_lower (Kd.V_mono (ok':=fun k_=>some k_≠(.slice am G.length an:Value).ownBlock∧k_≠l∧k_≠c) ho0 (fun k_ hk_=>⟨(Kd.fresh' (Kd.R_lt (by (with_reducible repeat (first|apply Kd.R_alloc|apply Kd.R_drewN|apply Kd.R_drew));exact q.out)) k_ hk_),(Kd.freshB (g:=l) (o:=.cells #[.int .i64 m,.int .i64 p] 58 (0,0)) (zk a) k_ hk_),(Kd.freshB (g:=c) (o:=.cells #[.int .i64 v,.bool s,.int .i64 z,.int .u64 B] 89 (0,0)) (zk b) k_ hk_)⟩)) (below_size (zb HB)));replace HO_10:=Aside0.mk (Kd.V_below (by (with_reducible repeat (first|apply Kd.V_alloc|apply Kd.V_drewN|apply Kd.V_drew));exact HO_10.out) hb);replace q:=Aside0.mk (Kd.R_below (by (with_reducible repeat (first|apply Kd.R_alloc|apply Kd.R_drewN|apply Kd.R_drew));exact q.out) hb);obtain⟨a,b,HB⟩:=zu2 a b HB hb;clear hb;(try clear ho0)))
      replace HO_10:=Aside0.mk (Kd.V_drew HO_10.out)
      replace q:=Aside0.mk (Kd.R_drew q.out)
      replace u:=Aside0.mk (Kd.V_drew u.out)
      replace a:=Aside0.mk (blk_drew a.out)
      replace b:=Aside0.mk (blk_drew b.out)
      replace HB:=Aside0.mk (below_drew1 HB.out)
      refine start_ (n:=8) (S:=fun w'=>w'.cell? ⟨l,0,none⟩=some (.int .i64 m)∧w'.cell? ⟨l,1,none⟩=some (.int .i64 p)∧w'.cell? ⟨c,0,none⟩=some (.int .i64 v)∧w'.cell? ⟨c,1,none⟩=some (.bool s)∧w'.cell? ⟨c,2,none⟩=some (.int .i64 z)∧w'.cell? ⟨c,3,none⟩=some (.int .u64 B)) (ds:=[]) #[false,false,false,false,false,false,false,false] (by kernel_rfl) rfl rfl ⟨(blk_cell a.out 0).trans rfl,(blk_cell a.out 1).trans rfl,(blk_cell b.out 0).trans rfl,(blk_cell b.out 1).trans rfl,(blk_cell b.out 2).trans rfl,(blk_cell b.out 3).trans rfl⟩ (fun hHeld=>?_);refine with_tabW grottoref03_step.tab11 grottoref03_step.bits11 (fun HT_ HW_=>?_)
      generalize bY.drew=cf at HO_10 q u a b HB hHeld ⊢
      refine zpure_ (i:=1) (N:=some 49) #[false,true,false,false,false,false,false,false] (any_of HT_.out (by kernel_rfl)) ?_
      refine zpure_ (i:=3) (N:=some 51) #[false,true,false,true,false,false,false,false] (any_of HT_.out (by kernel_rfl)) ?_
      refine ztake_ (i:=0) (N:=some 48) #[true,true,false,true,false,false,false,false] rfl (take_ofW HT_.out HW_.out (by kernel_rfl)) hHeld (Or.inl ⟨by rfl,by rintro w' ⟨s0,s1,s2,s3,s4,s5⟩;go_simp;with_reducible rfl⟩) ?_
      refine ztake_ (i:=2) (N:=some 50) #[true,true,true,true,false,false,false,false] rfl (take_ofW HT_.out HW_.out (by kernel_rfl)) hHeld (Or.inl ⟨by rfl,by rintro w' ⟨s0,s1,s2,s3,s4,s5⟩;go_simp;with_reducible rfl⟩) ?_
      refine one_ (i:=4) (N:=some 52) #[true,true,true,true,true,false,false,false] rfl rfl (one_of HT_.out (by kernel_rfl)) (by decide) (fun K hK=>?_)
      refine goes_ Try.func73 (by kernel_rfl) rfl #[] (by rfl) rfl rfl (by (try simp only[List.map_toArray,List.map_cons,List.map_nil]);first|done|rfl|(simp only[List.length_drop,List.length_take];rfl)) ?_
      with_reducible refine (grottoref03_one.calls  I _ bW.out).mono ?_
      rintro e cg ⟨v853,rfl,ho0,hb⟩
      refine⟨_,rfl,?_⟩
      have E:=Aside0.mk (Kd.R_lower (Kd.R_new' ho0 (Kd.R_lt (by (with_reducible repeat (first|apply Kd.R_alloc|apply Kd.R_drewN|apply Kd.R_drew));exact q.out))) (below_size (zb HB)))
      replace HO_10:=Aside0.mk (Kd.V_elder' (by (with_reducible repeat (first|apply Kd.V_alloc|apply Kd.V_drewN|apply Kd.V_drew));exact HO_10.out) (Kd.R_base ho0) hb)
      replace q:=Aside0.mk (Kd.R_elder' (by (with_reducible repeat (first|apply Kd.R_alloc|apply Kd.R_drewN|apply Kd.R_drew));exact q.out) (Kd.R_base ho0) hb)
      replace u:=Aside0.mk (Kd.V_elder' (by (with_reducible repeat (first|apply Kd.V_alloc|apply Kd.V_drewN|apply Kd.V_drew));exact u.out) (Kd.R_base ho0) hb)
      obtain⟨a,b,HB⟩:=zu2 a b HB hb
      try clear hb
      (try clear ho0)
      obtain⟨ba,bb,aB⟩:=Kd.V_slice u.out
      (first|subst aB|(injection aB with f1_ f2_ f3_;have f4_:=f1_.symm;have f5_:=f3_.symm;clear f1_ f2_ f3_;subst f4_;subst f5_))
      obtain⟨ao,ap,aC⟩:=Kd.R_slice E.out
      (first|subst aC|(injection aC with f1_ f2_ f3_;have f4_:=f1_.symm;have f5_:=f3_.symm;clear f1_ f2_ f3_;subst f4_;subst f5_))
      refine hK.out _ _ ⟨(blk_cell a.out 0).trans rfl,(blk_cell a.out 1).trans rfl,(blk_cell b.out 0).trans rfl,(blk_cell b.out 1).trans rfl,(blk_cell b.out 2).trans rfl,(blk_cell b.out 3).trans rfl⟩ (fun hHeld=>?_)
      clear hK K
      refine norm_ (a':=?_) ?_ ?_
      rotate_left
      ·show Act.put _ (some 52) _=_
       simp only[Act.put,List.setIfInBounds_toArray,List.set_cons_zero,List.set_cons_succ,i64_w,i32_w]
       rfl
      refine one_ (i:=5) (N:=some 53) #[true,true,true,true,true,true,false,false] rfl rfl (one_of HT_.out (by kernel_rfl)) (by decide) (fun K hK=>?_)
      refine goes_ Try.func50 (by kernel_rfl) rfl #[.agg #[.int .i64 m,.int .i64 p],.bool s,.slice ba al.length bb,.slice ao I.length ap,.int .i64 0] (by rfl) rfl rfl (by (try simp only[List.map_toArray,List.map_cons,List.map_nil]);first|done|rfl|(simp only[List.length_drop,List.length_take];rfl)) ?_
      with_reducible refine (grottoref02_Near.calls ak m p s (fun k_=>((some k_≠(.slice am G.length an:Value).ownBlock∧(k_≠l∧k_≠c))∧some k_≠(.slice ao I.length ap:Value).ownBlock)) _ _ al (fun k_=>some k_=(.slice ao I.length ap:Value).ownBlock) _ _ I 0 a5 _ ?side1 ?side2 bX.out).mono ?_
      (case side1=>exact u.out)
      (case side2=>exact Kd.R_V (Kd.R_tight rfl (Kd.R_types (Kd.R_types (E.out) a.out (by decide)) b.out (by decide))))
      rintro e ch ⟨rfl,hb⟩
      refine⟨_,rfl,?_⟩
      replace HO_10:=Aside0.mk (Kd.V_below (by (with_reducible repeat (first|apply Kd.V_alloc|apply Kd.V_drewN|apply Kd.V_drew));exact HO_10.out) hb)
      replace q:=Aside0.mk (Kd.R_below (by (with_reducible repeat (first|apply Kd.R_alloc|apply Kd.R_drewN|apply Kd.R_drew));exact q.out) hb)
      replace u:=Aside0.mk (Kd.V_below (by (with_reducible repeat (first|apply Kd.V_alloc|apply Kd.V_drewN|apply Kd.V_drew));exact u.out) hb)
      replace E:=Aside0.mk (Kd.R_below (by (with_reducible repeat (first|apply Kd.R_alloc|apply Kd.R_drewN|apply Kd.R_drew));exact E.out) hb)
      obtain⟨a,b,HB⟩:=zu2 a b HB hb
      try clear hb
      refine hK.out _ _ ⟨(blk_cell a.out 0).trans rfl,(blk_cell a.out 1).trans rfl,(blk_cell b.out 0).trans rfl,(blk_cell b.out 1).trans rfl,(blk_cell b.out 2).trans rfl,(blk_cell b.out 3).trans rfl⟩ (fun hHeld=>?_)
      clear hK K
      refine norm_ (a':=?_) ?_ ?_
      rotate_left
      ·show Act.put _ (some 53) _=_
       simp only[Act.put,List.setIfInBounds_toArray,List.set_cons_zero,List.set_cons_succ,i64_w,i32_w]
       rfl
      refine zpure_ (i:=6) (N:=some 6) #[true,true,true,true,true,true,true,false] (any_of HT_.out (by kernel_rfl)) ?_
      refine zpure_ (i:=7) (N:=some 7) #[true,true,true,true,true,true,true,true] (any_of HT_.out (by kernel_rfl)) ?_
      refine done_ (done_of HT_.out (by kernel_rfl)) ?_
      try go_wp2
      go_ret2
      exact zr HB
     replace av:=Bool.eq_false_iff.mpr av
     subst av
     rw[if_neg nft] at H
     obtain⟨J,bZ,H⟩:=oB H
     obtain⟨bc,b0,H⟩:=oB H
     simp only[Option.some.injEq,Prod.mk.injEq] at H
     obtain⟨rfl,rfl⟩:=H
     try go_wp2
     replace HO_10:=Aside0.mk (Kd.V_drew HO_10.out)
     replace a:=Aside0.mk (blk_drew a.out)
     replace b:=Aside0.mk (blk_drew b.out)
     replace HB:=Aside0.mk (below_drew1 HB.out)
     refine start_ (n:=8) (S:=fun w'=>w'.cell? ⟨l,0,none⟩=some (.int .i64 m)∧w'.cell? ⟨l,1,none⟩=some (.int .i64 p)∧w'.cell? ⟨c,0,none⟩=some (.int .i64 v)∧w'.cell? ⟨c,1,none⟩=some (.bool s)∧w'.cell? ⟨c,2,none⟩=some (.int .i64 z)∧w'.cell? ⟨c,3,none⟩=some (.int .u64 B)) (ds:=[]) #[false,false,false,false,false,false,false,false] (by kernel_rfl) rfl rfl ⟨(blk_cell a.out 0).trans rfl,(blk_cell a.out 1).trans rfl,(blk_cell b.out 0).trans rfl,(blk_cell b.out 1).trans rfl,(blk_cell b.out 2).trans rfl,(blk_cell b.out 3).trans rfl⟩ (fun hHeld=>?_);refine with_tabW grottoref03_step.tab11 grottoref03_step.bits11 (fun HT_ HW_=>?_)
     generalize wc.drew=ci at HO_10 a b HB hHeld ⊢
     refine zpure_ (i:=1) (N:=some 49) #[false,true,false,false,false,false,false,false] (any_of HT_.out (by kernel_rfl)) ?_
     refine zpure_ (i:=3) (N:=some 51) #[false,true,false,true,false,false,false,false] (any_of HT_.out (by kernel_rfl)) ?_
     refine ztake_ (i:=0) (N:=some 48) #[true,true,false,true,false,false,false,false] rfl (take_ofW HT_.out HW_.out (by kernel_rfl)) hHeld (Or.inl ⟨by rfl,by rintro w' ⟨s0,s1,s2,s3,s4,s5⟩;go_simp;with_reducible rfl⟩) ?_
     refine ztake_ (i:=2) (N:=some 50) #[true,true,true,true,false,false,false,false] rfl (take_ofW HT_.out HW_.out (by kernel_rfl)) hHeld (Or.inl ⟨by rfl,by rintro w' ⟨s0,s1,s2,s3,s4,s5⟩;go_simp;with_reducible rfl⟩) ?_
     refine one_ (i:=4) (N:=some 52) #[true,true,true,true,true,false,false,false] rfl rfl (one_of HT_.out (by kernel_rfl)) (by decide) (fun K hK=>?_)
     refine goes_ Try.func73 (by kernel_rfl) rfl #[] (by rfl) rfl rfl (by (try simp only[List.map_toArray,List.map_cons,List.map_nil]);first|done|rfl|(simp only[List.length_drop,List.length_take];rfl)) ?_
     with_reducible refine (grottoref03_one.calls  J _ bZ.out).mono ?_
     rintro e cj ⟨v857,rfl,ho0,hb⟩
     refine⟨_,rfl,?_⟩
     have F:=Aside0.mk (Kd.R_lower ho0 (below_size (zb HB)))
     replace HO_10:=Aside0.mk (Kd.V_elder' (by (with_reducible repeat (first|apply Kd.V_alloc|apply Kd.V_drewN|apply Kd.V_drew));exact HO_10.out) (Kd.R_base ho0) hb)
     obtain⟨a,b,HB⟩:=zu2 a b HB hb
     try clear hb
     (try clear ho0)
     obtain⟨bd,be,aD⟩:=Kd.V_slice HO_10.out
     (first|subst aD|(injection aD with f1_ f2_ f3_;have f4_:=f1_.symm;have f5_:=f3_.symm;clear f1_ f2_ f3_;subst f4_;subst f5_))
     obtain⟨aq,ar,aE⟩:=Kd.R_slice F.out
     (first|subst aE|(injection aE with f1_ f2_ f3_;have f4_:=f1_.symm;have f5_:=f3_.symm;clear f1_ f2_ f3_;subst f4_;subst f5_))
     refine hK.out _ _ ⟨(blk_cell a.out 0).trans rfl,(blk_cell a.out 1).trans rfl,(blk_cell b.out 0).trans rfl,(blk_cell b.out 1).trans rfl,(blk_cell b.out 2).trans rfl,(blk_cell b.out 3).trans rfl⟩ (fun hHeld=>?_)
     clear hK K
     refine norm_ (a':=?_) ?_ ?_
     rotate_left
     ·show Act.put _ (some 52) _=_
      simp only[Act.put,List.setIfInBounds_toArray,List.set_cons_zero,List.set_cons_succ,i64_w,i32_w]
      rfl
     refine one_ (i:=5) (N:=some 53) #[true,true,true,true,true,true,false,false] rfl rfl (one_of HT_.out (by kernel_rfl)) (by decide) (fun K hK=>?_)
     refine goes_ Try.func50 (by kernel_rfl) rfl #[.agg #[.int .i64 m,.int .i64 p],.bool s,.slice bd D.length be,.slice aq J.length ar,.int .i64 0] (by rfl) rfl rfl (by (try simp only[List.map_toArray,List.map_cons,List.map_nil]);first|done|rfl|(simp only[List.length_drop,List.length_take];rfl)) ?_
     with_reducible refine (grottoref02_Near.calls ak m p s (fun k_=>((k_≠l∧k_≠c)∧some k_≠(.slice aq J.length ar:Value).ownBlock)) _ _ D (fun k_=>some k_=(.slice aq J.length ar:Value).ownBlock) _ _ J 0 bc _ ?side1 ?side2 b0.out).mono ?_
     (case side1=>exact HO_10.out)
     (case side2=>exact Kd.R_V (Kd.R_tight rfl (Kd.R_types (Kd.R_types (F.out) a.out (by decide)) b.out (by decide))))
     rintro e ck ⟨rfl,hb⟩
     refine⟨_,rfl,?_⟩
     replace HO_10:=Aside0.mk (Kd.V_below (by (with_reducible repeat (first|apply Kd.V_alloc|apply Kd.V_drewN|apply Kd.V_drew));exact HO_10.out) hb)
     replace F:=Aside0.mk (Kd.R_below (by (with_reducible repeat (first|apply Kd.R_alloc|apply Kd.R_drewN|apply Kd.R_drew));exact F.out) hb)
     obtain⟨a,b,HB⟩:=zu2 a b HB hb
     try clear hb
     refine hK.out _ _ ⟨(blk_cell a.out 0).trans rfl,(blk_cell a.out 1).trans rfl,(blk_cell b.out 0).trans rfl,(blk_cell b.out 1).trans rfl,(blk_cell b.out 2).trans rfl,(blk_cell b.out 3).trans rfl⟩ (fun hHeld=>?_)
     clear hK K
     refine norm_ (a':=?_) ?_ ?_
     rotate_left
     ·show Act.put _ (some 53) _=_
      simp only[Act.put,List.setIfInBounds_toArray,List.set_cons_zero,List.set_cons_succ,i64_w,i32_w]
      rfl
     refine zpure_ (i:=6) (N:=some 6) #[true,true,true,true,true,true,true,false] (any_of HT_.out (by kernel_rfl)) ?_
     refine zpure_ (i:=7) (N:=some 7) #[true,true,true,true,true,true,true,true] (any_of HT_.out (by kernel_rfl)) ?_
     refine done_ (done_of HT_.out (by kernel_rfl)) ?_
     try go_wp2
     go_ret2
     exact zr HB
  rw[if_neg R] at H
  obtain⟨T,U⟩:=zf R
  simp only[Option.some.injEq,Prod.mk.injEq] at H
  obtain⟨rfl,rfl⟩:=H
  go_enter Try.func82,Try.ntmps82
  go_wp2_with (first|((with_reducible refine gate_dst (N:=3) rfl ?_);refine zbox (N:=3) (cs:=#[.int .i64 m,.int .i64 p]) (t:=58) ?_;intro l hg cl hbox hb;have a:=Aside0.mk hbox;have M:=zge hg HB;have O:=zge hg HB;replace HB:=zbs HB hb;clear hb hbox hg;obtain⟨bf,bg,bh,bi⟩:=zc2 a)|((with_reducible refine gate_callee (f:=74) rfl ?_);refine zgc (some 15) Try.func74 (grottoref02_Open.calls A4.out) ?_;intro cm hb;obtain⟨a,HB⟩:=zu1 a HB hb;clear hb)|((with_reducible refine gate_dst (N:=8) rfl ?_);refine zbox (N:=8) (cs:=#[.int .i64 0,.bool false,.int .i64 0,.int .u64 0]) (t:=89) ?_;intro c hg cn hbox hb;have b:=Aside0.mk hbox;have P:=zge hg HB;have Q:=zge hg HB;have y:=znl hg a;have j:=zng hg a;obtain⟨a,HB⟩:=zu1 a HB hb;clear hb hbox hg;obtain⟨b1,b2⟩:=z2 j;obtain⟨bj,bk,bl,bm,bn,bo,bp,bq⟩:=zc4 b))
  go_ret2
  exact zr HB
 rw[if_neg c5] at H
 obtain⟨ax,ay⟩:=zf c5
 simp only[Option.some.injEq,Prod.mk.injEq] at H
 obtain⟨rfl,rfl⟩:=H
 go_enter Try.func82,Try.ntmps82
 go_wp2_with (first|((with_reducible refine gate_dst (N:=3) rfl ?_);refine zbox (N:=3) (cs:=#[.int .i64 m,.int .i64 p]) (t:=58) ?_;intro l hg co hbox hb;have a:=Aside0.mk hbox;have M:=zge hg HB;have O:=zge hg HB;replace HB:=zbs HB hb;clear hb hbox hg;obtain⟨br,bs,bt,bu⟩:=zc2 a)|((with_reducible refine gate_callee (f:=74) rfl ?_);refine zgc (some 15) Try.func74 (grottoref02_Open.calls A4.out) ?_;intro cp hb;obtain⟨a,HB⟩:=zu1 a HB hb;clear hb)|((with_reducible refine gate_dst (N:=8) rfl ?_);refine zbox (N:=8) (cs:=#[.int .i64 0,.bool false,.int .i64 0,.int .u64 0]) (t:=89) ?_;intro c hg cq hbox hb;have b:=Aside0.mk hbox;have P:=zge hg HB;have Q:=zge hg HB;have y:=znl hg a;have j:=zng hg a;obtain⟨a,HB⟩:=zu1 a HB hb;clear hb hbox hg;obtain⟨b3,b4⟩:=z2 j;obtain⟨bv,bw,bx,bz,bA,bB,bC,bD⟩:=zc4 b))
 go_ret2
 exact zr HB

/-! ### grottoref03_Ceil: function 40 -/
def grottoref03_Ceil.f (k:Nat) (a0_0:Int) (a0_1:Int) (a1:Int):Option (Int×Int):=(grottoref03_step.f k a0_0 a0_1 a1 true).bind fun a=>(some (a.1,a.2))
theorem grottoref03_Ceil.mono:∀ a0 a1 a2 k,LeO (grottoref03_Ceil.f k a0 a1 a2) (grottoref03_Ceil.f (k+1) a0 a1 a2):=by
 intro a0 a1 a2 k
 unfold grottoref03_Ceil.f
 repeat' first|(with_reducible first|apply grottoref03_step.mono|exact LeO.refl _|exact LeO.none _|refine LeO.ite ?_ ?_|refine LeO.bind ?_ (fun _=>?_))|refine LeO.ite ?_ ?_|refine LeO.bind ?_ (fun _=>?_)
set_option maxHeartbeats 8000000 in
set_option maxRecDepth 100000 in
theorem grottoref03_Ceil.calls {k:Nat} {b:Int} {c:Int} {m:Int} {n:Int} {o:Int} {w:World} (h:grottoref03_Ceil.f k b c m=some (n,o)) :
  Calls Try.prog 40 #[.agg #[.int .i64 b,.int .i64 c],.int .u64 m] w fun e w'=>e=.returned (.tuple #[.int .u64 n,.int .i64 o])∧Below w.heap.size w w':=by
 have hu58:=Try.underlying58
 have HB:=Aside0.mk (Below.refl w.heap.size w)
 have H:=h
 unfold grottoref03_Ceil.f at H
 clear h
 obtain⟨⟨u,v⟩,y,H⟩:=oB H
 try dsimp only at H
 simp only[Option.some.injEq,Prod.mk.injEq] at H
 obtain⟨rfl,rfl⟩:=H
 go_enter Try.func40,Try.ntmps40
 go_wp2_with (first|((with_reducible refine gate_dst (N:=2) rfl ?_);refine zbox (N:=2) (cs:=#[.int .i64 b,.int .i64 c]) (t:=58) ?_;intro p hg z hbox hb;have a:=Aside0.mk hbox;have q:=zge hg HB;have s:=zge hg HB;replace HB:=zbs HB hb;clear hb hbox hg;obtain⟨g,i,j,l⟩:=zc2 a)|((with_reducible refine gate_callee (f:=82) rfl ?_);refine zgc (some 8) Try.func82 (grottoref03_step.calls y.out) ?_;intro B hb;obtain⟨a,HB⟩:=zu1 a HB hb;clear hb))
 go_ret2
 exact zr HB

/-! ### grottoref03_Floor: function 41 -/
def grottoref03_Floor.f (k:Nat) (a0_0:Int) (a0_1:Int) (a1:Int):Option (Int×Int):=(grottoref03_step.f k a0_0 a0_1 a1 false).bind fun a=>(some (a.1,a.2))
theorem grottoref03_Floor.mono:∀ a0 a1 a2 k,LeO (grottoref03_Floor.f k a0 a1 a2) (grottoref03_Floor.f (k+1) a0 a1 a2):=by
 intro a0 a1 a2 k
 unfold grottoref03_Floor.f
 repeat' first|(with_reducible first|apply grottoref03_step.mono|exact LeO.refl _|exact LeO.none _|refine LeO.ite ?_ ?_|refine LeO.bind ?_ (fun _=>?_))|refine LeO.ite ?_ ?_|refine LeO.bind ?_ (fun _=>?_)
set_option maxHeartbeats 8000000 in
set_option maxRecDepth 100000 in
theorem grottoref03_Floor.calls {k:Nat} {b:Int} {c:Int} {m:Int} {n:Int} {o:Int} {w:World} (h:grottoref03_Floor.f k b c m=some (n,o)) :
  Calls Try.prog 41 #[.agg #[.int .i64 b,.int .i64 c],.int .u64 m] w fun e w'=>e=.returned (.tuple #[.int .u64 n,.int .i64 o])∧Below w.heap.size w w':=by
 have hu58:=Try.underlying58
 have HB:=Aside0.mk (Below.refl w.heap.size w)
 have H:=h
 unfold grottoref03_Floor.f at H
 clear h
 obtain⟨⟨u,v⟩,y,H⟩:=oB H
 try dsimp only at H
 simp only[Option.some.injEq,Prod.mk.injEq] at H
 obtain⟨rfl,rfl⟩:=H
 go_enter Try.func41,Try.ntmps41
 go_wp2_with (first|((with_reducible refine gate_dst (N:=2) rfl ?_);refine zbox (N:=2) (cs:=#[.int .i64 b,.int .i64 c]) (t:=58) ?_;intro p hg z hbox hb;have a:=Aside0.mk hbox;have q:=zge hg HB;have s:=zge hg HB;replace HB:=zbs HB hb;clear hb hbox hg;obtain⟨g,i,j,l⟩:=zc2 a)|((with_reducible refine gate_callee (f:=82) rfl ?_);refine zgc (some 8) Try.func82 (grottoref03_step.calls y.out) ?_;intro B hb;obtain⟨a,HB⟩:=zu1 a HB hb;clear hb))
 go_ret2
 exact zr HB

end Go.Proofs.Ythkifpdachjlgaa.PQ
