-- by a program of this claim
import Derived.Test.YtmmbgbchimangaaPQx0
import Derived.Test.YtmmbgbchimangaaPQx8
import Derived.Test.YtmmbgbchimangaaPQx9
import Derived.Test.YtmmbgbchimangaaPQx10
import Derived.Test.YtmmbgbchimangaaPQx11
namespace Go.Proofs.Ytmmbgbchimangaa.PQ
open Go.RowKit Go.Proofs.YtmmbgbchimangaaW.PrintWords Go.Proofs.YtmmbgbchimangaaW.PrintLast Go.Proofs.YtmmbgbchimangaaW.PrintMore Go.Proofs.Ytmmbgbchimangaa.Z
attribute [local go_sem] max2_int min2_int max_two min_two max_three min_three max_four min_four   -- for this text's walks alone
set_option linter.unusedVariables false
set_option linter.unusedSimpArgs false

/-! ### grottoref03_whole: function 85 -/
def grottoref03_whole.j0:Nat→List Int→List Int→Bool→Option (List Int×Bool)
 | 0,_,_,_=>none
 | k+1,a,b,c=>if c=true then ((grottoref03_one.f).bind fun d=>((grottoref02_Plus.f k a d).bind fun e=>((grottoref02_Bits.f k b).bind fun g=>(some (e,decide (g>0)))))) else ((grottoref02_Bits.f k b).bind fun h=>(some (a,decide (h>0))))
def grottoref03_whole.f (k:Nat) (a0_0:Int) (a0_1:Bool) (a0_2:Int) (a0_3:Int) (a1:Bool):Option (List Int×Bool):=if a0_2≥0 then ((grottoref02_NatOf.f k a0_3).bind fun c=>((grottoref02_Up.f k c a0_2).bind fun d=>(some (d,false)))) else ((grottoref03_one.f).bind fun e=>((grottoref02_Up.f k e (wrap64 (-a0_2))).bind fun b=>((grottoref02_NatOf.f k a0_3).bind fun g=>((grottoref02_Quo.f k g b).bind fun a=>(if a1=true then ((grottoref02_Up.f k a.2 1).bind fun h=>((grottoref02_Cmp.f k h b).bind fun i=>(grottoref03_whole.j0 k a.1 a.2 (decide (i≥0))))) else (grottoref03_whole.j0 k a.1 a.2 false))))))
theorem grottoref03_whole.mono_l:∀ k,(∀ y0 y1 y2,LeO (grottoref03_whole.j0 k y0 y1 y2) (grottoref03_whole.j0 (k+1) y0 y1 y2))
 | 0=>fun _ _ _ r h=>by simp[grottoref03_whole.j0] at h
 | k+1=>by
  have ih0:=grottoref03_whole.mono_l k
  intros;unfold grottoref03_whole.j0;repeat' first|(with_reducible first|apply ih0|apply grottoref02_Bits.mono|apply grottoref02_Cmp.mono|apply grottoref02_NatOf.mono|apply grottoref02_Plus.mono|apply grottoref02_Quo.mono|apply grottoref02_Up.mono|exact LeO.refl _|exact LeO.none _|refine LeO.ite ?_ ?_|refine LeO.bind ?_ (fun _=>?_))|refine LeO.ite ?_ ?_|refine LeO.bind ?_ (fun _=>?_)
theorem grottoref03_whole.mono:∀ a0 a1 a2 a3 a4 k,LeO (grottoref03_whole.f k a0 a1 a2 a3 a4) (grottoref03_whole.f (k+1) a0 a1 a2 a3 a4):=by
 intro a0 a1 a2 a3 a4 k
 have ih0:=grottoref03_whole.mono_l k
 unfold grottoref03_whole.f
 repeat' first|(with_reducible first|apply ih0|apply grottoref02_Bits.mono|apply grottoref02_Cmp.mono|apply grottoref02_NatOf.mono|apply grottoref02_Plus.mono|apply grottoref02_Quo.mono|apply grottoref02_Up.mono|exact LeO.refl _|exact LeO.none _|refine LeO.ite ?_ ?_|refine LeO.bind ?_ (fun _=>?_))|refine LeO.ite ?_ ?_|refine LeO.bind ?_ (fun _=>?_)
def grottoref03_whole.T2:Bool×List (List Nat×List Nat):=(true,[([],[]),([0],[0]),([1],[1]),([],[]),([3],[3]),([2,4,2],[2,4]),([5,5,0,1,2,3,4,5],[5]),([6,0,1,2,3,4,5,6],[])])
def grottoref03_whole.B2:List Nat:=[0,1,3,0,8,31,63,127]
theorem grottoref03_whole.tab2:rtab .any (opsOf Try.f85 2)=grottoref03_whole.T2:=by kernel_rfl
theorem grottoref03_whole.bits2:waitsOk grottoref03_whole.T2.2 grottoref03_whole.B2=true:=by kernel_rfl
set_option maxHeartbeats 8000000 in
set_option maxRecDepth 100000 in
theorem grottoref03_whole.calls {k:Nat} {s:Int} {u:Bool} {j:Int} {m:Int} {a1:Bool} {r1:List Int} {r2:Bool} {w:World} (h:grottoref03_whole.f k s u j m a1=some (r1,r2)) :
  Calls Try.prog 85 #[.agg #[.int .i64 s,.bool u,.int .i64 j,.int .u64 m],.bool a1] w fun e w'=>∃ v0_:Value,e=.returned (.tuple #[v0_,.bool r2])∧Kd.V (Kd.int .i64) 3 w' w.heap.size (fun k_=>(w.heap.size≤k_)) v0_ r1∧Below w.heap.size w w':=by
 have hu34:=Try.underlying34
 have HB:=Aside0.mk (Below.refl w.heap.size w)
 have H:=h
 unfold grottoref03_whole.f at H
 clear h
 by_cases c3:j≥0
 ·rw[if_pos c3] at H
  have ax:decide (0≤j)=true:=decide_eq_true c3
  clear c3
  obtain⟨I,A4,H⟩:=oB H
  obtain⟨U,A5,H⟩:=oB H
  simp only[Option.some.injEq,Prod.mk.injEq] at H
  obtain⟨rfl,rfl⟩:=H
  go_enter Try.func85,Try.ntmps85
  try go_wp2_with (first|((with_reducible refine gate_dst (N:=2) rfl ?_);refine zbox (N:=2) (cs:=#[.int .i64 s,.bool u,.int .i64 j,.int .u64 m]) (t:=34) ?_;intro b hg w6 hbox hb;have a:=Aside0.mk hbox;have aq:=zge hg HB;have ar:=zge hg HB;replace HB:=zbs HB hb;clear hb hbox hg;obtain⟨a2,a3,a4,a5,a6,a7,a8,a9⟩:=zc4 a))
  replace a:=Aside0.mk (blk_drew a.out)
  replace HB:=Aside0.mk (below_drew1 HB.out)
  refine start_ (n:=8) (S:=fun w'=>w'.cell? ⟨b,0,none⟩=some (.int .i64 s)∧w'.cell? ⟨b,1,none⟩=some (.bool u)∧w'.cell? ⟨b,2,none⟩=some (.int .i64 j)∧w'.cell? ⟨b,3,none⟩=some (.int .u64 m)) (ds:=[]) #[false,false,false,false,false,false,false,false] (by kernel_rfl) rfl rfl ⟨(blk_cell a.out 0).trans rfl,(blk_cell a.out 1).trans rfl,(blk_cell a.out 2).trans rfl,(blk_cell a.out 3).trans rfl⟩ (fun hHeld=>?_);refine with_tabW grottoref03_whole.tab2 grottoref03_whole.bits2 (fun HT_ HW_=>?_)
  generalize w6.drew=w8 at a HB hHeld ⊢
  refine zpure_ (i:=0) (N:=some 12) #[true,false,false,false,false,false,false,false] (any_of HT_.out (by kernel_rfl)) ?_
  refine zpure_ (i:=3) (N:=some 15) #[true,false,false,true,false,false,false,false] (any_of HT_.out (by kernel_rfl)) ?_
  refine ztake_ (i:=1) (N:=some 13) #[true,true,false,true,false,false,false,false] rfl (take_ofW HT_.out HW_.out (by kernel_rfl)) hHeld (Or.inl ⟨by rfl,by rintro w' ⟨s0,s1,s2,s3⟩;go_simp;with_reducible rfl⟩) ?_
  refine ztake_ (i:=4) (N:=some 16) #[true,true,false,true,true,false,false,false] rfl (take_ofW HT_.out HW_.out (by kernel_rfl)) hHeld (Or.inl ⟨by rfl,by rintro w' ⟨s0,s1,s2,s3⟩;go_simp;with_reducible rfl⟩) ?_
  refine one_ (i:=2) (N:=some 14) #[true,true,true,true,true,false,false,false] rfl rfl (one_of HT_.out (by kernel_rfl)) (by decide) (fun K hK=>?_)
  refine goes_ Try.func72 (by kernel_rfl) rfl #[.int .u64 m] (by rfl) rfl rfl (by (try simp only[List.map_toArray,List.map_cons,List.map_nil]);first|done|rfl|(simp only[List.length_drop,List.length_take];rfl)) ?_
  with_reducible refine (grottoref02_NatOf.calls A4.out).mono ?_
  rintro e w9 ⟨v1142,rfl,ho0,hb⟩
  refine⟨_,rfl,?_⟩
  have z:=Aside0.mk (Kd.R_lower (Kd.R_newM (M:=fun k_=>(w.heap.size≤k_)) ho0 (below_size (zb HB)) (fun k_ h_=>h_)) (below_size (zb HB)))
  obtain⟨a,HB⟩:=zu1 a HB hb
  try clear hb
  (try clear ho0)
  obtain⟨ay,az,aA⟩:=Kd.R_slice z.out
  (first|subst aA|(injection aA with f1_ f2_ f3_;have f4_:=f1_.symm;have f5_:=f3_.symm;clear f1_ f2_ f3_;subst f4_;subst f5_))
  refine hK.out _ _ ⟨(blk_cell a.out 0).trans rfl,(blk_cell a.out 1).trans rfl,(blk_cell a.out 2).trans rfl,(blk_cell a.out 3).trans rfl⟩ (fun hHeld=>?_)
  clear hK K
  refine norm_ (a':=?_) ?_ ?_
  rotate_left
  ·show Act.put _ (some 14) _=_
   simp only[Act.put,List.setIfInBounds_toArray,List.set_cons_zero,List.set_cons_succ,i64_w,i32_w]
   rfl
  refine one_ (i:=5) (N:=some 17) #[true,true,true,true,true,true,false,false] rfl rfl (one_of HT_.out (by kernel_rfl)) (by decide) (fun K hK=>?_)
  refine goes_ Try.func73 (by kernel_rfl) rfl #[.slice ay I.length az,.int .i64 j] (by rfl) rfl rfl (by (try simp only[List.map_toArray,List.map_cons,List.map_nil]);first|done|rfl|(simp only[List.length_drop,List.length_take];rfl)) ?_
  with_reducible refine (grottoref02_Up.calls k _ _ I j U _ ?side1 ?side2 A5.out).mono ?_
  (case side1=>repeat (first|exact (Kd.R_reads' z.out).2.2|(with_reducible refine Kd.C_alloc ?_ _)|(with_reducible refine Kd.C_drewN ?_ _)|(with_reducible refine Kd.C_drew ?_)))
  (case side2=>exact (Kd.R_reads' z.out).2.1)
  rintro e bt ⟨v1145,rfl,ho0,hb⟩
  refine⟨_,rfl,?_⟩
  have au:=Aside0.mk (Kd.V_lower (Kd.V_mono (ok':=fun k_=>(w.heap.size≤k_)∧some k_≠(.slice ay I.length az:Value).ownBlock∧k_≠b) ho0 (fun k_ hk_=>⟨(Nat.le_trans (below_size (zb HB)) hk_),(Kd.fresh' (Kd.R_lt (by (with_reducible repeat (first|apply Kd.R_alloc|apply Kd.R_drewN|apply Kd.R_drew));exact z.out)) k_ hk_),(Kd.freshB (g:=b) (o:=.cells #[.int .i64 s,.bool u,.int .i64 j,.int .u64 m] 34 (0,0)) (zk a) k_ hk_)⟩)) (below_size (zb HB)))
  replace z:=Aside0.mk (Kd.R_below (by (with_reducible repeat (first|apply Kd.R_alloc|apply Kd.R_drewN|apply Kd.R_drew));exact z.out) hb)
  obtain⟨a,HB⟩:=zu1 a HB hb
  try clear hb
  (try clear ho0)
  refine hK.out _ _ ⟨(blk_cell a.out 0).trans rfl,(blk_cell a.out 1).trans rfl,(blk_cell a.out 2).trans rfl,(blk_cell a.out 3).trans rfl⟩ (fun hHeld=>?_)
  clear hK K
  refine norm_ (a':=?_) ?_ ?_
  rotate_left
  ·show Act.put _ (some 17) _=_
   simp only[Act.put,List.setIfInBounds_toArray,List.set_cons_zero,List.set_cons_succ,i64_w,i32_w]
   rfl
  refine zpure_ (i:=6) (N:=some 4) #[true,true,true,true,true,true,true,false] (any_of HT_.out (by kernel_rfl)) ?_
  refine zpure_ (i:=7) (N:=some 5) #[true,true,true,true,true,true,true,true] (any_of HT_.out (by kernel_rfl)) ?_
  refine done_ (done_of HT_.out (by kernel_rfl)) ?_
  try go_wp2
  go_ret2
  exact⟨_,by first|rfl|(simp[errW_none,errW_some] <;> rfl)|(simp[*,errW_none,errW_some] <;> rfl),by (with_reducible repeat (first|apply Kd.V_alloc|apply Kd.V_drewN|apply Kd.V_drew));exact Kd.V_mono au.out (fun _ hk=>hk.1),zb HB⟩
 rw[if_neg c3] at H
 have ax:decide (0≤j)=false:=decide_eq_false c3
 clear c3
 obtain⟨v,ba,H⟩:=oB H
 obtain⟨C,bb,H⟩:=oB H
 obtain⟨F,bc,H⟩:=oB H
 obtain⟨⟨J,y⟩,bd,H⟩:=oB H
 try dsimp only at H
 have W:=Aside0.mk H
 clear H
 go_enter Try.func85,Try.ntmps85
 try go_wp2_with (first|((with_reducible refine gate_dst (N:=2) rfl ?_);refine zbox (N:=2) (cs:=#[.int .i64 s,.bool u,.int .i64 j,.int .u64 m]) (t:=34) ?_;intro b hg be hbox hb;have a:=Aside0.mk hbox;have aq:=zge hg HB;have ar:=zge hg HB;replace HB:=zbs HB hb;clear hb hbox hg;obtain⟨X,Y,Z,aa,ab,ac,ad,ae⟩:=zc4 a))
 replace a:=Aside0.mk (blk_drew a.out)
 replace HB:=Aside0.mk (below_drew1 HB.out)
 refine start_ (n:=6) (S:=fun w'=>w'.cell? ⟨b,0,none⟩=some (.int .i64 s)∧w'.cell? ⟨b,1,none⟩=some (.bool u)∧w'.cell? ⟨b,2,none⟩=some (.int .i64 j)∧w'.cell? ⟨b,3,none⟩=some (.int .u64 m)) (ds:=[]) #[false,false,false,false,false,false] (by kernel_rfl) rfl rfl ⟨(blk_cell a.out 0).trans rfl,(blk_cell a.out 1).trans rfl,(blk_cell a.out 2).trans rfl,(blk_cell a.out 3).trans rfl⟩ (fun hHeld=>?_)
 generalize be.drew=bu at a HB hHeld ⊢
 refine zpure_ (i:=1) (N:=some 19) #[false,true,false,false,false,false] (by kernel_rfl) ?_
 refine ztake_ (i:=2) (N:=some 20) #[false,true,true,false,false,false] rfl (by kernel_rfl) hHeld (Or.inl ⟨by rfl,by rintro w' ⟨s0,s1,s2,s3⟩;go_simp;with_reducible rfl⟩) ?_
 refine zpure_ (i:=3) (N:=some 21) #[false,true,true,true,false,false] (by kernel_rfl) ?_
 refine one_ (i:=0) (N:=some 18) #[true,true,true,true,false,false] rfl rfl (by kernel_rfl) (by decide) (fun K hK=>?_)
 refine goes_ Try.func58 (by kernel_rfl) rfl #[] (by rfl) rfl rfl (by (try simp only[List.map_toArray,List.map_cons,List.map_nil]);first|done|rfl|(simp only[List.length_drop,List.length_take];rfl)) ?_
 with_reducible refine (grottoref03_one.calls  v _ ba.out).mono ?_
 rintro e bv ⟨v1148,rfl,ho0,hb⟩
 refine⟨_,rfl,?_⟩
 have c:=Aside0.mk (Kd.R_lower (Kd.R_newM (M:=fun k_=>(w.heap.size≤k_)) ho0 (below_size (zb HB)) (fun k_ h_=>h_)) (below_size (zb HB)))
 obtain⟨a,HB⟩:=zu1 a HB hb
 try clear hb
 (try clear ho0)
 obtain⟨R,T,aB⟩:=Kd.R_slice c.out
 (first|subst aB|(injection aB with f1_ f2_ f3_;have f4_:=f1_.symm;have f5_:=f3_.symm;clear f1_ f2_ f3_;subst f4_;subst f5_))
 refine hK.out _ _ ⟨(blk_cell a.out 0).trans rfl,(blk_cell a.out 1).trans rfl,(blk_cell a.out 2).trans rfl,(blk_cell a.out 3).trans rfl⟩ (fun hHeld=>?_)
 clear hK K
 refine norm_ (a':=?_) ?_ ?_
 rotate_left
 ·show Act.put _ (some 18) _=_
  simp only[Act.put,List.setIfInBounds_toArray,List.set_cons_zero,List.set_cons_succ,i64_w,i32_w]
  rfl
 refine one_ (i:=4) (N:=some 22) #[true,true,true,true,true,false] rfl rfl (by kernel_rfl) (by decide) (fun K hK=>?_)
 refine goes_ Try.func73 (by kernel_rfl) rfl #[.slice R v.length T,.int .i64 (wrap64 (-j))] (by rfl) rfl rfl (by (try simp only[List.map_toArray,List.map_cons,List.map_nil]);first|done|rfl|(simp only[List.length_drop,List.length_take];rfl)) ?_
 with_reducible refine (grottoref02_Up.calls k _ _ v (wrap64 (-j)) C _ ?side1 ?side2 bb.out).mono ?_
 (case side1=>repeat (first|exact (Kd.R_reads' c.out).2.2|(with_reducible refine Kd.C_alloc ?_ _)|(with_reducible refine Kd.C_drewN ?_ _)|(with_reducible refine Kd.C_drew ?_)))
 (case side2=>exact (Kd.R_reads' c.out).2.1)
 rintro e bw ⟨v1151,rfl,ho0,hb⟩
 refine⟨_,rfl,?_⟩
 have l:=Aside0.mk (Kd.V_lower (Kd.V_mono (ok':=fun k_=>(w.heap.size≤k_)∧some k_≠(.slice R v.length T:Value).ownBlock∧k_≠b) ho0 (fun k_ hk_=>⟨(Nat.le_trans (below_size (zb HB)) hk_),(Kd.fresh' (Kd.R_lt (by (with_reducible repeat (first|apply Kd.R_alloc|apply Kd.R_drewN|apply Kd.R_drew));exact c.out)) k_ hk_),(Kd.freshB (g:=b) (o:=.cells #[.int .i64 s,.bool u,.int .i64 j,.int .u64 m] 34 (0,0)) (zk a) k_ hk_)⟩)) (below_size (zb HB)))
 replace c:=Aside0.mk (Kd.R_below (by (with_reducible repeat (first|apply Kd.R_alloc|apply Kd.R_drewN|apply Kd.R_drew));exact c.out) hb)
 obtain⟨a,HB⟩:=zu1 a HB hb
 try clear hb
 (try clear ho0)
 refine hK.out _ _ ⟨(blk_cell a.out 0).trans rfl,(blk_cell a.out 1).trans rfl,(blk_cell a.out 2).trans rfl,(blk_cell a.out 3).trans rfl⟩ (fun hHeld=>?_)
 clear hK K
 refine norm_ (a':=?_) ?_ ?_
 rotate_left
 ·show Act.put _ (some 22) _=_
  simp only[Act.put,List.setIfInBounds_toArray,List.set_cons_zero,List.set_cons_succ,i64_w,i32_w]
  rfl
 refine zpure_ (i:=5) (N:=some 6) #[true,true,true,true,true,true] (by kernel_rfl) ?_
 refine done_ (by kernel_rfl) ?_
 obtain⟨af,ag,ah,ai,aj,ak,al,am⟩:=zc4 a
 go_upto_region 5 with (first|((with_reducible refine gate_callee (f:=72) rfl ?_);refine zgo (some 26) Try.func72 #[.int .u64 m] ?_;(with_reducible refine (grottoref02_NatOf.calls bc.out).mono ?_);rintro e bx ⟨v1154,rfl,ho0,hb⟩;refine⟨_,rfl,?_⟩;have d:=Aside0.mk (Kd.R_lower (Kd.R_new' (Kd.R_newM (M:=fun k_=>(w.heap.size≤k_)) ho0 (below_size (zb HB)) (fun k_ h_=>h_)) (Kd.R_lt (by (with_reducible repeat (first|apply Kd.R_alloc|apply Kd.R_drewN|apply Kd.R_drew));exact c.out))) (below_size (zb HB)));replace c:=Aside0.mk (Kd.R_elder' (by (with_reducible repeat (first|apply Kd.R_alloc|apply Kd.R_drewN|apply Kd.R_drew));exact c.out) (Kd.R_base ho0) hb);replace l:=Aside0.mk (Kd.V_elder' (by (with_reducible repeat (first|apply Kd.V_alloc|apply Kd.V_drewN|apply Kd.V_drew));exact l.out) (Kd.R_base ho0) hb);obtain⟨a,HB⟩:=zu1 a HB hb;clear hb;(try clear ho0);obtain⟨an,ao,aI⟩:=Kd.R_slice d.out;subst aI;obtain⟨aJ,aK,aL⟩:=Kd.V_slice l.out;subst aL)|((with_reducible refine gate_callee (f:=56) rfl ?_);refine zgo (some 28) Try.func56 #[.slice an F.length ao,.slice aJ C.length aK] ?_;(with_reducible refine (grottoref02_Quo.calls k (fun k_=>some k_=(.slice an F.length ao:Value).ownBlock) _ _ F _ _ C J y _ ?side1 ?side2 ?side3 bd.out).mono ?_);(case side1=>exact Kd.R_V (Kd.R_tight rfl (Kd.R_types (d.out) a.out (by decide))));(case side2=>repeat (first|exact (Kd.V_reads' l.out).2.2|(with_reducible refine Kd.C_alloc ?_ _)|(with_reducible refine Kd.C_drewN ?_ _)|(with_reducible refine Kd.C_drew ?_)));(case side3=>exact (Kd.V_reads' l.out).2.1);rintro e bz ⟨v1157,v1160,rfl,ho0,ho1,hb⟩;refine⟨_,rfl,?_⟩;have B:=Aside0.mk (Kd.V_lower (Kd.V_mono (ok':=fun k_=>(w.heap.size≤k_)∧some k_≠(.slice R v.length T:Value).ownBlock∧k_≠b) ho0 (fun k_ hk_=>⟨Or.elim hk_ (fun hs_=>((Kd.R_types (d.out) a.out (by decide)).1 k_ hs_.symm).1.1.1) (fun hn_=>(Nat.le_trans (below_size (zb HB)) hn_)),Or.elim hk_ (fun hs_=>((Kd.R_types (d.out) a.out (by decide)).1 k_ hs_.symm).1.2) (fun hn_=>(Kd.fresh' (Kd.R_lt (by (with_reducible repeat (first|apply Kd.R_alloc|apply Kd.R_drewN|apply Kd.R_drew));exact c.out)) k_ hn_)),Or.elim hk_ (fun hs_=>((Kd.R_types (d.out) a.out (by decide)).1 k_ hs_.symm).2) (fun hn_=>(Kd.freshB (g:=b) (o:=.cells #[.int .i64 s,.bool u,.int .i64 j,.int .u64 m] 34 (0,0)) (zk a) k_ hn_))⟩)) (below_size (zb HB)));have p:=Aside0.mk (Kd.V_lower (Kd.V_mono (ok':=fun k_=>(w.heap.size≤k_)∧some k_≠(.slice R v.length T:Value).ownBlock∧k_≠b) ho1 (fun k_ hk_=>⟨Or.elim hk_ (fun hs_=>((Kd.R_types (d.out) a.out (by decide)).1 k_ hs_.symm).1.1.1) (fun hn_=>(Nat.le_trans (below_size (zb HB)) hn_)),Or.elim hk_ (fun hs_=>((Kd.R_types (d.out) a.out (by decide)).1 k_ hs_.symm).1.2) (fun hn_=>(Kd.fresh' (Kd.R_lt (by (with_reducible repeat (first|apply Kd.R_alloc|apply Kd.R_drewN|apply Kd.R_drew));exact c.out)) k_ hn_)),Or.elim hk_ (fun hs_=>((Kd.R_types (d.out) a.out (by decide)).1 k_ hs_.symm).2) (fun hn_=>(Kd.freshB (g:=b) (o:=.cells #[.int .i64 s,.bool u,.int .i64 j,.int .u64 m] 34 (0,0)) (zk a) k_ hn_))⟩)) (below_size (zb HB)));replace c:=Aside0.mk (Kd.R_below (by (with_reducible repeat (first|apply Kd.R_alloc|apply Kd.R_drewN|apply Kd.R_drew));exact c.out) hb);replace l:=Aside0.mk (Kd.V_below (by (with_reducible repeat (first|apply Kd.V_alloc|apply Kd.V_drewN|apply Kd.V_drew));exact l.out) hb);replace d:=Aside0.mk (Kd.R_below (by (with_reducible repeat (first|apply Kd.R_alloc|apply Kd.R_drewN|apply Kd.R_drew));exact d.out) hb);obtain⟨a,HB⟩:=zu1 a HB hb;clear hb;(try clear ho0);(try clear ho1)))
 (try simp only[Act.put,List.setIfInBounds_toArray,List.set_cons_zero,List.set_cons_succ])
 go_cut [38] (fun v38 wc=>∃ (kq:Nat) (G:Bool),v38=.bool G∧Aside0 (grottoref03_whole.j0 kq J y G=some (r1,r2))∧Aside0 (kq≤k)∧Aside0 (Kd.V (Kd.int .i64) 3 wc w.heap.size (fun k_=>(w.heap.size≤k_)∧k_≠b) v1157 J)∧Aside0 (Kd.V (Kd.int .i64) 3 wc w.heap.size (fun k_=>(w.heap.size≤k_)∧k_≠b) v1160 y)∧Aside0 (wc.heap[b]?=some (.cells #[.int .i64 s,.bool u,.int .i64 j,.int .u64 m] 34 (0,0)))∧Aside0 (Below w.heap.size w wc))
 case first =>
  have H:=W.out
  clear W
  by_cases av:a1=true
  ·subst av
   rw[if_pos rfl] at H
   obtain⟨L,bf,H⟩:=oB H
   obtain⟨O,bg,H⟩:=oB H
   have H':=Aside0.mk H
   clear H
   obtain⟨bl,bm,aM⟩:=Kd.V_slice p.out
   subst aM
   go_wp2_with (first|(go_at_call 73;(with_reducible refine (grottoref02_Up.calls k _ _ y 1 L _ ?side1 ?side2 bf.out).mono ?_);(case side1=>repeat (first|exact (Kd.V_reads' p.out).2.2|(with_reducible refine Kd.C_alloc ?_ _)|(with_reducible refine Kd.C_drewN ?_ _)|(with_reducible refine Kd.C_drew ?_)));(case side2=>exact (Kd.V_reads' p.out).2.1);rintro e bA ⟨v1163,rfl,ho0,hb⟩;have E:=Aside0.mk (Kd.V_lower (Kd.V_mono (ok':=fun k_=>(w.heap.size≤k_)∧some k_≠(.slice R v.length T:Value).ownBlock∧some k_≠(.slice an F.length ao:Value).ownBlock∧k_≠b) ho0 (fun k_ hk_=>⟨(Nat.le_trans (below_size (zb HB)) hk_),(Kd.fresh' (Kd.R_lt (by (with_reducible repeat (first|apply Kd.R_alloc|apply Kd.R_drewN|apply Kd.R_drew));exact c.out)) k_ hk_),(Kd.fresh' (Kd.R_lt (by (with_reducible repeat (first|apply Kd.R_alloc|apply Kd.R_drewN|apply Kd.R_drew));exact d.out)) k_ hk_),(Kd.freshB (g:=b) (o:=.cells #[.int .i64 s,.bool u,.int .i64 j,.int .u64 m] 34 (0,0)) (zk a) k_ hk_)⟩)) (below_size (zb HB)));replace c:=Aside0.mk (Kd.R_below (by (with_reducible repeat (first|apply Kd.R_alloc|apply Kd.R_drewN|apply Kd.R_drew));exact c.out) hb);replace l:=Aside0.mk (Kd.V_below (by (with_reducible repeat (first|apply Kd.V_alloc|apply Kd.V_drewN|apply Kd.V_drew));exact l.out) hb);replace d:=Aside0.mk (Kd.R_below (by (with_reducible repeat (first|apply Kd.R_alloc|apply Kd.R_drewN|apply Kd.R_drew));exact d.out) hb);replace B:=Aside0.mk (Kd.V_below (by (with_reducible repeat (first|apply Kd.V_alloc|apply Kd.V_drewN|apply Kd.V_drew));exact B.out) hb);replace p:=Aside0.mk (Kd.V_below (by (with_reducible repeat (first|apply Kd.V_alloc|apply Kd.V_drewN|apply Kd.V_drew));exact p.out) hb);obtain⟨a,HB⟩:=zu1 a HB hb;clear hb;(try clear ho0);obtain⟨bn,bo,aN⟩:=Kd.V_slice E.out;subst aN)|(go_at_call 75;(with_reducible refine (grottoref02_Cmp.calls k _ _ L _ _ C O _ ?side1 ?side2 ?side3 ?side4 bg.out).mono ?_);(case side1=>repeat (first|exact (Kd.V_reads' E.out).2.2|(with_reducible refine Kd.C_alloc ?_ _)|(with_reducible refine Kd.C_drewN ?_ _)|(with_reducible refine Kd.C_drew ?_)));(case side2=>exact (Kd.V_reads' E.out).2.1);(case side3=>repeat (first|exact (Kd.V_reads' l.out).2.2|(with_reducible refine Kd.C_alloc ?_ _)|(with_reducible refine Kd.C_drewN ?_ _)|(with_reducible refine Kd.C_drew ?_)));(case side4=>exact (Kd.V_reads' l.out).2.1);rintro e bB ⟨rfl,hb⟩;replace c:=Aside0.mk (Kd.R_below (by (with_reducible repeat (first|apply Kd.R_alloc|apply Kd.R_drewN|apply Kd.R_drew));exact c.out) hb);replace l:=Aside0.mk (Kd.V_below (by (with_reducible repeat (first|apply Kd.V_alloc|apply Kd.V_drewN|apply Kd.V_drew));exact l.out) hb);replace d:=Aside0.mk (Kd.R_below (by (with_reducible repeat (first|apply Kd.R_alloc|apply Kd.R_drewN|apply Kd.R_drew));exact d.out) hb);replace B:=Aside0.mk (Kd.V_below (by (with_reducible repeat (first|apply Kd.V_alloc|apply Kd.V_drewN|apply Kd.V_drew));exact B.out) hb);replace p:=Aside0.mk (Kd.V_below (by (with_reducible repeat (first|apply Kd.V_alloc|apply Kd.V_drewN|apply Kd.V_drew));exact p.out) hb);replace E:=Aside0.mk (Kd.V_below (by (with_reducible repeat (first|apply Kd.V_alloc|apply Kd.V_drewN|apply Kd.V_drew));exact E.out) hb);obtain⟨a,HB⟩:=zu1 a HB hb;clear hb))
   go_meet
   case rel=>exact⟨_,(decide (O≥0)),(by first|rfl|(simp[*];done)),H',⟨by omega⟩,⟨by (with_reducible repeat (first|apply Kd.V_alloc|apply Kd.V_drewN|apply Kd.V_drew));exact Kd.V_mono B.out (fun _ hk=>⟨hk.1,hk.2.2⟩)⟩,⟨by (with_reducible repeat (first|apply Kd.V_alloc|apply Kd.V_drewN|apply Kd.V_drew));exact Kd.V_mono p.out (fun _ hk=>⟨hk.1,hk.2.2⟩)⟩,⟨zk a⟩,⟨zb HB⟩⟩
  replace av:=Bool.eq_false_iff.mpr av
  subst av
  rw[if_neg nft] at H
  have H':=Aside0.mk H
  clear H
  go_wp2
  go_meet
  case rel=>exact⟨_,(false),(by first|rfl|(simp[*];done)),H',⟨by omega⟩,⟨by (with_reducible repeat (first|apply Kd.V_alloc|apply Kd.V_drewN|apply Kd.V_drew));exact Kd.V_mono B.out (fun _ hk=>⟨hk.1,hk.2.2⟩)⟩,⟨by (with_reducible repeat (first|apply Kd.V_alloc|apply Kd.V_drewN|apply Kd.V_drew));exact Kd.V_mono p.out (fun _ hk=>⟨hk.1,hk.2.2⟩)⟩,⟨zk a⟩,⟨zb HB⟩⟩
 case rest =>
  clear W
  try clear ax X Y Z aa af ag ah ai ab ac ad ae aj ak al am
  obtain⟨kq,G,rfl,HA,bp,HO_7,HO_8,a,HB⟩:=hcut
  cases kq with
  | zero=>exact absurd HA.out (by simp[grottoref03_whole.j0])
  | succ ap =>
   have H:=HA.out
   clear HA
   simp only[grottoref03_whole.j0] at H
   by_cases aw:G=true
   ·subst aw
    rw[if_pos rfl] at H
    obtain⟨P,bh,H⟩:=oB H
    obtain⟨aE,bi,H⟩:=oB H
    obtain⟨aF,bj,H⟩:=oB H
    simp only[Option.some.injEq,Prod.mk.injEq] at H
    obtain⟨rfl,rfl⟩:=H
    go_wp2_with (first|((with_reducible refine gate_callee (f:=58) rfl ?_);refine zgo (some 40) Try.func58 #[] ?_;(with_reducible refine (grottoref03_one.calls  P _ bh.out).mono ?_);rintro e bC ⟨v1167,rfl,ho0,hb⟩;refine⟨_,rfl,?_⟩;have q:=Aside0.mk (Kd.R_lower (Kd.R_newM (M:=fun k_=>(w.heap.size≤k_)) ho0 (below_size (zb HB)) (fun k_ h_=>h_)) (below_size (zb HB)));replace HO_7:=Aside0.mk (Kd.V_elder' (by (with_reducible repeat (first|apply Kd.V_alloc|apply Kd.V_drewN|apply Kd.V_drew));exact HO_7.out) (Kd.R_base ho0) hb);replace HO_8:=Aside0.mk (Kd.V_elder' (by (with_reducible repeat (first|apply Kd.V_alloc|apply Kd.V_drewN|apply Kd.V_drew));exact HO_8.out) (Kd.R_base ho0) hb);obtain⟨a,HB⟩:=zu1 a HB hb;clear hb;(try clear ho0);obtain⟨aO,aP,aQ⟩:=Kd.V_slice HO_7.out;subst aQ;obtain⟨aC,aD,aR⟩:=Kd.R_slice q.out;subst aR)|((with_reducible refine gate_callee (f:=74) rfl ?_);refine zgo (some 41) Try.func74 #[.slice aO J.length aP,.slice aC P.length aD] ?_;(with_reducible refine (grottoref02_Plus.calls ap _ _ J _ _ P aE _ ?side1 ?side2 ?side3 ?side4 bi.out).mono ?_);(case side1=>repeat (first|exact (Kd.V_reads' HO_7.out).2.2|(with_reducible refine Kd.C_alloc ?_ _)|(with_reducible refine Kd.C_drewN ?_ _)|(with_reducible refine Kd.C_drew ?_)));(case side2=>exact (Kd.V_reads' HO_7.out).2.1);(case side3=>repeat (first|exact (Kd.R_reads' q.out).2.2|(with_reducible refine Kd.C_alloc ?_ _)|(with_reducible refine Kd.C_drewN ?_ _)|(with_reducible refine Kd.C_drew ?_)));(case side4=>exact (Kd.R_reads' q.out).2.1);rintro e bD ⟨v1170,rfl,ho0,hb⟩;refine⟨_,rfl,?_⟩;have Q:=Aside0.mk (Kd.V_lower (Kd.V_mono (ok':=fun k_=>(w.heap.size≤k_)∧some k_≠(.slice aC P.length aD:Value).ownBlock∧k_≠b) ho0 (fun k_ hk_=>⟨(Nat.le_trans (below_size (zb HB)) hk_),(Kd.fresh' (Kd.R_lt (by (with_reducible repeat (first|apply Kd.R_alloc|apply Kd.R_drewN|apply Kd.R_drew));exact q.out)) k_ hk_),(Kd.freshB (g:=b) (o:=.cells #[.int .i64 s,.bool u,.int .i64 j,.int .u64 m] 34 (0,0)) (zk a) k_ hk_)⟩)) (below_size (zb HB)));replace HO_7:=Aside0.mk (Kd.V_below (by (with_reducible repeat (first|apply Kd.V_alloc|apply Kd.V_drewN|apply Kd.V_drew));exact HO_7.out) hb);replace HO_8:=Aside0.mk (Kd.V_below (by (with_reducible repeat (first|apply Kd.V_alloc|apply Kd.V_drewN|apply Kd.V_drew));exact HO_8.out) hb);replace q:=Aside0.mk (Kd.R_below (by (with_reducible repeat (first|apply Kd.R_alloc|apply Kd.R_drewN|apply Kd.R_drew));exact q.out) hb);obtain⟨a,HB⟩:=zu1 a HB hb;clear hb;(try clear ho0);obtain⟨aS,aT,aU⟩:=Kd.V_slice HO_8.out;subst aU)|((with_reducible refine gate_callee (f:=65) rfl ?_);refine zgo (some 44) Try.func65 #[.slice aS y.length aT] ?_;(with_reducible refine (grottoref02_Bits.calls ap _ _ y aF _ ?side1 ?side2 bj.out).mono ?_);(case side1=>repeat (first|exact (Kd.V_reads' HO_8.out).2.2|(with_reducible refine Kd.C_alloc ?_ _)|(with_reducible refine Kd.C_drewN ?_ _)|(with_reducible refine Kd.C_drew ?_)));(case side2=>exact (Kd.V_reads' HO_8.out).2.1);rintro e bE ⟨rfl,hb⟩;refine⟨_,rfl,?_⟩;replace HO_7:=Aside0.mk (Kd.V_below (by (with_reducible repeat (first|apply Kd.V_alloc|apply Kd.V_drewN|apply Kd.V_drew));exact HO_7.out) hb);replace HO_8:=Aside0.mk (Kd.V_below (by (with_reducible repeat (first|apply Kd.V_alloc|apply Kd.V_drewN|apply Kd.V_drew));exact HO_8.out) hb);replace q:=Aside0.mk (Kd.R_below (by (with_reducible repeat (first|apply Kd.R_alloc|apply Kd.R_drewN|apply Kd.R_drew));exact q.out) hb);replace Q:=Aside0.mk (Kd.V_below (by (with_reducible repeat (first|apply Kd.V_alloc|apply Kd.V_drewN|apply Kd.V_drew));exact Q.out) hb);obtain⟨a,HB⟩:=zu1 a HB hb;clear hb))
    go_ret2
    exact⟨_,by first|rfl|(simp[errW_none,errW_some] <;> rfl)|(simp[*,errW_none,errW_some] <;> rfl),by (with_reducible repeat (first|apply Kd.V_alloc|apply Kd.V_drewN|apply Kd.V_drew));exact Kd.V_mono Q.out (fun _ hk=>hk.1),zb HB⟩
   replace aw:=Bool.eq_false_iff.mpr aw
   subst aw
   rw[if_neg nft] at H
   obtain⟨aG,bk,H⟩:=oB H
   simp only[Option.some.injEq,Prod.mk.injEq] at H
   obtain⟨rfl,rfl⟩:=H
   obtain⟨aV,aW,aX⟩:=Kd.V_slice HO_8.out
   subst aX
   go_wp2_with (first|((with_reducible refine gate_callee (f:=65) rfl ?_);refine zgo (some 44) Try.func65 #[.slice aV y.length aW] ?_;(with_reducible refine (grottoref02_Bits.calls ap _ _ y aG _ ?side1 ?side2 bk.out).mono ?_);(case side1=>repeat (first|exact (Kd.V_reads' HO_8.out).2.2|(with_reducible refine Kd.C_alloc ?_ _)|(with_reducible refine Kd.C_drewN ?_ _)|(with_reducible refine Kd.C_drew ?_)));(case side2=>exact (Kd.V_reads' HO_8.out).2.1);rintro e bF ⟨rfl,hb⟩;refine⟨_,rfl,?_⟩;replace HO_7:=Aside0.mk (Kd.V_below (by (with_reducible repeat (first|apply Kd.V_alloc|apply Kd.V_drewN|apply Kd.V_drew));exact HO_7.out) hb);replace HO_8:=Aside0.mk (Kd.V_below (by (with_reducible repeat (first|apply Kd.V_alloc|apply Kd.V_drewN|apply Kd.V_drew));exact HO_8.out) hb);obtain⟨a,HB⟩:=zu1 a HB hb;clear hb))
   go_ret2
   exact⟨_,by first|rfl|(simp[errW_none,errW_some] <;> rfl)|(simp[*,errW_none,errW_some] <;> rfl),by (with_reducible repeat (first|apply Kd.V_alloc|apply Kd.V_drewN|apply Kd.V_drew));exact Kd.V_mono HO_7.out (fun _ hk=>hk.1),zb HB⟩

/-! ### grottoref03_step: function 82 -/
def grottoref03_step.j0:Nat→List Int→Bool→Int→Int→Int→Bool→Int→Int→Option (Int×Int)
 | 0,_,_,_,_,_,_,_,_=>none
 | k+1,a,e,b,c,n,d,o,p=>if e=true then ((grottoref03_one.f).bind fun g=>((grottoref02_Plus.f k a g).bind fun h=>((grottoref03_one.f).bind fun i=>((grottoref02_Near.f k b c d h i 0).bind fun j=>(some (j,0)))))) else ((grottoref03_one.f).bind fun l=>((grottoref02_Near.f k b c d a l 0).bind fun m=>(some (m,0))))
def grottoref03_step.f (k:Nat) (a0_0:Int) (a0_1:Int) (a1:Int) (a2:Bool):Option (Int×Int):=(grottoref02_Open.f k a0_0 a0_1 a1).bind fun a=>(if a.2.2.2.2=0 then (if a.1=4 then ((grottoref02_NaN.f k a0_0 a0_1).bind fun c=>(some (c,0))) else (if a.1=2 then ((grottoref03_whole.f k a.1 a.2.1 a.2.2.1 a.2.2.2.1 false).bind fun b=>(if b.2=true then (grottoref03_step.j0 k b.1 (a2 != a.2.1) a0_0 a0_1 a.1 a.2.1 a.2.2.1 a.2.2.2.1) else (grottoref03_step.j0 k b.1 false a0_0 a0_1 a.1 a.2.1 a.2.2.1 a.2.2.2.1))) else (some (a1,0)))) else (some (0,a.2.2.2.2)))
theorem grottoref03_step.mono_l:∀ k,(∀ y0 y1 y2 y3 y4 y5 y6 y7,LeO (grottoref03_step.j0 k y0 y1 y2 y3 y4 y5 y6 y7) (grottoref03_step.j0 (k+1) y0 y1 y2 y3 y4 y5 y6 y7))
 | 0=>fun _ _ _ _ _ _ _ _ r h=>by simp[grottoref03_step.j0] at h
 | k+1=>by
  have ih0:=grottoref03_step.mono_l k
  intros;unfold grottoref03_step.j0;repeat' first|(with_reducible first|apply ih0|apply grottoref02_NaN.mono|apply grottoref02_Near.mono|apply grottoref02_Open.mono|apply grottoref02_Plus.mono|apply grottoref03_whole.mono|exact LeO.refl _|exact LeO.none _|refine LeO.ite ?_ ?_|refine LeO.bind ?_ (fun _=>?_))|refine LeO.ite ?_ ?_|refine LeO.bind ?_ (fun _=>?_)
theorem grottoref03_step.mono:∀ a0 a1 a2 a3 k,LeO (grottoref03_step.f k a0 a1 a2 a3) (grottoref03_step.f (k+1) a0 a1 a2 a3):=by
 intro a0 a1 a2 a3 k
 have ih0:=grottoref03_step.mono_l k
 unfold grottoref03_step.f
 repeat' first|(with_reducible first|apply ih0|apply grottoref02_NaN.mono|apply grottoref02_Near.mono|apply grottoref02_Open.mono|apply grottoref02_Plus.mono|apply grottoref03_whole.mono|exact LeO.refl _|exact LeO.none _|refine LeO.ite ?_ ?_|refine LeO.bind ?_ (fun _=>?_))|refine LeO.ite ?_ ?_|refine LeO.bind ?_ (fun _=>?_)
def grottoref03_step.T11:Bool×List (List Nat×List Nat):=(true,[([],[]),([],[]),([1],[1]),([],[]),([],[]),([0,2,3,4,4],[0,2,3,4]),([5,5,0,1,2,3,4,5],[5]),([6,0,1,2,3,4,5,6],[])])
def grottoref03_step.B11:List Nat:=[0,0,2,0,0,31,63,127]
theorem grottoref03_step.tab11:rtab .any (opsOf Try.f82 11)=grottoref03_step.T11:=by kernel_rfl
theorem grottoref03_step.bits11:waitsOk grottoref03_step.T11.2 grottoref03_step.B11=true:=by kernel_rfl
set_option maxHeartbeats 8000000 in
set_option maxRecDepth 100000 in
theorem grottoref03_step.calls {k:Nat} {p:Int} {q:Int} {a1:Int} {a2:Bool} {r1:Int} {r2:Int} {w:World} (h:grottoref03_step.f k p q a1 a2=some (r1,r2)) :
  Calls Try.prog 82 #[.agg #[.int .i64 p,.int .i64 q],.int .u64 a1,.bool a2] w fun e w'=>e=.returned (.tuple #[.int .u64 r1,.int .i64 r2])∧Below w.heap.size w w':=by
 have hu23:=Try.underlying23
 have hu34:=Try.underlying34
 have HB:=Aside0.mk (Below.refl w.heap.size w)
 have H:=h
 unfold grottoref03_step.f at H
 clear h
 obtain⟨⟨v,s,y,z,aF⟩,A4,H⟩:=oB H
 try dsimp only at H
 by_cases c5:aF=0
 rotate_left
 ·rw[if_neg c5] at H
  obtain⟨ax,ay⟩:=zf c5
  simp only[Option.some.injEq,Prod.mk.injEq] at H
  obtain⟨rfl,rfl⟩:=H
  go_enter Try.func82,Try.ntmps82
  go_wp2_with (first|((with_reducible refine gate_dst (N:=3) rfl ?_);refine zbox (N:=3) (cs:=#[.int .i64 p,.int .i64 q]) (t:=23) ?_;intro l hg co hbox hb;have a:=Aside0.mk hbox;have M:=zge hg HB;have O:=zge hg HB;replace HB:=zbs HB hb;clear hb hbox hg;obtain⟨br,bs,bt,bu⟩:=zc2 a)|((with_reducible refine gate_callee (f:=20) rfl ?_);refine zgc (some 15) Try.func20 (grottoref02_Open.calls A4.out) ?_;intro cp hb;obtain⟨a,HB⟩:=zu1 a HB hb;clear hb)|((with_reducible refine gate_dst (N:=8) rfl ?_);refine zbox (N:=8) (cs:=#[.int .i64 0,.bool false,.int .i64 0,.int .u64 0]) (t:=34) ?_;intro c hg cq hbox hb;have b:=Aside0.mk hbox;have P:=zge hg HB;have Q:=zge hg HB;have B:=znl hg a;have j:=zng hg a;obtain⟨a,HB⟩:=zu1 a HB hb;clear hb hbox hg;obtain⟨b3,b4⟩:=z2 j;obtain⟨bv,bw,bx,bz,bA,bB,bC,bD⟩:=zc4 b))
  go_ret2
  exact zr HB

 rw[if_pos c5] at H
 obtain⟨ax,ay⟩:=zt c5
 clear c5
 by_cases c6:v=4
 ·rw[if_pos c6] at H
  obtain⟨az,aA⟩:=zt c6
  clear c6
  obtain⟨U,A7,H⟩:=oB H
  simp only[Option.some.injEq,Prod.mk.injEq] at H
  obtain⟨rfl,rfl⟩:=H
  go_enter Try.func82,Try.ntmps82
  go_wp2_with (first|((with_reducible refine gate_dst (N:=3) rfl ?_);refine zbox (N:=3) (cs:=#[.int .i64 p,.int .i64 q]) (t:=23) ?_;intro l hg w8 hbox hb;have a:=Aside0.mk hbox;have M:=zge hg HB;have O:=zge hg HB;replace HB:=zbs HB hb;clear hb hbox hg;obtain⟨bJ,bK,bL,bM⟩:=zc2 a)|((with_reducible refine gate_callee (f:=20) rfl ?_);refine zgc (some 15) Try.func20 (grottoref02_Open.calls A4.out) ?_;intro b7 hb;obtain⟨a,HB⟩:=zu1 a HB hb;clear hb)|((with_reducible refine gate_dst (N:=8) rfl ?_);refine zbox (N:=8) (cs:=#[.int .i64 0,.bool false,.int .i64 0,.int .u64 0]) (t:=34) ?_;intro c hg b8 hbox hb;have b:=Aside0.mk hbox;have P:=zge hg HB;have Q:=zge hg HB;have B:=znl hg a;have j:=zng hg a;obtain⟨a,HB⟩:=zu1 a HB hb;clear hb hbox hg;obtain⟨bN,bO⟩:=z2 j;obtain⟨aL,aM,aN,aO,aP,aQ,aR,aS⟩:=zc4 b;obtain⟨aT,aU,aV,aW⟩:=zc2 a)|((with_reducible refine gate_callee (f:=21) rfl ?_);refine zgc (some 27) Try.func21 (grottoref02_NaN.calls A7.out) ?_;intro b9 hb;replace a:=zkb a hb;replace b:=zkbo (o:=.cells #[.int .i64 v,.bool s,.int .i64 y,.int .u64 z] 34 (0,0)) b hb;replace HB:=zbs HB hb;clear hb))
  go_ret2
  exact zr HB
 rw[if_neg c6] at H
 obtain⟨az,aA⟩:=zf c6
 by_cases W:v=2
 rotate_left
 ·rw[if_neg W] at H
  obtain⟨X,Y⟩:=zf W
  simp only[Option.some.injEq,Prod.mk.injEq] at H
  obtain⟨rfl,rfl⟩:=H
  go_enter Try.func82,Try.ntmps82
  go_wp2_with (first|((with_reducible refine gate_dst (N:=3) rfl ?_);refine zbox (N:=3) (cs:=#[.int .i64 p,.int .i64 q]) (t:=23) ?_;intro l hg cl hbox hb;have a:=Aside0.mk hbox;have M:=zge hg HB;have O:=zge hg HB;replace HB:=zbs HB hb;clear hb hbox hg;obtain⟨bf,bg,bh,bi⟩:=zc2 a)|((with_reducible refine gate_callee (f:=20) rfl ?_);refine zgc (some 15) Try.func20 (grottoref02_Open.calls A4.out) ?_;intro cm hb;obtain⟨a,HB⟩:=zu1 a HB hb;clear hb)|((with_reducible refine gate_dst (N:=8) rfl ?_);refine zbox (N:=8) (cs:=#[.int .i64 0,.bool false,.int .i64 0,.int .u64 0]) (t:=34) ?_;intro c hg cn hbox hb;have b:=Aside0.mk hbox;have P:=zge hg HB;have Q:=zge hg HB;have B:=znl hg a;have j:=zng hg a;obtain⟨a,HB⟩:=zu1 a HB hb;clear hb hbox hg;obtain⟨b1,b2⟩:=z2 j;obtain⟨bj,bk,bl,bm,bn,bo,bp,bq⟩:=zc4 b))
  go_ret2
  exact zr HB
 rw[if_pos W] at H
 obtain⟨X,Y⟩:=zt W
 clear W
 obtain⟨⟨C,aG⟩,bP,H⟩:=oB H
 try dsimp only at H
 have Z:=Aside0.mk H
 clear H
 go_enter Try.func82,Try.ntmps82
 go_upto_region 9 with (first|((with_reducible refine gate_dst (N:=3) rfl ?_);refine zbox (N:=3) (cs:=#[.int .i64 p,.int .i64 q]) (t:=23) ?_;intro l hg ca hbox hb;have a:=Aside0.mk hbox;have M:=zge hg HB;have O:=zge hg HB;replace HB:=zbs HB hb;clear hb hbox hg;obtain⟨aa,ab,ac,ad⟩:=zc2 a)|((with_reducible refine gate_callee (f:=20) rfl ?_);refine zgc (some 15) Try.func20 (grottoref02_Open.calls A4.out) ?_;intro cb hb;obtain⟨a,HB⟩:=zu1 a HB hb;clear hb)|((with_reducible refine gate_dst (N:=8) rfl ?_);refine zbox (N:=8) (cs:=#[.int .i64 0,.bool false,.int .i64 0,.int .u64 0]) (t:=34) ?_;intro c hg cc hbox hb;have b:=Aside0.mk hbox;have P:=zge hg HB;have Q:=zge hg HB;have B:=znl hg a;have j:=zng hg a;obtain⟨a,HB⟩:=zu1 a HB hb;clear hb hbox hg;obtain⟨bQ,bR⟩:=z2 j;obtain⟨ae,af,ag,ah,ai,aj,ak,al⟩:=zc4 b)|((with_reducible refine gate_callee (f:=85) rfl ?_);refine zgo (some 35) Try.func85 #[.agg #[.int .i64 v,.bool s,.int .i64 y,.int .u64 z],.bool false] ?_;(with_reducible refine (grottoref03_whole.calls bP.out).mono ?_);rintro e cd ⟨v1183,rfl,ho0,hb⟩;refine⟨_,rfl,?_⟩;have T:=Aside0.mk (Kd.V_lower (Kd.V_mono (ok':=fun k_=>k_≠l∧k_≠c) ho0 (fun k_ hk_=>⟨(Kd.freshB (g:=l) (o:=.cells #[.int .i64 p,.int .i64 q] 23 (0,0)) (zk a) k_ hk_),(Kd.freshB (g:=c) (o:=.cells #[.int .i64 v,.bool s,.int .i64 y,.int .u64 z] 34 (0,0)) (zkp b) k_ hk_)⟩)) (below_size (zb HB)));replace a:=zkb a hb;replace b:=zkbo (o:=.cells #[.int .i64 v,.bool s,.int .i64 y,.int .u64 z] 34 (0,0)) b hb;replace HB:=zbs HB hb;clear hb;(try clear ho0)))
 (try simp only[Act.put,List.setIfInBounds_toArray,List.set_cons_zero,List.set_cons_succ])
 go_cut [44] (fun v44 wc=>∃ (kq:Nat) (D:Bool),v44=.bool D∧Aside0 (grottoref03_step.j0 kq C D p q v s y z=some (r1,r2))∧Aside0 (kq≤k)∧Aside0 (Kd.V (Kd.int .i64) 3 wc w.heap.size (fun k_=>k_≠l∧k_≠c) v1183 C)∧Aside0 (wc.heap[l]?=some (.cells #[.int .i64 p,.int .i64 q] 23 (0,0)))∧Aside0 (wc.heap[c]?=some (.cells #[.int .i64 v,.bool s,.int .i64 y,.int .u64 z] 34 (0,0)))∧Aside0 (Below w.heap.size w wc))
 case first =>
  have H:=Z.out
  clear Z
  by_cases av:aG=true
  ·subst av
   rw[if_pos rfl] at H
   have H':=Aside0.mk H
   clear H
   obtain⟨bS,bT⟩:=z2 j
   obtain⟨aX,aY,aZ,a0,a3,a4,a5,a6⟩:=zc4 b
   go_wp2
   go_meet
   case rel=>exact⟨_,((a2 != s)),(by first|rfl|(simp[*];done)),H',⟨by omega⟩,⟨by (with_reducible repeat (first|apply Kd.V_alloc|apply Kd.V_drewN|apply Kd.V_drew));exact T.out⟩,⟨zk a⟩,⟨zk b⟩,⟨zb HB⟩⟩
  replace av:=Bool.eq_false_iff.mpr av
  subst av
  rw[if_neg nft] at H
  have H':=Aside0.mk H
  clear H
  go_wp2
  go_meet
  case rel=>exact⟨_,(false),(by first|rfl|(simp[*];done)),H',⟨by omega⟩,⟨by (with_reducible repeat (first|apply Kd.V_alloc|apply Kd.V_drewN|apply Kd.V_drew));exact T.out⟩,⟨zk a⟩,⟨zk b⟩,⟨zb HB⟩⟩
 case rest =>
  clear Z
  try clear ax ay c6 az aA X Y aa ab ae af ag ah ac ad ai aj ak al
  obtain⟨kq,D,rfl,HA,b5,HO_10,a,b,HB⟩:=hcut
  cases kq with
  | zero=>exact absurd HA.out (by simp[grottoref03_step.j0])
  | succ am =>
   have H:=HA.out
   clear HA
   simp only[grottoref03_step.j0] at H
   by_cases aw:D=true
   ·subst aw
    rw[if_pos rfl] at H
    obtain⟨G,bU,H⟩:=oB H
    obtain⟨R,bV,H⟩:=oB H
    obtain⟨I,bW,H⟩:=oB H
    obtain⟨aH,bX,H⟩:=oB H
    simp only[Option.some.injEq,Prod.mk.injEq] at H
    obtain⟨rfl,rfl⟩:=H
    try go_wp2_with (first|((with_reducible refine gate_callee (f:=58) rfl ?_);refine zgo (some 46) Try.func58 #[] ?_;(with_reducible refine (grottoref03_one.calls  G _ bU.out).mono ?_);rintro e ce ⟨v1187,rfl,ho0,hb⟩;refine⟨_,rfl,?_⟩;have m:=Aside0.mk (Kd.R_lower ho0 (below_size (zb HB)));replace HO_10:=Aside0.mk (Kd.V_elder' (by (with_reducible repeat (first|apply Kd.V_alloc|apply Kd.V_drewN|apply Kd.V_drew));exact HO_10.out) (Kd.R_base ho0) hb);obtain⟨a,b,HB⟩:=zu2 a b HB hb;clear hb;(try clear ho0);obtain⟨a7,a8,a9⟩:=Kd.V_slice HO_10.out;subst a9;obtain⟨an,ao,ba⟩:=Kd.R_slice m.out;subst ba)|((with_reducible refine gate_callee (f:=74) rfl ?_);refine zgo (some 47) Try.func74 #[.slice a7 C.length a8,.slice an G.length ao] ?_;(with_reducible refine (grottoref02_Plus.calls am _ _ C _ _ G R _ ?side1 ?side2 ?side3 ?side4 bV.out).mono ?_);(case side1=>repeat (first|exact (Kd.V_reads' HO_10.out).2.2|(with_reducible refine Kd.C_alloc ?_ _)|(with_reducible refine Kd.C_drewN ?_ _)|(with_reducible refine Kd.C_drew ?_)));(case side2=>exact (Kd.V_reads' HO_10.out).2.1);(case side3=>repeat (first|exact (Kd.R_reads' m.out).2.2|(with_reducible refine Kd.C_alloc ?_ _)|(with_reducible refine Kd.C_drewN ?_ _)|(with_reducible refine Kd.C_drew ?_)));(case side4=>exact (Kd.R_reads' m.out).2.1);rintro e bY ⟨v1190,rfl,ho0,hb⟩;refine⟨_,rfl,?_⟩;have u:=Aside0.mk (Kd.V_lower (Kd.V_mono (ok':=fun k_=>some k_≠(.slice an G.length ao:Value).ownBlock∧k_≠l∧k_≠c) ho0 (fun k_ hk_=>⟨(Kd.fresh' (Kd.R_lt (by (with_reducible repeat (first|apply Kd.R_alloc|apply Kd.R_drewN|apply Kd.R_drew));exact m.out)) k_ hk_),(Kd.freshB (g:=l) (o:=.cells #[.int .i64 p,.int .i64 q] 23 (0,0)) (zk a) k_ hk_),(Kd.freshB (g:=c) (o:=.cells #[.int .i64 v,.bool s,.int .i64 y,.int .u64 z] 34 (0,0)) (zk b) k_ hk_)⟩)) (below_size (zb HB)));replace HO_10:=Aside0.mk (Kd.V_below (by (with_reducible repeat (first|apply Kd.V_alloc|apply Kd.V_drewN|apply Kd.V_drew));exact HO_10.out) hb);replace m:=Aside0.mk (Kd.R_below (by (with_reducible repeat (first|apply Kd.R_alloc|apply Kd.R_drewN|apply Kd.R_drew));exact m.out) hb);obtain⟨a,b,HB⟩:=zu2 a b HB hb;clear hb;(try clear ho0)))
    replace HO_10:=Aside0.mk (Kd.V_drew HO_10.out)
    replace m:=Aside0.mk (Kd.R_drew m.out)
    replace u:=Aside0.mk (Kd.V_drew u.out)
    replace a:=Aside0.mk (blk_drew a.out)
    replace b:=Aside0.mk (blk_drew b.out)
    replace HB:=Aside0.mk (below_drew1 HB.out)
    refine start_ (n:=8) (S:=fun w'=>w'.cell? ⟨l,0,none⟩=some (.int .i64 p)∧w'.cell? ⟨l,1,none⟩=some (.int .i64 q)∧w'.cell? ⟨c,0,none⟩=some (.int .i64 v)∧w'.cell? ⟨c,1,none⟩=some (.bool s)∧w'.cell? ⟨c,2,none⟩=some (.int .i64 y)∧w'.cell? ⟨c,3,none⟩=some (.int .u64 z)) (ds:=[]) #[false,false,false,false,false,false,false,false] (by kernel_rfl) rfl rfl ⟨(blk_cell a.out 0).trans rfl,(blk_cell a.out 1).trans rfl,(blk_cell b.out 0).trans rfl,(blk_cell b.out 1).trans rfl,(blk_cell b.out 2).trans rfl,(blk_cell b.out 3).trans rfl⟩ (fun hHeld=>?_);refine with_tabW grottoref03_step.tab11 grottoref03_step.bits11 (fun HT_ HW_=>?_)
    generalize bY.drew=cf at HO_10 m u a b HB hHeld ⊢
    refine zpure_ (i:=1) (N:=some 49) #[false,true,false,false,false,false,false,false] (any_of HT_.out (by kernel_rfl)) ?_
    refine zpure_ (i:=3) (N:=some 51) #[false,true,false,true,false,false,false,false] (any_of HT_.out (by kernel_rfl)) ?_
    refine ztake_ (i:=0) (N:=some 48) #[true,true,false,true,false,false,false,false] rfl (take_ofW HT_.out HW_.out (by kernel_rfl)) hHeld (Or.inl ⟨by rfl,by rintro w' ⟨s0,s1,s2,s3,s4,s5⟩;go_simp;with_reducible rfl⟩) ?_
    refine ztake_ (i:=2) (N:=some 50) #[true,true,true,true,false,false,false,false] rfl (take_ofW HT_.out HW_.out (by kernel_rfl)) hHeld (Or.inl ⟨by rfl,by rintro w' ⟨s0,s1,s2,s3,s4,s5⟩;go_simp;with_reducible rfl⟩) ?_
    refine one_ (i:=4) (N:=some 52) #[true,true,true,true,true,false,false,false] rfl rfl (one_of HT_.out (by kernel_rfl)) (by decide) (fun K hK=>?_)
    refine goes_ Try.func58 (by kernel_rfl) rfl #[] (by rfl) rfl rfl (by (try simp only[List.map_toArray,List.map_cons,List.map_nil]);first|done|rfl|(simp only[List.length_drop,List.length_take];rfl)) ?_
    with_reducible refine (grottoref03_one.calls  I _ bW.out).mono ?_
    rintro e cg ⟨v1193,rfl,ho0,hb⟩
    refine⟨_,rfl,?_⟩
    have E:=Aside0.mk (Kd.R_lower (Kd.R_new' ho0 (Kd.R_lt (by (with_reducible repeat (first|apply Kd.R_alloc|apply Kd.R_drewN|apply Kd.R_drew));exact m.out))) (below_size (zb HB)))
    replace HO_10:=Aside0.mk (Kd.V_elder' (by (with_reducible repeat (first|apply Kd.V_alloc|apply Kd.V_drewN|apply Kd.V_drew));exact HO_10.out) (Kd.R_base ho0) hb)
    replace m:=Aside0.mk (Kd.R_elder' (by (with_reducible repeat (first|apply Kd.R_alloc|apply Kd.R_drewN|apply Kd.R_drew));exact m.out) (Kd.R_base ho0) hb)
    replace u:=Aside0.mk (Kd.V_elder' (by (with_reducible repeat (first|apply Kd.V_alloc|apply Kd.V_drewN|apply Kd.V_drew));exact u.out) (Kd.R_base ho0) hb)
    obtain⟨a,b,HB⟩:=zu2 a b HB hb
    try clear hb
    (try clear ho0)
    obtain⟨bb,bc,aB⟩:=Kd.V_slice u.out
    (first|subst aB|(injection aB with f1_ f2_ f3_;have f4_:=f1_.symm;have f5_:=f3_.symm;clear f1_ f2_ f3_;subst f4_;subst f5_))
    obtain⟨ap,aq,aC⟩:=Kd.R_slice E.out
    (first|subst aC|(injection aC with f1_ f2_ f3_;have f4_:=f1_.symm;have f5_:=f3_.symm;clear f1_ f2_ f3_;subst f4_;subst f5_))
    refine hK.out _ _ ⟨(blk_cell a.out 0).trans rfl,(blk_cell a.out 1).trans rfl,(blk_cell b.out 0).trans rfl,(blk_cell b.out 1).trans rfl,(blk_cell b.out 2).trans rfl,(blk_cell b.out 3).trans rfl⟩ (fun hHeld=>?_)
    clear hK K
    refine norm_ (a':=?_) ?_ ?_
    rotate_left
    ·show Act.put _ (some 52) _=_
     simp only[Act.put,List.setIfInBounds_toArray,List.set_cons_zero,List.set_cons_succ,i64_w,i32_w]
     rfl
    refine one_ (i:=5) (N:=some 53) #[true,true,true,true,true,true,false,false] rfl rfl (one_of HT_.out (by kernel_rfl)) (by decide) (fun K hK=>?_)
    refine goes_ Try.func57 (by kernel_rfl) rfl #[.agg #[.int .i64 p,.int .i64 q],.bool s,.slice bb R.length bc,.slice ap I.length aq,.int .i64 0] (by rfl) rfl rfl (by (try simp only[List.map_toArray,List.map_cons,List.map_nil]);first|done|rfl|(simp only[List.length_drop,List.length_take];rfl)) ?_
    with_reducible refine (grottoref02_Near.calls am p q s (fun k_=>((some k_≠(.slice an G.length ao:Value).ownBlock∧(k_≠l∧k_≠c))∧some k_≠(.slice ap I.length aq:Value).ownBlock)) _ _ R (fun k_=>some k_=(.slice ap I.length aq:Value).ownBlock) _ _ I 0 aH _ ?side1 ?side2 bX.out).mono ?_
    (case side1=>exact u.out)
    (case side2=>exact Kd.R_V (Kd.R_tight rfl (Kd.R_types (Kd.R_types (E.out) a.out (by decide)) b.out (by decide))))
    rintro e ch ⟨rfl,hb⟩
    refine⟨_,rfl,?_⟩
    replace HO_10:=Aside0.mk (Kd.V_below (by (with_reducible repeat (first|apply Kd.V_alloc|apply Kd.V_drewN|apply Kd.V_drew));exact HO_10.out) hb)
    replace m:=Aside0.mk (Kd.R_below (by (with_reducible repeat (first|apply Kd.R_alloc|apply Kd.R_drewN|apply Kd.R_drew));exact m.out) hb)
    replace u:=Aside0.mk (Kd.V_below (by (with_reducible repeat (first|apply Kd.V_alloc|apply Kd.V_drewN|apply Kd.V_drew));exact u.out) hb)
    replace E:=Aside0.mk (Kd.R_below (by (with_reducible repeat (first|apply Kd.R_alloc|apply Kd.R_drewN|apply Kd.R_drew));exact E.out) hb)
    obtain⟨a,b,HB⟩:=zu2 a b HB hb
    try clear hb
    refine hK.out _ _ ⟨(blk_cell a.out 0).trans rfl,(blk_cell a.out 1).trans rfl,(blk_cell b.out 0).trans rfl,(blk_cell b.out 1).trans rfl,(blk_cell b.out 2).trans rfl,(blk_cell b.out 3).trans rfl⟩ (fun hHeld=>?_)
    clear hK K
    refine norm_ (a':=?_) ?_ ?_
    rotate_left
    ·show Act.put _ (some 53) _=_
     simp only[Act.put,List.setIfInBounds_toArray,List.set_cons_zero,List.set_cons_succ,i64_w,i32_w]
     rfl
    refine zpure_ (i:=6) (N:=some 6) #[true,true,true,true,true,true,true,false] (any_of HT_.out (by kernel_rfl)) ?_
    refine zpure_ (i:=7) (N:=some 7) #[true,true,true,true,true,true,true,true] (any_of HT_.out (by kernel_rfl)) ?_
    refine done_ (done_of HT_.out (by kernel_rfl)) ?_
    try go_wp2
    go_ret2
    exact zr HB
   replace aw:=Bool.eq_false_iff.mpr aw
   subst aw
   rw[if_neg nft] at H
   obtain⟨J,bZ,H⟩:=oB H
   obtain⟨aI,b0,H⟩:=oB H
   simp only[Option.some.injEq,Prod.mk.injEq] at H
   obtain⟨rfl,rfl⟩:=H
   try go_wp2
   replace HO_10:=Aside0.mk (Kd.V_drew HO_10.out)
   replace a:=Aside0.mk (blk_drew a.out)
   replace b:=Aside0.mk (blk_drew b.out)
   replace HB:=Aside0.mk (below_drew1 HB.out)
   refine start_ (n:=8) (S:=fun w'=>w'.cell? ⟨l,0,none⟩=some (.int .i64 p)∧w'.cell? ⟨l,1,none⟩=some (.int .i64 q)∧w'.cell? ⟨c,0,none⟩=some (.int .i64 v)∧w'.cell? ⟨c,1,none⟩=some (.bool s)∧w'.cell? ⟨c,2,none⟩=some (.int .i64 y)∧w'.cell? ⟨c,3,none⟩=some (.int .u64 z)) (ds:=[]) #[false,false,false,false,false,false,false,false] (by kernel_rfl) rfl rfl ⟨(blk_cell a.out 0).trans rfl,(blk_cell a.out 1).trans rfl,(blk_cell b.out 0).trans rfl,(blk_cell b.out 1).trans rfl,(blk_cell b.out 2).trans rfl,(blk_cell b.out 3).trans rfl⟩ (fun hHeld=>?_);refine with_tabW grottoref03_step.tab11 grottoref03_step.bits11 (fun HT_ HW_=>?_)
   generalize wc.drew=ci at HO_10 a b HB hHeld ⊢
   refine zpure_ (i:=1) (N:=some 49) #[false,true,false,false,false,false,false,false] (any_of HT_.out (by kernel_rfl)) ?_
   refine zpure_ (i:=3) (N:=some 51) #[false,true,false,true,false,false,false,false] (any_of HT_.out (by kernel_rfl)) ?_
   refine ztake_ (i:=0) (N:=some 48) #[true,true,false,true,false,false,false,false] rfl (take_ofW HT_.out HW_.out (by kernel_rfl)) hHeld (Or.inl ⟨by rfl,by rintro w' ⟨s0,s1,s2,s3,s4,s5⟩;go_simp;with_reducible rfl⟩) ?_
   refine ztake_ (i:=2) (N:=some 50) #[true,true,true,true,false,false,false,false] rfl (take_ofW HT_.out HW_.out (by kernel_rfl)) hHeld (Or.inl ⟨by rfl,by rintro w' ⟨s0,s1,s2,s3,s4,s5⟩;go_simp;with_reducible rfl⟩) ?_
   refine one_ (i:=4) (N:=some 52) #[true,true,true,true,true,false,false,false] rfl rfl (one_of HT_.out (by kernel_rfl)) (by decide) (fun K hK=>?_)
   refine goes_ Try.func58 (by kernel_rfl) rfl #[] (by rfl) rfl rfl (by (try simp only[List.map_toArray,List.map_cons,List.map_nil]);first|done|rfl|(simp only[List.length_drop,List.length_take];rfl)) ?_
   with_reducible refine (grottoref03_one.calls  J _ bZ.out).mono ?_
   rintro e cj ⟨v1197,rfl,ho0,hb⟩
   refine⟨_,rfl,?_⟩
   have F:=Aside0.mk (Kd.R_lower ho0 (below_size (zb HB)))
   replace HO_10:=Aside0.mk (Kd.V_elder' (by (with_reducible repeat (first|apply Kd.V_alloc|apply Kd.V_drewN|apply Kd.V_drew));exact HO_10.out) (Kd.R_base ho0) hb)
   obtain⟨a,b,HB⟩:=zu2 a b HB hb
   try clear hb
   (try clear ho0)
   obtain⟨bd,be,aD⟩:=Kd.V_slice HO_10.out
   (first|subst aD|(injection aD with f1_ f2_ f3_;have f4_:=f1_.symm;have f5_:=f3_.symm;clear f1_ f2_ f3_;subst f4_;subst f5_))
   obtain⟨ar,au,aE⟩:=Kd.R_slice F.out
   (first|subst aE|(injection aE with f1_ f2_ f3_;have f4_:=f1_.symm;have f5_:=f3_.symm;clear f1_ f2_ f3_;subst f4_;subst f5_))
   refine hK.out _ _ ⟨(blk_cell a.out 0).trans rfl,(blk_cell a.out 1).trans rfl,(blk_cell b.out 0).trans rfl,(blk_cell b.out 1).trans rfl,(blk_cell b.out 2).trans rfl,(blk_cell b.out 3).trans rfl⟩ (fun hHeld=>?_)
   clear hK K
   refine norm_ (a':=?_) ?_ ?_
   rotate_left
   ·show Act.put _ (some 52) _=_
    simp only[Act.put,List.setIfInBounds_toArray,List.set_cons_zero,List.set_cons_succ,i64_w,i32_w]
    rfl
   refine one_ (i:=5) (N:=some 53) #[true,true,true,true,true,true,false,false] rfl rfl (one_of HT_.out (by kernel_rfl)) (by decide) (fun K hK=>?_)
   refine goes_ Try.func57 (by kernel_rfl) rfl #[.agg #[.int .i64 p,.int .i64 q],.bool s,.slice bd C.length be,.slice ar J.length au,.int .i64 0] (by rfl) rfl rfl (by (try simp only[List.map_toArray,List.map_cons,List.map_nil]);first|done|rfl|(simp only[List.length_drop,List.length_take];rfl)) ?_
   with_reducible refine (grottoref02_Near.calls am p q s (fun k_=>((k_≠l∧k_≠c)∧some k_≠(.slice ar J.length au:Value).ownBlock)) _ _ C (fun k_=>some k_=(.slice ar J.length au:Value).ownBlock) _ _ J 0 aI _ ?side1 ?side2 b0.out).mono ?_
   (case side1=>exact HO_10.out)
   (case side2=>exact Kd.R_V (Kd.R_tight rfl (Kd.R_types (Kd.R_types (F.out) a.out (by decide)) b.out (by decide))))
   rintro e ck ⟨rfl,hb⟩
   refine⟨_,rfl,?_⟩
   replace HO_10:=Aside0.mk (Kd.V_below (by (with_reducible repeat (first|apply Kd.V_alloc|apply Kd.V_drewN|apply Kd.V_drew));exact HO_10.out) hb)
   replace F:=Aside0.mk (Kd.R_below (by (with_reducible repeat (first|apply Kd.R_alloc|apply Kd.R_drewN|apply Kd.R_drew));exact F.out) hb)
   obtain⟨a,b,HB⟩:=zu2 a b HB hb
   try clear hb
   refine hK.out _ _ ⟨(blk_cell a.out 0).trans rfl,(blk_cell a.out 1).trans rfl,(blk_cell b.out 0).trans rfl,(blk_cell b.out 1).trans rfl,(blk_cell b.out 2).trans rfl,(blk_cell b.out 3).trans rfl⟩ (fun hHeld=>?_)
   clear hK K
   refine norm_ (a':=?_) ?_ ?_
   rotate_left
   ·show Act.put _ (some 53) _=_
    simp only[Act.put,List.setIfInBounds_toArray,List.set_cons_zero,List.set_cons_succ,i64_w,i32_w]
    rfl
   refine zpure_ (i:=6) (N:=some 6) #[true,true,true,true,true,true,true,false] (any_of HT_.out (by kernel_rfl)) ?_
   refine zpure_ (i:=7) (N:=some 7) #[true,true,true,true,true,true,true,true] (any_of HT_.out (by kernel_rfl)) ?_
   refine done_ (done_of HT_.out (by kernel_rfl)) ?_
   try go_wp2
   go_ret2
   exact zr HB
/-! ### grottoref03_Ceil: function 42 -/
def grottoref03_Ceil.f (k:Nat) (a0_0:Int) (a0_1:Int) (a1:Int):Option (Int×Int):=(grottoref03_step.f k a0_0 a0_1 a1 true).bind fun a=>(some (a.1,a.2))
theorem grottoref03_Ceil.mono:∀ a0 a1 a2 k,LeO (grottoref03_Ceil.f k a0 a1 a2) (grottoref03_Ceil.f (k+1) a0 a1 a2):=by
 intro a0 a1 a2 k
 unfold grottoref03_Ceil.f
 repeat' first|(with_reducible first|apply grottoref03_step.mono|exact LeO.refl _|exact LeO.none _|refine LeO.ite ?_ ?_|refine LeO.bind ?_ (fun _=>?_))|refine LeO.ite ?_ ?_|refine LeO.bind ?_ (fun _=>?_)
set_option maxHeartbeats 8000000 in
set_option maxRecDepth 100000 in
theorem grottoref03_Ceil.calls {k:Nat} {b:Int} {c:Int} {p:Int} {q:Int} {s:Int} {w:World} (h:grottoref03_Ceil.f k b c p=some (q,s)) :
  Calls Try.prog 42 #[.agg #[.int .i64 b,.int .i64 c],.int .u64 p] w fun e w'=>e=.returned (.tuple #[.int .u64 q,.int .i64 s])∧Below w.heap.size w w':=by
 have hu23:=Try.underlying23
 have HB:=Aside0.mk (Below.refl w.heap.size w)
 have H:=h
 unfold grottoref03_Ceil.f at H
 clear h
 obtain⟨⟨u,v⟩,y,H⟩:=oB H
 try dsimp only at H
 simp only[Option.some.injEq,Prod.mk.injEq] at H
 obtain⟨rfl,rfl⟩:=H
 go_enter Try.func42,Try.ntmps42
 go_wp2_with (first|((with_reducible refine gate_dst (N:=2) rfl ?_);refine zbox (N:=2) (cs:=#[.int .i64 b,.int .i64 c]) (t:=23) ?_;intro g hg z hbox hb;have a:=Aside0.mk hbox;have i:=zge hg HB;have j:=zge hg HB;replace HB:=zbs HB hb;clear hb hbox hg;obtain⟨l,m,n,o⟩:=zc2 a)|((with_reducible refine gate_callee (f:=82) rfl ?_);refine zgc (some 8) Try.func82 (grottoref03_step.calls y.out) ?_;intro B hb;obtain⟨a,HB⟩:=zu1 a HB hb;clear hb))
 go_ret2
 exact zr HB

/-! ### grottoref03_Floor: function 43 -/
def grottoref03_Floor.f (k:Nat) (a0_0:Int) (a0_1:Int) (a1:Int):Option (Int×Int):=(grottoref03_step.f k a0_0 a0_1 a1 false).bind fun a=>(some (a.1,a.2))
theorem grottoref03_Floor.mono:∀ a0 a1 a2 k,LeO (grottoref03_Floor.f k a0 a1 a2) (grottoref03_Floor.f (k+1) a0 a1 a2):=by
 intro a0 a1 a2 k
 unfold grottoref03_Floor.f
 repeat' first|(with_reducible first|apply grottoref03_step.mono|exact LeO.refl _|exact LeO.none _|refine LeO.ite ?_ ?_|refine LeO.bind ?_ (fun _=>?_))|refine LeO.ite ?_ ?_|refine LeO.bind ?_ (fun _=>?_)
set_option maxHeartbeats 8000000 in
set_option maxRecDepth 100000 in
theorem grottoref03_Floor.calls {k:Nat} {b:Int} {c:Int} {p:Int} {q:Int} {s:Int} {w:World} (h:grottoref03_Floor.f k b c p=some (q,s)) :
  Calls Try.prog 43 #[.agg #[.int .i64 b,.int .i64 c],.int .u64 p] w fun e w'=>e=.returned (.tuple #[.int .u64 q,.int .i64 s])∧Below w.heap.size w w':=by
 have hu23:=Try.underlying23
 have HB:=Aside0.mk (Below.refl w.heap.size w)
 have H:=h
 unfold grottoref03_Floor.f at H
 clear h
 obtain⟨⟨u,v⟩,y,H⟩:=oB H
 try dsimp only at H
 simp only[Option.some.injEq,Prod.mk.injEq] at H
 obtain⟨rfl,rfl⟩:=H
 go_enter Try.func43,Try.ntmps43
 go_wp2_with (first|((with_reducible refine gate_dst (N:=2) rfl ?_);refine zbox (N:=2) (cs:=#[.int .i64 b,.int .i64 c]) (t:=23) ?_;intro g hg z hbox hb;have a:=Aside0.mk hbox;have i:=zge hg HB;have j:=zge hg HB;replace HB:=zbs HB hb;clear hb hbox hg;obtain⟨l,m,n,o⟩:=zc2 a)|((with_reducible refine gate_callee (f:=82) rfl ?_);refine zgc (some 8) Try.func82 (grottoref03_step.calls y.out) ?_;intro B hb;obtain⟨a,HB⟩:=zu1 a HB hb;clear hb))
 go_ret2
 exact zr HB

end Go.Proofs.Ytmmbgbchimangaa.PQ
