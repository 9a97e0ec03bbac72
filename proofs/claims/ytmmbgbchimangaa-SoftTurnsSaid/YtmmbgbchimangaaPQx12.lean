-- by a program of this claim
import Derived.Test.YtmmbgbchimangaaPQx0
import Derived.Test.YtmmbgbchimangaaPQx10
namespace Go.Proofs.Ytmmbgbchimangaa.PQ
open Go.RowKit Go.Proofs.YtmmbgbchimangaaW.PrintWords Go.Proofs.YtmmbgbchimangaaW.PrintLast Go.Proofs.YtmmbgbchimangaaW.PrintMore Go.Proofs.Ytmmbgbchimangaa.Z
attribute [local go_sem] max2_int min2_int max_two min_two max_three min_three max_four min_four   -- for this text's walks alone
set_option linter.unusedVariables false
set_option linter.unusedSimpArgs false

/-! ### grottoref03_alike: function 54 -/
def grottoref03_alike.f (k:Nat) (a0_0:Int) (l0_1:List Int) (a0_2:Int) (a1_0:Int) (l1_1:List Int) (a1_2:Int):Option (Int×List Int×Int×Int×List Int×Int):=(grottoref02_Up.f k l0_1 (wrap64 (a0_2-(mn a0_2 a1_2)))).bind fun a=>((grottoref02_Up.f k l1_1 (wrap64 (a1_2-(mn a0_2 a1_2)))).bind fun b=>(some (a0_0,a,mn a0_2 a1_2,a1_0,b,mn a0_2 a1_2)))
theorem grottoref03_alike.mono:∀ a0 a1 a2 a3 a4 a5 k,LeO (grottoref03_alike.f k a0 a1 a2 a3 a4 a5) (grottoref03_alike.f (k+1) a0 a1 a2 a3 a4 a5):=by
 intro a0 a1 a2 a3 a4 a5 k
 unfold grottoref03_alike.f
 repeat' first|(with_reducible first|apply grottoref02_Up.mono|exact LeO.refl _|exact LeO.none _|refine LeO.ite ?_ ?_|refine LeO.bind ?_ (fun _=>?_))|refine LeO.ite ?_ ?_|refine LeO.bind ?_ (fun _=>?_)
def grottoref03_alike.T2:Bool×List (List Nat×List Nat):=(true,[([],[]),([0],[0]),([],[]),([2],[2]),([],[]),([4],[4]),([],[]),([5,6],[5,6]),([3,7],[3,7]),([],[]),([1,8,9],[1,8,9]),([],[]),([11],[11]),([],[]),([13],[13]),([],[]),([15],[15]),([],[]),([16,17],[16,17]),([14,18,8],[14,18]),([],[]),([12,19,20],[12,19,20]),([10,19,0,1,2,3,4,5,6,7,8,9,10],[10]),([21,22,0,1,2,3,4,5,6,7,8,9,10,11,12,13,14,15,16,17,18,19,20,21,22],[21])])
def grottoref03_alike.B2:List Nat:=[0,1,0,4,0,16,0,112,252,0,1023,0,2048,0,8192,0,32768,0,229376,516604,0,2095612,1042431,8388607]
theorem grottoref03_alike.tab2:rtab .any (opsOf Try.f54 2)=grottoref03_alike.T2:=by kernel_rfl
theorem grottoref03_alike.bits2:waitsOk grottoref03_alike.T2.2 grottoref03_alike.B2=true:=by kernel_rfl
set_option maxHeartbeats 8000000 in
set_option maxRecDepth 100000 in
theorem grottoref03_alike.calls (k:Nat) (D:Int) (R:Option Addr) (T:Nat) (l0_1:List Int) (z:Int) (E:Int) (U:Option Addr) (W:Nat) (l1_1:List Int) (B:Int) (r1:Int) (r2:List Int) (r3:Int) (r4:Int) (r5:List Int) (r6:Int) (w:World) (hr0_1:Kd.C (Kd.int .i64) w R l0_1.length l0_1) (hc0_1:l0_1.length≤T) (hr1_1:Kd.C (Kd.int .i64) w U l1_1.length l1_1) (hc1_1:l1_1.length≤W) (h:grottoref03_alike.f k D l0_1 z E l1_1 B=some (r1,r2,r3,r4,r5,r6)) :
  Calls Try.prog 54 #[.agg #[.int .i64 D,.slice R l0_1.length T,.int .i64 z],.agg #[.int .i64 E,.slice U l1_1.length W,.int .i64 B]] w fun e w'=>∃ v1_ v4_:Value,e=.returned (.tuple #[.agg #[.int .i64 r1,v1_,.int .i64 r3],.agg #[.int .i64 r4,v4_,.int .i64 r6]])∧Kd.V (Kd.int .i64) 3 w' w.heap.size (fun k_=>(w.heap.size≤k_)) v1_ r2∧Kd.V (Kd.int .i64) 3 w' w.heap.size (fun k_=>(w.heap.size≤k_)) v4_ r5∧Below w.heap.size w w':=by
 have hu73:=Try.underlying73
 have ai:=Aside0.mk hr0_1
 have aj:=Aside0.mk hc0_1
 clear hr0_1 hc0_1
 have ak:=Aside0.mk hr1_1
 have al:=Aside0.mk hc1_1
 clear hr1_1 hc1_1
 have HB:=Aside0.mk (Below.refl w.heap.size w)
 have H:=h
 unfold grottoref03_alike.f at H
 clear h
 obtain⟨F,X⟩:∃ j_:Int,(mn z B)=j_:=⟨_,rfl⟩
 first|rw[X] at H|simp only[X] at H
 have bh:(if B<z then B else z)=F:=X
 obtain⟨P,A4,H⟩:=oB H
 obtain⟨Q,A5,H⟩:=oB H
 simp only[Option.some.injEq,Prod.mk.injEq] at H
 obtain⟨rfl,rfl,rfl,rfl,rfl,rfl⟩:=H
 go_enter Try.func54,Try.ntmps54
 try go_wp2_with (first|((with_reducible refine gate_dst (N:=2) rfl ?_);refine zbox (N:=2) (cs:=#[.int .i64 D,.slice R l0_1.length T,.int .i64 z]) (t:=73) ?_;intro G hg w6 hbox hb;have c:=Aside0.mk hbox;have bi:=zge hg HB;have bj:=zge hg HB;replace HB:=zbs HB hb;clear hb hbox hg)|((with_reducible refine gate_dst (N:=3) rfl ?_);refine zbox (N:=3) (cs:=#[.int .i64 E,.slice U l1_1.length W,.int .i64 B]) (t:=73) ?_;intro I hg w7 hbox hb;have d:=Aside0.mk hbox;have bk:=zge hg HB;have bl:=zge hg HB;have Z:=znl hg c;have am:=zng hg c;obtain⟨c,HB⟩:=zu1 c HB hb;clear hb hbox hg)|((with_reducible refine gate_dst (N:=4) rfl ?_);refine zbox (N:=4) (cs:=#[.int .i64 0,.slice none 0 0,.int .i64 0]) (t:=73) ?_;intro a hg w8 hbox hb;have s:=Aside0.mk hbox;have bm:=zge hg HB;have bn:=zge hg HB;have j:=znl hg c;have J:=zng hg c;have l:=znl hg d;have L:=zng hg d;obtain⟨c,d,HB⟩:=zu2 c d HB hb;clear hb hbox hg)|((with_reducible refine gate_dst (N:=5) rfl ?_);refine zbox (N:=5) (cs:=#[.int .i64 0,.slice none 0 0,.int .i64 0]) (t:=73) ?_;intro b hg w9 hbox hb;have u:=Aside0.mk hbox;have bo:=zge hg HB;have bp:=zge hg HB;have m:=znl hg c;have M:=zng hg c;have q:=znl hg d;have O:=zng hg d;have v:=znl hg s;have y:=zng hg s;obtain⟨c,d,s,HB⟩:=zu3 c d s HB hb;clear hb hbox hg;obtain⟨bq,br⟩:=z2 Z;obtain⟨bs,bt⟩:=z2 j;obtain⟨bu,bv⟩:=z2 m;obtain⟨an,ao,ap,aq,ar,au⟩:=zc3 c;obtain⟨bw,bx⟩:=z2 l;obtain⟨bz,bA⟩:=z2 q;obtain⟨av,aw,ax,ay,az,aA⟩:=zc3 d))
 replace c:=Aside0.mk (blk_drew c.out)
 replace d:=Aside0.mk (blk_drew d.out)
 replace s:=Aside0.mk (blk_drew s.out)
 replace u:=Aside0.mk (blk_drew u.out)
 replace HB:=Aside0.mk (below_drew1 HB.out)
 refine start_ (n:=24) (S:=fun w'=>w'.cell? ⟨G,0,none⟩=some (.int .i64 D)∧w'.cell? ⟨G,1,none⟩=some (.slice R l0_1.length T)∧w'.cell? ⟨G,2,none⟩=some (.int .i64 z)∧w'.cell? ⟨I,0,none⟩=some (.int .i64 E)∧w'.cell? ⟨I,1,none⟩=some (.slice U l1_1.length W)∧w'.cell? ⟨I,2,none⟩=some (.int .i64 B)) (ds:=[]) #[false,false,false,false,false,false,false,false,false,false,false,false,false,false,false,false,false,false,false,false,false,false,false,false] (by kernel_rfl) rfl rfl ⟨(blk_cell c.out 0).trans rfl,(blk_cell c.out 1).trans rfl,(blk_cell c.out 2).trans rfl,(blk_cell d.out 0).trans rfl,(blk_cell d.out 1).trans rfl,(blk_cell d.out 2).trans rfl⟩ (fun hHeld=>?_);refine with_tabW grottoref03_alike.tab2 grottoref03_alike.bits2 (fun HT_ HW_=>?_)
 generalize w9.drew=bE at c d s u HB hHeld ⊢
 refine zpure_ (i:=0) (N:=some 12) #[true,false,false,false,false,false,false,false,false,false,false,false,false,false,false,false,false,false,false,false,false,false,false,false] (any_of HT_.out (by kernel_rfl)) ?_
 refine zpure_ (i:=2) (N:=some 14) #[true,false,true,false,false,false,false,false,false,false,false,false,false,false,false,false,false,false,false,false,false,false,false,false] (any_of HT_.out (by kernel_rfl)) ?_
 refine zpure_ (i:=4) (N:=some 16) #[true,false,true,false,true,false,false,false,false,false,false,false,false,false,false,false,false,false,false,false,false,false,false,false] (any_of HT_.out (by kernel_rfl)) ?_
 refine zpure_ (i:=6) (N:=some 18) #[true,false,true,false,true,false,true,false,false,false,false,false,false,false,false,false,false,false,false,false,false,false,false,false] (any_of HT_.out (by kernel_rfl)) ?_
 refine zpure_ (i:=9) (N:=some 21) #[true,false,true,false,true,false,true,false,false,true,false,false,false,false,false,false,false,false,false,false,false,false,false,false] (any_of HT_.out (by kernel_rfl)) ?_
 refine zpure_ (i:=11) (N:=some 23) #[true,false,true,false,true,false,true,false,false,true,false,true,false,false,false,false,false,false,false,false,false,false,false,false] (any_of HT_.out (by kernel_rfl)) ?_
 refine zpure_ (i:=13) (N:=some 25) #[true,false,true,false,true,false,true,false,false,true,false,true,false,true,false,false,false,false,false,false,false,false,false,false] (any_of HT_.out (by kernel_rfl)) ?_
 refine zpure_ (i:=15) (N:=some 27) #[true,false,true,false,true,false,true,false,false,true,false,true,false,true,false,true,false,false,false,false,false,false,false,false] (any_of HT_.out (by kernel_rfl)) ?_
 refine zpure_ (i:=17) (N:=some 29) #[true,false,true,false,true,false,true,false,false,true,false,true,false,true,false,true,false,true,false,false,false,false,false,false] (any_of HT_.out (by kernel_rfl)) ?_
 refine zpure_ (i:=20) (N:=some 32) #[true,false,true,false,true,false,true,false,false,true,false,true,false,true,false,true,false,true,false,false,true,false,false,false] (any_of HT_.out (by kernel_rfl)) ?_
 refine ztake_ (i:=1) (N:=some 13) #[true,true,true,false,true,false,true,false,false,true,false,true,false,true,false,true,false,true,false,false,true,false,false,false] rfl (take_ofW HT_.out HW_.out (by kernel_rfl)) hHeld (Or.inl ⟨by rfl,by rintro w' ⟨s0,s1,s2,s3,s4,s5⟩;go_simp;with_reducible rfl⟩) ?_
 refine ztake_ (i:=3) (N:=some 15) #[true,true,true,true,true,false,true,false,false,true,false,true,false,true,false,true,false,true,false,false,true,false,false,false] rfl (take_ofW HT_.out HW_.out (by kernel_rfl)) hHeld (Or.inl ⟨by rfl,by rintro w' ⟨s0,s1,s2,s3,s4,s5⟩;go_simp;with_reducible rfl⟩) ?_
 refine ztake_ (i:=5) (N:=some 17) #[true,true,true,true,true,true,true,false,false,true,false,true,false,true,false,true,false,true,false,false,true,false,false,false] rfl (take_ofW HT_.out HW_.out (by kernel_rfl)) hHeld (Or.inl ⟨by rfl,by rintro w' ⟨s0,s1,s2,s3,s4,s5⟩;go_simp;with_reducible rfl⟩) ?_
 refine zpure_ (i:=7) (N:=some 19) #[true,true,true,true,true,true,true,true,false,true,false,true,false,true,false,true,false,true,false,false,true,false,false,false] (any_of HT_.out (by kernel_rfl)) ?_
 refine ztake_ (i:=12) (N:=some 24) #[true,true,true,true,true,true,true,true,false,true,false,true,true,true,false,true,false,true,false,false,true,false,false,false] rfl (take_ofW HT_.out HW_.out (by kernel_rfl)) hHeld (Or.inl ⟨by rfl,by rintro w' ⟨s0,s1,s2,s3,s4,s5⟩;go_simp;with_reducible rfl⟩) ?_
 refine ztake_ (i:=14) (N:=some 26) #[true,true,true,true,true,true,true,true,false,true,false,true,true,true,true,true,false,true,false,false,true,false,false,false] rfl (take_ofW HT_.out HW_.out (by kernel_rfl)) hHeld (Or.inl ⟨by rfl,by rintro w' ⟨s0,s1,s2,s3,s4,s5⟩;go_simp;with_reducible rfl⟩) ?_
 refine ztake_ (i:=16) (N:=some 28) #[true,true,true,true,true,true,true,true,false,true,false,true,true,true,true,true,true,true,false,false,true,false,false,false] rfl (take_ofW HT_.out HW_.out (by kernel_rfl)) hHeld (Or.inl ⟨by rfl,by rintro w' ⟨s0,s1,s2,s3,s4,s5⟩;go_simp;with_reducible rfl⟩) ?_
 refine zpure_ (i:=18) (N:=some 30) #[true,true,true,true,true,true,true,true,false,true,false,true,true,true,true,true,true,true,true,false,true,false,false,false] (any_of HT_.out (by kernel_rfl)) ?_
 refine one_ (i:=8) (N:=some 20) #[true,true,true,true,true,true,true,true,true,true,false,true,true,true,true,true,true,true,true,false,true,false,false,false] rfl rfl (one_of HT_.out (by kernel_rfl)) (by decide) (fun K hK=>?_)
 refine goes_ Try.func73 (by kernel_rfl) rfl #[.slice R l0_1.length T,.int .i64 (wrap64 (z-(F)))] (by rfl) rfl rfl (by (try simp only[List.map_toArray,List.map_cons,List.map_nil]);first|done|(simp only[X];rfl)|rfl|(simp only[List.length_drop,List.length_take];rfl)) ?_
 with_reducible refine (grottoref02_Up.calls k _ _ l0_1 (wrap64 (z-(F))) P _ ?side1 ?side2 A4.out).mono ?_
 (case side1=>repeat (first|exact (Kd.C_below ai.out HB.out)|(with_reducible refine Kd.C_alloc ?_ _)|(with_reducible refine Kd.C_drewN ?_ _)|(with_reducible refine Kd.C_drew ?_)))
 (case side2=>exact aj.out)
 rintro e bF ⟨v260,rfl,ho0,hb⟩
 refine⟨_,rfl,?_⟩
 have Y:=Aside0.mk (Kd.V_lower (Kd.V_mono (ok':=fun k_=>(w.heap.size≤k_)∧k_≠G∧k_≠I∧k_≠a∧k_≠b) ho0 (fun k_ hk_=>⟨(Nat.le_trans (below_size (zb HB)) hk_),(Kd.freshB (g:=G) (o:=.cells #[.int .i64 D,.slice R l0_1.length T,.int .i64 z] 73 (0,0)) (zk c) k_ hk_),(Kd.freshB (g:=I) (o:=.cells #[.int .i64 E,.slice U l1_1.length W,.int .i64 B] 73 (0,0)) (zk d) k_ hk_),(Kd.freshB (g:=a) (o:=.cells #[.int .i64 0,.slice none 0 0,.int .i64 0] 73 (0,0)) (zk s) k_ hk_),(Kd.freshB (g:=b) (o:=.cells #[.int .i64 0,.slice none 0 0,.int .i64 0] 73 (0,0)) (zk u) k_ hk_)⟩)) (below_size (zb HB)))
 obtain⟨c,d,s,u,HB⟩:=zu4 c d s u HB hb
 try clear hb
 (try clear ho0)
 obtain⟨ab,ac,ag⟩:=Kd.V_slice Y.out
 (first|subst ag|(injection ag with f1_ f2_ f3_;have f4_:=f1_.symm;have f5_:=f3_.symm;clear f1_ f2_ f3_;subst f4_;subst f5_))
 refine hK.out _ _ ⟨(blk_cell c.out 0).trans rfl,(blk_cell c.out 1).trans rfl,(blk_cell c.out 2).trans rfl,(blk_cell d.out 0).trans rfl,(blk_cell d.out 1).trans rfl,(blk_cell d.out 2).trans rfl⟩ (fun hHeld=>?_)
 clear hK K
 refine norm_ (a':=?_) ?_ ?_
 rotate_left
 ·show Act.put _ (some 20) _=_
  simp only[Act.put,List.setIfInBounds_toArray,List.set_cons_zero,List.set_cons_succ,i64_w,i32_w]
  rfl
 refine zpure_ (i:=10) (N:=some 22) #[true,true,true,true,true,true,true,true,true,true,true,true,true,true,true,true,true,true,true,false,true,false,false,false] (any_of HT_.out (by kernel_rfl)) ?_
 refine one_ (i:=19) (N:=some 31) #[true,true,true,true,true,true,true,true,true,true,true,true,true,true,true,true,true,true,true,true,true,false,false,false] rfl rfl (one_of HT_.out (by kernel_rfl)) (by decide) (fun K hK=>?_)
 refine goes_ Try.func73 (by kernel_rfl) rfl #[.slice U l1_1.length W,.int .i64 (wrap64 (B-(F)))] (by rfl) rfl rfl (by (try simp only[List.map_toArray,List.map_cons,List.map_nil]);first|done|(simp only[X];rfl)|rfl|(simp only[List.length_drop,List.length_take];rfl)) ?_
 with_reducible refine (grottoref02_Up.calls k _ _ l1_1 (wrap64 (B-(F))) Q _ ?side1 ?side2 A5.out).mono ?_
 (case side1=>repeat (first|exact (Kd.C_below ak.out HB.out)|(with_reducible refine Kd.C_alloc ?_ _)|(with_reducible refine Kd.C_drewN ?_ _)|(with_reducible refine Kd.C_drew ?_)))
 (case side2=>exact al.out)
 rintro e aa ⟨v263,rfl,ho0,hb⟩
 refine⟨_,rfl,?_⟩
 have ad:=Aside0.mk (Kd.V_lower (Kd.V_mono (ok':=fun k_=>(w.heap.size≤k_)∧k_≠G∧k_≠I∧k_≠a∧k_≠b) ho0 (fun k_ hk_=>⟨(Nat.le_trans (below_size (zb HB)) hk_),(Kd.freshB (g:=G) (o:=.cells #[.int .i64 D,.slice R l0_1.length T,.int .i64 z] 73 (0,0)) (zk c) k_ hk_),(Kd.freshB (g:=I) (o:=.cells #[.int .i64 E,.slice U l1_1.length W,.int .i64 B] 73 (0,0)) (zk d) k_ hk_),(Kd.freshB (g:=a) (o:=.cells #[.int .i64 0,.slice none 0 0,.int .i64 0] 73 (0,0)) (zk s) k_ hk_),(Kd.freshB (g:=b) (o:=.cells #[.int .i64 0,.slice none 0 0,.int .i64 0] 73 (0,0)) (zk u) k_ hk_)⟩)) (below_size (zb HB)))
 replace Y:=Aside0.mk (Kd.V_below (by (with_reducible repeat (first|apply Kd.V_alloc|apply Kd.V_drewN|apply Kd.V_drew));exact Y.out) hb)
 obtain⟨c,d,s,u,HB⟩:=zu4 c d s u HB hb
 try clear hb
 (try clear ho0)
 obtain⟨ae,af,ah⟩:=Kd.V_slice ad.out
 (first|subst ah|(injection ah with f1_ f2_ f3_;have f4_:=f1_.symm;have f5_:=f3_.symm;clear f1_ f2_ f3_;subst f4_;subst f5_))
 refine hK.out _ _ ⟨(blk_cell c.out 0).trans rfl,(blk_cell c.out 1).trans rfl,(blk_cell c.out 2).trans rfl,(blk_cell d.out 0).trans rfl,(blk_cell d.out 1).trans rfl,(blk_cell d.out 2).trans rfl⟩ (fun hHeld=>?_)
 clear hK K
 refine norm_ (a':=?_) ?_ ?_
 rotate_left
 ·show Act.put _ (some 31) _=_
  simp only[Act.put,List.setIfInBounds_toArray,List.set_cons_zero,List.set_cons_succ,i64_w,i32_w]
  rfl
 refine zpure_ (i:=21) (N:=some 33) #[true,true,true,true,true,true,true,true,true,true,true,true,true,true,true,true,true,true,true,true,true,true,false,false] (any_of HT_.out (by kernel_rfl)) ?_
 refine one_ (i:=22) (N:=none) #[true,true,true,true,true,true,true,true,true,true,true,true,true,true,true,true,true,true,true,true,true,true,true,false] rfl rfl (one_of HT_.out (by kernel_rfl)) (by decide) (fun K hK=>?_)
 have hs22:aa.cell? ⟨a,0,none⟩=some (.int .i64 0):=(blk_cell s.out 0).trans rfl
 have hfs22:=blk_frozen s.out 0
 have aB:=j.out
 have aC:=l.out
 have aD:=y.out
 have aE:=J.out
 have aF:=L.out
 have aG:=v.out
 have hs23:aa.cell? ⟨a,1,none⟩=some (.slice none 0 0):=(blk_cell s.out 1).trans rfl
 have hfs23:=blk_frozen s.out 1
 have aH:=j.out
 have aI:=l.out
 have aJ:=y.out
 have aK:=J.out
 have aL:=L.out
 have aM:=v.out
 have hs24:aa.cell? ⟨a,2,none⟩=some (.int .i64 0):=(blk_cell s.out 2).trans rfl
 have hfs24:=blk_frozen s.out 2
 have aN:=j.out
 have aO:=l.out
 have aP:=y.out
 have aQ:=J.out
 have aR:=L.out
 have aS:=v.out
 refine skip_ (w1:=?_) (by rfl) rfl ?_ ?_
 rotate_left
 ·go_simp
  rfl
 refine hK.out _ _ ⟨((cell_far (p:=⟨a,_,none⟩) j.out _).trans (((cell_far (p:=⟨a,_,none⟩) j.out _).trans (((cell_far (p:=⟨a,_,none⟩) j.out _).trans (hHeld.1)))))),((cell_far (p:=⟨a,_,none⟩) j.out _).trans (((cell_far (p:=⟨a,_,none⟩) j.out _).trans (((cell_far (p:=⟨a,_,none⟩) j.out _).trans (hHeld.2.1)))))),((cell_far (p:=⟨a,_,none⟩) j.out _).trans (((cell_far (p:=⟨a,_,none⟩) j.out _).trans (((cell_far (p:=⟨a,_,none⟩) j.out _).trans (hHeld.2.2.1)))))),((cell_far (p:=⟨a,_,none⟩) l.out _).trans (((cell_far (p:=⟨a,_,none⟩) l.out _).trans (((cell_far (p:=⟨a,_,none⟩) l.out _).trans (hHeld.2.2.2.1)))))),((cell_far (p:=⟨a,_,none⟩) l.out _).trans (((cell_far (p:=⟨a,_,none⟩) l.out _).trans (((cell_far (p:=⟨a,_,none⟩) l.out _).trans (hHeld.2.2.2.2.1)))))),((cell_far (p:=⟨a,_,none⟩) l.out _).trans (((cell_far (p:=⟨a,_,none⟩) l.out _).trans (((cell_far (p:=⟨a,_,none⟩) l.out _).trans (hHeld.2.2.2.2.2))))))⟩ (fun hHeld=>?_)
 clear hK K
 refine one_ (i:=23) (N:=none) #[true,true,true,true,true,true,true,true,true,true,true,true,true,true,true,true,true,true,true,true,true,true,true,true] rfl rfl (one_of HT_.out (by kernel_rfl)) (by decide) (fun K hK=>?_)
 have hs25:aa.cell? ⟨b,0,none⟩=some (.int .i64 0):=(blk_cell u.out 0).trans rfl
 have hfs25:=blk_frozen u.out 0
 have aT:=m.out
 have aU:=q.out
 have aV:=v.out
 have aW:=M.out
 have aX:=O.out
 have aY:=y.out
 have hs26:aa.cell? ⟨b,1,none⟩=some (.slice none 0 0):=(blk_cell u.out 1).trans rfl
 have hfs26:=blk_frozen u.out 1
 have aZ:=m.out
 have a0:=q.out
 have a1:=v.out
 have a2:=M.out
 have a3:=O.out
 have a4:=y.out
 have hs27:aa.cell? ⟨b,2,none⟩=some (.int .i64 0):=(blk_cell u.out 2).trans rfl
 have hfs27:=blk_frozen u.out 2
 have a5:=m.out
 have a6:=q.out
 have a7:=v.out
 have a8:=M.out
 have a9:=O.out
 have ba:=y.out
 refine skip_ (w1:=?_) (by rfl) rfl ?_ ?_
 rotate_left
 ·go_simp
  rfl
 refine hK.out _ _ ⟨((cell_far (p:=⟨b,_,none⟩) m.out _).trans (((cell_far (p:=⟨b,_,none⟩) m.out _).trans (((cell_far (p:=⟨b,_,none⟩) m.out _).trans (hHeld.1)))))),((cell_far (p:=⟨b,_,none⟩) m.out _).trans (((cell_far (p:=⟨b,_,none⟩) m.out _).trans (((cell_far (p:=⟨b,_,none⟩) m.out _).trans (hHeld.2.1)))))),((cell_far (p:=⟨b,_,none⟩) m.out _).trans (((cell_far (p:=⟨b,_,none⟩) m.out _).trans (((cell_far (p:=⟨b,_,none⟩) m.out _).trans (hHeld.2.2.1)))))),((cell_far (p:=⟨b,_,none⟩) q.out _).trans (((cell_far (p:=⟨b,_,none⟩) q.out _).trans (((cell_far (p:=⟨b,_,none⟩) q.out _).trans (hHeld.2.2.2.1)))))),((cell_far (p:=⟨b,_,none⟩) q.out _).trans (((cell_far (p:=⟨b,_,none⟩) q.out _).trans (((cell_far (p:=⟨b,_,none⟩) q.out _).trans (hHeld.2.2.2.2.1)))))),((cell_far (p:=⟨b,_,none⟩) q.out _).trans (((cell_far (p:=⟨b,_,none⟩) q.out _).trans (((cell_far (p:=⟨b,_,none⟩) q.out _).trans (hHeld.2.2.2.2.2))))))⟩ (fun hHeld=>?_)
 clear hK K
 refine done_ (done_of HT_.out (by kernel_rfl)) ?_
 try go_wp2
 refine bodyPost_ret (results_cc rfl _ _ a b 73 73 #[.int .i64 D,.slice ab P.length ac,.int .i64 F] #[.int .i64 E,.slice ae Q.length af,.int .i64 F] (0,0) (0,0) _ _ rfl (zkp s) Try.underlying73 rfl (by kernel_rfl) rfl (zkp u) Try.underlying73 rfl (by kernel_rfl)) rfl ?_
 exact⟨_,_,by first|rfl|(simp[errW_none,errW_some] <;> rfl)|(simp only[←X];first|rfl|(simp[errW_none,errW_some] <;> rfl))|(simp[*,errW_none,errW_some] <;> rfl),by (with_reducible repeat (first|apply Kd.V_alloc|apply Kd.V_drewN|apply Kd.V_drew));exact Kd.V_mono (Kd.V_far (p:=⟨b,2,none⟩) (Kd.V_far (p:=⟨b,1,none⟩) (Kd.V_far (p:=⟨b,0,none⟩) (Kd.V_far (p:=⟨a,2,none⟩) (Kd.V_far (p:=⟨a,1,none⟩) (Kd.V_far (p:=⟨a,0,none⟩) (Kd.V_mono (Kd.V_mono Y.out (fun k_ hk=>(⟨hk,hk.2.2.2.1⟩:_∧k_≠a))) (fun k_ hk=>(⟨hk,hk.1.2.2.2.2⟩:_∧k_≠b))) (fun _ hk=>hk.1.2) (.int .i64 D)) (fun _ hk=>hk.1.2) (.slice ab P.length ac)) (fun _ hk=>hk.1.2) (.int .i64 F)) (fun _ hk=>hk.2) (.int .i64 E)) (fun _ hk=>hk.2) (.slice ae Q.length af)) (fun _ hk=>hk.2) (.int .i64 F)) (fun _ hk=>hk.1.1.1),by (with_reducible repeat (first|apply Kd.V_alloc|apply Kd.V_drewN|apply Kd.V_drew));exact Kd.V_mono (Kd.V_far (p:=⟨b,2,none⟩) (Kd.V_far (p:=⟨b,1,none⟩) (Kd.V_far (p:=⟨b,0,none⟩) (Kd.V_far (p:=⟨a,2,none⟩) (Kd.V_far (p:=⟨a,1,none⟩) (Kd.V_far (p:=⟨a,0,none⟩) (Kd.V_mono (Kd.V_mono ad.out (fun k_ hk=>(⟨hk,hk.2.2.2.1⟩:_∧k_≠a))) (fun k_ hk=>(⟨hk,hk.1.2.2.2.2⟩:_∧k_≠b))) (fun _ hk=>hk.1.2) (.int .i64 D)) (fun _ hk=>hk.1.2) (.slice ab P.length ac)) (fun _ hk=>hk.1.2) (.int .i64 F)) (fun _ hk=>hk.2) (.int .i64 E)) (fun _ hk=>hk.2) (.slice ae Q.length af)) (fun _ hk=>hk.2) (.int .i64 F)) (fun _ hk=>hk.1.1.1),zb HB⟩

/-! ### grottoref03_exact: function 55 -/
def grottoref03_exact.f (k:Nat) (a0_0:Int) (a0_1:Bool) (a0_2:Int) (a0_3:Int):Option (Int×List Int×Int):=if a0_1=true then ((grottoref02_NatOf.f k a0_3).bind fun a=>(some ((-1),a,a0_2))) else ((grottoref02_NatOf.f k a0_3).bind fun b=>(some (1,b,a0_2)))
theorem grottoref03_exact.mono:∀ a0 a1 a2 a3 k,LeO (grottoref03_exact.f k a0 a1 a2 a3) (grottoref03_exact.f (k+1) a0 a1 a2 a3):=by
 intro a0 a1 a2 a3 k
 unfold grottoref03_exact.f
 repeat' first|(with_reducible first|apply grottoref02_NatOf.mono|exact LeO.refl _|exact LeO.none _|refine LeO.ite ?_ ?_|refine LeO.bind ?_ (fun _=>?_))|refine LeO.ite ?_ ?_|refine LeO.bind ?_ (fun _=>?_)
def grottoref03_exact.T4:Bool×List (List Nat×List Nat):=(true,[([],[]),([],[]),([1],[1]),([2],[2]),([],[]),([4],[4]),([0,3,5],[0,3,5]),([6,3,0,1,2,3,4,5,6],[6])])
def grottoref03_exact.B4:List Nat:=[0,0,2,6,0,16,63,127]
theorem grottoref03_exact.tab4:rtab .any (opsOf Try.f55 4)=grottoref03_exact.T4:=by kernel_rfl
theorem grottoref03_exact.bits4:waitsOk grottoref03_exact.T4.2 grottoref03_exact.B4=true:=by kernel_rfl
set_option maxHeartbeats 8000000 in
set_option maxRecDepth 100000 in
theorem grottoref03_exact.calls {k:Nat} {m:Int} {q:Bool} {j:Int} {l:Int} {r1:Int} {r2:List Int} {r3:Int} {w:World} (h:grottoref03_exact.f k m q j l=some (r1,r2,r3)) :
  Calls Try.prog 55 #[.agg #[.int .i64 m,.bool q,.int .i64 j,.int .u64 l]] w fun e w'=>∃ v1_:Value,e=.returned (.agg #[.int .i64 r1,v1_,.int .i64 r3])∧Kd.R (Kd.int .i64) 3 w' w.heap.size (fun _=>True) v1_ r2∧Below w.heap.size w w':=by
 have hu34:=Try.underlying34
 have hu73:=Try.underlying73
 have HB:=Aside0.mk (Below.refl w.heap.size w)
 have H:=h
 unfold grottoref03_exact.f at H
 clear h
 by_cases c2:q=true
 ·subst c2
  rw[if_pos rfl] at H
  obtain⟨s,A3,H⟩:=oB H
  simp only[Option.some.injEq,Prod.mk.injEq] at H
  obtain⟨rfl,rfl,rfl⟩:=H
  go_enter Try.func55,Try.ntmps55
  try go_wp2_with (first|((with_reducible refine gate_dst (N:=1) rfl ?_);refine zbox (N:=1) (cs:=#[.int .i64 m,.bool true,.int .i64 j,.int .u64 l]) (t:=34) ?_;intro g hg w4 hbox hb;have c:=Aside0.mk hbox;have G:=zge hg HB;have I:=zge hg HB;replace HB:=zbs HB hb;clear hb hbox hg)|((with_reducible refine gate_dst (N:=2) rfl ?_);refine zbox (N:=2) (cs:=#[.int .i64 0,.slice none 0 0,.int .i64 0]) (t:=73) ?_;intro b hg w5 hbox hb;have d:=Aside0.mk hbox;have J:=zge hg HB;have L:=zge hg HB;have a:=znl hg c;have o:=zng hg c;obtain⟨c,HB⟩:=zu1 c HB hb;clear hb hbox hg;obtain⟨aD,aE⟩:=z2 a;obtain⟨al,am,an,ao,ap,aq,ar,au⟩:=zc4 c))
  replace c:=Aside0.mk (blk_drew c.out)
  replace d:=Aside0.mk (blk_drew d.out)
  replace HB:=Aside0.mk (below_drew1 HB.out)
  refine start_ (n:=8) (S:=fun w'=>w'.cell? ⟨g,0,none⟩=some (.int .i64 m)∧w'.cell? ⟨g,1,none⟩=some (.bool true)∧w'.cell? ⟨g,2,none⟩=some (.int .i64 j)∧w'.cell? ⟨g,3,none⟩=some (.int .u64 l)) (ds:=[]) #[false,false,false,false,false,false,false,false] (by kernel_rfl) rfl rfl ⟨(blk_cell c.out 0).trans rfl,(blk_cell c.out 1).trans rfl,(blk_cell c.out 2).trans rfl,(blk_cell c.out 3).trans rfl⟩ (fun hHeld=>?_);refine with_tabW grottoref03_exact.tab4 grottoref03_exact.bits4 (fun HT_ HW_=>?_)
  generalize w5.drew=w8 at c d HB hHeld ⊢
  refine zpure_ (i:=0) (N:=some 6) #[true,false,false,false,false,false,false,false] (any_of HT_.out (by kernel_rfl)) ?_
  refine zpure_ (i:=1) (N:=some 7) #[true,true,false,false,false,false,false,false] (any_of HT_.out (by kernel_rfl)) ?_
  refine zpure_ (i:=4) (N:=some 10) #[true,true,false,false,true,false,false,false] (any_of HT_.out (by kernel_rfl)) ?_
  refine ztake_ (i:=2) (N:=some 8) #[true,true,true,false,true,false,false,false] rfl (take_ofW HT_.out HW_.out (by kernel_rfl)) hHeld (Or.inl ⟨by rfl,by rintro w' ⟨s0,s1,s2,s3⟩;go_simp;with_reducible rfl⟩) ?_
  refine ztake_ (i:=5) (N:=some 11) #[true,true,true,false,true,true,false,false] rfl (take_ofW HT_.out HW_.out (by kernel_rfl)) hHeld (Or.inl ⟨by rfl,by rintro w' ⟨s0,s1,s2,s3⟩;go_simp;with_reducible rfl⟩) ?_
  refine one_ (i:=3) (N:=some 9) #[true,true,true,true,true,true,false,false] rfl rfl (one_of HT_.out (by kernel_rfl)) (by decide) (fun K hK=>?_)
  refine goes_ Try.func72 (by kernel_rfl) rfl #[.int .u64 l] (by rfl) rfl rfl (by (try simp only[List.map_toArray,List.map_cons,List.map_nil]);first|done|rfl|(simp only[List.length_drop,List.length_take];rfl)) ?_
  with_reducible refine (grottoref02_NatOf.calls A3.out).mono ?_
  rintro e w9 ⟨v271,rfl,ho0,hb⟩
  refine⟨_,rfl,?_⟩
  have v:=Aside0.mk (Kd.R_lower ho0 (below_size (zb HB)))
  obtain⟨c,d,HB⟩:=zu2 c d HB hb
  try clear hb
  (try clear ho0)
  obtain⟨z,B,C⟩:=Kd.R_slice v.out
  (first|subst C|(injection C with f1_ f2_ f3_;have f4_:=f1_.symm;have f5_:=f3_.symm;clear f1_ f2_ f3_;subst f4_;subst f5_))
  refine hK.out _ _ ⟨(blk_cell c.out 0).trans rfl,(blk_cell c.out 1).trans rfl,(blk_cell c.out 2).trans rfl,(blk_cell c.out 3).trans rfl⟩ (fun hHeld=>?_)
  clear hK K
  refine norm_ (a':=?_) ?_ ?_
  rotate_left
  ·show Act.put _ (some 9) _=_
   simp only[Act.put,List.setIfInBounds_toArray,List.set_cons_zero,List.set_cons_succ,i64_w,i32_w]
   rfl
  refine zpure_ (i:=6) (N:=some 12) #[true,true,true,true,true,true,true,false] (any_of HT_.out (by kernel_rfl)) ?_
  refine one_ (i:=7) (N:=none) #[true,true,true,true,true,true,true,true] rfl rfl (one_of HT_.out (by kernel_rfl)) (by decide) (fun K hK=>?_)
  have hs11:w9.cell? ⟨b,0,none⟩=some (.int .i64 0):=(blk_cell d.out 0).trans rfl
  have hfs11:=blk_frozen d.out 0
  obtain⟨O,P⟩:=z2 a
  have hs12:w9.cell? ⟨b,1,none⟩=some (.slice none 0 0):=(blk_cell d.out 1).trans rfl
  have hfs12:=blk_frozen d.out 1
  obtain⟨Q,T⟩:=z2 a
  have hs13:w9.cell? ⟨b,2,none⟩=some (.int .i64 0):=(blk_cell d.out 2).trans rfl
  have hfs13:=blk_frozen d.out 2
  obtain⟨U,V⟩:=z2 a
  refine skip_ (w1:=?_) (by rfl) rfl ?_ ?_
  rotate_left
  ·go_simp
   rfl
  refine hK.out _ _ ⟨((cell_far (p:=⟨b,_,none⟩) a.out _).trans (((cell_far (p:=⟨b,_,none⟩) a.out _).trans (((cell_far (p:=⟨b,_,none⟩) a.out _).trans (hHeld.1)))))),((cell_far (p:=⟨b,_,none⟩) a.out _).trans (((cell_far (p:=⟨b,_,none⟩) a.out _).trans (((cell_far (p:=⟨b,_,none⟩) a.out _).trans (hHeld.2.1)))))),((cell_far (p:=⟨b,_,none⟩) a.out _).trans (((cell_far (p:=⟨b,_,none⟩) a.out _).trans (((cell_far (p:=⟨b,_,none⟩) a.out _).trans (hHeld.2.2.1)))))),((cell_far (p:=⟨b,_,none⟩) a.out _).trans (((cell_far (p:=⟨b,_,none⟩) a.out _).trans (((cell_far (p:=⟨b,_,none⟩) a.out _).trans (hHeld.2.2.2))))))⟩ (fun hHeld=>?_)
  clear hK K
  refine done_ (done_of HT_.out (by kernel_rfl)) ?_
  try go_wp2
  refine bodyPost_ret (results_cell_row rfl _ _ b 73 #[.int .i64 (-1),.slice z s.length B,.int .i64 j] (0,0) _ rfl (zkp d) Try.underlying73 rfl (by kernel_rfl)) rfl ?_
  exact⟨_,by first|rfl|(simp[errW_none,errW_some] <;> rfl)|(simp[*,errW_none,errW_some] <;> rfl),by (with_reducible repeat (first|apply Kd.R_alloc|apply Kd.R_drewN|apply Kd.R_drew));exact Kd.R_mono (Kd.R_far (p:=⟨b,2,none⟩) (Kd.R_far (p:=⟨b,1,none⟩) (Kd.R_far (p:=⟨b,0,none⟩) (Kd.R_types v.out d.out (by decide)) (fun _ hk=>hk.2) (.int .i64 (-1))) (fun _ hk=>hk.2) (.slice z s.length B)) (fun _ hk=>hk.2) (.int .i64 j)) (fun _ hk=>trivial),zb HB⟩
 replace c2:=Bool.eq_false_iff.mpr c2
 subst c2
 rw[if_neg nft] at H
 obtain⟨u,az,H⟩:=oB H
 simp only[Option.some.injEq,Prod.mk.injEq] at H
 obtain⟨rfl,rfl,rfl⟩:=H
 go_enter Try.func55,Try.ntmps55
 try go_wp2_with (first|((with_reducible refine gate_dst (N:=1) rfl ?_);refine zbox (N:=1) (cs:=#[.int .i64 m,.bool false,.int .i64 j,.int .u64 l]) (t:=34) ?_;intro g hg aH hbox hb;have c:=Aside0.mk hbox;have G:=zge hg HB;have I:=zge hg HB;replace HB:=zbs HB hb;clear hb hbox hg)|((with_reducible refine gate_dst (N:=2) rfl ?_);refine zbox (N:=2) (cs:=#[.int .i64 0,.slice none 0 0,.int .i64 0]) (t:=73) ?_;intro b hg aA hbox hb;have d:=Aside0.mk hbox;have J:=zge hg HB;have L:=zge hg HB;have a:=znl hg c;have o:=zng hg c;obtain⟨c,HB⟩:=zu1 c HB hb;clear hb hbox hg;obtain⟨aB,aC⟩:=z2 a;obtain⟨W,X,Y,Z,aa,ab,ac,ad⟩:=zc4 c))
 replace c:=Aside0.mk (blk_drew c.out)
 replace d:=Aside0.mk (blk_drew d.out)
 replace HB:=Aside0.mk (below_drew1 HB.out)
 refine start_ (n:=8) (S:=fun w'=>w'.cell? ⟨g,0,none⟩=some (.int .i64 m)∧w'.cell? ⟨g,1,none⟩=some (.bool false)∧w'.cell? ⟨g,2,none⟩=some (.int .i64 j)∧w'.cell? ⟨g,3,none⟩=some (.int .u64 l)) (ds:=[]) #[false,false,false,false,false,false,false,false] (by kernel_rfl) rfl rfl ⟨(blk_cell c.out 0).trans rfl,(blk_cell c.out 1).trans rfl,(blk_cell c.out 2).trans rfl,(blk_cell c.out 3).trans rfl⟩ (fun hHeld=>?_);refine with_tabW grottoref03_exact.tab4 grottoref03_exact.bits4 (fun HT_ HW_=>?_)
 generalize aA.drew=aI at c d HB hHeld ⊢
 refine zpure_ (i:=0) (N:=some 6) #[true,false,false,false,false,false,false,false] (any_of HT_.out (by kernel_rfl)) ?_
 refine zpure_ (i:=1) (N:=some 7) #[true,true,false,false,false,false,false,false] (any_of HT_.out (by kernel_rfl)) ?_
 refine zpure_ (i:=4) (N:=some 10) #[true,true,false,false,true,false,false,false] (any_of HT_.out (by kernel_rfl)) ?_
 refine ztake_ (i:=2) (N:=some 8) #[true,true,true,false,true,false,false,false] rfl (take_ofW HT_.out HW_.out (by kernel_rfl)) hHeld (Or.inl ⟨by rfl,by rintro w' ⟨s0,s1,s2,s3⟩;go_simp;with_reducible rfl⟩) ?_
 refine ztake_ (i:=5) (N:=some 11) #[true,true,true,false,true,true,false,false] rfl (take_ofW HT_.out HW_.out (by kernel_rfl)) hHeld (Or.inl ⟨by rfl,by rintro w' ⟨s0,s1,s2,s3⟩;go_simp;with_reducible rfl⟩) ?_
 refine one_ (i:=3) (N:=some 9) #[true,true,true,true,true,true,false,false] rfl rfl (one_of HT_.out (by kernel_rfl)) (by decide) (fun K hK=>?_)
 refine goes_ Try.func72 (by kernel_rfl) rfl #[.int .u64 l] (by rfl) rfl rfl (by (try simp only[List.map_toArray,List.map_cons,List.map_nil]);first|done|rfl|(simp only[List.length_drop,List.length_take];rfl)) ?_
 with_reducible refine (grottoref02_NatOf.calls az.out).mono ?_
 rintro e M ⟨v274,rfl,ho0,hb⟩
 refine⟨_,rfl,?_⟩
 have y:=Aside0.mk (Kd.R_lower ho0 (below_size (zb HB)))
 obtain⟨c,d,HB⟩:=zu2 c d HB hb
 try clear hb
 (try clear ho0)
 obtain⟨D,E,F⟩:=Kd.R_slice y.out
 (first|subst F|(injection F with f1_ f2_ f3_;have f4_:=f1_.symm;have f5_:=f3_.symm;clear f1_ f2_ f3_;subst f4_;subst f5_))
 refine hK.out _ _ ⟨(blk_cell c.out 0).trans rfl,(blk_cell c.out 1).trans rfl,(blk_cell c.out 2).trans rfl,(blk_cell c.out 3).trans rfl⟩ (fun hHeld=>?_)
 clear hK K
 refine norm_ (a':=?_) ?_ ?_
 rotate_left
 ·show Act.put _ (some 9) _=_
  simp only[Act.put,List.setIfInBounds_toArray,List.set_cons_zero,List.set_cons_succ,i64_w,i32_w]
  rfl
 refine zpure_ (i:=6) (N:=some 12) #[true,true,true,true,true,true,true,false] (any_of HT_.out (by kernel_rfl)) ?_
 refine one_ (i:=7) (N:=none) #[true,true,true,true,true,true,true,true] rfl rfl (one_of HT_.out (by kernel_rfl)) (by decide) (fun K hK=>?_)
 have hs22:M.cell? ⟨b,0,none⟩=some (.int .i64 0):=(blk_cell d.out 0).trans rfl
 have hfs22:=blk_frozen d.out 0
 obtain⟨ae,af⟩:=z2 a
 have hs23:M.cell? ⟨b,1,none⟩=some (.slice none 0 0):=(blk_cell d.out 1).trans rfl
 have hfs23:=blk_frozen d.out 1
 obtain⟨ag,ah⟩:=z2 a
 have hs24:M.cell? ⟨b,2,none⟩=some (.int .i64 0):=(blk_cell d.out 2).trans rfl
 have hfs24:=blk_frozen d.out 2
 obtain⟨ai,aj⟩:=z2 a
 refine skip_ (w1:=?_) (by rfl) rfl ?_ ?_
 rotate_left
 ·go_simp
  rfl
 refine hK.out _ _ ⟨((cell_far (p:=⟨b,_,none⟩) a.out _).trans (((cell_far (p:=⟨b,_,none⟩) a.out _).trans (((cell_far (p:=⟨b,_,none⟩) a.out _).trans (hHeld.1)))))),((cell_far (p:=⟨b,_,none⟩) a.out _).trans (((cell_far (p:=⟨b,_,none⟩) a.out _).trans (((cell_far (p:=⟨b,_,none⟩) a.out _).trans (hHeld.2.1)))))),((cell_far (p:=⟨b,_,none⟩) a.out _).trans (((cell_far (p:=⟨b,_,none⟩) a.out _).trans (((cell_far (p:=⟨b,_,none⟩) a.out _).trans (hHeld.2.2.1)))))),((cell_far (p:=⟨b,_,none⟩) a.out _).trans (((cell_far (p:=⟨b,_,none⟩) a.out _).trans (((cell_far (p:=⟨b,_,none⟩) a.out _).trans (hHeld.2.2.2))))))⟩ (fun hHeld=>?_)
 clear hK K
 refine done_ (done_of HT_.out (by kernel_rfl)) ?_
 try go_wp2
 refine bodyPost_ret (results_cell_row rfl _ _ b 73 #[.int .i64 1,.slice D u.length E,.int .i64 j] (0,0) _ rfl (zkp d) Try.underlying73 rfl (by kernel_rfl)) rfl ?_
 exact⟨_,by first|rfl|(simp[errW_none,errW_some] <;> rfl)|(simp[*,errW_none,errW_some] <;> rfl),by (with_reducible repeat (first|apply Kd.R_alloc|apply Kd.R_drewN|apply Kd.R_drew));exact Kd.R_mono (Kd.R_far (p:=⟨b,2,none⟩) (Kd.R_far (p:=⟨b,1,none⟩) (Kd.R_far (p:=⟨b,0,none⟩) (Kd.R_types y.out d.out (by decide)) (fun _ hk=>hk.2) (.int .i64 1)) (fun _ hk=>hk.2) (.slice D u.length E)) (fun _ hk=>hk.2) (.int .i64 j)) (fun _ hk=>trivial),zb HB⟩

/-! ### grottoref03_plus: function 64 -/
def grottoref03_plus.f (k:Nat) (a0_0:Int) (l0_1:List Int) (a0_2:Int) (a1_0:Int) (l1_1:List Int) (a1_2:Int):Option (Int×List Int×Int):=(grottoref03_alike.f k a0_0 l0_1 a0_2 a1_0 l1_1 a1_2).bind fun a=>(if a.1=a.2.2.2.1 then ((grottoref02_Plus.f k a.2.1 a.2.2.2.2.1).bind fun b=>(some (a.1,b,a.2.2.1))) else ((grottoref02_Cmp.f k a.2.1 a.2.2.2.2.1).bind fun c=>(if c≥0 then ((grottoref02_Minus.f k a.2.1 a.2.2.2.2.1).bind fun d=>(some (a.1,d,a.2.2.1))) else ((grottoref02_Minus.f k a.2.2.2.2.1 a.2.1).bind fun e=>(some (a.2.2.2.1,e,a.2.2.1))))))
theorem grottoref03_plus.mono:∀ a0 a1 a2 a3 a4 a5 k,LeO (grottoref03_plus.f k a0 a1 a2 a3 a4 a5) (grottoref03_plus.f (k+1) a0 a1 a2 a3 a4 a5):=by
 intro a0 a1 a2 a3 a4 a5 k
 unfold grottoref03_plus.f
 repeat' first|(with_reducible first|apply grottoref02_Cmp.mono|apply grottoref02_Minus.mono|apply grottoref02_Plus.mono|apply grottoref03_alike.mono|exact LeO.refl _|exact LeO.none _|refine LeO.ite ?_ ?_|refine LeO.bind ?_ (fun _=>?_))|refine LeO.ite ?_ ?_|refine LeO.bind ?_ (fun _=>?_)
def grottoref03_plus.T3:Bool×List (List Nat×List Nat):=(true,[([],[]),([0],[0]),([],[]),([2],[2]),([],[]),([4],[4]),([3,5],[3,5]),([],[]),([7],[7]),([1,6,8],[1,6,8]),([9,6,0,1,2,3,4,5,6,7,8,9],[9])])
def grottoref03_plus.B3:List Nat:=[0,1,0,4,0,16,60,0,128,511,1023]
theorem grottoref03_plus.tab3:rtab .any (opsOf Try.f64 3)=grottoref03_plus.T3:=by kernel_rfl
theorem grottoref03_plus.bits3:waitsOk grottoref03_plus.T3.2 grottoref03_plus.B3=true:=by kernel_rfl
def grottoref03_plus.T5:Bool×List (List Nat×List Nat):=(true,[([],[]),([0],[0]),([],[]),([2],[2]),([],[]),([4],[4]),([3,5],[3,5]),([],[]),([7],[7]),([1,6,8],[1,6,8]),([9,6,0,1,2,3,4,5,6,7,8,9],[9])])
def grottoref03_plus.B5:List Nat:=[0,1,0,4,0,16,60,0,128,511,1023]
theorem grottoref03_plus.tab5:rtab .any (opsOf Try.f64 5)=grottoref03_plus.T5:=by kernel_rfl
theorem grottoref03_plus.bits5:waitsOk grottoref03_plus.T5.2 grottoref03_plus.B5=true:=by kernel_rfl
def grottoref03_plus.T6:Bool×List (List Nat×List Nat):=(true,[([],[]),([0],[0]),([],[]),([2],[2]),([],[]),([4],[4]),([3,5],[3,5]),([],[]),([7],[7]),([1,6,8],[1,6,8]),([9,6,0,1,2,3,4,5,6,7,8,9],[9])])
def grottoref03_plus.B6:List Nat:=[0,1,0,4,0,16,60,0,128,511,1023]
theorem grottoref03_plus.tab6:rtab .any (opsOf Try.f64 6)=grottoref03_plus.T6:=by kernel_rfl
theorem grottoref03_plus.bits6:waitsOk grottoref03_plus.T6.2 grottoref03_plus.B6=true:=by kernel_rfl
set_option maxHeartbeats 8000000 in
set_option maxRecDepth 100000 in
theorem grottoref03_plus.calls (k:Nat) (L:Int) (R:Option Addr) (T:Nat) (l0_1:List Int) (M:Int) (O:Int) (U:Option Addr) (W:Nat) (l1_1:List Int) (P:Int) (r1:Int) (r2:List Int) (r3:Int) (w:World) (hr0_1:Kd.C (Kd.int .i64) w R l0_1.length l0_1) (hc0_1:l0_1.length≤T) (hr1_1:Kd.C (Kd.int .i64) w U l1_1.length l1_1) (hc1_1:l1_1.length≤W) (h:grottoref03_plus.f k L l0_1 M O l1_1 P=some (r1,r2,r3)) :
  Calls Try.prog 64 #[.agg #[.int .i64 L,.slice R l0_1.length T,.int .i64 M],.agg #[.int .i64 O,.slice U l1_1.length W,.int .i64 P]] w fun e w'=>∃ v1_:Value,e=.returned (.agg #[.int .i64 r1,v1_,.int .i64 r3])∧Kd.V (Kd.int .i64) 3 w' w.heap.size (fun k_=>(w.heap.size≤k_)) v1_ r2∧Below w.heap.size w w':=by
 have hu73:=Try.underlying73
 have ao:=Aside0.mk hr0_1
 have ap:=Aside0.mk hc0_1
 clear hr0_1 hc0_1
 have aq:=Aside0.mk hr1_1
 have ar:=Aside0.mk hc1_1
 clear hr1_1 hc1_1
 have HB:=Aside0.mk (Below.refl w.heap.size w)
 have H:=h
 unfold grottoref03_plus.f at H
 clear h
 obtain⟨⟨D,y,B,E,z,I⟩,A3,H⟩:=oB H
 try dsimp only at H
 by_cases c4:D=E
 ·rw[if_pos c4] at H
  obtain⟨aT,aU⟩:=zt c4
  clear c4
  obtain⟨al,A5,H⟩:=oB H
  simp only[Option.some.injEq,Prod.mk.injEq] at H
  obtain⟨rfl,rfl,rfl⟩:=H
  go_enter Try.func64,Try.ntmps64
  try go_wp2_with (first|((with_reducible refine gate_dst (N:=2) rfl ?_);refine zbox (N:=2) (cs:=#[.int .i64 L,.slice R l0_1.length T,.int .i64 M]) (t:=73) ?_;intro b hg w6 hbox hb;have j:=Aside0.mk hbox;have aw:=zge hg HB;have ax:=zge hg HB;replace HB:=zbs HB hb;clear hb hbox hg)|((with_reducible refine gate_dst (N:=3) rfl ?_);refine zbox (N:=3) (cs:=#[.int .i64 O,.slice U l1_1.length W,.int .i64 P]) (t:=73) ?_;intro d hg w7 hbox hb;have q:=Aside0.mk hbox;have ay:=zge hg HB;have az:=zge hg HB;have Q:=znl hg j;have ak:=zng hg j;obtain⟨j,HB⟩:=zu1 j HB hb;clear hb hbox hg)|((with_reducible refine gate_dst (N:=4) rfl ?_);refine zbox (N:=4) (cs:=#[.int .i64 0,.slice none 0 0,.int .i64 0]) (t:=73) ?_;intro a hg w8 hbox hb;have s:=Aside0.mk hbox;have aA:=zge hg HB;have aB:=zge hg HB;have l:=znl hg j;have F:=zng hg j;have m:=znl hg q;have G:=zng hg q;obtain⟨j,q,HB⟩:=zu2 j q HB hb;clear hb hbox hg;obtain⟨de,df⟩:=z2 Q;obtain⟨cS,cT⟩:=z2 l;obtain⟨aV,aW,aX,aY,aZ,a0⟩:=zc3 j;obtain⟨cU,cV⟩:=z2 m;obtain⟨a1,a2,a3,a4,a5,a6⟩:=zc3 q)|((with_reducible refine gate_callee (f:=54) rfl ?_);refine zgo (some 8) Try.func54 #[.agg #[.int .i64 L,.slice R l0_1.length T,.int .i64 M],.agg #[.int .i64 O,.slice U l1_1.length W,.int .i64 P]] ?_;(with_reducible refine (grottoref03_alike.calls k L _ _ l0_1 M O _ _ l1_1 P D y B E z I _ ?side1 ?side2 ?side3 ?side4 A3.out).mono ?_);(case side1=>repeat (first|exact (Kd.C_below ao.out HB.out)|(with_reducible refine Kd.C_alloc ?_ _)|(with_reducible refine Kd.C_drewN ?_ _)|(with_reducible refine Kd.C_drew ?_)));(case side2=>exact ap.out);(case side3=>repeat (first|exact (Kd.C_below aq.out HB.out)|(with_reducible refine Kd.C_alloc ?_ _)|(with_reducible refine Kd.C_drewN ?_ _)|(with_reducible refine Kd.C_drew ?_)));(case side4=>exact ar.out);rintro e au ⟨v591,v596,rfl,ho0,ho1,hb⟩;refine⟨_,rfl,?_⟩;have u:=Aside0.mk (Kd.V_lower (Kd.V_mono (ok':=fun k_=>(w.heap.size≤k_)∧k_≠b∧k_≠d∧k_≠a) ho0 (fun k_ hk_=>⟨(Nat.le_trans (below_size (zb HB)) hk_),(Kd.freshB (g:=b) (o:=.cells #[.int .i64 L,.slice R l0_1.length T,.int .i64 M] 73 (0,0)) (zk j) k_ hk_),(Kd.freshB (g:=d) (o:=.cells #[.int .i64 O,.slice U l1_1.length W,.int .i64 P] 73 (0,0)) (zk q) k_ hk_),(Kd.freshB (g:=a) (o:=.cells #[.int .i64 0,.slice none 0 0,.int .i64 0] 73 (0,0)) (zk s) k_ hk_)⟩)) (below_size (zb HB)));have v:=Aside0.mk (Kd.V_lower (Kd.V_mono (ok':=fun k_=>(w.heap.size≤k_)∧k_≠b∧k_≠d∧k_≠a) ho1 (fun k_ hk_=>⟨(Nat.le_trans (below_size (zb HB)) hk_),(Kd.freshB (g:=b) (o:=.cells #[.int .i64 L,.slice R l0_1.length T,.int .i64 M] 73 (0,0)) (zk j) k_ hk_),(Kd.freshB (g:=d) (o:=.cells #[.int .i64 O,.slice U l1_1.length W,.int .i64 P] 73 (0,0)) (zk q) k_ hk_),(Kd.freshB (g:=a) (o:=.cells #[.int .i64 0,.slice none 0 0,.int .i64 0] 73 (0,0)) (zk s) k_ hk_)⟩)) (below_size (zb HB)));obtain⟨j,q,s,HB⟩:=zu3 j q s HB hb;clear hb;(try clear ho0);(try clear ho1);obtain⟨a7,a8,a9,ba,bb,bc⟩:=zc3 j;obtain⟨X,Y,bd⟩:=Kd.V_slice u.out;subst bd;obtain⟨be,bf,bg,bh,bi,bj⟩:=zc3 q;obtain⟨Z,aa,bk⟩:=Kd.V_slice v.out;subst bk))
  have n0_:Aside0 (Kd.V (Kd.int .i64) 3 ((((((au.setCell ⟨b,0,none⟩ (.int .i64 D)).setCell ⟨b,1,none⟩ (.slice X y.length Y)).setCell ⟨b,2,none⟩ (.int .i64 B)).setCell ⟨d,0,none⟩ (.int .i64 E)).setCell ⟨d,1,none⟩ (.slice Z z.length aa)).setCell ⟨d,2,none⟩ (.int .i64 I)) w.heap.size (fun k_=>(w.heap.size≤k_)∧k_≠b∧k_≠d∧k_≠a) (.slice X y.length Y) y):=⟨by (with_reducible repeat (first|apply Kd.V_alloc|apply Kd.V_drewN|apply Kd.V_drew));exact Kd.V_mono (Kd.V_far (p:=⟨d,2,none⟩) (Kd.V_far (p:=⟨d,1,none⟩) (Kd.V_far (p:=⟨d,0,none⟩) (Kd.V_far (p:=⟨b,2,none⟩) (Kd.V_far (p:=⟨b,1,none⟩) (Kd.V_far (p:=⟨b,0,none⟩) (Kd.V_mono (Kd.V_mono u.out (fun k_ hk=>(⟨hk,hk.2.1⟩:_∧k_≠b))) (fun k_ hk=>(⟨hk,hk.1.2.2.1⟩:_∧k_≠d))) (fun _ hk=>hk.1.2) (.int .i64 D)) (fun _ hk=>hk.1.2) (.slice X y.length Y)) (fun _ hk=>hk.1.2) (.int .i64 B)) (fun _ hk=>hk.2) (.int .i64 E)) (fun _ hk=>hk.2) (.slice Z z.length aa)) (fun _ hk=>hk.2) (.int .i64 I)) (fun _ hk=>⟨hk.1.1.1,⟨hk.1.1.2.1,⟨hk.1.1.2.2.1,hk.1.1.2.2.2⟩⟩⟩)⟩
  have n1_:Aside0 (Kd.V (Kd.int .i64) 3 ((((((au.setCell ⟨b,0,none⟩ (.int .i64 D)).setCell ⟨b,1,none⟩ (.slice X y.length Y)).setCell ⟨b,2,none⟩ (.int .i64 B)).setCell ⟨d,0,none⟩ (.int .i64 E)).setCell ⟨d,1,none⟩ (.slice Z z.length aa)).setCell ⟨d,2,none⟩ (.int .i64 I)) w.heap.size (fun k_=>(w.heap.size≤k_)∧k_≠b∧k_≠d∧k_≠a) (.slice Z z.length aa) z):=⟨by (with_reducible repeat (first|apply Kd.V_alloc|apply Kd.V_drewN|apply Kd.V_drew));exact Kd.V_mono (Kd.V_far (p:=⟨d,2,none⟩) (Kd.V_far (p:=⟨d,1,none⟩) (Kd.V_far (p:=⟨d,0,none⟩) (Kd.V_far (p:=⟨b,2,none⟩) (Kd.V_far (p:=⟨b,1,none⟩) (Kd.V_far (p:=⟨b,0,none⟩) (Kd.V_mono (Kd.V_mono v.out (fun k_ hk=>(⟨hk,hk.2.1⟩:_∧k_≠b))) (fun k_ hk=>(⟨hk,hk.1.2.2.1⟩:_∧k_≠d))) (fun _ hk=>hk.1.2) (.int .i64 D)) (fun _ hk=>hk.1.2) (.slice X y.length Y)) (fun _ hk=>hk.1.2) (.int .i64 B)) (fun _ hk=>hk.2) (.int .i64 E)) (fun _ hk=>hk.2) (.slice Z z.length aa)) (fun _ hk=>hk.2) (.int .i64 I)) (fun _ hk=>⟨hk.1.1.1,⟨hk.1.1.2.1,⟨hk.1.1.2.2.1,hk.1.1.2.2.2⟩⟩⟩)⟩
  have n2_:Aside0 (((((((au.setCell ⟨b,0,none⟩ (.int .i64 D)).setCell ⟨b,1,none⟩ (.slice X y.length Y)).setCell ⟨b,2,none⟩ (.int .i64 B)).setCell ⟨d,0,none⟩ (.int .i64 E)).setCell ⟨d,1,none⟩ (.slice Z z.length aa)).setCell ⟨d,2,none⟩ (.int .i64 I)).heap[b]?=some (.cells #[.int .i64 D,.slice X y.length Y,.int .i64 B] 73 (0,0))):=⟨zkp j⟩
  have n3_:Aside0 (((((((au.setCell ⟨b,0,none⟩ (.int .i64 D)).setCell ⟨b,1,none⟩ (.slice X y.length Y)).setCell ⟨b,2,none⟩ (.int .i64 B)).setCell ⟨d,0,none⟩ (.int .i64 E)).setCell ⟨d,1,none⟩ (.slice Z z.length aa)).setCell ⟨d,2,none⟩ (.int .i64 I)).heap[d]?=some (.cells #[.int .i64 E,.slice Z z.length aa,.int .i64 I] 73 (0,0))):=⟨zkp q⟩
  have n4_:Aside0 (((((((au.setCell ⟨b,0,none⟩ (.int .i64 D)).setCell ⟨b,1,none⟩ (.slice X y.length Y)).setCell ⟨b,2,none⟩ (.int .i64 B)).setCell ⟨d,0,none⟩ (.int .i64 E)).setCell ⟨d,1,none⟩ (.slice Z z.length aa)).setCell ⟨d,2,none⟩ (.int .i64 I)).heap[a]?=some (.cells #[.int .i64 0,.slice none 0 0,.int .i64 0] 73 (0,0))):=⟨zk s⟩
  have n5_:Aside0 (Below w.heap.size w ((((((au.setCell ⟨b,0,none⟩ (.int .i64 D)).setCell ⟨b,1,none⟩ (.slice X y.length Y)).setCell ⟨b,2,none⟩ (.int .i64 B)).setCell ⟨d,0,none⟩ (.int .i64 E)).setCell ⟨d,1,none⟩ (.slice Z z.length aa)).setCell ⟨d,2,none⟩ (.int .i64 I))):=⟨zb HB⟩
  (try clear u)
  (try clear v)
  (try clear j)
  (try clear q)
  (try clear s)
  (try clear HB)
  generalize ((((((au.setCell ⟨b,0,none⟩ (.int .i64 D)).setCell ⟨b,1,none⟩ (.slice X y.length Y)).setCell ⟨b,2,none⟩ (.int .i64 B)).setCell ⟨d,0,none⟩ (.int .i64 E)).setCell ⟨d,1,none⟩ (.slice Z z.length aa)).setCell ⟨d,2,none⟩ (.int .i64 I))=cW at n0_ n1_ n2_ n3_ n4_ n5_ ⊢
  have u:=n0_
  have v:=n1_
  have j:=n2_
  have q:=n3_
  have s:=n4_
  have HB:=n5_
  clear n0_ n1_ n2_ n3_ n4_ n5_
  replace u:=Aside0.mk (Kd.V_drew u.out)
  replace v:=Aside0.mk (Kd.V_drew v.out)
  replace j:=Aside0.mk (blk_drew j.out)
  replace q:=Aside0.mk (blk_drew q.out)
  replace s:=Aside0.mk (blk_drew s.out)
  replace HB:=Aside0.mk (below_drew1 HB.out)
  refine start_ (n:=11) (S:=fun w'=>w'.cell? ⟨b,0,none⟩=some (.int .i64 D)∧w'.cell? ⟨b,1,none⟩=some (.slice X y.length Y)∧w'.cell? ⟨b,2,none⟩=some (.int .i64 B)∧w'.cell? ⟨d,0,none⟩=some (.int .i64 E)∧w'.cell? ⟨d,1,none⟩=some (.slice Z z.length aa)∧w'.cell? ⟨d,2,none⟩=some (.int .i64 I)) (ds:=[]) #[false,false,false,false,false,false,false,false,false,false,false] (by kernel_rfl) rfl rfl ⟨(blk_cell j.out 0).trans rfl,(blk_cell j.out 1).trans rfl,(blk_cell j.out 2).trans rfl,(blk_cell q.out 0).trans rfl,(blk_cell q.out 1).trans rfl,(blk_cell q.out 2).trans rfl⟩ (fun hHeld=>?_);refine with_tabW grottoref03_plus.tab3 grottoref03_plus.bits3 (fun HT_ HW_=>?_)
  generalize cW.drew=dh at u v j q s HB hHeld ⊢
  refine zpure_ (i:=0) (N:=some 16) #[true,false,false,false,false,false,false,false,false,false,false] (any_of HT_.out (by kernel_rfl)) ?_
  refine zpure_ (i:=2) (N:=some 18) #[true,false,true,false,false,false,false,false,false,false,false] (any_of HT_.out (by kernel_rfl)) ?_
  refine zpure_ (i:=4) (N:=some 20) #[true,false,true,false,true,false,false,false,false,false,false] (any_of HT_.out (by kernel_rfl)) ?_
  refine zpure_ (i:=7) (N:=some 23) #[true,false,true,false,true,false,false,true,false,false,false] (any_of HT_.out (by kernel_rfl)) ?_
  refine ztake_ (i:=1) (N:=some 17) #[true,true,true,false,true,false,false,true,false,false,false] rfl (take_ofW HT_.out HW_.out (by kernel_rfl)) hHeld (Or.inl ⟨by rfl,by rintro w' ⟨s0,s1,s2,s3,s4,s5⟩;go_simp;with_reducible rfl⟩) ?_
  refine ztake_ (i:=3) (N:=some 19) #[true,true,true,true,true,false,false,true,false,false,false] rfl (take_ofW HT_.out HW_.out (by kernel_rfl)) hHeld (Or.inl ⟨by rfl,by rintro w' ⟨s0,s1,s2,s3,s4,s5⟩;go_simp;with_reducible rfl⟩) ?_
  refine ztake_ (i:=5) (N:=some 21) #[true,true,true,true,true,true,false,true,false,false,false] rfl (take_ofW HT_.out HW_.out (by kernel_rfl)) hHeld (Or.inl ⟨by rfl,by rintro w' ⟨s0,s1,s2,s3,s4,s5⟩;go_simp;with_reducible rfl⟩) ?_
  refine ztake_ (i:=8) (N:=some 24) #[true,true,true,true,true,true,false,true,true,false,false] rfl (take_ofW HT_.out HW_.out (by kernel_rfl)) hHeld (Or.inl ⟨by rfl,by rintro w' ⟨s0,s1,s2,s3,s4,s5⟩;go_simp;with_reducible rfl⟩) ?_
  refine one_ (i:=6) (N:=some 22) #[true,true,true,true,true,true,true,true,true,false,false] rfl rfl (one_of HT_.out (by kernel_rfl)) (by decide) (fun K hK=>?_)
  refine goes_ Try.func74 (by kernel_rfl) rfl #[.slice X y.length Y,.slice Z z.length aa] (by rfl) rfl rfl (by (try simp only[List.map_toArray,List.map_cons,List.map_nil]);first|done|rfl|(simp only[List.length_drop,List.length_take];rfl)) ?_
  with_reducible refine (grottoref02_Plus.calls k _ _ y _ _ z al _ ?side1 ?side2 ?side3 ?side4 A5.out).mono ?_
  (case side1=>repeat (first|exact (Kd.V_reads' u.out).2.2|(with_reducible refine Kd.C_alloc ?_ _)|(with_reducible refine Kd.C_drewN ?_ _)|(with_reducible refine Kd.C_drew ?_)))
  (case side2=>exact (Kd.V_reads' u.out).2.1)
  (case side3=>repeat (first|exact (Kd.V_reads' v.out).2.2|(with_reducible refine Kd.C_alloc ?_ _)|(with_reducible refine Kd.C_drewN ?_ _)|(with_reducible refine Kd.C_drew ?_)))
  (case side4=>exact (Kd.V_reads' v.out).2.1)
  rintro e aO ⟨v600,rfl,ho0,hb⟩
  refine⟨_,rfl,?_⟩
  have aC:=Aside0.mk (Kd.V_lower (Kd.V_mono (ok':=fun k_=>(w.heap.size≤k_)∧k_≠b∧k_≠d∧k_≠a) ho0 (fun k_ hk_=>⟨(Nat.le_trans (below_size (zb HB)) hk_),(Kd.freshB (g:=b) (o:=.cells #[.int .i64 D,.slice X y.length Y,.int .i64 B] 73 (0,0)) (zk j) k_ hk_),(Kd.freshB (g:=d) (o:=.cells #[.int .i64 E,.slice Z z.length aa,.int .i64 I] 73 (0,0)) (zk q) k_ hk_),(Kd.freshB (g:=a) (o:=.cells #[.int .i64 0,.slice none 0 0,.int .i64 0] 73 (0,0)) (zk s) k_ hk_)⟩)) (below_size (zb HB)))
  replace u:=Aside0.mk (Kd.V_below (by (with_reducible repeat (first|apply Kd.V_alloc|apply Kd.V_drewN|apply Kd.V_drew));exact u.out) hb)
  replace v:=Aside0.mk (Kd.V_below (by (with_reducible repeat (first|apply Kd.V_alloc|apply Kd.V_drewN|apply Kd.V_drew));exact v.out) hb)
  obtain⟨j,q,s,HB⟩:=zu3 j q s HB hb
  try clear hb
  (try clear ho0)
  obtain⟨aF,aG,aH⟩:=Kd.V_slice aC.out
  (first|subst aH|(injection aH with f1_ f2_ f3_;have f4_:=f1_.symm;have f5_:=f3_.symm;clear f1_ f2_ f3_;subst f4_;subst f5_))
  refine hK.out _ _ ⟨(blk_cell j.out 0).trans rfl,(blk_cell j.out 1).trans rfl,(blk_cell j.out 2).trans rfl,(blk_cell q.out 0).trans rfl,(blk_cell q.out 1).trans rfl,(blk_cell q.out 2).trans rfl⟩ (fun hHeld=>?_)
  clear hK K
  refine norm_ (a':=?_) ?_ ?_
  rotate_left
  ·show Act.put _ (some 22) _=_
   simp only[Act.put,List.setIfInBounds_toArray,List.set_cons_zero,List.set_cons_succ,i64_w,i32_w]
   rfl
  refine zpure_ (i:=9) (N:=some 25) #[true,true,true,true,true,true,true,true,true,true,false] (any_of HT_.out (by kernel_rfl)) ?_
  refine one_ (i:=10) (N:=none) #[true,true,true,true,true,true,true,true,true,true,true] rfl rfl (one_of HT_.out (by kernel_rfl)) (by decide) (fun K hK=>?_)
  have hs23:aO.cell? ⟨a,0,none⟩=some (.int .i64 0):=(blk_cell s.out 0).trans rfl
  have hfs23:=blk_frozen s.out 0
  have bl:=l.out
  have bm:=m.out
  have bn:=F.out
  have bo:=G.out
  have hs24:aO.cell? ⟨a,1,none⟩=some (.slice none 0 0):=(blk_cell s.out 1).trans rfl
  have hfs24:=blk_frozen s.out 1
  have bp:=l.out
  have bq:=m.out
  have br:=F.out
  have bs:=G.out
  have hs25:aO.cell? ⟨a,2,none⟩=some (.int .i64 0):=(blk_cell s.out 2).trans rfl
  have hfs25:=blk_frozen s.out 2
  have bt:=l.out
  have bu:=m.out
  have bv:=F.out
  have bw:=G.out
  refine skip_ (w1:=?_) (by rfl) rfl ?_ ?_
  rotate_left
  ·go_simp
   rfl
  refine hK.out _ _ ⟨((cell_far (p:=⟨a,_,none⟩) l.out _).trans (((cell_far (p:=⟨a,_,none⟩) l.out _).trans (((cell_far (p:=⟨a,_,none⟩) l.out _).trans (hHeld.1)))))),((cell_far (p:=⟨a,_,none⟩) l.out _).trans (((cell_far (p:=⟨a,_,none⟩) l.out _).trans (((cell_far (p:=⟨a,_,none⟩) l.out _).trans (hHeld.2.1)))))),((cell_far (p:=⟨a,_,none⟩) l.out _).trans (((cell_far (p:=⟨a,_,none⟩) l.out _).trans (((cell_far (p:=⟨a,_,none⟩) l.out _).trans (hHeld.2.2.1)))))),((cell_far (p:=⟨a,_,none⟩) m.out _).trans (((cell_far (p:=⟨a,_,none⟩) m.out _).trans (((cell_far (p:=⟨a,_,none⟩) m.out _).trans (hHeld.2.2.2.1)))))),((cell_far (p:=⟨a,_,none⟩) m.out _).trans (((cell_far (p:=⟨a,_,none⟩) m.out _).trans (((cell_far (p:=⟨a,_,none⟩) m.out _).trans (hHeld.2.2.2.2.1)))))),((cell_far (p:=⟨a,_,none⟩) m.out _).trans (((cell_far (p:=⟨a,_,none⟩) m.out _).trans (((cell_far (p:=⟨a,_,none⟩) m.out _).trans (hHeld.2.2.2.2.2))))))⟩ (fun hHeld=>?_)
  clear hK K
  refine done_ (done_of HT_.out (by kernel_rfl)) ?_
  try go_wp2
  refine bodyPost_ret (results_cell_row rfl _ _ a 73 #[.int .i64 D,.slice aF al.length aG,.int .i64 B] (0,0) _ rfl (zkp s) Try.underlying73 rfl (by kernel_rfl)) rfl ?_
  exact⟨_,by first|rfl|(simp[errW_none,errW_some] <;> rfl)|(simp[*,errW_none,errW_some] <;> rfl),by (with_reducible repeat (first|apply Kd.V_alloc|apply Kd.V_drewN|apply Kd.V_drew));exact Kd.V_mono (Kd.V_far (p:=⟨a,2,none⟩) (Kd.V_far (p:=⟨a,1,none⟩) (Kd.V_far (p:=⟨a,0,none⟩) (Kd.V_mono aC.out (fun k_ hk=>(⟨hk,hk.2.2.2⟩:_∧k_≠a))) (fun _ hk=>hk.2) (.int .i64 D)) (fun _ hk=>hk.2) (.slice aF al.length aG)) (fun _ hk=>hk.2) (.int .i64 B)) (fun _ hk=>hk.1.1),zb HB⟩
 rw[if_neg c4] at H
 obtain⟨aT,aU⟩:=zf c4
 obtain⟨aj,bx,H⟩:=oB H
 by_cases av:aj≥0
 ·rw[if_pos av] at H
  have aP:decide (0≤aj)=true:=decide_eq_true av
  clear av
  obtain⟨am,cX,H⟩:=oB H
  simp only[Option.some.injEq,Prod.mk.injEq] at H
  obtain⟨rfl,rfl,rfl⟩:=H
  go_enter Try.func64,Try.ntmps64
  try go_wp2_with (first|((with_reducible refine gate_dst (N:=2) rfl ?_);refine zbox (N:=2) (cs:=#[.int .i64 L,.slice R l0_1.length T,.int .i64 M]) (t:=73) ?_;intro b hg di hbox hb;have j:=Aside0.mk hbox;have aw:=zge hg HB;have ax:=zge hg HB;replace HB:=zbs HB hb;clear hb hbox hg)|((with_reducible refine gate_dst (N:=3) rfl ?_);refine zbox (N:=3) (cs:=#[.int .i64 O,.slice U l1_1.length W,.int .i64 P]) (t:=73) ?_;intro d hg dj hbox hb;have q:=Aside0.mk hbox;have ay:=zge hg HB;have az:=zge hg HB;have Q:=znl hg j;have ak:=zng hg j;obtain⟨j,HB⟩:=zu1 j HB hb;clear hb hbox hg)|((with_reducible refine gate_dst (N:=4) rfl ?_);refine zbox (N:=4) (cs:=#[.int .i64 0,.slice none 0 0,.int .i64 0]) (t:=73) ?_;intro a hg dk hbox hb;have s:=Aside0.mk hbox;have aA:=zge hg HB;have aB:=zge hg HB;have l:=znl hg j;have F:=zng hg j;have m:=znl hg q;have G:=zng hg q;obtain⟨j,q,HB⟩:=zu2 j q HB hb;clear hb hbox hg;obtain⟨cY,cZ⟩:=z2 Q;obtain⟨c0,c1⟩:=z2 l;obtain⟨bz,bA,bB,bC,bD,bE⟩:=zc3 j;obtain⟨c2,c3⟩:=z2 m;obtain⟨bF,bG,bH,bI,bJ,bK⟩:=zc3 q)|((with_reducible refine gate_callee (f:=54) rfl ?_);refine zgo (some 8) Try.func54 #[.agg #[.int .i64 L,.slice R l0_1.length T,.int .i64 M],.agg #[.int .i64 O,.slice U l1_1.length W,.int .i64 P]] ?_;(with_reducible refine (grottoref03_alike.calls k L _ _ l0_1 M O _ _ l1_1 P D y B E z I _ ?side1 ?side2 ?side3 ?side4 A3.out).mono ?_);(case side1=>repeat (first|exact (Kd.C_below ao.out HB.out)|(with_reducible refine Kd.C_alloc ?_ _)|(with_reducible refine Kd.C_drewN ?_ _)|(with_reducible refine Kd.C_drew ?_)));(case side2=>exact ap.out);(case side3=>repeat (first|exact (Kd.C_below aq.out HB.out)|(with_reducible refine Kd.C_alloc ?_ _)|(with_reducible refine Kd.C_drewN ?_ _)|(with_reducible refine Kd.C_drew ?_)));(case side4=>exact ar.out);rintro e dl ⟨v591,v596,rfl,ho0,ho1,hb⟩;refine⟨_,rfl,?_⟩;have u:=Aside0.mk (Kd.V_lower (Kd.V_mono (ok':=fun k_=>(w.heap.size≤k_)∧k_≠b∧k_≠d∧k_≠a) ho0 (fun k_ hk_=>⟨(Nat.le_trans (below_size (zb HB)) hk_),(Kd.freshB (g:=b) (o:=.cells #[.int .i64 L,.slice R l0_1.length T,.int .i64 M] 73 (0,0)) (zk j) k_ hk_),(Kd.freshB (g:=d) (o:=.cells #[.int .i64 O,.slice U l1_1.length W,.int .i64 P] 73 (0,0)) (zk q) k_ hk_),(Kd.freshB (g:=a) (o:=.cells #[.int .i64 0,.slice none 0 0,.int .i64 0] 73 (0,0)) (zk s) k_ hk_)⟩)) (below_size (zb HB)));have v:=Aside0.mk (Kd.V_lower (Kd.V_mono (ok':=fun k_=>(w.heap.size≤k_)∧k_≠b∧k_≠d∧k_≠a) ho1 (fun k_ hk_=>⟨(Nat.le_trans (below_size (zb HB)) hk_),(Kd.freshB (g:=b) (o:=.cells #[.int .i64 L,.slice R l0_1.length T,.int .i64 M] 73 (0,0)) (zk j) k_ hk_),(Kd.freshB (g:=d) (o:=.cells #[.int .i64 O,.slice U l1_1.length W,.int .i64 P] 73 (0,0)) (zk q) k_ hk_),(Kd.freshB (g:=a) (o:=.cells #[.int .i64 0,.slice none 0 0,.int .i64 0] 73 (0,0)) (zk s) k_ hk_)⟩)) (below_size (zb HB)));obtain⟨j,q,s,HB⟩:=zu3 j q s HB hb;clear hb;(try clear ho0);(try clear ho1);obtain⟨bL,bM,bN,bO,bP,bQ⟩:=zc3 j;obtain⟨af,ab,bR⟩:=Kd.V_slice u.out;subst bR;obtain⟨bS,bT,bU,bV,bW,bX⟩:=zc3 q;obtain⟨ag,ac,bY⟩:=Kd.V_slice v.out;subst bY)|((with_reducible refine gate_callee (f:=75) rfl ?_);refine zgo (some 30) Try.func75 #[.slice af y.length ab,.slice ag z.length ac] ?_;(with_reducible refine (grottoref02_Cmp.calls k _ _ y _ _ z aj _ ?side1 ?side2 ?side3 ?side4 bx.out).mono ?_);(case side1=>refine (Kd.V_reads' (e:=3) (base:=w.heap.size) (ok:=fun k_=>((w.heap.size≤k_)∧(k_≠b∧(k_≠d∧k_≠a)))) (n:=y.length) (c:=ab) ?_).2.2;exact (by (with_reducible repeat (first|apply Kd.V_alloc|apply Kd.V_drewN|apply Kd.V_drew));exact (Kd.V_mono (Kd.V_mono (Kd.V_far (p:=⟨d,2,none⟩) (Kd.V_far (p:=⟨d,1,none⟩) (Kd.V_far (p:=⟨d,0,none⟩) (Kd.V_far (p:=⟨b,2,none⟩) (Kd.V_far (p:=⟨b,1,none⟩) (Kd.V_far (p:=⟨b,0,none⟩) (Kd.V_mono (Kd.V_mono u.out (fun k_ hk=>(⟨hk,hk.2.1⟩:_∧k_≠b))) (fun k_ hk=>(⟨hk,hk.1.2.2.1⟩:_∧k_≠d))) (fun _ hk=>hk.1.2) (.int .i64 D)) (fun _ hk=>hk.1.2) (.slice af y.length ab)) (fun _ hk=>hk.1.2) (.int .i64 B)) (fun _ hk=>hk.2) (.int .i64 E)) (fun _ hk=>hk.2) (.slice ag z.length ac)) (fun _ hk=>hk.2) (.int .i64 I)) (fun _ h_=>h_.1)) (fun _ h_=>h_.1))));(case side2=>exact (Kd.V_reads' u.out).2.1);(case side3=>refine (Kd.V_reads' (e:=3) (base:=w.heap.size) (ok:=fun k_=>((w.heap.size≤k_)∧(k_≠b∧(k_≠d∧k_≠a)))) (n:=z.length) (c:=ac) ?_).2.2;exact (by (with_reducible repeat (first|apply Kd.V_alloc|apply Kd.V_drewN|apply Kd.V_drew));exact (Kd.V_mono (Kd.V_mono (Kd.V_far (p:=⟨d,2,none⟩) (Kd.V_far (p:=⟨d,1,none⟩) (Kd.V_far (p:=⟨d,0,none⟩) (Kd.V_far (p:=⟨b,2,none⟩) (Kd.V_far (p:=⟨b,1,none⟩) (Kd.V_far (p:=⟨b,0,none⟩) (Kd.V_mono (Kd.V_mono v.out (fun k_ hk=>(⟨hk,hk.2.1⟩:_∧k_≠b))) (fun k_ hk=>(⟨hk,hk.1.2.2.1⟩:_∧k_≠d))) (fun _ hk=>hk.1.2) (.int .i64 D)) (fun _ hk=>hk.1.2) (.slice af y.length ab)) (fun _ hk=>hk.1.2) (.int .i64 B)) (fun _ hk=>hk.2) (.int .i64 E)) (fun _ hk=>hk.2) (.slice ag z.length ac)) (fun _ hk=>hk.2) (.int .i64 I)) (fun _ h_=>h_.1)) (fun _ h_=>h_.1))));(case side4=>exact (Kd.V_reads' v.out).2.1);rintro e c5 ⟨rfl,hb⟩;refine⟨_,rfl,?_⟩;replace u:=Aside0.mk (Kd.V_below (by (with_reducible repeat (first|apply Kd.V_alloc|apply Kd.V_drewN|apply Kd.V_drew));exact (Kd.V_mono (Kd.V_mono (Kd.V_far (p:=⟨d,2,none⟩) (Kd.V_far (p:=⟨d,1,none⟩) (Kd.V_far (p:=⟨d,0,none⟩) (Kd.V_far (p:=⟨b,2,none⟩) (Kd.V_far (p:=⟨b,1,none⟩) (Kd.V_far (p:=⟨b,0,none⟩) (Kd.V_mono (Kd.V_mono u.out (fun k_ hk=>(⟨hk,hk.2.1⟩:_∧k_≠b))) (fun k_ hk=>(⟨hk,hk.1.2.2.1⟩:_∧k_≠d))) (fun _ hk=>hk.1.2) (.int .i64 D)) (fun _ hk=>hk.1.2) (.slice af y.length ab)) (fun _ hk=>hk.1.2) (.int .i64 B)) (fun _ hk=>hk.2) (.int .i64 E)) (fun _ hk=>hk.2) (.slice ag z.length ac)) (fun _ hk=>hk.2) (.int .i64 I)) (fun _ h_=>h_.1)) (fun _ h_=>h_.1))) hb);replace v:=Aside0.mk (Kd.V_below (by (with_reducible repeat (first|apply Kd.V_alloc|apply Kd.V_drewN|apply Kd.V_drew));exact (Kd.V_mono (Kd.V_mono (Kd.V_far (p:=⟨d,2,none⟩) (Kd.V_far (p:=⟨d,1,none⟩) (Kd.V_far (p:=⟨d,0,none⟩) (Kd.V_far (p:=⟨b,2,none⟩) (Kd.V_far (p:=⟨b,1,none⟩) (Kd.V_far (p:=⟨b,0,none⟩) (Kd.V_mono (Kd.V_mono v.out (fun k_ hk=>(⟨hk,hk.2.1⟩:_∧k_≠b))) (fun k_ hk=>(⟨hk,hk.1.2.2.1⟩:_∧k_≠d))) (fun _ hk=>hk.1.2) (.int .i64 D)) (fun _ hk=>hk.1.2) (.slice af y.length ab)) (fun _ hk=>hk.1.2) (.int .i64 B)) (fun _ hk=>hk.2) (.int .i64 E)) (fun _ hk=>hk.2) (.slice ag z.length ac)) (fun _ hk=>hk.2) (.int .i64 I)) (fun _ h_=>h_.1)) (fun _ h_=>h_.1))) hb);replace j:=zkbo (o:=.cells #[.int .i64 D,.slice af y.length ab,.int .i64 B] 73 (0,0)) j hb;replace q:=zkbo (o:=.cells #[.int .i64 E,.slice ag z.length ac,.int .i64 I] 73 (0,0)) q hb;obtain⟨s,HB⟩:=zu1 s HB hb;clear hb))
  replace u:=Aside0.mk (Kd.V_drew u.out)
  replace v:=Aside0.mk (Kd.V_drew v.out)
  replace j:=Aside0.mk (blk_drew j.out)
  replace q:=Aside0.mk (blk_drew q.out)
  replace s:=Aside0.mk (blk_drew s.out)
  replace HB:=Aside0.mk (below_drew1 HB.out)
  refine start_ (n:=11) (S:=fun w'=>w'.cell? ⟨b,0,none⟩=some (.int .i64 D)∧w'.cell? ⟨b,1,none⟩=some (.slice af y.length ab)∧w'.cell? ⟨b,2,none⟩=some (.int .i64 B)∧w'.cell? ⟨d,0,none⟩=some (.int .i64 E)∧w'.cell? ⟨d,1,none⟩=some (.slice ag z.length ac)∧w'.cell? ⟨d,2,none⟩=some (.int .i64 I)) (ds:=[]) #[false,false,false,false,false,false,false,false,false,false,false] (by kernel_rfl) rfl rfl ⟨(blk_cell j.out 0).trans rfl,(blk_cell j.out 1).trans rfl,(blk_cell j.out 2).trans rfl,(blk_cell q.out 0).trans rfl,(blk_cell q.out 1).trans rfl,(blk_cell q.out 2).trans rfl⟩ (fun hHeld=>?_);refine with_tabW grottoref03_plus.tab5 grottoref03_plus.bits5 (fun HT_ HW_=>?_)
  generalize c5.drew=dm at u v j q s HB hHeld ⊢
  refine zpure_ (i:=0) (N:=some 32) #[true,false,false,false,false,false,false,false,false,false,false] (any_of HT_.out (by kernel_rfl)) ?_
  refine zpure_ (i:=2) (N:=some 34) #[true,false,true,false,false,false,false,false,false,false,false] (any_of HT_.out (by kernel_rfl)) ?_
  refine zpure_ (i:=4) (N:=some 36) #[true,false,true,false,true,false,false,false,false,false,false] (any_of HT_.out (by kernel_rfl)) ?_
  refine zpure_ (i:=7) (N:=some 39) #[true,false,true,false,true,false,false,true,false,false,false] (any_of HT_.out (by kernel_rfl)) ?_
  refine ztake_ (i:=1) (N:=some 33) #[true,true,true,false,true,false,false,true,false,false,false] rfl (take_ofW HT_.out HW_.out (by kernel_rfl)) hHeld (Or.inl ⟨by rfl,by rintro w' ⟨s0,s1,s2,s3,s4,s5⟩;go_simp;with_reducible rfl⟩) ?_
  refine ztake_ (i:=3) (N:=some 35) #[true,true,true,true,true,false,false,true,false,false,false] rfl (take_ofW HT_.out HW_.out (by kernel_rfl)) hHeld (Or.inl ⟨by rfl,by rintro w' ⟨s0,s1,s2,s3,s4,s5⟩;go_simp;with_reducible rfl⟩) ?_
  refine ztake_ (i:=5) (N:=some 37) #[true,true,true,true,true,true,false,true,false,false,false] rfl (take_ofW HT_.out HW_.out (by kernel_rfl)) hHeld (Or.inl ⟨by rfl,by rintro w' ⟨s0,s1,s2,s3,s4,s5⟩;go_simp;with_reducible rfl⟩) ?_
  refine ztake_ (i:=8) (N:=some 40) #[true,true,true,true,true,true,false,true,true,false,false] rfl (take_ofW HT_.out HW_.out (by kernel_rfl)) hHeld (Or.inl ⟨by rfl,by rintro w' ⟨s0,s1,s2,s3,s4,s5⟩;go_simp;with_reducible rfl⟩) ?_
  refine one_ (i:=6) (N:=some 38) #[true,true,true,true,true,true,true,true,true,false,false] rfl rfl (one_of HT_.out (by kernel_rfl)) (by decide) (fun K hK=>?_)
  refine goes_ Try.func92 (by kernel_rfl) rfl #[.slice af y.length ab,.slice ag z.length ac] (by rfl) rfl rfl (by (try simp only[List.map_toArray,List.map_cons,List.map_nil]);first|done|rfl|(simp only[List.length_drop,List.length_take];rfl)) ?_
  with_reducible refine (grottoref02_Minus.calls k _ _ y _ _ z am _ ?side1 ?side2 ?side3 ?side4 cX.out).mono ?_
  (case side1=>repeat (first|exact (Kd.V_reads' u.out).2.2|(with_reducible refine Kd.C_alloc ?_ _)|(with_reducible refine Kd.C_drewN ?_ _)|(with_reducible refine Kd.C_drew ?_)))
  (case side2=>exact (Kd.V_reads' u.out).2.1)
  (case side3=>repeat (first|exact (Kd.V_reads' v.out).2.2|(with_reducible refine Kd.C_alloc ?_ _)|(with_reducible refine Kd.C_drewN ?_ _)|(with_reducible refine Kd.C_drew ?_)))
  (case side4=>exact (Kd.V_reads' v.out).2.1)
  rintro e aQ ⟨v604,rfl,ho0,hb⟩
  refine⟨_,rfl,?_⟩
  have aD:=Aside0.mk (Kd.V_lower (Kd.V_mono (ok':=fun k_=>(w.heap.size≤k_)∧k_≠b∧k_≠d∧k_≠a) ho0 (fun k_ hk_=>⟨(Nat.le_trans (below_size (zb HB)) hk_),(Kd.freshB (g:=b) (o:=.cells #[.int .i64 D,.slice af y.length ab,.int .i64 B] 73 (0,0)) (zk j) k_ hk_),(Kd.freshB (g:=d) (o:=.cells #[.int .i64 E,.slice ag z.length ac,.int .i64 I] 73 (0,0)) (zk q) k_ hk_),(Kd.freshB (g:=a) (o:=.cells #[.int .i64 0,.slice none 0 0,.int .i64 0] 73 (0,0)) (zk s) k_ hk_)⟩)) (below_size (zb HB)))
  replace u:=Aside0.mk (Kd.V_below (by (with_reducible repeat (first|apply Kd.V_alloc|apply Kd.V_drewN|apply Kd.V_drew));exact u.out) hb)
  replace v:=Aside0.mk (Kd.V_below (by (with_reducible repeat (first|apply Kd.V_alloc|apply Kd.V_drewN|apply Kd.V_drew));exact v.out) hb)
  obtain⟨j,q,s,HB⟩:=zu3 j q s HB hb
  try clear hb
  (try clear ho0)
  obtain⟨aI,aJ,aK⟩:=Kd.V_slice aD.out
  (first|subst aK|(injection aK with f1_ f2_ f3_;have f4_:=f1_.symm;have f5_:=f3_.symm;clear f1_ f2_ f3_;subst f4_;subst f5_))
  refine hK.out _ _ ⟨(blk_cell j.out 0).trans rfl,(blk_cell j.out 1).trans rfl,(blk_cell j.out 2).trans rfl,(blk_cell q.out 0).trans rfl,(blk_cell q.out 1).trans rfl,(blk_cell q.out 2).trans rfl⟩ (fun hHeld=>?_)
  clear hK K
  refine norm_ (a':=?_) ?_ ?_
  rotate_left
  ·show Act.put _ (some 38) _=_
   simp only[Act.put,List.setIfInBounds_toArray,List.set_cons_zero,List.set_cons_succ,i64_w,i32_w]
   rfl
  refine zpure_ (i:=9) (N:=some 41) #[true,true,true,true,true,true,true,true,true,true,false] (any_of HT_.out (by kernel_rfl)) ?_
  refine one_ (i:=10) (N:=none) #[true,true,true,true,true,true,true,true,true,true,true] rfl rfl (one_of HT_.out (by kernel_rfl)) (by decide) (fun K hK=>?_)
  have hs46:aQ.cell? ⟨a,0,none⟩=some (.int .i64 0):=(blk_cell s.out 0).trans rfl
  have hfs46:=blk_frozen s.out 0
  have bZ:=l.out
  have b0:=m.out
  have b1:=F.out
  have b2:=G.out
  have hs47:aQ.cell? ⟨a,1,none⟩=some (.slice none 0 0):=(blk_cell s.out 1).trans rfl
  have hfs47:=blk_frozen s.out 1
  have b3:=l.out
  have b4:=m.out
  have b5:=F.out
  have b6:=G.out
  have hs48:aQ.cell? ⟨a,2,none⟩=some (.int .i64 0):=(blk_cell s.out 2).trans rfl
  have hfs48:=blk_frozen s.out 2
  have b7:=l.out
  have b8:=m.out
  have b9:=F.out
  have ca:=G.out
  refine skip_ (w1:=?_) (by rfl) rfl ?_ ?_
  rotate_left
  ·go_simp
   rfl
  refine hK.out _ _ ⟨((cell_far (p:=⟨a,_,none⟩) l.out _).trans (((cell_far (p:=⟨a,_,none⟩) l.out _).trans (((cell_far (p:=⟨a,_,none⟩) l.out _).trans (hHeld.1)))))),((cell_far (p:=⟨a,_,none⟩) l.out _).trans (((cell_far (p:=⟨a,_,none⟩) l.out _).trans (((cell_far (p:=⟨a,_,none⟩) l.out _).trans (hHeld.2.1)))))),((cell_far (p:=⟨a,_,none⟩) l.out _).trans (((cell_far (p:=⟨a,_,none⟩) l.out _).trans (((cell_far (p:=⟨a,_,none⟩) l.out _).trans (hHeld.2.2.1)))))),((cell_far (p:=⟨a,_,none⟩) m.out _).trans (((cell_far (p:=⟨a,_,none⟩) m.out _).trans (((cell_far (p:=⟨a,_,none⟩) m.out _).trans (hHeld.2.2.2.1)))))),((cell_far (p:=⟨a,_,none⟩) m.out _).trans (((cell_far (p:=⟨a,_,none⟩) m.out _).trans (((cell_far (p:=⟨a,_,none⟩) m.out _).trans (hHeld.2.2.2.2.1)))))),((cell_far (p:=⟨a,_,none⟩) m.out _).trans (((cell_far (p:=⟨a,_,none⟩) m.out _).trans (((cell_far (p:=⟨a,_,none⟩) m.out _).trans (hHeld.2.2.2.2.2))))))⟩ (fun hHeld=>?_)
  clear hK K
  refine done_ (done_of HT_.out (by kernel_rfl)) ?_
  try go_wp2
  refine bodyPost_ret (results_cell_row rfl _ _ a 73 #[.int .i64 D,.slice aI am.length aJ,.int .i64 B] (0,0) _ rfl (zkp s) Try.underlying73 rfl (by kernel_rfl)) rfl ?_
  exact⟨_,by first|rfl|(simp[errW_none,errW_some] <;> rfl)|(simp[*,errW_none,errW_some] <;> rfl),by (with_reducible repeat (first|apply Kd.V_alloc|apply Kd.V_drewN|apply Kd.V_drew));exact Kd.V_mono (Kd.V_far (p:=⟨a,2,none⟩) (Kd.V_far (p:=⟨a,1,none⟩) (Kd.V_far (p:=⟨a,0,none⟩) (Kd.V_mono aD.out (fun k_ hk=>(⟨hk,hk.2.2.2⟩:_∧k_≠a))) (fun _ hk=>hk.2) (.int .i64 D)) (fun _ hk=>hk.2) (.slice aI am.length aJ)) (fun _ hk=>hk.2) (.int .i64 B)) (fun _ hk=>hk.1.1),zb HB⟩
 rw[if_neg av] at H
 have aP:decide (0≤aj)=false:=decide_eq_false av
 clear av
 obtain⟨an,c6,H⟩:=oB H
 simp only[Option.some.injEq,Prod.mk.injEq] at H
 obtain⟨rfl,rfl,rfl⟩:=H
 go_enter Try.func64,Try.ntmps64
 try go_wp2_with (first|((with_reducible refine gate_dst (N:=2) rfl ?_);refine zbox (N:=2) (cs:=#[.int .i64 L,.slice R l0_1.length T,.int .i64 M]) (t:=73) ?_;intro b hg dn hbox hb;have j:=Aside0.mk hbox;have aw:=zge hg HB;have ax:=zge hg HB;replace HB:=zbs HB hb;clear hb hbox hg)|((with_reducible refine gate_dst (N:=3) rfl ?_);refine zbox (N:=3) (cs:=#[.int .i64 O,.slice U l1_1.length W,.int .i64 P]) (t:=73) ?_;intro d hg dp hbox hb;have q:=Aside0.mk hbox;have ay:=zge hg HB;have az:=zge hg HB;have Q:=znl hg j;have ak:=zng hg j;obtain⟨j,HB⟩:=zu1 j HB hb;clear hb hbox hg)|((with_reducible refine gate_dst (N:=4) rfl ?_);refine zbox (N:=4) (cs:=#[.int .i64 0,.slice none 0 0,.int .i64 0]) (t:=73) ?_;intro a hg dq hbox hb;have s:=Aside0.mk hbox;have aA:=zge hg HB;have aB:=zge hg HB;have l:=znl hg j;have F:=zng hg j;have m:=znl hg q;have G:=zng hg q;obtain⟨j,q,HB⟩:=zu2 j q HB hb;clear hb hbox hg;obtain⟨c7,c8⟩:=z2 Q;obtain⟨c9,da⟩:=z2 l;obtain⟨cb,cc,cd,ce,cf,cg⟩:=zc3 j;obtain⟨db,dc⟩:=z2 m;obtain⟨ch,ci,cj,ck,cl,cm⟩:=zc3 q)|((with_reducible refine gate_callee (f:=54) rfl ?_);refine zgo (some 8) Try.func54 #[.agg #[.int .i64 L,.slice R l0_1.length T,.int .i64 M],.agg #[.int .i64 O,.slice U l1_1.length W,.int .i64 P]] ?_;(with_reducible refine (grottoref03_alike.calls k L _ _ l0_1 M O _ _ l1_1 P D y B E z I _ ?side1 ?side2 ?side3 ?side4 A3.out).mono ?_);(case side1=>repeat (first|exact (Kd.C_below ao.out HB.out)|(with_reducible refine Kd.C_alloc ?_ _)|(with_reducible refine Kd.C_drewN ?_ _)|(with_reducible refine Kd.C_drew ?_)));(case side2=>exact ap.out);(case side3=>repeat (first|exact (Kd.C_below aq.out HB.out)|(with_reducible refine Kd.C_alloc ?_ _)|(with_reducible refine Kd.C_drewN ?_ _)|(with_reducible refine Kd.C_drew ?_)));(case side4=>exact ar.out);rintro e dr ⟨v591,v596,rfl,ho0,ho1,hb⟩;refine⟨_,rfl,?_⟩;have u:=Aside0.mk (Kd.V_lower (Kd.V_mono (ok':=fun k_=>(w.heap.size≤k_)∧k_≠b∧k_≠d∧k_≠a) ho0 (fun k_ hk_=>⟨(Nat.le_trans (below_size (zb HB)) hk_),(Kd.freshB (g:=b) (o:=.cells #[.int .i64 L,.slice R l0_1.length T,.int .i64 M] 73 (0,0)) (zk j) k_ hk_),(Kd.freshB (g:=d) (o:=.cells #[.int .i64 O,.slice U l1_1.length W,.int .i64 P] 73 (0,0)) (zk q) k_ hk_),(Kd.freshB (g:=a) (o:=.cells #[.int .i64 0,.slice none 0 0,.int .i64 0] 73 (0,0)) (zk s) k_ hk_)⟩)) (below_size (zb HB)));have v:=Aside0.mk (Kd.V_lower (Kd.V_mono (ok':=fun k_=>(w.heap.size≤k_)∧k_≠b∧k_≠d∧k_≠a) ho1 (fun k_ hk_=>⟨(Nat.le_trans (below_size (zb HB)) hk_),(Kd.freshB (g:=b) (o:=.cells #[.int .i64 L,.slice R l0_1.length T,.int .i64 M] 73 (0,0)) (zk j) k_ hk_),(Kd.freshB (g:=d) (o:=.cells #[.int .i64 O,.slice U l1_1.length W,.int .i64 P] 73 (0,0)) (zk q) k_ hk_),(Kd.freshB (g:=a) (o:=.cells #[.int .i64 0,.slice none 0 0,.int .i64 0] 73 (0,0)) (zk s) k_ hk_)⟩)) (below_size (zb HB)));obtain⟨j,q,s,HB⟩:=zu3 j q s HB hb;clear hb;(try clear ho0);(try clear ho1);obtain⟨cn,co,cp,cq,cr,ct⟩:=zc3 j;obtain⟨ah,ad,cu⟩:=Kd.V_slice u.out;subst cu;obtain⟨cv,cw,cx,cy,cz,cA⟩:=zc3 q;obtain⟨ai,ae,cB⟩:=Kd.V_slice v.out;subst cB)|((with_reducible refine gate_callee (f:=75) rfl ?_);refine zgo (some 30) Try.func75 #[.slice ah y.length ad,.slice ai z.length ae] ?_;(with_reducible refine (grottoref02_Cmp.calls k _ _ y _ _ z aj _ ?side1 ?side2 ?side3 ?side4 bx.out).mono ?_);(case side1=>refine (Kd.V_reads' (e:=3) (base:=w.heap.size) (ok:=fun k_=>((w.heap.size≤k_)∧(k_≠b∧(k_≠d∧k_≠a)))) (n:=y.length) (c:=ad) ?_).2.2;exact (by (with_reducible repeat (first|apply Kd.V_alloc|apply Kd.V_drewN|apply Kd.V_drew));exact (Kd.V_mono (Kd.V_mono (Kd.V_far (p:=⟨d,2,none⟩) (Kd.V_far (p:=⟨d,1,none⟩) (Kd.V_far (p:=⟨d,0,none⟩) (Kd.V_far (p:=⟨b,2,none⟩) (Kd.V_far (p:=⟨b,1,none⟩) (Kd.V_far (p:=⟨b,0,none⟩) (Kd.V_mono (Kd.V_mono u.out (fun k_ hk=>(⟨hk,hk.2.1⟩:_∧k_≠b))) (fun k_ hk=>(⟨hk,hk.1.2.2.1⟩:_∧k_≠d))) (fun _ hk=>hk.1.2) (.int .i64 D)) (fun _ hk=>hk.1.2) (.slice ah y.length ad)) (fun _ hk=>hk.1.2) (.int .i64 B)) (fun _ hk=>hk.2) (.int .i64 E)) (fun _ hk=>hk.2) (.slice ai z.length ae)) (fun _ hk=>hk.2) (.int .i64 I)) (fun _ h_=>h_.1)) (fun _ h_=>h_.1))));(case side2=>exact (Kd.V_reads' u.out).2.1);(case side3=>refine (Kd.V_reads' (e:=3) (base:=w.heap.size) (ok:=fun k_=>((w.heap.size≤k_)∧(k_≠b∧(k_≠d∧k_≠a)))) (n:=z.length) (c:=ae) ?_).2.2;exact (by (with_reducible repeat (first|apply Kd.V_alloc|apply Kd.V_drewN|apply Kd.V_drew));exact (Kd.V_mono (Kd.V_mono (Kd.V_far (p:=⟨d,2,none⟩) (Kd.V_far (p:=⟨d,1,none⟩) (Kd.V_far (p:=⟨d,0,none⟩) (Kd.V_far (p:=⟨b,2,none⟩) (Kd.V_far (p:=⟨b,1,none⟩) (Kd.V_far (p:=⟨b,0,none⟩) (Kd.V_mono (Kd.V_mono v.out (fun k_ hk=>(⟨hk,hk.2.1⟩:_∧k_≠b))) (fun k_ hk=>(⟨hk,hk.1.2.2.1⟩:_∧k_≠d))) (fun _ hk=>hk.1.2) (.int .i64 D)) (fun _ hk=>hk.1.2) (.slice ah y.length ad)) (fun _ hk=>hk.1.2) (.int .i64 B)) (fun _ hk=>hk.2) (.int .i64 E)) (fun _ hk=>hk.2) (.slice ai z.length ae)) (fun _ hk=>hk.2) (.int .i64 I)) (fun _ h_=>h_.1)) (fun _ h_=>h_.1))));(case side4=>exact (Kd.V_reads' v.out).2.1);rintro e dd ⟨rfl,hb⟩;refine⟨_,rfl,?_⟩;replace u:=Aside0.mk (Kd.V_below (by (with_reducible repeat (first|apply Kd.V_alloc|apply Kd.V_drewN|apply Kd.V_drew));exact (Kd.V_mono (Kd.V_mono (Kd.V_far (p:=⟨d,2,none⟩) (Kd.V_far (p:=⟨d,1,none⟩) (Kd.V_far (p:=⟨d,0,none⟩) (Kd.V_far (p:=⟨b,2,none⟩) (Kd.V_far (p:=⟨b,1,none⟩) (Kd.V_far (p:=⟨b,0,none⟩) (Kd.V_mono (Kd.V_mono u.out (fun k_ hk=>(⟨hk,hk.2.1⟩:_∧k_≠b))) (fun k_ hk=>(⟨hk,hk.1.2.2.1⟩:_∧k_≠d))) (fun _ hk=>hk.1.2) (.int .i64 D)) (fun _ hk=>hk.1.2) (.slice ah y.length ad)) (fun _ hk=>hk.1.2) (.int .i64 B)) (fun _ hk=>hk.2) (.int .i64 E)) (fun _ hk=>hk.2) (.slice ai z.length ae)) (fun _ hk=>hk.2) (.int .i64 I)) (fun _ h_=>h_.1)) (fun _ h_=>h_.1))) hb);replace v:=Aside0.mk (Kd.V_below (by (with_reducible repeat (first|apply Kd.V_alloc|apply Kd.V_drewN|apply Kd.V_drew));exact (Kd.V_mono (Kd.V_mono (Kd.V_far (p:=⟨d,2,none⟩) (Kd.V_far (p:=⟨d,1,none⟩) (Kd.V_far (p:=⟨d,0,none⟩) (Kd.V_far (p:=⟨b,2,none⟩) (Kd.V_far (p:=⟨b,1,none⟩) (Kd.V_far (p:=⟨b,0,none⟩) (Kd.V_mono (Kd.V_mono v.out (fun k_ hk=>(⟨hk,hk.2.1⟩:_∧k_≠b))) (fun k_ hk=>(⟨hk,hk.1.2.2.1⟩:_∧k_≠d))) (fun _ hk=>hk.1.2) (.int .i64 D)) (fun _ hk=>hk.1.2) (.slice ah y.length ad)) (fun _ hk=>hk.1.2) (.int .i64 B)) (fun _ hk=>hk.2) (.int .i64 E)) (fun _ hk=>hk.2) (.slice ai z.length ae)) (fun _ hk=>hk.2) (.int .i64 I)) (fun _ h_=>h_.1)) (fun _ h_=>h_.1))) hb);replace j:=zkbo (o:=.cells #[.int .i64 D,.slice ah y.length ad,.int .i64 B] 73 (0,0)) j hb;replace q:=zkbo (o:=.cells #[.int .i64 E,.slice ai z.length ae,.int .i64 I] 73 (0,0)) q hb;obtain⟨s,HB⟩:=zu1 s HB hb;clear hb))
 replace u:=Aside0.mk (Kd.V_drew u.out)
 replace v:=Aside0.mk (Kd.V_drew v.out)
 replace j:=Aside0.mk (blk_drew j.out)
 replace q:=Aside0.mk (blk_drew q.out)
 replace s:=Aside0.mk (blk_drew s.out)
 replace HB:=Aside0.mk (below_drew1 HB.out)
 refine start_ (n:=11) (S:=fun w'=>w'.cell? ⟨d,0,none⟩=some (.int .i64 E)∧w'.cell? ⟨d,1,none⟩=some (.slice ai z.length ae)∧w'.cell? ⟨d,2,none⟩=some (.int .i64 I)∧w'.cell? ⟨b,0,none⟩=some (.int .i64 D)∧w'.cell? ⟨b,1,none⟩=some (.slice ah y.length ad)∧w'.cell? ⟨b,2,none⟩=some (.int .i64 B)) (ds:=[]) #[false,false,false,false,false,false,false,false,false,false,false] (by kernel_rfl) rfl rfl ⟨(blk_cell q.out 0).trans rfl,(blk_cell q.out 1).trans rfl,(blk_cell q.out 2).trans rfl,(blk_cell j.out 0).trans rfl,(blk_cell j.out 1).trans rfl,(blk_cell j.out 2).trans rfl⟩ (fun hHeld=>?_);refine with_tabW grottoref03_plus.tab6 grottoref03_plus.bits6 (fun HT_ HW_=>?_)
 generalize dd.drew=dt at u v j q s HB hHeld ⊢
 refine zpure_ (i:=0) (N:=some 42) #[true,false,false,false,false,false,false,false,false,false,false] (any_of HT_.out (by kernel_rfl)) ?_
 refine zpure_ (i:=2) (N:=some 44) #[true,false,true,false,false,false,false,false,false,false,false] (any_of HT_.out (by kernel_rfl)) ?_
 refine zpure_ (i:=4) (N:=some 46) #[true,false,true,false,true,false,false,false,false,false,false] (any_of HT_.out (by kernel_rfl)) ?_
 refine zpure_ (i:=7) (N:=some 49) #[true,false,true,false,true,false,false,true,false,false,false] (any_of HT_.out (by kernel_rfl)) ?_
 refine ztake_ (i:=1) (N:=some 43) #[true,true,true,false,true,false,false,true,false,false,false] rfl (take_ofW HT_.out HW_.out (by kernel_rfl)) hHeld (Or.inl ⟨by rfl,by rintro w' ⟨s0,s1,s2,s3,s4,s5⟩;go_simp;with_reducible rfl⟩) ?_
 refine ztake_ (i:=3) (N:=some 45) #[true,true,true,true,true,false,false,true,false,false,false] rfl (take_ofW HT_.out HW_.out (by kernel_rfl)) hHeld (Or.inl ⟨by rfl,by rintro w' ⟨s0,s1,s2,s3,s4,s5⟩;go_simp;with_reducible rfl⟩) ?_
 refine ztake_ (i:=5) (N:=some 47) #[true,true,true,true,true,true,false,true,false,false,false] rfl (take_ofW HT_.out HW_.out (by kernel_rfl)) hHeld (Or.inl ⟨by rfl,by rintro w' ⟨s0,s1,s2,s3,s4,s5⟩;go_simp;with_reducible rfl⟩) ?_
 refine ztake_ (i:=8) (N:=some 50) #[true,true,true,true,true,true,false,true,true,false,false] rfl (take_ofW HT_.out HW_.out (by kernel_rfl)) hHeld (Or.inl ⟨by rfl,by rintro w' ⟨s0,s1,s2,s3,s4,s5⟩;go_simp;with_reducible rfl⟩) ?_
 refine one_ (i:=6) (N:=some 48) #[true,true,true,true,true,true,true,true,true,false,false] rfl rfl (one_of HT_.out (by kernel_rfl)) (by decide) (fun K hK=>?_)
 refine goes_ Try.func92 (by kernel_rfl) rfl #[.slice ai z.length ae,.slice ah y.length ad] (by rfl) rfl rfl (by (try simp only[List.map_toArray,List.map_cons,List.map_nil]);first|done|rfl|(simp only[List.length_drop,List.length_take];rfl)) ?_
 with_reducible refine (grottoref02_Minus.calls k _ _ z _ _ y an _ ?side1 ?side2 ?side3 ?side4 c6.out).mono ?_
 (case side1=>repeat (first|exact (Kd.V_reads' v.out).2.2|(with_reducible refine Kd.C_alloc ?_ _)|(with_reducible refine Kd.C_drewN ?_ _)|(with_reducible refine Kd.C_drew ?_)))
 (case side2=>exact (Kd.V_reads' v.out).2.1)
 (case side3=>repeat (first|exact (Kd.V_reads' u.out).2.2|(with_reducible refine Kd.C_alloc ?_ _)|(with_reducible refine Kd.C_drewN ?_ _)|(with_reducible refine Kd.C_drew ?_)))
 (case side4=>exact (Kd.V_reads' u.out).2.1)
 rintro e aR ⟨v607,rfl,ho0,hb⟩
 refine⟨_,rfl,?_⟩
 have aE:=Aside0.mk (Kd.V_lower (Kd.V_mono (ok':=fun k_=>(w.heap.size≤k_)∧k_≠b∧k_≠d∧k_≠a) ho0 (fun k_ hk_=>⟨(Nat.le_trans (below_size (zb HB)) hk_),(Kd.freshB (g:=b) (o:=.cells #[.int .i64 D,.slice ah y.length ad,.int .i64 B] 73 (0,0)) (zk j) k_ hk_),(Kd.freshB (g:=d) (o:=.cells #[.int .i64 E,.slice ai z.length ae,.int .i64 I] 73 (0,0)) (zk q) k_ hk_),(Kd.freshB (g:=a) (o:=.cells #[.int .i64 0,.slice none 0 0,.int .i64 0] 73 (0,0)) (zk s) k_ hk_)⟩)) (below_size (zb HB)))
 replace u:=Aside0.mk (Kd.V_below (by (with_reducible repeat (first|apply Kd.V_alloc|apply Kd.V_drewN|apply Kd.V_drew));exact u.out) hb)
 replace v:=Aside0.mk (Kd.V_below (by (with_reducible repeat (first|apply Kd.V_alloc|apply Kd.V_drewN|apply Kd.V_drew));exact v.out) hb)
 obtain⟨j,q,s,HB⟩:=zu3 j q s HB hb
 try clear hb
 (try clear ho0)
 obtain⟨aL,aM,aN⟩:=Kd.V_slice aE.out
 (first|subst aN|(injection aN with f1_ f2_ f3_;have f4_:=f1_.symm;have f5_:=f3_.symm;clear f1_ f2_ f3_;subst f4_;subst f5_))
 refine hK.out _ _ ⟨(blk_cell q.out 0).trans rfl,(blk_cell q.out 1).trans rfl,(blk_cell q.out 2).trans rfl,(blk_cell j.out 0).trans rfl,(blk_cell j.out 1).trans rfl,(blk_cell j.out 2).trans rfl⟩ (fun hHeld=>?_)
 clear hK K
 refine norm_ (a':=?_) ?_ ?_
 rotate_left
 ·show Act.put _ (some 48) _=_
  simp only[Act.put,List.setIfInBounds_toArray,List.set_cons_zero,List.set_cons_succ,i64_w,i32_w]
  rfl
 refine zpure_ (i:=9) (N:=some 51) #[true,true,true,true,true,true,true,true,true,true,false] (any_of HT_.out (by kernel_rfl)) ?_
 refine one_ (i:=10) (N:=none) #[true,true,true,true,true,true,true,true,true,true,true] rfl rfl (one_of HT_.out (by kernel_rfl)) (by decide) (fun K hK=>?_)
 have hs67:aR.cell? ⟨a,0,none⟩=some (.int .i64 0):=(blk_cell s.out 0).trans rfl
 have hfs67:=blk_frozen s.out 0
 have cC:=l.out
 have cD:=m.out
 have cE:=F.out
 have cF:=G.out
 have hs68:aR.cell? ⟨a,1,none⟩=some (.slice none 0 0):=(blk_cell s.out 1).trans rfl
 have hfs68:=blk_frozen s.out 1
 have cG:=l.out
 have cH:=m.out
 have cI:=F.out
 have cJ:=G.out
 have hs69:aR.cell? ⟨a,2,none⟩=some (.int .i64 0):=(blk_cell s.out 2).trans rfl
 have hfs69:=blk_frozen s.out 2
 have cK:=l.out
 have cL:=m.out
 have cM:=F.out
 have cN:=G.out
 refine skip_ (w1:=?_) (by rfl) rfl ?_ ?_
 rotate_left
 ·go_simp
  rfl
 refine hK.out _ _ ⟨((cell_far (p:=⟨a,_,none⟩) m.out _).trans (((cell_far (p:=⟨a,_,none⟩) m.out _).trans (((cell_far (p:=⟨a,_,none⟩) m.out _).trans (hHeld.1)))))),((cell_far (p:=⟨a,_,none⟩) m.out _).trans (((cell_far (p:=⟨a,_,none⟩) m.out _).trans (((cell_far (p:=⟨a,_,none⟩) m.out _).trans (hHeld.2.1)))))),((cell_far (p:=⟨a,_,none⟩) m.out _).trans (((cell_far (p:=⟨a,_,none⟩) m.out _).trans (((cell_far (p:=⟨a,_,none⟩) m.out _).trans (hHeld.2.2.1)))))),((cell_far (p:=⟨a,_,none⟩) l.out _).trans (((cell_far (p:=⟨a,_,none⟩) l.out _).trans (((cell_far (p:=⟨a,_,none⟩) l.out _).trans (hHeld.2.2.2.1)))))),((cell_far (p:=⟨a,_,none⟩) l.out _).trans (((cell_far (p:=⟨a,_,none⟩) l.out _).trans (((cell_far (p:=⟨a,_,none⟩) l.out _).trans (hHeld.2.2.2.2.1)))))),((cell_far (p:=⟨a,_,none⟩) l.out _).trans (((cell_far (p:=⟨a,_,none⟩) l.out _).trans (((cell_far (p:=⟨a,_,none⟩) l.out _).trans (hHeld.2.2.2.2.2))))))⟩ (fun hHeld=>?_)
 clear hK K
 refine done_ (done_of HT_.out (by kernel_rfl)) ?_
 try go_wp2
 refine bodyPost_ret (results_cell_row rfl _ _ a 73 #[.int .i64 E,.slice aL an.length aM,.int .i64 B] (0,0) _ rfl (zkp s) Try.underlying73 rfl (by kernel_rfl)) rfl ?_
 exact⟨_,by first|rfl|(simp[errW_none,errW_some] <;> rfl)|(simp[*,errW_none,errW_some] <;> rfl),by (with_reducible repeat (first|apply Kd.V_alloc|apply Kd.V_drewN|apply Kd.V_drew));exact Kd.V_mono (Kd.V_far (p:=⟨a,2,none⟩) (Kd.V_far (p:=⟨a,1,none⟩) (Kd.V_far (p:=⟨a,0,none⟩) (Kd.V_mono aE.out (fun k_ hk=>(⟨hk,hk.2.2.2⟩:_∧k_≠a))) (fun _ hk=>hk.2) (.int .i64 E)) (fun _ hk=>hk.2) (.slice aL an.length aM)) (fun _ hk=>hk.2) (.int .i64 B)) (fun _ hk=>hk.1.1),zb HB⟩

end Go.Proofs.Ytmmbgbchimangaa.PQ
