-- by a program of this claim
import Derived.Test.YtmmbgbchimangaaPQx0
import Derived.Test.YtmmbgbchimangaaPQx1
import Derived.Test.YtmmbgbchimangaaPQx2
import Derived.Test.YtmmbgbchimangaaPQx4
namespace Go.Proofs.Ytmmbgbchimangaa.PQ
open Go.RowKit Go.Proofs.YtmmbgbchimangaaW.PrintWords Go.Proofs.YtmmbgbchimangaaW.PrintLast Go.Proofs.YtmmbgbchimangaaW.PrintMore Go.Proofs.Ytmmbgbchimangaa.Z
attribute [local go_sem] max2_int min2_int max_two min_two max_three min_three max_four min_four   -- for this text's walks alone
set_option linter.unusedVariables false
set_option linter.unusedSimpArgs false

/-! ### soft_Sub: function 26 -/
def soft_Sub.f (k:Nat) (a0_0:Int) (a0_1:Int) (a1:Int) (a2:Int):Option (Int×Int):=(round_Open.f k a0_0 a0_1 a2).bind fun a=>(if a.2.2.2.2=0 then ((round_Zero.f a0_0 a0_1 true).bind fun c=>((soft_Add.f k a0_0 a0_1 a1 (Go.bits .xor .u64 a2 c)).bind fun b=>(some (b.1,b.2)))) else (some (0,a.2.2.2.2)))
theorem soft_Sub.mono:∀ a0 a1 a2 a3 k,LeO (soft_Sub.f k a0 a1 a2 a3) (soft_Sub.f (k+1) a0 a1 a2 a3):=by
 intro a0 a1 a2 a3 k
 unfold soft_Sub.f
 repeat' first|(with_reducible first|apply round_Open.mono|apply soft_Add.mono|exact LeO.refl _|exact LeO.none _|refine LeO.ite ?_ ?_|refine LeO.bind ?_ (fun _=>?_))|refine LeO.ite ?_ ?_|refine LeO.bind ?_ (fun _=>?_)
def soft_Sub.T4:Bool×List (List Nat×List Nat):=(true,[([],[]),([],[]),([],[]),([],[]),([3],[3]),([2,4],[2,4]),([0,1,5,4],[0,1,5]),([6],[6]),([6],[6]),([7,6,0,1,2,3,4,5,6,7,8],[7]),([8,9,0,1,2,3,4,5,6,7,8,9],[8])])
def soft_Sub.B4:List Nat:=[0,0,0,0,8,28,63,127,127,511,1023]
theorem soft_Sub.tab4:rtab .any (opsOf Try.f26 4)=soft_Sub.T4:=by kernel_rfl
theorem soft_Sub.bits4:waitsOk soft_Sub.T4.2 soft_Sub.B4=true:=by kernel_rfl
set_option maxHeartbeats 8000000 in
set_option maxRecDepth 100000 in
theorem soft_Sub.calls {k:Nat} {d:Int} {g:Int} {a1:Int} {F:Int} {r1:Int} {r2:Int} {w:World} (h:soft_Sub.f k d g a1 F=some (r1,r2)) :
  Calls Try.prog 26 #[.agg #[.int .i64 d,.int .i64 g],.int .u64 a1,.int .u64 F] w fun e w'=>e=.returned (.tuple #[.int .u64 r1,.int .i64 r2])∧Below w.heap.size w w':=by
 have hu23:=Try.underlying23
 have hu34:=Try.underlying34
 have HB:=Aside0.mk (Below.refl w.heap.size w)
 have H:=h
 unfold soft_Sub.f at H
 clear h
 obtain⟨⟨m,o,p,q,G⟩,A4,H⟩:=oB H
 try dsimp only at H
 by_cases I:G=0
 rotate_left
 ·rw[if_neg I] at H
  obtain⟨J,L⟩:=zf I
  simp only[Option.some.injEq,Prod.mk.injEq] at H
  obtain⟨rfl,rfl⟩:=H
  go_enter Try.func26,Try.ntmps26
  go_wp2_with (first|((with_reducible refine gate_dst (N:=3) rfl ?_);refine zbox (N:=3) (cs:=#[.int .i64 d,.int .i64 g]) (t:=23) ?_;intro l hg aF hbox hb;have a:=Aside0.mk hbox;have B:=zge hg HB;have C:=zge hg HB;replace HB:=zbs HB hb;clear hb hbox hg;obtain⟨W,X,Y,Z⟩:=zc2 a)|((with_reducible refine gate_callee (f:=68) rfl ?_);refine zgc (some 13) Try.func68 (round_Open.calls A4.out) ?_;intro aG hb;obtain⟨a,HB⟩:=zu1 a HB hb;clear hb)|((with_reducible refine gate_dst (N:=8) rfl ?_);refine zbox (N:=8) (cs:=#[.int .i64 0,.bool false,.int .i64 0,.int .u64 0]) (t:=34) ?_;intro b hg aH hbox hb;have c:=Aside0.mk hbox;have D:=zge hg HB;have E:=zge hg HB;have s:=znl hg a;have j:=zng hg a;obtain⟨a,HB⟩:=zu1 a HB hb;clear hb hbox hg;obtain⟨au,av⟩:=z2 j;obtain⟨aa,ab,ac,ad,ae,af,ag,ah⟩:=zc4 c))
  go_ret2
  exact zr HB

 rw[if_pos I] at H
 obtain⟨J,L⟩:=zt I
 clear I
 obtain⟨v,A6,H⟩:=oB H
 obtain⟨⟨ax,ay⟩,A7,H⟩:=oB H
 try dsimp only at H
 simp only[Option.some.injEq,Prod.mk.injEq] at H
 obtain⟨rfl,rfl⟩:=H
 go_enter Try.func26,Try.ntmps26
 try go_wp2_with (first|((with_reducible refine gate_dst (N:=3) rfl ?_);refine zbox (N:=3) (cs:=#[.int .i64 d,.int .i64 g]) (t:=23) ?_;intro l hg w8 hbox hb;have a:=Aside0.mk hbox;have B:=zge hg HB;have C:=zge hg HB;replace HB:=zbs HB hb;clear hb hbox hg;obtain⟨aj,ak,al,am⟩:=zc2 a)|((with_reducible refine gate_callee (f:=68) rfl ?_);refine zgc (some 13) Try.func68 (round_Open.calls A4.out) ?_;intro aB hb;obtain⟨a,HB⟩:=zu1 a HB hb;clear hb)|((with_reducible refine gate_dst (N:=8) rfl ?_);refine zbox (N:=8) (cs:=#[.int .i64 0,.bool false,.int .i64 0,.int .u64 0]) (t:=34) ?_;intro b hg z hbox hb;have c:=Aside0.mk hbox;have D:=zge hg HB;have E:=zge hg HB;have s:=znl hg a;have j:=zng hg a;obtain⟨a,HB⟩:=zu1 a HB hb;clear hb hbox hg;obtain⟨ap,aq⟩:=z2 j;obtain⟨M,O,P,Q,R,T,U,V⟩:=zc4 c))
 have n0_:Aside0 (((((z.setCell ⟨b,0,none⟩ (.int .i64 m)).setCell ⟨b,1,none⟩ (.bool o)).setCell ⟨b,2,none⟩ (.int .i64 p)).setCell ⟨b,3,none⟩ (.int .u64 q)).heap[l]?=some (.cells #[.int .i64 d,.int .i64 g] 23 (0,0))):=⟨zk a⟩
 have n1_:Aside0 (((((z.setCell ⟨b,0,none⟩ (.int .i64 m)).setCell ⟨b,1,none⟩ (.bool o)).setCell ⟨b,2,none⟩ (.int .i64 p)).setCell ⟨b,3,none⟩ (.int .u64 q)).heap[b]?=some (.cells #[.int .i64 m,.bool o,.int .i64 p,.int .u64 q] 34 (0,0))):=⟨zkp c⟩
 have n2_:Aside0 (Below w.heap.size w ((((z.setCell ⟨b,0,none⟩ (.int .i64 m)).setCell ⟨b,1,none⟩ (.bool o)).setCell ⟨b,2,none⟩ (.int .i64 p)).setCell ⟨b,3,none⟩ (.int .u64 q))):=⟨zb HB⟩
 (try clear a)
 (try clear c)
 (try clear HB)
 generalize ((((z.setCell ⟨b,0,none⟩ (.int .i64 m)).setCell ⟨b,1,none⟩ (.bool o)).setCell ⟨b,2,none⟩ (.int .i64 p)).setCell ⟨b,3,none⟩ (.int .u64 q))=ar at n0_ n1_ n2_ ⊢
 have a:=n0_
 have c:=n1_
 have HB:=n2_
 clear n0_ n1_ n2_
 replace a:=Aside0.mk (blk_drew a.out)
 replace c:=Aside0.mk (blk_drew c.out)
 replace HB:=Aside0.mk (below_drew1 HB.out)
 refine start_ (n:=11) (S:=fun w'=>w'.cell? ⟨l,0,none⟩=some (.int .i64 d)∧w'.cell? ⟨l,1,none⟩=some (.int .i64 g)) (ds:=[]) #[false,false,false,false,false,false,false,false,false,false,false] (by kernel_rfl) rfl rfl ⟨(blk_cell a.out 0).trans rfl,(blk_cell a.out 1).trans rfl⟩ (fun hHeld=>?_);refine with_tabW soft_Sub.tab4 soft_Sub.bits4 (fun HT_ HW_=>?_)
 generalize ar.drew=aC at a c HB hHeld ⊢
 refine zpure_ (i:=1) (N:=some 20) #[false,true,false,false,false,false,false,false,false,false,false] (any_of HT_.out (by kernel_rfl)) ?_
 refine zpure_ (i:=2) (N:=some 21) #[false,true,true,false,false,false,false,false,false,false,false] (any_of HT_.out (by kernel_rfl)) ?_
 refine ztake_ (i:=0) (N:=some 19) #[true,true,true,false,false,false,false,false,false,false,false] rfl (take_ofW HT_.out HW_.out (by kernel_rfl)) hHeld (Or.inl ⟨by rfl,by rintro w' ⟨s0,s1⟩;go_simp;with_reducible rfl⟩) ?_
 refine ztake_ (i:=3) (N:=some 22) #[true,true,true,true,false,false,false,false,false,false,false] rfl (take_ofW HT_.out HW_.out (by kernel_rfl)) hHeld (Or.inl ⟨by rfl,by rintro w' ⟨s0,s1⟩;go_simp;with_reducible rfl⟩) ?_
 refine one_ (i:=4) (N:=some 23) #[true,true,true,true,true,false,false,false,false,false,false] rfl rfl (one_of HT_.out (by kernel_rfl)) (by decide) (fun K hK=>?_)
 refine goes_ Try.func50 (by kernel_rfl) rfl #[.agg #[.int .i64 d,.int .i64 g],.bool true] (by rfl) rfl rfl (by (try simp only[List.map_toArray,List.map_cons,List.map_nil]);first|done|rfl|(simp only[List.length_drop,List.length_take];rfl)) ?_
 with_reducible refine (round_Zero.calls A6.out).mono ?_
 rintro e aD ⟨rfl,hb⟩
 refine⟨_,rfl,?_⟩
 obtain⟨a,c,HB⟩:=zu2 a c HB hb
 try clear hb
 refine hK.out _ _ ⟨(blk_cell a.out 0).trans rfl,(blk_cell a.out 1).trans rfl⟩ (fun hHeld=>?_)
 clear hK K
 refine norm_ (a':=?_) ?_ ?_
 rotate_left
 ·show Act.put _ (some 23) _=_
  simp only[Act.put,List.setIfInBounds_toArray,List.set_cons_zero,List.set_cons_succ,i64_w,i32_w]
  rfl
 refine zpure_ (i:=5) (N:=some 24) #[true,true,true,true,true,true,false,false,false,false,false] (any_of HT_.out (by kernel_rfl)) ?_
 refine one_ (i:=6) (N:=some 25) #[true,true,true,true,true,true,true,false,false,false,false] rfl rfl (one_of HT_.out (by kernel_rfl)) (by decide) (fun K hK=>?_)
 refine goes_ Try.func24 (by kernel_rfl) rfl #[.agg #[.int .i64 d,.int .i64 g],.int .u64 a1,.int .u64 (Go.bits .xor .u64 F v)] (by rfl) rfl rfl (by (try simp only[List.map_toArray,List.map_cons,List.map_nil]);first|done|rfl|(simp only[List.length_drop,List.length_take];rfl)) ?_
 with_reducible refine (soft_Add.calls A7.out).mono ?_
 rintro e aE ⟨rfl,hb⟩
 refine⟨_,rfl,?_⟩
 obtain⟨a,c,HB⟩:=zu2 a c HB hb
 try clear hb
 refine hK.out _ _ ⟨(blk_cell a.out 0).trans rfl,(blk_cell a.out 1).trans rfl⟩ (fun hHeld=>?_)
 clear hK K
 refine norm_ (a':=?_) ?_ ?_
 rotate_left
 ·show Act.put _ (some 25) _=_
  simp only[Act.put,List.setIfInBounds_toArray,List.set_cons_zero,List.set_cons_succ,i64_w,i32_w]
  rfl
 refine zpure_ (i:=7) (N:=some 26) #[true,true,true,true,true,true,true,true,false,false,false] (any_of HT_.out (by kernel_rfl)) ?_
 refine zpure_ (i:=8) (N:=some 27) #[true,true,true,true,true,true,true,true,true,false,false] (any_of HT_.out (by kernel_rfl)) ?_
 refine zpure_ (i:=9) (N:=some 6) #[true,true,true,true,true,true,true,true,true,true,false] (any_of HT_.out (by kernel_rfl)) ?_
 refine zpure_ (i:=10) (N:=some 7) #[true,true,true,true,true,true,true,true,true,true,true] (any_of HT_.out (by kernel_rfl)) ?_
 refine done_ (done_of HT_.out (by kernel_rfl)) ?_
 try go_wp2
 go_ret2
 exact zr HB
end Go.Proofs.Ytmmbgbchimangaa.PQ
