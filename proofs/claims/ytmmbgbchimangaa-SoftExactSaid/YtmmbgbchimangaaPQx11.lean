-- by a program of this claim
import Derived.Test.YtmmbgbchimangaaPQx0
import Derived.Test.YtmmbgbchimangaaPQx8
import Derived.Test.YtmmbgbchimangaaPQx10
namespace Go.Proofs.Ytmmbgbchimangaa.PQ
open Go.RowKit Go.Proofs.YtmmbgbchimangaaW.PrintWords Go.Proofs.YtmmbgbchimangaaW.PrintLast Go.Proofs.YtmmbgbchimangaaW.PrintMore Go.Proofs.Ytmmbgbchimangaa.Z
attribute [local go_sem] max2_int min2_int max_two min_two max_three min_three max_four min_four   -- for this text's walks alone
set_option linter.unusedVariables false
set_option linter.unusedSimpArgs false

/-! ### grottoref02_Near: function 57 -/
mutual
def grottoref02_Near.l0:Nat→Bool→List Int→List Int→Int→Int→Int→Int→Option (Int)
 | 0,_,_,_,_,_,_,_=>none
 | k+1,e,c,d,a,b,g,h=>if b>a then ((grottoref02_Up.f k d (wrap64 (b-a))).bind fun i=>(grottoref02_Near.j1 k e c d a b i c g h)) else ((grottoref02_Up.f k c (wrap64 (a-b))).bind fun j=>(grottoref02_Near.j1 k e c d a b d j g h))
def grottoref02_Near.j1:Nat→Bool→List Int→List Int→Int→Int→List Int→List Int→Int→Int→Option (Int)
 | 0,_,_,_,_,_,_,_,_,_=>none
 | k+1,b,j,l,m,c,h,n,a,d=>(grottoref02_Quo.f k n h).bind fun g=>((grottoref02_Bits.f k g.1).bind fun o=>(if o≤(wrap64 (a+1)) then ((grottoref02_Small.f k g.1).bind fun e=>((grottoref02_Up.f k g.2 1).bind fun p=>((grottoref02_Cmp.f k p h).bind fun i=>(if i>0 then (grottoref02_Near.j2 k b c e true a d) else (if i=0 then (grottoref02_Near.j2 k b c e ((Int.tmod e 2)==1) a d) else (grottoref02_Near.j2 k b c e false a d)))))) else (grottoref02_Near.l0 k b j l m (wrap64 (c+1)) a d)))
def grottoref02_Near.j2:Nat→Bool→Int→Int→Bool→Int→Int→Option (Int)
 | 0,_,_,_,_,_,_=>none
 | k+1,a,b,c,f,d,e=>if f=true then (grottoref02_Near.j3 k a b (IntKind.u64.wrap (c+1)) d e) else (grottoref02_Near.j3 k a b c d e)
def grottoref02_Near.j3:Nat→Bool→Int→Int→Int→Int→Option (Int)
 | 0,_,_,_,_,_=>none
 | k+1,c,d,a,b,e=>(grottoref02_power.f k (wrap64 (b+1))).bind fun g=>(if a=g then (grottoref02_Near.j4 k c (wrap64 (d+1)) (IntKind.u64.wrap (Int.tdiv a 2)) b e) else (grottoref02_Near.j4 k c d a b e))
def grottoref02_Near.j4:Nat→Bool→Int→Int→Int→Int→Option (Int)
 | 0,_,_,_,_,_=>none
 | k+1,c,e,d,a,b=>(grottoref02_power.f k a).bind fun h=>(if d<h then ((grottoref02_Whole.f k a b c 0 d).bind fun i=>(some i)) else ((grottoref02_Least.f k a b).bind fun g=>((grottoref02_power.f k b).bind fun j=>(if (wrap64 ((wrap64 (e-g))+1))≥(wrap64 ((wrap64 (j))-1)) then ((grottoref02_Inf.f k a b c).bind fun l=>(some l)) else ((grottoref02_power.f k a).bind fun m=>((grottoref02_Whole.f k a b c (IntKind.u64.wrap (wrap64 ((wrap64 (e-g))+1))) (IntKind.u64.wrap (d-m))).bind fun n=>(some n)))))))
end
def grottoref02_Near.f (k:Nat) (a0_0:Int) (a0_1:Int) (a1:Bool) (l2:List Int) (l3:List Int) (a4:Int):Option (Int):=(grottoref02_trim.f k l2).bind fun a=>(if (a.length:Int)=0 then ((grottoref02_Zero.f k a0_0 a0_1 a1).bind fun b=>(some b)) else ((grottoref02_Bits.f k l2).bind fun c=>((grottoref02_Bits.f k l3).bind fun d=>((grottoref02_Least.f k a0_0 a0_1).bind fun e=>(grottoref02_Near.l0 k a1 l2 l3 a4 (mx (wrap64 ((wrap64 ((wrap64 ((wrap64 (c-d))+a4))-a0_0))-1)) e) a0_0 a0_1)))))
theorem grottoref02_Near.mono_l:∀ k,(∀ y0 y1 y2 y3 y4 y5 y6,LeO (grottoref02_Near.l0 k y0 y1 y2 y3 y4 y5 y6) (grottoref02_Near.l0 (k+1) y0 y1 y2 y3 y4 y5 y6))∧(∀ y0 y1 y2 y3 y4 y5 y6 y7 y8,LeO (grottoref02_Near.j1 k y0 y1 y2 y3 y4 y5 y6 y7 y8) (grottoref02_Near.j1 (k+1) y0 y1 y2 y3 y4 y5 y6 y7 y8))∧(∀ y0 y1 y2 y3 y4 y5,LeO (grottoref02_Near.j2 k y0 y1 y2 y3 y4 y5) (grottoref02_Near.j2 (k+1) y0 y1 y2 y3 y4 y5))∧(∀ y0 y1 y2 y3 y4,LeO (grottoref02_Near.j3 k y0 y1 y2 y3 y4) (grottoref02_Near.j3 (k+1) y0 y1 y2 y3 y4))∧(∀ y0 y1 y2 y3 y4,LeO (grottoref02_Near.j4 k y0 y1 y2 y3 y4) (grottoref02_Near.j4 (k+1) y0 y1 y2 y3 y4))
 | 0=>⟨fun _ _ _ _ _ _ _ r h=>by simp[grottoref02_Near.l0] at h,fun _ _ _ _ _ _ _ _ _ r h=>by simp[grottoref02_Near.j1] at h,fun _ _ _ _ _ _ r h=>by simp[grottoref02_Near.j2] at h,fun _ _ _ _ _ r h=>by simp[grottoref02_Near.j3] at h,fun _ _ _ _ _ r h=>by simp[grottoref02_Near.j4] at h⟩
 | k+1=>by
  obtain⟨ih0,ih1,ih2,ih3,ih4⟩:=grottoref02_Near.mono_l k
  refine⟨?_,?_,?_,?_,?_⟩ <;> intros <;> (first|unfold grottoref02_Near.l0|unfold grottoref02_Near.j1|unfold grottoref02_Near.j2|unfold grottoref02_Near.j3|unfold grottoref02_Near.j4) <;> (repeat' first|(with_reducible first|apply ih0|apply ih1|apply ih2|apply ih3|apply ih4|apply grottoref02_Bits.mono|apply grottoref02_Cmp.mono|apply grottoref02_Inf.mono|apply grottoref02_Least.mono|apply grottoref02_Quo.mono|apply grottoref02_Small.mono|apply grottoref02_Up.mono|apply grottoref02_Whole.mono|apply grottoref02_Zero.mono|apply grottoref02_power.mono|apply grottoref02_trim.mono|exact LeO.refl _|exact LeO.none _|refine LeO.ite ?_ ?_|refine LeO.bind ?_ (fun _=>?_))|refine LeO.ite ?_ ?_|refine LeO.bind ?_ (fun _=>?_))
theorem grottoref02_Near.mono:∀ a0 a1 a2 a3 a4 a5 k,LeO (grottoref02_Near.f k a0 a1 a2 a3 a4 a5) (grottoref02_Near.f (k+1) a0 a1 a2 a3 a4 a5):=by
 intro a0 a1 a2 a3 a4 a5 k
 obtain⟨ih0,ih1,ih2,ih3,ih4⟩:=grottoref02_Near.mono_l k
 unfold grottoref02_Near.f
 repeat' first|(with_reducible first|apply ih0|apply ih1|apply ih2|apply ih3|apply ih4|apply grottoref02_Bits.mono|apply grottoref02_Cmp.mono|apply grottoref02_Inf.mono|apply grottoref02_Least.mono|apply grottoref02_Quo.mono|apply grottoref02_Small.mono|apply grottoref02_Up.mono|apply grottoref02_Whole.mono|apply grottoref02_Zero.mono|apply grottoref02_power.mono|apply grottoref02_trim.mono|exact LeO.refl _|exact LeO.none _|refine LeO.ite ?_ ?_|refine LeO.bind ?_ (fun _=>?_))|refine LeO.ite ?_ ?_|refine LeO.bind ?_ (fun _=>?_)
def grottoref02_Near.T3:Bool×List (List Nat×List Nat):=(true,[([],[]),([0],[0]),([],[]),([2,1],[2]),([1,3],[1,3]),([],[]),([4,5],[4,5]),([],[]),([7],[7]),([6,8],[6,8]),([9],[9]),([],[]),([11,3],[11]),([10,12],[10,12]),([13,12,0,1,2,3,4,5,6,7,8,9,10,11,12,13],[13])])
def grottoref02_Near.B3:List Nat:=[0,1,0,7,15,0,63,0,128,511,1023,0,2063,8191,16383]
theorem grottoref02_Near.tab3:rtab .any (opsOf Try.f57 3)=grottoref02_Near.T3:=by kernel_rfl
theorem grottoref02_Near.bits3:waitsOk grottoref02_Near.T3.2 grottoref02_Near.B3=true:=by kernel_rfl
def grottoref02_Near.T25:Bool×List (List Nat×List Nat):=(true,[([],[]),([],[]),([],[]),([2],[2]),([],[]),([],[]),([5],[5]),([6],[6]),([4,7],[4,7]),([0,1,3,8,7],[0,1,3,8]),([9,9,0,1,2,3,4,5,6,7,8,9],[9])])
def grottoref02_Near.B25:List Nat:=[0,0,0,4,0,0,32,96,240,511,1023]
theorem grottoref02_Near.tab25:rtab .any (opsOf Try.f57 25)=grottoref02_Near.T25:=by kernel_rfl
theorem grottoref02_Near.bits25:waitsOk grottoref02_Near.T25.2 grottoref02_Near.B25=true:=by kernel_rfl
set_option maxHeartbeats 8000000 in
set_option maxRecDepth 100000 in
theorem grottoref02_Near.calls (k:Nat) (c:Int) (d:Int) (a1:Bool) (P2_:Nat→Prop) (A2:Option Addr) (c2:Nat) (l2:List Int) (P3_:Nat→Prop) (A3:Option Addr) (c3:Nat) (l3:List Int) (a4:Int) (r:Int) (w:World) (hs2:Kd.V (Kd.int .i64) 3 w w.heap.size (fun k_=>P2_ k_) (.slice A2 l2.length c2) l2) (hs3:Kd.V (Kd.int .i64) 3 w w.heap.size (fun k_=>P3_ k_) (.slice A3 l3.length c3) l3) (h:grottoref02_Near.f k c d a1 l2 l3 a4=some r) :
  Calls Try.prog 57 #[.agg #[.int .i64 c,.int .i64 d],.bool a1,.slice A2 l2.length c2,.slice A3 l3.length c3,.int .i64 a4] w fun e w'=>e=.returned (.int .u64 r)∧Below w.heap.size w w':=by
 have hu23:=Try.underlying23
 have q:=Aside0.mk (show Kd.V (Kd.int .i64) 3 w w.heap.size (fun k_=>((P2_ k_∨P3_ k_)∨w.heap.size≤k_)) (.slice A2 l2.length c2) l2 from Kd.V_mono hs2 (fun k_ hk=>.inl (.inl hk)))
 have v:=Aside0.mk (show Kd.V (Kd.int .i64) 3 w w.heap.size (fun k_=>((P2_ k_∨P3_ k_)∨w.heap.size≤k_)) (.slice A3 l3.length c3) l3 from Kd.V_mono hs3 (fun k_ hk=>.inl (.inr hk)))
 have HB:=Aside0.mk (Below.refl w.heap.size w)
 have H:=h
 unfold grottoref02_Near.f at H
 clear h
 obtain⟨U,A6,H⟩:=oB H
 by_cases c7:(U.length:Int)=0
 ·rw[if_pos c7] at H
  obtain⟨Y,Z⟩:=zt c7
  clear c7
  obtain⟨aO,A8,H⟩:=oB H
  obtain rfl:=Option.some.inj H
  go_enter Try.func57,Try.ntmps57
  go_wp2_with (first|((with_reducible refine gate_dst (N:=5) rfl ?_);refine zbox (N:=5) (cs:=#[.int .i64 c,.int .i64 d]) (t:=23) ?_;intro b hg w9 hbox hb;have a:=Aside0.mk hbox;have aZ:=zge hg HB;have a0:=zge hg HB;replace q:=Aside0.mk (Kd.V_below (Kd.V_elderB (by (with_reducible repeat (first|apply Kd.V_alloc|apply Kd.V_drewN|apply Kd.V_drew));exact q.out) b (Nat.le_of_eq hg.symm)) hb);replace v:=Aside0.mk (Kd.V_below (Kd.V_elderB (by (with_reducible repeat (first|apply Kd.V_alloc|apply Kd.V_drewN|apply Kd.V_drew));exact v.out) b (Nat.le_of_eq hg.symm)) hb);replace HB:=zbs HB hb;clear hb hbox hg)|((with_reducible refine gate_callee (f:=91) rfl ?_);refine zgo (some 20) Try.func91 #[.slice A2 l2.length c2] ?_;(with_reducible refine (grottoref02_trim.calls k (fun k_=>(((P2_ k_∨P3_ k_)∨w.heap.size≤k_)∧k_≠b)) _ _ l2 U _ ?side1 A6.out).mono ?_);(case side1=>exact q.out);rintro e cw ⟨v355,rfl,ho0,hb⟩;refine⟨_,rfl,?_⟩;have p:=Aside0.mk (Kd.V_lower (Kd.V_mono (ok':=fun k_=>((P2_ k_∨P3_ k_)∨w.heap.size≤k_)∧k_≠b) ho0 (fun k_ hk_=>⟨Or.elim hk_ (fun hs_=>hs_.1) (fun hn_=>(.inr (Nat.le_trans (below_size (zb HB)) hn_))),Or.elim hk_ (fun hs_=>hs_.2) (fun hn_=>(Kd.freshB (g:=b) (o:=.cells #[.int .i64 c,.int .i64 d] 23 (0,0)) (zk a) k_ hn_))⟩)) (below_size (zb HB)));replace q:=Aside0.mk (Kd.V_below (by (with_reducible repeat (first|apply Kd.V_alloc|apply Kd.V_drewN|apply Kd.V_drew));exact q.out) hb);replace v:=Aside0.mk (Kd.V_below (by (with_reducible repeat (first|apply Kd.V_alloc|apply Kd.V_drewN|apply Kd.V_drew));exact v.out) hb);obtain⟨a,HB⟩:=zu1 a HB hb;clear hb;(try clear ho0);obtain⟨cl,cm,bb⟩:=Kd.V_slice p.out;subst bb;obtain⟨F,G,I,J⟩:=zc2 a)|((with_reducible refine gate_callee (f:=46) rfl ?_);refine zgc (some 25) Try.func46 (grottoref02_Zero.calls A8.out) ?_;intro cx hb;replace q:=Aside0.mk (Kd.V_below (by (with_reducible repeat (first|apply Kd.V_alloc|apply Kd.V_drewN|apply Kd.V_drew));exact q.out) hb);replace v:=Aside0.mk (Kd.V_below (by (with_reducible repeat (first|apply Kd.V_alloc|apply Kd.V_drewN|apply Kd.V_drew));exact v.out) hb);replace p:=Aside0.mk (Kd.V_below (by (with_reducible repeat (first|apply Kd.V_alloc|apply Kd.V_drewN|apply Kd.V_drew));exact p.out) hb);obtain⟨a,HB⟩:=zu1 a HB hb;clear hb))
  go_ret
  exact zr HB
 rw[if_neg c7] at H
 obtain⟨Y,Z⟩:=zf c7
 have ae:¬ (U=[]):=fun h_=>c7 (by rw[h_];rfl)
 obtain⟨W,bc,H⟩:=oB H
 obtain⟨X,bd,H⟩:=oB H
 obtain⟨ad,be,H⟩:=oB H
 obtain⟨az,u⟩:∃ j_:Int,(mx (wrap64 ((wrap64 ((wrap64 ((wrap64 (W-X))+a4))-c))-1)) ad)=j_:=⟨_,rfl⟩
 first|rw[u] at H|simp only[u] at H
 (try rw[u] at A6)
 (try rw[u] at bc)
 (try rw[u] at bd)
 (try rw[u] at be)
 have b1:(if (wrap64 ((wrap64 ((wrap64 ((wrap64 (W-X))+a4))-c))-1))<ad then ad else (wrap64 ((wrap64 ((wrap64 ((wrap64 (W-X))+a4))-c))-1)))=az:=u
 have H':=Aside0.mk H
 clear H
 go_enter Try.func57,Try.ntmps57
 try go_wp2_with (first|((with_reducible refine gate_dst (N:=5) rfl ?_);refine zbox (N:=5) (cs:=#[.int .i64 c,.int .i64 d]) (t:=23) ?_;intro b hg cy hbox hb;have a:=Aside0.mk hbox;have aZ:=zge hg HB;have a0:=zge hg HB;replace q:=Aside0.mk (Kd.V_below (Kd.V_elderB (by (with_reducible repeat (first|apply Kd.V_alloc|apply Kd.V_drewN|apply Kd.V_drew));exact q.out) b (Nat.le_of_eq hg.symm)) hb);replace v:=Aside0.mk (Kd.V_below (Kd.V_elderB (by (with_reducible repeat (first|apply Kd.V_alloc|apply Kd.V_drewN|apply Kd.V_drew));exact v.out) b (Nat.le_of_eq hg.symm)) hb);replace HB:=zbs HB hb;clear hb hbox hg)|((with_reducible refine gate_callee (f:=91) rfl ?_);refine zgo (some 20) Try.func91 #[.slice A2 l2.length c2] ?_;(with_reducible refine (grottoref02_trim.calls k (fun k_=>(((P2_ k_∨P3_ k_)∨w.heap.size≤k_)∧k_≠b)) _ _ l2 U _ ?side1 A6.out).mono ?_);(case side1=>exact q.out);rintro e b3 ⟨v355,rfl,ho0,hb⟩;refine⟨_,rfl,?_⟩;have p:=Aside0.mk (Kd.V_lower (Kd.V_mono (ok':=fun k_=>((P2_ k_∨P3_ k_)∨w.heap.size≤k_)∧k_≠b) ho0 (fun k_ hk_=>⟨Or.elim hk_ (fun hs_=>hs_.1) (fun hn_=>(.inr (Nat.le_trans (below_size (zb HB)) hn_))),Or.elim hk_ (fun hs_=>hs_.2) (fun hn_=>(Kd.freshB (g:=b) (o:=.cells #[.int .i64 c,.int .i64 d] 23 (0,0)) (zk a) k_ hn_))⟩)) (below_size (zb HB)));replace q:=Aside0.mk (Kd.V_below (by (with_reducible repeat (first|apply Kd.V_alloc|apply Kd.V_drewN|apply Kd.V_drew));exact q.out) hb);replace v:=Aside0.mk (Kd.V_below (by (with_reducible repeat (first|apply Kd.V_alloc|apply Kd.V_drewN|apply Kd.V_drew));exact v.out) hb);obtain⟨a,HB⟩:=zu1 a HB hb;clear hb;(try clear ho0);obtain⟨cn,co,bf⟩:=Kd.V_slice p.out;subst bf))
 replace q:=Aside0.mk (Kd.V_drew q.out)
 replace v:=Aside0.mk (Kd.V_drew v.out)
 replace p:=Aside0.mk (Kd.V_drew p.out)
 replace a:=Aside0.mk (blk_drew a.out)
 replace HB:=Aside0.mk (below_drew1 HB.out)
 refine start_ (n:=15) (S:=fun w'=>w'.cell? ⟨b,0,none⟩=some (.int .i64 c)∧w'.cell? ⟨b,1,none⟩=some (.int .i64 d)) (ds:=[]) #[false,false,false,false,false,false,false,false,false,false,false,false,false,false,false] (by kernel_rfl) rfl rfl ⟨(blk_cell a.out 0).trans rfl,(blk_cell a.out 1).trans rfl⟩ (fun hHeld=>?_);refine with_tabW grottoref02_Near.tab3 grottoref02_Near.bits3 (fun HT_ HW_=>?_)
 generalize b3.drew=cz at q v p a HB hHeld ⊢
 refine zpure_ (i:=0) (N:=some 26) #[true,false,false,false,false,false,false,false,false,false,false,false,false,false,false] (any_of HT_.out (by kernel_rfl)) ?_
 refine zpure_ (i:=2) (N:=some 28) #[true,false,true,false,false,false,false,false,false,false,false,false,false,false,false] (any_of HT_.out (by kernel_rfl)) ?_
 refine zpure_ (i:=5) (N:=some 31) #[true,false,true,false,false,true,false,false,false,false,false,false,false,false,false] (any_of HT_.out (by kernel_rfl)) ?_
 refine zpure_ (i:=7) (N:=some 33) #[true,false,true,false,false,true,false,true,false,false,false,false,false,false,false] (any_of HT_.out (by kernel_rfl)) ?_
 refine ztake_ (i:=8) (N:=some 34) #[true,false,true,false,false,true,false,true,true,false,false,false,false,false,false] rfl (take_ofW HT_.out HW_.out (by kernel_rfl)) hHeld (Or.inl ⟨by rfl,by rintro w' ⟨s0,s1⟩;go_simp;with_reducible rfl⟩) ?_
 refine ztake_ (i:=11) (N:=some 37) #[true,false,true,false,false,true,false,true,true,false,false,true,false,false,false] rfl (take_ofW HT_.out HW_.out (by kernel_rfl)) hHeld (Or.inl ⟨by rfl,by rintro w' ⟨s0,s1⟩;go_simp;with_reducible rfl⟩) ?_
 refine one_ (i:=1) (N:=some 27) #[true,true,true,false,false,true,false,true,true,false,false,true,false,false,false] rfl rfl (one_of HT_.out (by kernel_rfl)) (by decide) (fun K hK=>?_)
 refine goes_ Try.func65 (by kernel_rfl) rfl #[.slice A2 l2.length c2] (by rfl) rfl rfl (by (try simp only[List.map_toArray,List.map_cons,List.map_nil]);first|done|rfl|(simp only[List.length_drop,List.length_take];rfl)) ?_
 with_reducible refine (grottoref02_Bits.calls k _ _ l2 W _ ?side1 ?side2 bc.out).mono ?_
 (case side1=>repeat (first|exact (Kd.V_reads' q.out).2.2|(with_reducible refine Kd.C_alloc ?_ _)|(with_reducible refine Kd.C_drewN ?_ _)|(with_reducible refine Kd.C_drew ?_)))
 (case side2=>exact (Kd.V_reads' q.out).2.1)
 rintro e cA ⟨rfl,hb⟩
 refine⟨_,rfl,?_⟩
 replace q:=Aside0.mk (Kd.V_below (by (with_reducible repeat (first|apply Kd.V_alloc|apply Kd.V_drewN|apply Kd.V_drew));exact q.out) hb)
 replace v:=Aside0.mk (Kd.V_below (by (with_reducible repeat (first|apply Kd.V_alloc|apply Kd.V_drewN|apply Kd.V_drew));exact v.out) hb)
 replace p:=Aside0.mk (Kd.V_below (by (with_reducible repeat (first|apply Kd.V_alloc|apply Kd.V_drewN|apply Kd.V_drew));exact p.out) hb)
 obtain⟨a,HB⟩:=zu1 a HB hb
 try clear hb
 refine hK.out _ _ ⟨(blk_cell a.out 0).trans rfl,(blk_cell a.out 1).trans rfl⟩ (fun hHeld=>?_)
 clear hK K
 refine norm_ (a':=?_) ?_ ?_
 rotate_left
 ·show Act.put _ (some 27) _=_
  simp only[Act.put,List.setIfInBounds_toArray,List.set_cons_zero,List.set_cons_succ,i64_w,i32_w]
  rfl
 refine one_ (i:=3) (N:=some 29) #[true,true,true,true,false,true,false,true,true,false,false,true,false,false,false] rfl rfl (one_of HT_.out (by kernel_rfl)) (by decide) (fun K hK=>?_)
 refine goes_ Try.func65 (by kernel_rfl) rfl #[.slice A3 l3.length c3] (by rfl) rfl rfl (by (try simp only[List.map_toArray,List.map_cons,List.map_nil]);first|done|rfl|(simp only[List.length_drop,List.length_take];rfl)) ?_
 with_reducible refine (grottoref02_Bits.calls k _ _ l3 X _ ?side1 ?side2 bd.out).mono ?_
 (case side1=>repeat (first|exact (Kd.V_reads' v.out).2.2|(with_reducible refine Kd.C_alloc ?_ _)|(with_reducible refine Kd.C_drewN ?_ _)|(with_reducible refine Kd.C_drew ?_)))
 (case side2=>exact (Kd.V_reads' v.out).2.1)
 rintro e cB ⟨rfl,hb⟩
 refine⟨_,rfl,?_⟩
 replace q:=Aside0.mk (Kd.V_below (by (with_reducible repeat (first|apply Kd.V_alloc|apply Kd.V_drewN|apply Kd.V_drew));exact q.out) hb)
 replace v:=Aside0.mk (Kd.V_below (by (with_reducible repeat (first|apply Kd.V_alloc|apply Kd.V_drewN|apply Kd.V_drew));exact v.out) hb)
 replace p:=Aside0.mk (Kd.V_below (by (with_reducible repeat (first|apply Kd.V_alloc|apply Kd.V_drewN|apply Kd.V_drew));exact p.out) hb)
 obtain⟨a,HB⟩:=zu1 a HB hb
 try clear hb
 refine hK.out _ _ ⟨(blk_cell a.out 0).trans rfl,(blk_cell a.out 1).trans rfl⟩ (fun hHeld=>?_)
 clear hK K
 refine norm_ (a':=?_) ?_ ?_
 rotate_left
 ·show Act.put _ (some 29) _=_
  simp only[Act.put,List.setIfInBounds_toArray,List.set_cons_zero,List.set_cons_succ,i64_w,i32_w]
  rfl
 refine zpure_ (i:=4) (N:=some 30) #[true,true,true,true,true,true,false,true,true,false,false,true,false,false,false] (any_of HT_.out (by kernel_rfl)) ?_
 refine zpure_ (i:=6) (N:=some 32) #[true,true,true,true,true,true,true,true,true,false,false,true,false,false,false] (any_of HT_.out (by kernel_rfl)) ?_
 refine zpure_ (i:=9) (N:=some 35) #[true,true,true,true,true,true,true,true,true,true,false,true,false,false,false] (any_of HT_.out (by kernel_rfl)) ?_
 refine zpure_ (i:=10) (N:=some 36) #[true,true,true,true,true,true,true,true,true,true,true,true,false,false,false] (any_of HT_.out (by kernel_rfl)) ?_
 refine one_ (i:=12) (N:=some 38) #[true,true,true,true,true,true,true,true,true,true,true,true,true,false,false] rfl rfl (one_of HT_.out (by kernel_rfl)) (by decide) (fun K hK=>?_)
 refine goes_ Try.func61 (by kernel_rfl) rfl #[.agg #[.int .i64 c,.int .i64 d]] (by rfl) rfl rfl (by (try simp only[List.map_toArray,List.map_cons,List.map_nil]);first|done|rfl|(simp only[List.length_drop,List.length_take];rfl)) ?_
 with_reducible refine (grottoref02_Least.calls be.out).mono ?_
 rintro e cC ⟨rfl,hb⟩
 refine⟨_,rfl,?_⟩
 replace q:=Aside0.mk (Kd.V_below (by (with_reducible repeat (first|apply Kd.V_alloc|apply Kd.V_drewN|apply Kd.V_drew));exact q.out) hb)
 replace v:=Aside0.mk (Kd.V_below (by (with_reducible repeat (first|apply Kd.V_alloc|apply Kd.V_drewN|apply Kd.V_drew));exact v.out) hb)
 replace p:=Aside0.mk (Kd.V_below (by (with_reducible repeat (first|apply Kd.V_alloc|apply Kd.V_drewN|apply Kd.V_drew));exact p.out) hb)
 obtain⟨a,HB⟩:=zu1 a HB hb
 try clear hb
 refine hK.out _ _ ⟨(blk_cell a.out 0).trans rfl,(blk_cell a.out 1).trans rfl⟩ (fun hHeld=>?_)
 clear hK K
 refine norm_ (a':=?_) ?_ ?_
 rotate_left
 ·show Act.put _ (some 38) _=_
  simp only[Act.put,List.setIfInBounds_toArray,List.set_cons_zero,List.set_cons_succ,i64_w,i32_w]
  rfl
 refine zpure_ (i:=13) (N:=some 39) #[true,true,true,true,true,true,true,true,true,true,true,true,true,true,false] (any_of HT_.out (by kernel_rfl)) ?_
 refine zpure_ (i:=14) (N:=some 11) #[true,true,true,true,true,true,true,true,true,true,true,true,true,true,true] (any_of HT_.out (by kernel_rfl)) ?_
 refine done_ (done_of HT_.out (by kernel_rfl)) ?_
 try go_wp2
 go_loopg [11] k (fun kq v11 w'=>∃ (m:Int),v11=.int .i64 m∧Aside0 (grottoref02_Near.l0 kq a1 l2 l3 a4 m c d=some r)∧Aside0 (kq≤k)∧Aside0 (Kd.V (Kd.int .i64) 3 w' w.heap.size (fun k_=>((P2_ k_∨P3_ k_)∨w.heap.size≤k_)∧k_≠b) (.slice A2 l2.length c2) l2)∧Aside0 (Kd.V (Kd.int .i64) 3 w' w.heap.size (fun k_=>((P2_ k_∨P3_ k_)∨w.heap.size≤k_)∧k_≠b) (.slice A3 l3.length c3) l3)∧Aside0 (w'.heap[b]?=some (.cells #[.int .i64 c,.int .i64 d] 23 (0,0)))∧Aside0 (Below w.heap.size w w'))
 case atStart=>exact⟨(az),(by first|rfl|(simp;done)|(simp only[←u] <;> (first|rfl|simp))|(simp[*];done)),H',⟨Nat.le_refl _⟩,⟨by (with_reducible repeat (first|apply Kd.V_alloc|apply Kd.V_drewN|apply Kd.V_drew));exact q.out⟩,⟨by (with_reducible repeat (first|apply Kd.V_alloc|apply Kd.V_drewN|apply Kd.V_drew));exact v.out⟩,⟨zk a⟩,⟨zb HB⟩⟩
 case round =>
  clear H'
  try clear c2 c3 c7 Y Z ae
  obtain⟨m,rfl,HA,Q,HO_2,HO_3,a,HB⟩:=hrel
  cases gk with
  | zero=>exact absurd HA.out (by simp[grottoref02_Near.l0])
  | succ k1 =>
   have H:=HA.out
   clear HA
   simp only[grottoref02_Near.l0] at H
   have aA:=Aside0.mk H
   clear H
   go_upto_if 44 with (fail)
   go_cut [14,15] (fun v14 v15 wc=>∃ (kq:Nat) (s:List Int) (y:List Int),Aside0 (grottoref02_Near.j1 kq a1 l2 l3 a4 m s y c d=some r)∧Aside0 (kq≤k1)∧Aside0 (Kd.V (Kd.int .i64) 3 wc w.heap.size (fun k_=>((P2_ k_∨P3_ k_)∨w.heap.size≤k_)∧k_≠b) (.slice A2 l2.length c2) l2)∧Aside0 (Kd.V (Kd.int .i64) 3 wc w.heap.size (fun k_=>((P2_ k_∨P3_ k_)∨w.heap.size≤k_)∧k_≠b) (.slice A3 l3.length c3) l3)∧Aside0 (Kd.V (Kd.int .i64) 3 wc w.heap.size (fun k_=>((P2_ k_∨P3_ k_)∨w.heap.size≤k_)∧k_≠b) v14 s)∧Aside0 (Kd.V (Kd.int .i64) 3 wc w.heap.size (fun k_=>((P2_ k_∨P3_ k_)∨w.heap.size≤k_)∧k_≠b) v15 y)∧Aside0 (wc.heap[b]?=some (.cells #[.int .i64 c,.int .i64 d] 23 (0,0)))∧Aside0 (Below w.heap.size w wc))
   case first =>
    have H:=aA.out
    clear aA
    by_cases aa:m>a4
    ·rw[if_pos aa] at H
     have C:decide (a4<m)=true:=decide_eq_true aa
     clear aa
     (first|rw[C]|(simp only[i64_w,i32_w];rw[C])|skip)
     obtain⟨aP,b4,H⟩:=oB H
     have H':=Aside0.mk H
     clear H
     go_wp2_with (first|((with_reducible refine gate_callee (f:=73) rfl ?_);refine zgo (some 49) Try.func73 #[.slice A3 l3.length c3,.int .i64 (wrap64 (m-a4))] ?_;(with_reducible refine (grottoref02_Up.calls k1 _ _ l3 (wrap64 (m-a4)) aP _ ?side1 ?side2 b4.out).mono ?_);(case side1=>repeat (first|exact (Kd.V_reads' HO_3.out).2.2|(with_reducible refine Kd.C_alloc ?_ _)|(with_reducible refine Kd.C_drewN ?_ _)|(with_reducible refine Kd.C_drew ?_)));(case side2=>exact (Kd.V_reads' HO_3.out).2.1);rintro e cD ⟨v362,rfl,ho0,hb⟩;refine⟨_,rfl,?_⟩;have a2:=Aside0.mk (Kd.V_lower (Kd.V_mono (ok':=fun k_=>((P2_ k_∨P3_ k_)∨w.heap.size≤k_)∧k_≠b) ho0 (fun k_ hk_=>⟨(.inr (Nat.le_trans (below_size (zb HB)) hk_)),(Kd.freshB (g:=b) (o:=.cells #[.int .i64 c,.int .i64 d] 23 (0,0)) (zk a) k_ hk_)⟩)) (below_size (zb HB)));replace HO_2:=Aside0.mk (Kd.V_below (by (with_reducible repeat (first|apply Kd.V_alloc|apply Kd.V_drewN|apply Kd.V_drew));exact HO_2.out) hb);replace HO_3:=Aside0.mk (Kd.V_below (by (with_reducible repeat (first|apply Kd.V_alloc|apply Kd.V_drewN|apply Kd.V_drew));exact HO_3.out) hb);obtain⟨a,HB⟩:=zu1 a HB hb;clear hb;(try clear ho0)))
     go_meet
     case rel=>exact⟨_,(aP),(l2),H',⟨by have:=Q.out;first|omega|exact Nat.le_refl _⟩,⟨by (with_reducible repeat (first|apply Kd.V_alloc|apply Kd.V_drewN|apply Kd.V_drew));exact HO_2.out⟩,⟨by (with_reducible repeat (first|apply Kd.V_alloc|apply Kd.V_drewN|apply Kd.V_drew));exact HO_3.out⟩,⟨by (with_reducible repeat (first|apply Kd.V_alloc|apply Kd.V_drewN|apply Kd.V_drew));exact a2.out⟩,⟨by (with_reducible repeat (first|apply Kd.V_alloc|apply Kd.V_drewN|apply Kd.V_drew));exact HO_2.out⟩,⟨zk a⟩,⟨zb HB⟩⟩
    rw[if_neg aa] at H
    have C:decide (a4<m)=false:=decide_eq_false aa
    clear aa
    (first|rw[C]|(simp only[i64_w,i32_w];rw[C])|skip)
    obtain⟨aQ,b5,H⟩:=oB H
    have H':=Aside0.mk H
    clear H
    go_wp2_with (first|((with_reducible refine gate_callee (f:=73) rfl ?_);refine zgo (some 54) Try.func73 #[.slice A2 l2.length c2,.int .i64 (wrap64 (a4-m))] ?_;(with_reducible refine (grottoref02_Up.calls k1 _ _ l2 (wrap64 (a4-m)) aQ _ ?side1 ?side2 b5.out).mono ?_);(case side1=>repeat (first|exact (Kd.V_reads' HO_2.out).2.2|(with_reducible refine Kd.C_alloc ?_ _)|(with_reducible refine Kd.C_drewN ?_ _)|(with_reducible refine Kd.C_drew ?_)));(case side2=>exact (Kd.V_reads' HO_2.out).2.1);rintro e cE ⟨v365,rfl,ho0,hb⟩;refine⟨_,rfl,?_⟩;have a3:=Aside0.mk (Kd.V_lower (Kd.V_mono (ok':=fun k_=>((P2_ k_∨P3_ k_)∨w.heap.size≤k_)∧k_≠b) ho0 (fun k_ hk_=>⟨(.inr (Nat.le_trans (below_size (zb HB)) hk_)),(Kd.freshB (g:=b) (o:=.cells #[.int .i64 c,.int .i64 d] 23 (0,0)) (zk a) k_ hk_)⟩)) (below_size (zb HB)));replace HO_2:=Aside0.mk (Kd.V_below (by (with_reducible repeat (first|apply Kd.V_alloc|apply Kd.V_drewN|apply Kd.V_drew));exact HO_2.out) hb);replace HO_3:=Aside0.mk (Kd.V_below (by (with_reducible repeat (first|apply Kd.V_alloc|apply Kd.V_drewN|apply Kd.V_drew));exact HO_3.out) hb);obtain⟨a,HB⟩:=zu1 a HB hb;clear hb;(try clear ho0)))
    go_meet
    case rel=>exact⟨_,(l3),(aQ),H',⟨by have:=Q.out;first|omega|exact Nat.le_refl _⟩,⟨by (with_reducible repeat (first|apply Kd.V_alloc|apply Kd.V_drewN|apply Kd.V_drew));exact HO_2.out⟩,⟨by (with_reducible repeat (first|apply Kd.V_alloc|apply Kd.V_drewN|apply Kd.V_drew));exact HO_3.out⟩,⟨by (with_reducible repeat (first|apply Kd.V_alloc|apply Kd.V_drewN|apply Kd.V_drew));exact HO_3.out⟩,⟨by (with_reducible repeat (first|apply Kd.V_alloc|apply Kd.V_drewN|apply Kd.V_drew));exact a3.out⟩,⟨zk a⟩,⟨zb HB⟩⟩
   case rest =>
    clear aA
    try clear c2 p2 c3 c4 c5 c6 p6 c7 Y Z ae c9 F G I J p2 p6
    obtain⟨kq,s,y,HA,L,HO_2,HO_3,HO_14,HO_15,a,HB⟩:=hcut
    cases kq with
    | zero=>exact absurd HA.out (by simp[grottoref02_Near.j1])
    | succ M =>
     have H:=HA.out
     clear HA
     simp only[grottoref02_Near.j1] at H
     obtain⟨⟨O,an⟩,bg,H⟩:=oB H
     try dsimp only at H
     obtain⟨af,bh,H⟩:=oB H
     by_cases aq:af≤(wrap64 (c+1))
     rotate_left
     ·rw[if_neg aq] at H
      have ab:decide (af≤(wrap64 (c+1)))=false:=decide_eq_false aq
      clear aq
      have H':=Aside0.mk H
      clear H
      obtain⟨bT,bU,bV⟩:=Kd.V_slice HO_15.out
      subst bV
      obtain⟨bW,bX,bY⟩:=Kd.V_slice HO_14.out
      subst bY
      try go_wp2_with (first|((with_reducible refine gate_callee (f:=56) rfl ?_);refine zgo (some 58) Try.func56 #[.slice bT y.length bU,.slice bW s.length bX] ?_;(with_reducible refine (grottoref02_Quo.calls M (fun k_=>(((P2_ k_∨P3_ k_)∨w.heap.size≤k_)∧k_≠b)) _ _ y _ _ s O an _ ?side1 ?side2 ?side3 bg.out).mono ?_);(case side1=>exact HO_15.out);(case side2=>repeat (first|exact (Kd.V_reads' HO_14.out).2.2|(with_reducible refine Kd.C_alloc ?_ _)|(with_reducible refine Kd.C_drewN ?_ _)|(with_reducible refine Kd.C_drew ?_)));(case side3=>exact (Kd.V_reads' HO_14.out).2.1);rintro e ck ⟨v368,v371,rfl,ho0,ho1,hb⟩;refine⟨_,rfl,?_⟩;have j:=Aside0.mk (Kd.V_lower (Kd.V_mono (ok':=fun k_=>((P2_ k_∨P3_ k_)∨w.heap.size≤k_)∧k_≠b) ho0 (fun k_ hk_=>⟨Or.elim hk_ (fun hs_=>hs_.1) (fun hn_=>(.inr (Nat.le_trans (below_size (zb HB)) hn_))),Or.elim hk_ (fun hs_=>hs_.2) (fun hn_=>(Kd.freshB (g:=b) (o:=.cells #[.int .i64 c,.int .i64 d] 23 (0,0)) (zk a) k_ hn_))⟩)) (below_size (zb HB)));have l:=Aside0.mk (Kd.V_lower (Kd.V_mono (ok':=fun k_=>((P2_ k_∨P3_ k_)∨w.heap.size≤k_)∧k_≠b) ho1 (fun k_ hk_=>⟨Or.elim hk_ (fun hs_=>hs_.1) (fun hn_=>(.inr (Nat.le_trans (below_size (zb HB)) hn_))),Or.elim hk_ (fun hs_=>hs_.2) (fun hn_=>(Kd.freshB (g:=b) (o:=.cells #[.int .i64 c,.int .i64 d] 23 (0,0)) (zk a) k_ hn_))⟩)) (below_size (zb HB)));replace HO_2:=Aside0.mk (Kd.V_below (by (with_reducible repeat (first|apply Kd.V_alloc|apply Kd.V_drewN|apply Kd.V_drew));exact HO_2.out) hb);replace HO_3:=Aside0.mk (Kd.V_below (by (with_reducible repeat (first|apply Kd.V_alloc|apply Kd.V_drewN|apply Kd.V_drew));exact HO_3.out) hb);replace HO_14:=Aside0.mk (Kd.V_below (by (with_reducible repeat (first|apply Kd.V_alloc|apply Kd.V_drewN|apply Kd.V_drew));exact HO_14.out) hb);replace HO_15:=Aside0.mk (Kd.V_below (by (with_reducible repeat (first|apply Kd.V_alloc|apply Kd.V_drewN|apply Kd.V_drew));exact HO_15.out) hb);obtain⟨a,HB⟩:=zu1 a HB hb;clear hb;(try clear ho0);(try clear ho1)))
      replace HO_2:=Aside0.mk (Kd.V_drew HO_2.out)
      replace HO_3:=Aside0.mk (Kd.V_drew HO_3.out)
      replace HO_14:=Aside0.mk (Kd.V_drew HO_14.out)
      replace HO_15:=Aside0.mk (Kd.V_drew HO_15.out)
      replace j:=Aside0.mk (Kd.V_drew j.out)
      replace l:=Aside0.mk (Kd.V_drew l.out)
      replace a:=Aside0.mk (blk_drew a.out)
      replace HB:=Aside0.mk (below_drew1 HB.out)
      obtain⟨bZ,b0,aX⟩:=Kd.V_slice j.out
      (first|subst aX|(injection aX with f1_ f2_ f3_;have f4_:=f1_.symm;have f5_:=f3_.symm;clear f1_ f2_ f3_;subst f4_;subst f5_))
      refine start_ (n:=6) (S:=fun w'=>w'.cell? ⟨b,0,none⟩=some (.int .i64 c)∧w'.cell? ⟨b,1,none⟩=some (.int .i64 d)) (ds:=[]) #[false,false,false,false,false,false] (by kernel_rfl) rfl rfl ⟨(blk_cell a.out 0).trans rfl,(blk_cell a.out 1).trans rfl⟩ (fun hHeld=>?_)
      generalize ck.drew=cP at HO_2 HO_3 HO_14 HO_15 j l a HB hHeld ⊢
      refine zpure_ (i:=0) (N:=some 61) #[true,false,false,false,false,false] (by kernel_rfl) ?_
      refine zpure_ (i:=2) (N:=some 63) #[true,false,true,false,false,false] (by kernel_rfl) ?_
      refine ztake_ (i:=3) (N:=some 64) #[true,false,true,true,false,false] rfl (by kernel_rfl) hHeld (Or.inl ⟨by rfl,by rintro w' ⟨s0,s1⟩;go_simp;with_reducible rfl⟩) ?_
      refine zpure_ (i:=4) (N:=some 65) #[true,false,true,true,true,false] (by kernel_rfl) ?_
      refine one_ (i:=1) (N:=some 62) #[true,true,true,true,true,false] rfl rfl (by kernel_rfl) (by decide) (fun K hK=>?_)
      refine goes_ Try.func65 (by kernel_rfl) rfl #[.slice bZ O.length b0] (by rfl) rfl rfl (by (try simp only[List.map_toArray,List.map_cons,List.map_nil]);first|done|rfl|(simp only[List.length_drop,List.length_take];rfl)) ?_
      with_reducible refine (grottoref02_Bits.calls M _ _ O af _ ?side1 ?side2 bh.out).mono ?_
      (case side1=>repeat (first|exact (Kd.V_reads' j.out).2.2|(with_reducible refine Kd.C_alloc ?_ _)|(with_reducible refine Kd.C_drewN ?_ _)|(with_reducible refine Kd.C_drew ?_)))
      (case side2=>exact (Kd.V_reads' j.out).2.1)
      rintro e cQ ⟨rfl,hb⟩
      refine⟨_,rfl,?_⟩
      replace HO_2:=Aside0.mk (Kd.V_below (by (with_reducible repeat (first|apply Kd.V_alloc|apply Kd.V_drewN|apply Kd.V_drew));exact HO_2.out) hb)
      replace HO_3:=Aside0.mk (Kd.V_below (by (with_reducible repeat (first|apply Kd.V_alloc|apply Kd.V_drewN|apply Kd.V_drew));exact HO_3.out) hb)
      replace HO_14:=Aside0.mk (Kd.V_below (by (with_reducible repeat (first|apply Kd.V_alloc|apply Kd.V_drewN|apply Kd.V_drew));exact HO_14.out) hb)
      replace HO_15:=Aside0.mk (Kd.V_below (by (with_reducible repeat (first|apply Kd.V_alloc|apply Kd.V_drewN|apply Kd.V_drew));exact HO_15.out) hb)
      replace j:=Aside0.mk (Kd.V_below (by (with_reducible repeat (first|apply Kd.V_alloc|apply Kd.V_drewN|apply Kd.V_drew));exact j.out) hb)
      replace l:=Aside0.mk (Kd.V_below (by (with_reducible repeat (first|apply Kd.V_alloc|apply Kd.V_drewN|apply Kd.V_drew));exact l.out) hb)
      obtain⟨a,HB⟩:=zu1 a HB hb
      try clear hb
      refine hK.out _ _ ⟨(blk_cell a.out 0).trans rfl,(blk_cell a.out 1).trans rfl⟩ (fun hHeld=>?_)
      clear hK K
      refine norm_ (a':=?_) ?_ ?_
      rotate_left
      ·show Act.put _ (some 62) _=_
       simp only[Act.put,List.setIfInBounds_toArray,List.set_cons_zero,List.set_cons_succ,i64_w,i32_w]
       rfl
      refine zpure_ (i:=5) (N:=some 66) #[true,true,true,true,true,true] (by kernel_rfl) ?_
      refine done_ (by kernel_rfl) ?_
      try go_wp2
      go_roundg M
      case measure=>have:=Q.out;have:=L.out;omega
      case rel=>exact⟨(wrap64 (m+1)),(by first|rfl|(simp[*];done)),H',⟨by have:=Q.out;have:=L.out;omega⟩,⟨by (with_reducible repeat (first|apply Kd.V_alloc|apply Kd.V_drewN|apply Kd.V_drew));exact HO_2.out⟩,⟨by (with_reducible repeat (first|apply Kd.V_alloc|apply Kd.V_drewN|apply Kd.V_drew));exact HO_3.out⟩,⟨zk a⟩,⟨zb HB⟩⟩

     rw[if_pos aq] at H
     have ab:decide (af≤(wrap64 (c+1)))=true:=decide_eq_true aq
     clear aq
     obtain⟨ag,ca,H⟩:=oB H
     obtain⟨aB,cb,H⟩:=oB H
     obtain⟨ah,cc,H⟩:=oB H
     have aC:=Aside0.mk H
     clear H
     obtain⟨bi,bj,bk⟩:=Kd.V_slice HO_15.out
     subst bk
     obtain⟨aR,aS,bl⟩:=Kd.V_slice HO_14.out
     subst bl
     try go_wp2_with (first|((with_reducible refine gate_callee (f:=56) rfl ?_);refine zgo (some 58) Try.func56 #[.slice bi y.length bj,.slice aR s.length aS] ?_;(with_reducible refine (grottoref02_Quo.calls M (fun k_=>(((P2_ k_∨P3_ k_)∨w.heap.size≤k_)∧k_≠b)) _ _ y _ _ s O an _ ?side1 ?side2 ?side3 bg.out).mono ?_);(case side1=>exact HO_15.out);(case side2=>repeat (first|exact (Kd.V_reads' HO_14.out).2.2|(with_reducible refine Kd.C_alloc ?_ _)|(with_reducible refine Kd.C_drewN ?_ _)|(with_reducible refine Kd.C_drew ?_)));(case side3=>exact (Kd.V_reads' HO_14.out).2.1);rintro e cd ⟨v368,v371,rfl,ho0,ho1,hb⟩;refine⟨_,rfl,?_⟩;have j:=Aside0.mk (Kd.V_lower (Kd.V_mono (ok':=fun k_=>((P2_ k_∨P3_ k_)∨w.heap.size≤k_)∧k_≠b) ho0 (fun k_ hk_=>⟨Or.elim hk_ (fun hs_=>hs_.1) (fun hn_=>(.inr (Nat.le_trans (below_size (zb HB)) hn_))),Or.elim hk_ (fun hs_=>hs_.2) (fun hn_=>(Kd.freshB (g:=b) (o:=.cells #[.int .i64 c,.int .i64 d] 23 (0,0)) (zk a) k_ hn_))⟩)) (below_size (zb HB)));have l:=Aside0.mk (Kd.V_lower (Kd.V_mono (ok':=fun k_=>((P2_ k_∨P3_ k_)∨w.heap.size≤k_)∧k_≠b) ho1 (fun k_ hk_=>⟨Or.elim hk_ (fun hs_=>hs_.1) (fun hn_=>(.inr (Nat.le_trans (below_size (zb HB)) hn_))),Or.elim hk_ (fun hs_=>hs_.2) (fun hn_=>(Kd.freshB (g:=b) (o:=.cells #[.int .i64 c,.int .i64 d] 23 (0,0)) (zk a) k_ hn_))⟩)) (below_size (zb HB)));replace HO_2:=Aside0.mk (Kd.V_below (by (with_reducible repeat (first|apply Kd.V_alloc|apply Kd.V_drewN|apply Kd.V_drew));exact HO_2.out) hb);replace HO_3:=Aside0.mk (Kd.V_below (by (with_reducible repeat (first|apply Kd.V_alloc|apply Kd.V_drewN|apply Kd.V_drew));exact HO_3.out) hb);replace HO_14:=Aside0.mk (Kd.V_below (by (with_reducible repeat (first|apply Kd.V_alloc|apply Kd.V_drewN|apply Kd.V_drew));exact HO_14.out) hb);replace HO_15:=Aside0.mk (Kd.V_below (by (with_reducible repeat (first|apply Kd.V_alloc|apply Kd.V_drewN|apply Kd.V_drew));exact HO_15.out) hb);obtain⟨a,HB⟩:=zu1 a HB hb;clear hb;(try clear ho0);(try clear ho1)))
     replace HO_2:=Aside0.mk (Kd.V_drew HO_2.out)
     replace HO_3:=Aside0.mk (Kd.V_drew HO_3.out)
     replace HO_14:=Aside0.mk (Kd.V_drew HO_14.out)
     replace HO_15:=Aside0.mk (Kd.V_drew HO_15.out)
     replace j:=Aside0.mk (Kd.V_drew j.out)
     replace l:=Aside0.mk (Kd.V_drew l.out)
     replace a:=Aside0.mk (blk_drew a.out)
     replace HB:=Aside0.mk (below_drew1 HB.out)
     obtain⟨aT,aU,aV⟩:=Kd.V_slice j.out
     (first|subst aV|(injection aV with f1_ f2_ f3_;have f4_:=f1_.symm;have f5_:=f3_.symm;clear f1_ f2_ f3_;subst f4_;subst f5_))
     refine start_ (n:=6) (S:=fun w'=>w'.cell? ⟨b,0,none⟩=some (.int .i64 c)∧w'.cell? ⟨b,1,none⟩=some (.int .i64 d)) (ds:=[]) #[false,false,false,false,false,false] (by kernel_rfl) rfl rfl ⟨(blk_cell a.out 0).trans rfl,(blk_cell a.out 1).trans rfl⟩ (fun hHeld=>?_)
     generalize cd.drew=cF at HO_2 HO_3 HO_14 HO_15 j l a HB hHeld ⊢
     refine zpure_ (i:=0) (N:=some 61) #[true,false,false,false,false,false] (by kernel_rfl) ?_
     refine zpure_ (i:=2) (N:=some 63) #[true,false,true,false,false,false] (by kernel_rfl) ?_
     refine ztake_ (i:=3) (N:=some 64) #[true,false,true,true,false,false] rfl (by kernel_rfl) hHeld (Or.inl ⟨by rfl,by rintro w' ⟨s0,s1⟩;go_simp;with_reducible rfl⟩) ?_
     refine zpure_ (i:=4) (N:=some 65) #[true,false,true,true,true,false] (by kernel_rfl) ?_
     refine one_ (i:=1) (N:=some 62) #[true,true,true,true,true,false] rfl rfl (by kernel_rfl) (by decide) (fun K hK=>?_)
     refine goes_ Try.func65 (by kernel_rfl) rfl #[.slice aT O.length aU] (by rfl) rfl rfl (by (try simp only[List.map_toArray,List.map_cons,List.map_nil]);first|done|rfl|(simp only[List.length_drop,List.length_take];rfl)) ?_
     with_reducible refine (grottoref02_Bits.calls M _ _ O af _ ?side1 ?side2 bh.out).mono ?_
     (case side1=>repeat (first|exact (Kd.V_reads' j.out).2.2|(with_reducible refine Kd.C_alloc ?_ _)|(with_reducible refine Kd.C_drewN ?_ _)|(with_reducible refine Kd.C_drew ?_)))
     (case side2=>exact (Kd.V_reads' j.out).2.1)
     rintro e cG ⟨rfl,hb⟩
     refine⟨_,rfl,?_⟩
     replace HO_2:=Aside0.mk (Kd.V_below (by (with_reducible repeat (first|apply Kd.V_alloc|apply Kd.V_drewN|apply Kd.V_drew));exact HO_2.out) hb)
     replace HO_3:=Aside0.mk (Kd.V_below (by (with_reducible repeat (first|apply Kd.V_alloc|apply Kd.V_drewN|apply Kd.V_drew));exact HO_3.out) hb)
     replace HO_14:=Aside0.mk (Kd.V_below (by (with_reducible repeat (first|apply Kd.V_alloc|apply Kd.V_drewN|apply Kd.V_drew));exact HO_14.out) hb)
     replace HO_15:=Aside0.mk (Kd.V_below (by (with_reducible repeat (first|apply Kd.V_alloc|apply Kd.V_drewN|apply Kd.V_drew));exact HO_15.out) hb)
     replace j:=Aside0.mk (Kd.V_below (by (with_reducible repeat (first|apply Kd.V_alloc|apply Kd.V_drewN|apply Kd.V_drew));exact j.out) hb)
     replace l:=Aside0.mk (Kd.V_below (by (with_reducible repeat (first|apply Kd.V_alloc|apply Kd.V_drewN|apply Kd.V_drew));exact l.out) hb)
     obtain⟨a,HB⟩:=zu1 a HB hb
     try clear hb
     refine hK.out _ _ ⟨(blk_cell a.out 0).trans rfl,(blk_cell a.out 1).trans rfl⟩ (fun hHeld=>?_)
     clear hK K
     refine norm_ (a':=?_) ?_ ?_
     rotate_left
     ·show Act.put _ (some 62) _=_
      simp only[Act.put,List.setIfInBounds_toArray,List.set_cons_zero,List.set_cons_succ,i64_w,i32_w]
      rfl
     refine zpure_ (i:=5) (N:=some 66) #[true,true,true,true,true,true] (by kernel_rfl) ?_
     refine done_ (by kernel_rfl) ?_
     go_upto_region 15 with (first|((with_reducible refine gate_callee (f:=84) rfl ?_);refine zgo (some 70) Try.func84 #[.slice aT O.length aU] ?_;(with_reducible refine (grottoref02_Small.calls M _ _ O ag _ ?side1 ?side2 ca.out).mono ?_);(case side1=>repeat (first|exact (Kd.V_reads' j.out).2.2|(with_reducible refine Kd.C_alloc ?_ _)|(with_reducible refine Kd.C_drewN ?_ _)|(with_reducible refine Kd.C_drew ?_)));(case side2=>exact (Kd.V_reads' j.out).2.1);rintro e w' ⟨rfl,⟨nd,rfl⟩⟩;refine⟨_,rfl,?_⟩;obtain⟨bm,bn,bo⟩:=Kd.V_slice l.out;subst bo)|((with_reducible refine gate_callee (f:=73) rfl ?_);refine zgo (some 72) Try.func73 #[.slice bm an.length bn,.int .i64 1] ?_;(with_reducible refine (grottoref02_Up.calls M _ _ an 1 aB _ ?side1 ?side2 cb.out).mono ?_);(case side1=>repeat (first|exact (Kd.V_reads' l.out).2.2|(with_reducible refine Kd.C_alloc ?_ _)|(with_reducible refine Kd.C_drewN ?_ _)|(with_reducible refine Kd.C_drew ?_)));(case side2=>exact (Kd.V_reads' l.out).2.1);rintro e cH ⟨v376,rfl,ho0,hb⟩;refine⟨_,rfl,?_⟩;have R:=Aside0.mk (Kd.V_lower (Kd.V_mono (ok':=fun k_=>((P2_ k_∨P3_ k_)∨w.heap.size≤k_)∧k_≠b) ho0 (fun k_ hk_=>⟨(.inr (Nat.le_trans (below_size (zb HB)) hk_)),(Kd.freshB (g:=b) (o:=.cells #[.int .i64 c,.int .i64 d] 23 (0,0)) (zk a) k_ hk_)⟩)) (below_size (zb HB)));replace HO_2:=Aside0.mk (Kd.V_below (by (with_reducible repeat (first|apply Kd.V_alloc|apply Kd.V_drewN|apply Kd.V_drew));exact HO_2.out) hb);replace HO_3:=Aside0.mk (Kd.V_below (by (with_reducible repeat (first|apply Kd.V_alloc|apply Kd.V_drewN|apply Kd.V_drew));exact HO_3.out) hb);replace HO_14:=Aside0.mk (Kd.V_below (by (with_reducible repeat (first|apply Kd.V_alloc|apply Kd.V_drewN|apply Kd.V_drew));exact HO_14.out) hb);replace HO_15:=Aside0.mk (Kd.V_below (by (with_reducible repeat (first|apply Kd.V_alloc|apply Kd.V_drewN|apply Kd.V_drew));exact HO_15.out) hb);replace j:=Aside0.mk (Kd.V_below (by (with_reducible repeat (first|apply Kd.V_alloc|apply Kd.V_drewN|apply Kd.V_drew));exact j.out) hb);replace l:=Aside0.mk (Kd.V_below (by (with_reducible repeat (first|apply Kd.V_alloc|apply Kd.V_drewN|apply Kd.V_drew));exact l.out) hb);obtain⟨a,HB⟩:=zu1 a HB hb;clear hb;(try clear ho0);obtain⟨bp,bq,br⟩:=Kd.V_slice R.out;subst br)|((with_reducible refine gate_callee (f:=75) rfl ?_);refine zgo (some 74) Try.func75 #[.slice bp aB.length bq,.slice aR s.length aS] ?_;(with_reducible refine (grottoref02_Cmp.calls M _ _ aB _ _ s ah _ ?side1 ?side2 ?side3 ?side4 cc.out).mono ?_);(case side1=>repeat (first|exact (Kd.V_reads' R.out).2.2|(with_reducible refine Kd.C_alloc ?_ _)|(with_reducible refine Kd.C_drewN ?_ _)|(with_reducible refine Kd.C_drew ?_)));(case side2=>exact (Kd.V_reads' R.out).2.1);(case side3=>repeat (first|exact (Kd.V_reads' HO_14.out).2.2|(with_reducible refine Kd.C_alloc ?_ _)|(with_reducible refine Kd.C_drewN ?_ _)|(with_reducible refine Kd.C_drew ?_)));(case side4=>exact (Kd.V_reads' HO_14.out).2.1);rintro e cI ⟨rfl,hb⟩;refine⟨_,rfl,?_⟩;replace HO_2:=Aside0.mk (Kd.V_below (by (with_reducible repeat (first|apply Kd.V_alloc|apply Kd.V_drewN|apply Kd.V_drew));exact HO_2.out) hb);replace HO_3:=Aside0.mk (Kd.V_below (by (with_reducible repeat (first|apply Kd.V_alloc|apply Kd.V_drewN|apply Kd.V_drew));exact HO_3.out) hb);replace HO_14:=Aside0.mk (Kd.V_below (by (with_reducible repeat (first|apply Kd.V_alloc|apply Kd.V_drewN|apply Kd.V_drew));exact HO_14.out) hb);replace HO_15:=Aside0.mk (Kd.V_below (by (with_reducible repeat (first|apply Kd.V_alloc|apply Kd.V_drewN|apply Kd.V_drew));exact HO_15.out) hb);replace j:=Aside0.mk (Kd.V_below (by (with_reducible repeat (first|apply Kd.V_alloc|apply Kd.V_drewN|apply Kd.V_drew));exact j.out) hb);replace l:=Aside0.mk (Kd.V_below (by (with_reducible repeat (first|apply Kd.V_alloc|apply Kd.V_drewN|apply Kd.V_drew));exact l.out) hb);replace R:=Aside0.mk (Kd.V_below (by (with_reducible repeat (first|apply Kd.V_alloc|apply Kd.V_drewN|apply Kd.V_drew));exact R.out) hb);obtain⟨a,HB⟩:=zu1 a HB hb;clear hb))
     (try simp only[Act.put,List.setIfInBounds_toArray,List.set_cons_zero,List.set_cons_succ])
     go_cut [85] (fun v85 wc=>∃ (kq:Nat) (P:Bool),v85=.bool P∧Aside0 (grottoref02_Near.j2 kq a1 m ag P c d=some r)∧Aside0 (kq≤M)∧Aside0 (wc.heap[b]?=some (.cells #[.int .i64 c,.int .i64 d] 23 (0,0)))∧Aside0 (Below w.heap.size w wc))
     case first =>
      have H:=aC.out
      clear aC
      by_cases ai:ah>0
      ·rw[if_pos ai] at H
       have E:decide (0<ah)=true:=decide_eq_true ai
       clear ai
       (first|rw[E]|(simp only[i64_w,i32_w];rw[E])|skip)
       have H':=Aside0.mk H
       clear H
       go_wp2
       go_meet
       case rel=>exact⟨_,(true),(by first|rfl|(simp[*];done)),H',⟨by have:=Q.out;have:=L.out;first|omega|exact Nat.le_refl _⟩,⟨zk a⟩,⟨zb HB⟩⟩
      rw[if_neg ai] at H
      have E:decide (0<ah)=false:=decide_eq_false ai
      clear ai
      (first|rw[E]|(simp only[i64_w,i32_w];rw[E])|skip)
      by_cases aj:ah=0
      ·rw[if_pos aj] at H
       obtain⟨ak,al⟩:=zt aj
       clear aj
       have H':=Aside0.mk H
       clear H
       go_wp2
       go_meet
       case rel=>exact⟨_,(((Int.tmod ag 2)==1)),(by first|rfl|(simp[*];done)),H',⟨by have:=Q.out;have:=L.out;first|omega|exact Nat.le_refl _⟩,⟨zk a⟩,⟨zb HB⟩⟩
      rw[if_neg aj] at H
      obtain⟨ak,al⟩:=zf aj
      have H':=Aside0.mk H
      clear H
      go_wp2
      go_meet
      case rel=>exact⟨_,(false),(by first|rfl|(simp[*];done)),H',⟨by have:=Q.out;have:=L.out;first|omega|exact Nat.le_refl _⟩,⟨zk a⟩,⟨zb HB⟩⟩
     case rest =>
      clear aC
      try clear c2 p2 c3 c4 c5 c6 p6 c7 Y Z ae c9 aa C ab F G I J p2 p6
      obtain⟨kq,P,rfl,HA,ao,a,HB⟩:=hcut
      cases kq with
      | zero=>exact absurd HA.out (by simp[grottoref02_Near.j2])
      | succ bs =>
       have H:=HA.out
       clear HA
       simp only[grottoref02_Near.j2] at H
       have aD:=Aside0.mk H
       clear H
       go_upto_if 85 with (fail)
       go_cut [16] (fun v16 wc=>∃ (kq:Nat) (D:Int),v16=.int .u64 D∧Aside0 (grottoref02_Near.j3 kq a1 m D c d=some r)∧Aside0 (kq≤bs)∧Aside0 (wc.heap[b]?=some (.cells #[.int .i64 c,.int .i64 d] 23 (0,0)))∧Aside0 (Below w.heap.size w wc))
       case first =>
        have H:=aD.out
        clear aD
        by_cases aE:P=true
        ·subst aE
         rw[if_pos rfl] at H
         have H':=Aside0.mk H
         clear H
         go_wp2
         go_meet
         case rel=>exact⟨_,(IntKind.u64.wrap (ag+1)),(by first|rfl|(simp[*];done)),H',⟨by have:=Q.out;have:=L.out;have:=ao.out;first|omega|exact Nat.le_refl _⟩,⟨zk a⟩,⟨zb HB⟩⟩
        replace aE:=Bool.eq_false_iff.mpr aE
        subst aE
        rw[if_neg nft] at H
        have H':=Aside0.mk H
        clear H
        go_wp2
        go_meet
        case rel=>exact⟨_,(ag),(by first|rfl|(simp[*];done)),H',⟨by have:=Q.out;have:=L.out;have:=ao.out;first|omega|exact Nat.le_refl _⟩,⟨zk a⟩,⟨zb HB⟩⟩
       case rest =>
        clear aD
        try clear c2 p2 c3 c4 c5 c6 p6 c7 Y Z ae c8 c9 aa C ab ce ai E aj ak al F G I J p2 p6
        obtain⟨kq,D,rfl,HA,aW,a,HB⟩:=hcut
        cases kq with
        | zero=>exact absurd HA.out (by simp[grottoref02_Near.j3])
        | succ bt =>
         have H:=HA.out
         clear HA
         simp only[grottoref02_Near.j3] at H
         obtain⟨bu,cf,H⟩:=oB H
         have aF:=Aside0.mk H
         clear H
         obtain⟨aG,aH,aI,aJ⟩:=zc2 a
         go_upto_if 93 with (first|((with_reducible refine gate_callee (f:=60) rfl ?_);refine zgo (some 92) Try.func60 #[.int .i64 (wrap64 (c+1))] ?_;(with_reducible refine (grottoref02_power.calls cf.out).mono ?_);rintro e w' ⟨rfl,⟨nd,rfl⟩⟩;refine⟨_,rfl,?_⟩))
         (try simp only[Act.put,List.setIfInBounds_toArray,List.set_cons_zero,List.set_cons_succ])
         go_cut [11,16] (fun v11 v16 wc=>∃ (kq:Nat) (z:Int) (B:Int),v11=.int .i64 z∧v16=.int .u64 B∧Aside0 (grottoref02_Near.j4 kq a1 z B c d=some r)∧Aside0 (kq≤bt)∧Aside0 (wc.heap[b]?=some (.cells #[.int .i64 c,.int .i64 d] 23 (0,0)))∧Aside0 (Below w.heap.size w wc))
         case first =>
          have H:=aF.out
          clear aF
          by_cases aK:D=bu
          ·rw[if_pos aK] at H
           obtain⟨T,a7⟩:=zt aK
           clear aK
           (first|rw[T]|(simp only[i64_w,i32_w];rw[T])|skip)
           have H':=Aside0.mk H
           clear H
           go_wp2
           go_meet
           case rel=>exact⟨_,(wrap64 (m+1)),(IntKind.u64.wrap (Int.tdiv D 2)),(by first|rfl|(simp[*];done)),(by first|rfl|(simp[*];done)),H',⟨by have:=Q.out;have:=L.out;have:=ao.out;have:=aW.out;first|omega|exact Nat.le_refl _⟩,⟨zk a⟩,⟨zb HB⟩⟩
          rw[if_neg aK] at H
          obtain⟨T,a7⟩:=zf aK
          (first|rw[T]|(simp only[i64_w,i32_w];rw[T])|skip)
          have H':=Aside0.mk H
          clear H
          go_wp2
          go_meet
          case rel=>exact⟨_,(m),(D),(by first|rfl|(simp[*];done)),(by first|rfl|(simp[*];done)),H',⟨by have:=Q.out;have:=L.out;have:=ao.out;have:=aW.out;first|omega|exact Nat.le_refl _⟩,⟨zk a⟩,⟨zb HB⟩⟩
         case rest =>
          clear aF
          try clear c2 p2 c3 c4 c5 c6 p6 c7 Y Z ae c8 c9 aa C ab ce ai E aj ak al aE F G aG aH I J aI aJ p2 p6
          obtain⟨kq,z,B,rfl,rfl,HA,cp,a,HB⟩:=hcut
          cases kq with
          | zero=>exact absurd HA.out (by simp[grottoref02_Near.j4])
          | succ cq =>
           have H:=HA.out
           clear HA
           simp only[grottoref02_Near.j4] at H
           obtain⟨aL,a8,H⟩:=oB H
           by_cases ar:B<aL
           ·rw[if_pos ar] at H
            have a9:decide (B<aL)=true:=decide_eq_true ar
            clear ar
            obtain⟨cr,cg,H⟩:=oB H
            obtain rfl:=Option.some.inj H
            obtain⟨bv,bw,bx,bz⟩:=zc2 a
            go_wp2_with (first|((with_reducible refine gate_callee (f:=60) rfl ?_);refine zgo (some 101) Try.func60 #[.int .i64 c] ?_;(with_reducible refine (grottoref02_power.calls a8.out).mono ?_);rintro e w' ⟨rfl,⟨nd,rfl⟩⟩;refine⟨_,rfl,?_⟩)|((with_reducible refine gate_callee (f:=62) rfl ?_);refine zgc (some 106) Try.func62 (grottoref02_Whole.calls cg.out) ?_;intro cK hb;obtain⟨a,HB⟩:=zu1 a HB hb;clear hb))
            go_ret
            exact⟨by first|rfl|(simp[errW_none,errW_some] <;> rfl)|(simp only[←u];first|rfl|(simp[errW_none,errW_some] <;> rfl))|(simp[*,errW_none,errW_some] <;> rfl),zb HB⟩
           rw[if_neg ar] at H
           have a9:decide (B<aL)=false:=decide_eq_false ar
           clear ar
           obtain⟨ap,bA,H⟩:=oB H
           obtain⟨aM,bB,H⟩:=oB H
           by_cases au:(wrap64 ((wrap64 (z-ap))+1))≥(wrap64 ((wrap64 (aM))-1))
           ·rw[if_pos au] at H
            have ba:decide ((wrap64 ((wrap64 (aM))-1))≤(wrap64 ((wrap64 (z-ap))+1)))=true:=decide_eq_true au
            clear au
            obtain⟨ct,ch,H⟩:=oB H
            obtain rfl:=Option.some.inj H
            obtain⟨bC,bD,bE,bF⟩:=zc2 a
            go_wp2_with (first|((with_reducible refine gate_callee (f:=60) rfl ?_);refine zgo (some 101) Try.func60 #[.int .i64 c] ?_;(with_reducible refine (grottoref02_power.calls a8.out).mono ?_);rintro e w' ⟨rfl,⟨nd,rfl⟩⟩;refine⟨_,rfl,?_⟩)|((with_reducible refine gate_callee (f:=61) rfl ?_);refine zgc (some 109) Try.func61 (grottoref02_Least.calls bA.out) ?_;intro cL hb;obtain⟨a,HB⟩:=zu1 a HB hb;clear hb;obtain⟨bG,bH,bI,bJ⟩:=zc2 a)|((with_reducible refine gate_callee (f:=60) rfl ?_);refine zgo (some 115) Try.func60 #[.int .i64 d] ?_;(with_reducible refine (grottoref02_power.calls bB.out).mono ?_);rintro e w' ⟨rfl,⟨nd,rfl⟩⟩;refine⟨_,rfl,?_⟩)|((with_reducible refine gate_callee (f:=67) rfl ?_);refine zgc (some 121) Try.func67 (grottoref02_Inf.calls ch.out) ?_;intro cM hb;obtain⟨a,HB⟩:=zu1 a HB hb;clear hb))
            go_ret
            exact⟨by first|rfl|(simp[errW_none,errW_some] <;> rfl)|(simp only[←u];first|rfl|(simp[errW_none,errW_some] <;> rfl))|(simp[*,errW_none,errW_some] <;> rfl),zb HB⟩
           rw[if_neg au] at H
           have ba:decide ((wrap64 ((wrap64 (aM))-1))≤(wrap64 ((wrap64 (z-ap))+1)))=false:=decide_eq_false au
           clear au
           obtain⟨bK,ci,H⟩:=oB H
           obtain⟨cu,cj,H⟩:=oB H
           obtain rfl:=Option.some.inj H
           obtain⟨bL,bM,bN,bO⟩:=zc2 a
           try go_wp2_with (first|((with_reducible refine gate_callee (f:=60) rfl ?_);refine zgo (some 101) Try.func60 #[.int .i64 c] ?_;(with_reducible refine (grottoref02_power.calls a8.out).mono ?_);rintro e w' ⟨rfl,⟨nd,rfl⟩⟩;refine⟨_,rfl,?_⟩)|((with_reducible refine gate_callee (f:=61) rfl ?_);refine zgc (some 109) Try.func61 (grottoref02_Least.calls bA.out) ?_;intro av hb;obtain⟨a,HB⟩:=zu1 a HB hb;clear hb;obtain⟨bP,bQ,bR,bS⟩:=zc2 a)|((with_reducible refine gate_callee (f:=60) rfl ?_);refine zgo (some 115) Try.func60 #[.int .i64 d] ?_;(with_reducible refine (grottoref02_power.calls bB.out).mono ?_);rintro e w' ⟨rfl,⟨nd,rfl⟩⟩;refine⟨_,rfl,?_⟩))
           (try (rw[drewN_self av];generalize hq_:World.drewN av _=av;have n0_:Aside0 (av.heap[b]?=some (.cells #[.int .i64 c,.int .i64 d] 23 (0,0))):=⟨by rw[←hq_];exact (zk a)⟩;have n1_:Aside0 (Below w.heap.size w av):=⟨by rw[←hq_];exact (zb HB)⟩;clear a HB hq_;have a:=n0_;have HB:=n1_;clear n0_ n1_;obtain⟨y353_0,y353_1,y353_2,y353_3⟩:=zc2 a))
           replace a:=Aside0.mk (blk_drew a.out)
           replace HB:=Aside0.mk (below_drew1 HB.out)
           refine start_ (n:=11) (S:=fun w'=>w'.cell? ⟨b,0,none⟩=some (.int .i64 c)∧w'.cell? ⟨b,1,none⟩=some (.int .i64 d)) (ds:=[]) #[false,false,false,false,false,false,false,false,false,false,false] (by kernel_rfl) rfl rfl ⟨(blk_cell a.out 0).trans rfl,(blk_cell a.out 1).trans rfl⟩ (fun hHeld=>?_);refine with_tabW grottoref02_Near.tab25 grottoref02_Near.bits25 (fun HT_ HW_=>?_)
           generalize av.drew=cN at a HB hHeld ⊢
           refine zpure_ (i:=1) (N:=some 123) #[false,true,false,false,false,false,false,false,false,false,false] (any_of HT_.out (by kernel_rfl)) ?_
           refine zpure_ (i:=2) (N:=some 124) #[false,true,true,false,false,false,false,false,false,false,false] (any_of HT_.out (by kernel_rfl)) ?_
           refine zpure_ (i:=3) (N:=some 125) #[false,true,true,true,false,false,false,false,false,false,false] (any_of HT_.out (by kernel_rfl)) ?_
           refine zpure_ (i:=4) (N:=some 126) #[false,true,true,true,true,false,false,false,false,false,false] (any_of HT_.out (by kernel_rfl)) ?_
           refine zpure_ (i:=5) (N:=some 127) #[false,true,true,true,true,true,false,false,false,false,false] (any_of HT_.out (by kernel_rfl)) ?_
           refine ztake_ (i:=0) (N:=some 122) #[true,true,true,true,true,true,false,false,false,false,false] rfl (take_ofW HT_.out HW_.out (by kernel_rfl)) hHeld (Or.inl ⟨by rfl,by rintro w' ⟨s0,s1⟩;go_simp;with_reducible rfl⟩) ?_
           refine ztake_ (i:=6) (N:=some 128) #[true,true,true,true,true,true,true,false,false,false,false] rfl (take_ofW HT_.out HW_.out (by kernel_rfl)) hHeld (Or.inl ⟨by rfl,by rintro w' ⟨s0,s1⟩;go_simp;with_reducible rfl⟩) ?_
           refine one_ (i:=7) (N:=some 129) #[true,true,true,true,true,true,true,true,false,false,false] rfl rfl (one_of HT_.out (by kernel_rfl)) (by decide) (fun K hK=>?_)
           refine goes_ Try.func60 (by kernel_rfl) rfl #[.int .i64 c] (by rfl) rfl rfl (by (try simp only[List.map_toArray,List.map_cons,List.map_nil]);first|done|rfl|(simp only[List.length_drop,List.length_take];rfl)) ?_
           with_reducible refine (grottoref02_power.calls ci.out).mono ?_
           rintro e w' ⟨rfl,⟨nd,rfl⟩⟩
           refine⟨_,rfl,?_⟩
           refine hK.out _ _ ⟨(blk_cell a.out 0).trans rfl,(blk_cell a.out 1).trans rfl⟩ (fun hHeld=>?_)
           clear hK K
           refine norm_ (a':=?_) ?_ ?_
           rotate_left
           ·show Act.put _ (some 129) _=_
            simp only[Act.put,List.setIfInBounds_toArray,List.set_cons_zero,List.set_cons_succ,i64_w,i32_w]
            rfl
           refine zpure_ (i:=8) (N:=some 130) #[true,true,true,true,true,true,true,true,true,false,false] (any_of HT_.out (by kernel_rfl)) ?_
           refine one_ (i:=9) (N:=some 131) #[true,true,true,true,true,true,true,true,true,true,false] rfl rfl (one_of HT_.out (by kernel_rfl)) (by decide) (fun K hK=>?_)
           refine goes_ Try.func62 (by kernel_rfl) rfl #[.agg #[.int .i64 c,.int .i64 d],.bool a1,.int .u64 (IntKind.u64.wrap (wrap64 ((wrap64 (z-ap))+1))),.int .u64 (IntKind.u64.wrap (B-bK))] (by rfl) rfl rfl (by (try simp only[List.map_toArray,List.map_cons,List.map_nil]);first|done|rfl|(simp only[List.length_drop,List.length_take];rfl)) ?_
           with_reducible refine (grottoref02_Whole.calls cj.out).mono ?_
           rintro e cO ⟨rfl,hb⟩
           refine⟨_,rfl,?_⟩
           obtain⟨a,HB⟩:=zu1 a HB hb
           try clear hb
           refine hK.out _ _ ⟨(blk_cell a.out 0).trans rfl,(blk_cell a.out 1).trans rfl⟩ (fun hHeld=>?_)
           clear hK K
           refine norm_ (a':=?_) ?_ ?_
           rotate_left
           ·show Act.put _ (some 131) _=_
            simp only[Act.put,List.setIfInBounds_toArray,List.set_cons_zero,List.set_cons_succ,i64_w,i32_w]
            rfl
           refine zpure_ (i:=10) (N:=some 10) #[true,true,true,true,true,true,true,true,true,true,true] (any_of HT_.out (by kernel_rfl)) ?_
           refine done_ (done_of HT_.out (by kernel_rfl)) ?_
           try go_wp2
           go_ret
           exact⟨by first|rfl|(simp[errW_none,errW_some] <;> rfl)|(simp only[←u];first|rfl|(simp[errW_none,errW_some] <;> rfl))|(simp[*,errW_none,errW_some] <;> rfl),zb HB⟩
end Go.Proofs.Ytmmbgbchimangaa.PQ
