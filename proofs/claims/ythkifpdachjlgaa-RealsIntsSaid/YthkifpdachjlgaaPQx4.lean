-- by a program of this claim
import Derived.Test.YthkifpdachjlgaaPQx0
import Derived.Test.YthkifpdachjlgaaPQx1
import Derived.Test.YthkifpdachjlgaaPQx2
import Derived.Test.YthkifpdachjlgaaPQx3
namespace Go.Proofs.Ythkifpdachjlgaa.PQ
open Go.RowKit Go.Proofs.YthkifpdachjlgaaW.PrintWords Go.Proofs.YthkifpdachjlgaaW.PrintLast Go.Proofs.YthkifpdachjlgaaW.PrintMore Go.Proofs.Ythkifpdachjlgaa.Z
attribute [local go_sem] max2_int min2_int max_two min_two max_three min_three max_four min_four   -- for this text's walks alone
set_option linter.unusedVariables false
set_option linter.unusedSimpArgs false

/-! ### soft_Sub: function 59 -/
def soft_Sub.f (k:Nat) (a0_0:Int) (a0_1:Int) (a1:Int) (a2:Int):Option (Int×Int):=(round_Open.f k a0_0 a0_1 a2).bind fun a=>(if a.2.2.2.2=0 then ((round_Zero.f a0_0 a0_1 true).bind fun c=>((soft_Add.f k a0_0 a0_1 a1 (Go.bits .xor .u64 a2 c)).bind fun b=>(some (b.1,b.2)))) else (some (0,a.2.2.2.2)))
theorem soft_Sub.mono:∀ a0 a1 a2 a3 k,LeO (soft_Sub.f k a0 a1 a2 a3) (soft_Sub.f (k+1) a0 a1 a2 a3):=by
 intro a0 a1 a2 a3 k
 unfold soft_Sub.f
 repeat' first|(with_reducible first|apply round_Open.mono|apply soft_Add.mono|exact LeO.refl _|exact LeO.none _|refine LeO.ite ?_ ?_|refine LeO.bind ?_ (fun _=>?_))|refine LeO.ite ?_ ?_|refine LeO.bind ?_ (fun _=>?_)
def soft_Sub.T4:Bool×List (List Nat×List Nat):=(true,[([],[]),([],[]),([],[]),([],[]),([3],[3]),([2,4],[2,4]),([0,1,5,4],[0,1,5]),([6],[6]),([6],[6]),([7,6,0,1,2,3,4,5,6,7,8],[7]),([8,9,0,1,2,3,4,5,6,7,8,9],[8])])
def soft_Sub.B4:List Nat:=[0,0,0,0,8,28,63,127,127,511,1023]
theorem soft_Sub.tab4:rtab .any (opsOf Try.f59 4)=soft_Sub.T4:=by kernel_rfl
theorem soft_Sub.bits4:waitsOk soft_Sub.T4.2 soft_Sub.B4=true:=by kernel_rfl
set_option maxHeartbeats 8000000 in
set_option maxRecDepth 100000 in
theorem soft_Sub.calls {k:Nat} {d:Int} {g:Int} {a1:Int} {F:Int} {r1:Int} {r2:Int} {w:World} (h:soft_Sub.f k d g a1 F=some (r1,r2)) :
  Calls Try.prog 59 #[.agg #[.int .i64 d,.int .i64 g],.int .u64 a1,.int .u64 F] w fun e w'=>e=.returned (.tuple #[.int .u64 r1,.int .i64 r2])∧Below w.heap.size w w':=by
 have hu58:=Try.underlying58
 have hu89:=Try.underlying89
 have HB:=Aside0.mk (Below.refl w.heap.size w)
 have H:=h
 unfold soft_Sub.f at H
 clear h
 obtain⟨⟨m,o,p,q,G⟩,A4,H⟩:=oB H
 try dsimp only at H
 by_cases I:G=0
 ·rw[if_pos I] at H
  obtain⟨J,L⟩:=zt I
  clear I
  obtain⟨v,A6,H⟩:=oB H
  obtain⟨⟨ax,ay⟩,A7,H⟩:=oB H
  try dsimp only at H
  simp only[Option.some.injEq,Prod.mk.injEq] at H
  obtain⟨rfl,rfl⟩:=H
  go_enter Try.func59,Try.ntmps59
  try go_wp2_with (first|((with_reducible refine gate_dst (N:=3) rfl ?_);refine zbox (N:=3) (cs:=#[.int .i64 d,.int .i64 g]) (t:=58) ?_;intro l hg w8 hbox hb;have a:=Aside0.mk hbox;have B:=zge hg HB;have C:=zge hg HB;replace HB:=zbs HB hb;clear hb hbox hg;obtain⟨aj,ak,al,am⟩:=zc2 a)|((with_reducible refine gate_callee (f:=95) rfl ?_);refine zgc (some 13) Try.func95 (round_Open.calls A4.out) ?_;intro aB hb;obtain⟨a,HB⟩:=zu1 a HB hb;clear hb)|((with_reducible refine gate_dst (N:=8) rfl ?_);refine zbox (N:=8) (cs:=#[.int .i64 0,.bool false,.int .i64 0,.int .u64 0]) (t:=89) ?_;intro b hg z hbox hb;have c:=Aside0.mk hbox;have D:=zge hg HB;have E:=zge hg HB;have s:=znl hg a;have j:=zng hg a;obtain⟨a,HB⟩:=zu1 a HB hb;clear hb hbox hg;obtain⟨ap,aq⟩:=z2 j;obtain⟨M,O,P,Q,R,T,U,V⟩:=zc4 c))
  have n0_:Aside0 (((((z.setCell ⟨b,0,none⟩ (.int .i64 m)).setCell ⟨b,1,none⟩ (.bool o)).setCell ⟨b,2,none⟩ (.int .i64 p)).setCell ⟨b,3,none⟩ (.int .u64 q)).heap[l]?=some (.cells #[.int .i64 d,.int .i64 g] 58 (0,0))):=⟨zk a⟩
  have n1_:Aside0 (((((z.setCell ⟨b,0,none⟩ (.int .i64 m)).setCell ⟨b,1,none⟩ (.bool o)).setCell ⟨b,2,none⟩ (.int .i64 p)).setCell ⟨b,3,none⟩ (.int .u64 q)).heap[b]?=some (.cells #[.int .i64 m,.bool o,.int .i64 p,.int .u64 q] 89 (0,0))):=⟨zkp c⟩
  have n2_:Aside0 (Below w.heap.size w ((((z.setCell ⟨b,0,none⟩ (.int .i64 m)).setCell ⟨b,1,none⟩ (.bool o)).setCell ⟨b,2,none⟩ (.int .i64 p)).setCell ⟨b,3,none⟩ (.int .u64 q))):=⟨zb HB⟩
  (try clear a)
  (try clear c)
  (try clear HB)
  generalize ((((z.setCell ⟨b,0,none⟩ (.int .i64 m)).setCell ⟨b,1,none⟩ (.bool o)).setCell ⟨b,2,none⟩ (.int .i64 p)).setCell ⟨b,3,none⟩ (.int .u64 q))=ar at n0_ n1_ n2_ ⊢
  have a:=n0_
  have c:=n1_
  have HB:=n2_
  clear n0_ n1_ n2_
  replace a:=Aside0.mk (blk_drew a.out)
  replace c:=Aside0.mk (blk_drew c.out)
  replace HB:=Aside0.mk (below_drew1 HB.out)
  refine start_ (n:=11) (S:=fun w'=>w'.cell? ⟨l,0,none⟩=some (.int .i64 d)∧w'.cell? ⟨l,1,none⟩=some (.int .i64 g)) (ds:=[]) #[false,false,false,false,false,false,false,false,false,false,false] (by kernel_rfl) rfl rfl ⟨(blk_cell a.out 0).trans rfl,(blk_cell a.out 1).trans rfl⟩ (fun hHeld=>?_);refine with_tabW soft_Sub.tab4 soft_Sub.bits4 (fun HT_ HW_=>?_)
  generalize ar.drew=aC at a c HB hHeld ⊢
  refine zpure_ (i:=1) (N:=some 20) #[false,true,false,false,false,false,false,false,false,false,false] (any_of HT_.out (by kernel_rfl)) ?_
  refine zpure_ (i:=2) (N:=some 21) #[false,true,true,false,false,false,false,false,false,false,false] (any_of HT_.out (by kernel_rfl)) ?_
  refine ztake_ (i:=0) (N:=some 19) #[true,true,true,false,false,false,false,false,false,false,false] rfl (take_ofW HT_.out HW_.out (by kernel_rfl)) hHeld (Or.inl ⟨by rfl,by rintro w' ⟨s0,s1⟩;go_simp;with_reducible rfl⟩) ?_
  refine ztake_ (i:=3) (N:=some 22) #[true,true,true,true,false,false,false,false,false,false,false] rfl (take_ofW HT_.out HW_.out (by kernel_rfl)) hHeld (Or.inl ⟨by rfl,by rintro w' ⟨s0,s1⟩;go_simp;with_reducible rfl⟩) ?_
  refine one_ (i:=4) (N:=some 23) #[true,true,true,true,true,false,false,false,false,false,false] rfl rfl (one_of HT_.out (by kernel_rfl)) (by decide) (fun K hK=>?_)
  refine goes_ Try.func102 (by kernel_rfl) rfl #[.agg #[.int .i64 d,.int .i64 g],.bool true] (by rfl) rfl rfl (by (try simp only[List.map_toArray,List.map_cons,List.map_nil]);first|done|rfl|(simp only[List.length_drop,List.length_take];rfl)) ?_
  with_reducible refine (round_Zero.calls A6.out).mono ?_
  rintro e aD ⟨rfl,hb⟩
  refine⟨_,rfl,?_⟩
  obtain⟨a,c,HB⟩:=zu2 a c HB hb
  try clear hb
  refine hK.out _ _ ⟨(blk_cell a.out 0).trans rfl,(blk_cell a.out 1).trans rfl⟩ (fun hHeld=>?_)
  clear hK K
  refine norm_ (a':=?_) ?_ ?_
  rotate_left
  ·show Act.put _ (some 23) _=_
   simp only[Act.put,List.setIfInBounds_toArray,List.set_cons_zero,List.set_cons_succ,i64_w,i32_w]
   rfl
  refine zpure_ (i:=5) (N:=some 24) #[true,true,true,true,true,true,false,false,false,false,false] (any_of HT_.out (by kernel_rfl)) ?_
  refine one_ (i:=6) (N:=some 25) #[true,true,true,true,true,true,true,false,false,false,false] rfl rfl (one_of HT_.out (by kernel_rfl)) (by decide) (fun K hK=>?_)
  refine goes_ Try.func58 (by kernel_rfl) rfl #[.agg #[.int .i64 d,.int .i64 g],.int .u64 a1,.int .u64 (Go.bits .xor .u64 F v)] (by rfl) rfl rfl (by (try simp only[List.map_toArray,List.map_cons,List.map_nil]);first|done|rfl|(simp only[List.length_drop,List.length_take];rfl)) ?_
  with_reducible refine (soft_Add.calls A7.out).mono ?_
  rintro e aE ⟨rfl,hb⟩
  refine⟨_,rfl,?_⟩
  obtain⟨a,c,HB⟩:=zu2 a c HB hb
  try clear hb
  refine hK.out _ _ ⟨(blk_cell a.out 0).trans rfl,(blk_cell a.out 1).trans rfl⟩ (fun hHeld=>?_)
  clear hK K
  refine norm_ (a':=?_) ?_ ?_
  rotate_left
  ·show Act.put _ (some 25) _=_
   simp only[Act.put,List.setIfInBounds_toArray,List.set_cons_zero,List.set_cons_succ,i64_w,i32_w]
   rfl
  refine zpure_ (i:=7) (N:=some 26) #[true,true,true,true,true,true,true,true,false,false,false] (any_of HT_.out (by kernel_rfl)) ?_
  refine zpure_ (i:=8) (N:=some 27) #[true,true,true,true,true,true,true,true,true,false,false] (any_of HT_.out (by kernel_rfl)) ?_
  refine zpure_ (i:=9) (N:=some 6) #[true,true,true,true,true,true,true,true,true,true,false] (any_of HT_.out (by kernel_rfl)) ?_
  refine zpure_ (i:=10) (N:=some 7) #[true,true,true,true,true,true,true,true,true,true,true] (any_of HT_.out (by kernel_rfl)) ?_
  refine done_ (done_of HT_.out (by kernel_rfl)) ?_
  try go_wp2
  go_ret2
  exact zr HB
 rw[if_neg I] at H
 obtain⟨J,L⟩:=zf I
 simp only[Option.some.injEq,Prod.mk.injEq] at H
 obtain⟨rfl,rfl⟩:=H
 go_enter Try.func59,Try.ntmps59
 go_wp2_with (first|((with_reducible refine gate_dst (N:=3) rfl ?_);refine zbox (N:=3) (cs:=#[.int .i64 d,.int .i64 g]) (t:=58) ?_;intro l hg aF hbox hb;have a:=Aside0.mk hbox;have B:=zge hg HB;have C:=zge hg HB;replace HB:=zbs HB hb;clear hb hbox hg;obtain⟨W,X,Y,Z⟩:=zc2 a)|((with_reducible refine gate_callee (f:=95) rfl ?_);refine zgc (some 13) Try.func95 (round_Open.calls A4.out) ?_;intro aG hb;obtain⟨a,HB⟩:=zu1 a HB hb;clear hb)|((with_reducible refine gate_dst (N:=8) rfl ?_);refine zbox (N:=8) (cs:=#[.int .i64 0,.bool false,.int .i64 0,.int .u64 0]) (t:=89) ?_;intro b hg aH hbox hb;have c:=Aside0.mk hbox;have D:=zge hg HB;have E:=zge hg HB;have s:=znl hg a;have j:=zng hg a;obtain⟨a,HB⟩:=zu1 a HB hb;clear hb hbox hg;obtain⟨au,av⟩:=z2 j;obtain⟨aa,ab,ac,ad,ae,af,ag,ah⟩:=zc4 c))
 go_ret2
 exact zr HB

/-! ### bits_Mul64: function 104 -/
def bits_Mul64.f (a0:Int) (a1:Int):Option (Int×Int):=some (IntKind.u64.wrap ((IntKind.u64.wrap ((IntKind.u64.wrap ((a0/4294967296)*(a1/4294967296)))+((IntKind.u64.wrap ((IntKind.u64.wrap ((a0/4294967296)*(Go.bits .and .u64 a1 4294967295)))+((IntKind.u64.wrap ((Go.bits .and .u64 a0 4294967295)*(Go.bits .and .u64 a1 4294967295)))/4294967296)))/4294967296)))+((IntKind.u64.wrap ((Go.bits .and .u64 (IntKind.u64.wrap ((IntKind.u64.wrap ((a0/4294967296)*(Go.bits .and .u64 a1 4294967295)))+((IntKind.u64.wrap ((Go.bits .and .u64 a0 4294967295)*(Go.bits .and .u64 a1 4294967295)))/4294967296))) 4294967295)+(IntKind.u64.wrap ((Go.bits .and .u64 a0 4294967295)*(a1/4294967296)))))/4294967296)),IntKind.u64.wrap (a0*a1))
set_option maxHeartbeats 8000000 in
set_option maxRecDepth 100000 in
theorem bits_Mul64.calls {a:Int} {b:Int} {c:Int} {d:Int} {w:World} (h:bits_Mul64.f a b=some (c,d)) :
  Calls Try.prog 104 #[.int .u64 a,.int .u64 b] w fun e w'=>e=.returned (.tuple #[.int .u64 c,.int .u64 d])∧Drawn0 w w':=by
 have H:=h
 unfold bits_Mul64.f at H
 clear h
 simp only[Option.some.injEq,Prod.mk.injEq] at H
 obtain⟨rfl,rfl⟩:=H
 go_enter Try.func104,Try.ntmps104
 go_wp2
 go_ret2
 exact⟨by first|rfl|(simp;done)|(simp[*];done),by repeat (first|exact Drawn0.refl _|apply Drawn0.step)⟩

/-! ### soft_Mul: function 60 -/
mutual
def soft_Mul.j0:Nat→Bool→Int→Int→Int→Bool→Int→Int→Int→Bool→Int→Int→Option (Int×Int)
 | 0,_,_,_,_,_,_,_,_,_,_,_=>none
 | k+1,c,d,e,a,f,g,h,b,i,j,l=>if a=1 then (soft_Mul.j1 k c true d e a f g h b i j l) else (soft_Mul.j1 k c (b==1) d e a f g h b i j l)
def soft_Mul.j1:Nat→Bool→Bool→Int→Int→Int→Bool→Int→Int→Int→Bool→Int→Int→Option (Int×Int)
 | 0,_,_,_,_,_,_,_,_,_,_,_,_=>none
 | k+1,c,d,m,n,e,a,g,h,i,b,j,l=>(soft_odd.f e a g h i b j l).bind fun o=>(if o=true then (soft_Mul.j2 k c d (a != b) true m n e a g h i b j l) else (if c=true then (soft_Mul.j2 k c d (a != b) d m n e a g h i b j l) else (soft_Mul.j2 k c d (a != b) false m n e a g h i b j l)))
def soft_Mul.j2:Nat→Bool→Bool→Bool→Bool→Int→Int→Int→Bool→Int→Int→Int→Bool→Int→Int→Option (Int×Int)
 | 0,_,_,_,_,_,_,_,_,_,_,_,_,_,_=>none
 | k+1,g,h,c,i,a,b,r,s,j,l,t,u,m,n=>if i=true then ((round_NaN.f a b).bind fun o=>(some (o,0))) else (if g=true then ((round_Inf.f a b c).bind fun p=>(some (p,0))) else (if h=true then ((round_Zero.f a b c).bind fun q=>(some (q,0))) else ((bits_Mul64.f l n).bind fun d=>((round_Pack.f k a b c d.1 d.2 (wrap64 (j+m)) false).bind fun e=>(some (e.1,e.2))))))
end
def soft_Mul.f (k:Nat) (a0_0:Int) (a0_1:Int) (a1:Int) (a2:Int):Option (Int×Int):=(soft_two.f k a0_0 a0_1 a1 a2).bind fun a=>(if a.2.2.2.2.2.2.2.2=0 then (if a.1=3 then (soft_Mul.j0 k true a0_0 a0_1 a.1 a.2.1 a.2.2.1 a.2.2.2.1 a.2.2.2.2.1 a.2.2.2.2.2.1 a.2.2.2.2.2.2.1 a.2.2.2.2.2.2.2.1) else (soft_Mul.j0 k (a.2.2.2.2.1==3) a0_0 a0_1 a.1 a.2.1 a.2.2.1 a.2.2.2.1 a.2.2.2.2.1 a.2.2.2.2.2.1 a.2.2.2.2.2.2.1 a.2.2.2.2.2.2.2.1)) else (some (0,a.2.2.2.2.2.2.2.2)))
theorem soft_Mul.mono_l:∀ k,(∀ y0 y1 y2 y3 y4 y5 y6 y7 y8 y9 y10,LeO (soft_Mul.j0 k y0 y1 y2 y3 y4 y5 y6 y7 y8 y9 y10) (soft_Mul.j0 (k+1) y0 y1 y2 y3 y4 y5 y6 y7 y8 y9 y10))∧(∀ y0 y1 y2 y3 y4 y5 y6 y7 y8 y9 y10 y11,LeO (soft_Mul.j1 k y0 y1 y2 y3 y4 y5 y6 y7 y8 y9 y10 y11) (soft_Mul.j1 (k+1) y0 y1 y2 y3 y4 y5 y6 y7 y8 y9 y10 y11))∧(∀ y0 y1 y2 y3 y4 y5 y6 y7 y8 y9 y10 y11 y12 y13,LeO (soft_Mul.j2 k y0 y1 y2 y3 y4 y5 y6 y7 y8 y9 y10 y11 y12 y13) (soft_Mul.j2 (k+1) y0 y1 y2 y3 y4 y5 y6 y7 y8 y9 y10 y11 y12 y13))
 | 0=>⟨fun _ _ _ _ _ _ _ _ _ _ _ r h=>by simp[soft_Mul.j0] at h,fun _ _ _ _ _ _ _ _ _ _ _ _ r h=>by simp[soft_Mul.j1] at h,fun _ _ _ _ _ _ _ _ _ _ _ _ _ _ r h=>by simp[soft_Mul.j2] at h⟩
 | k+1=>by
  obtain⟨ih0,ih1,ih2⟩:=soft_Mul.mono_l k
  refine⟨?_,?_,?_⟩ <;> intros <;> (first|unfold soft_Mul.j0|unfold soft_Mul.j1|unfold soft_Mul.j2) <;> (repeat' first|(with_reducible first|apply ih0|apply ih1|apply ih2|apply round_Pack.mono|apply soft_two.mono|exact LeO.refl _|exact LeO.none _|refine LeO.ite ?_ ?_|refine LeO.bind ?_ (fun _=>?_))|refine LeO.ite ?_ ?_|refine LeO.bind ?_ (fun _=>?_))
theorem soft_Mul.mono:∀ a0 a1 a2 a3 k,LeO (soft_Mul.f k a0 a1 a2 a3) (soft_Mul.f (k+1) a0 a1 a2 a3):=by
 intro a0 a1 a2 a3 k
 obtain⟨ih0,ih1,ih2⟩:=soft_Mul.mono_l k
 unfold soft_Mul.f
 repeat' first|(with_reducible first|apply ih0|apply ih1|apply ih2|apply round_Pack.mono|apply soft_two.mono|exact LeO.refl _|exact LeO.none _|refine LeO.ite ?_ ?_|refine LeO.bind ?_ (fun _=>?_))|refine LeO.ite ?_ ?_|refine LeO.bind ?_ (fun _=>?_)
set_option maxHeartbeats 8000000 in
set_option maxRecDepth 100000 in
theorem soft_Mul.calls {k:Nat} {l:Int} {m:Int} {a1:Int} {a2:Int} {r1:Int} {r2:Int} {w:World} (h:soft_Mul.f k l m a1 a2=some (r1,r2)) :
  Calls Try.prog 60 #[.agg #[.int .i64 l,.int .i64 m],.int .u64 a1,.int .u64 a2] w fun e w'=>e=.returned (.tuple #[.int .u64 r1,.int .i64 r2])∧Below w.heap.size w w':=by
 have hu58:=Try.underlying58
 have hu89:=Try.underlying89
 have HB:=Aside0.mk (Below.refl w.heap.size w)
 have H:=h
 unfold soft_Mul.f at H
 clear h
 obtain⟨⟨v,B,X,C,y,D,Y,E,bN⟩,A4,H⟩:=oB H
 try dsimp only at H
 by_cases c5:bN=0
 ·rw[if_pos c5] at H
  obtain⟨aJ,aK⟩:=zt c5
  clear c5
  have bD:=Aside0.mk H
  clear H
  go_enter Try.func60,Try.ntmps60
  go_upto_region 4 with (first|((with_reducible refine gate_dst (N:=3) rfl ?_);refine zbox (N:=3) (cs:=#[.int .i64 l,.int .i64 m]) (t:=58) ?_;intro Z hg w7 hbox hb;have a:=Aside0.mk hbox;have bE:=zge hg HB;have bF:=zge hg HB;replace HB:=zbs HB hb;clear hb hbox hg;obtain⟨aa,ab,ac,ad⟩:=zc2 a)|((with_reducible refine gate_callee (f:=100) rfl ?_);refine zgc (some 20) Try.func100 (soft_two.calls A4.out) ?_;intro w9 hb;obtain⟨a,HB⟩:=zu1 a HB hb;clear hb)|((with_reducible refine gate_dst (N:=8) rfl ?_);refine zbox (N:=8) (cs:=#[.int .i64 0,.bool false,.int .i64 0,.int .u64 0]) (t:=89) ?_;intro ae hg fe hbox hb;have b:=Aside0.mk hbox;have bG:=zge hg HB;have bH:=zge hg HB;have n:=znl hg a;have d:=zng hg a;obtain⟨a,HB⟩:=zu1 a HB hb;clear hb hbox hg)|((with_reducible refine gate_dst (N:=9) rfl ?_);refine zbox (N:=9) (cs:=#[.int .i64 0,.bool false,.int .i64 0,.int .u64 0]) (t:=89) ?_;intro af hg ff hbox hb;have c:=Aside0.mk hbox;have bI:=zge hg HB;have bJ:=zge hg HB;have o:=znl hg a;have i:=zng hg a;have g:=znl hg b;have aG:=zng hg b;obtain⟨a,b,HB⟩:=zu2 a b HB hb;clear hb hbox hg;obtain⟨dC,dD⟩:=z2 d;obtain⟨dE,dF⟩:=z2 g;obtain⟨F,G,I,J,K,L,M,O⟩:=zc4 b;obtain⟨dG,dH⟩:=z2 i;obtain⟨P,Q,R,S,T,U,V,W⟩:=zc4 c))
  (try simp only[Act.put,List.setIfInBounds_toArray,List.set_cons_zero,List.set_cons_succ])
  go_cut [11] (fun v11 wc=>∃ (kq:Nat) (q:Bool),v11=.bool q∧Aside0 (soft_Mul.j0 kq q l m v B X C y D Y E=some (r1,r2))∧Aside0 (kq≤k)∧Aside0 (wc.heap[Z]?=some (.cells #[.int .i64 l,.int .i64 m] 58 (0,0)))∧Aside0 (wc.heap[ae]?=some (.cells #[.int .i64 v,.bool B,.int .i64 X,.int .u64 C] 89 (0,0)))∧Aside0 (wc.heap[af]?=some (.cells #[.int .i64 y,.bool D,.int .i64 Y,.int .u64 E] 89 (0,0)))∧Aside0 (Below w.heap.size w wc))
  case first =>
   have H:=bD.out
   clear bD
   by_cases aH:v=3
   ·rw[if_pos aH] at H
    obtain⟨s,aI⟩:=zt aH
    clear aH
    (first|rw[s]|(simp only[i64_w,i32_w];rw[s])|skip)
    have H':=Aside0.mk H
    clear H
    obtain⟨dI,dJ⟩:=z2 d
    obtain⟨dK,dL⟩:=z2 g
    obtain⟨ag,ah,ai,aj,ak,al,am,an⟩:=zc4 b
    go_wp2
    go_meet
    case rel=>exact⟨_,(true),(by first|rfl|(simp[*];done)),H',⟨by omega⟩,⟨zk a⟩,⟨zkp b⟩,⟨zkp c⟩,⟨zb HB⟩⟩
   rw[if_neg aH] at H
   obtain⟨s,aI⟩:=zf aH
   (first|rw[s]|(simp only[i64_w,i32_w];rw[s])|skip)
   have H':=Aside0.mk H
   clear H
   obtain⟨dM,dN⟩:=z2 d
   obtain⟨dO,dP⟩:=z2 g
   obtain⟨ao,ap,aq,ar,au,av,aw,ax⟩:=zc4 b
   obtain⟨dQ,dR⟩:=z2 i
   obtain⟨ay,az,aA,aB,aC,aD,aE,aF⟩:=zc4 c
   go_wp2
   go_meet
   case rel=>exact⟨_,((y==3)),(by first|rfl|(simp[*];done)),H',⟨by omega⟩,⟨zk a⟩,⟨zkp b⟩,⟨zkp c⟩,⟨zb HB⟩⟩
  case rest =>
   clear bD
   try clear aJ aK F G I J P Q R S aa ab K L M O T U V W ac ad
   obtain⟨kq,q,rfl,HA,aM,a,b,c,HB⟩:=hcut
   cases kq with
   | zero=>exact absurd HA.out (by simp[soft_Mul.j0])
   | succ dS =>
    have H:=HA.out
    clear HA
    simp only[soft_Mul.j0] at H
    have aN:=Aside0.mk H
    clear H
    go_upto_region 5 with (fail)
    go_cut [12] (fun v12 wc=>∃ (kq:Nat) (p:Bool),v12=.bool p∧Aside0 (soft_Mul.j1 kq q p l m v B X C y D Y E=some (r1,r2))∧Aside0 (kq≤dS)∧Aside0 (wc.heap[Z]?=some (.cells #[.int .i64 l,.int .i64 m] 58 (0,0)))∧Aside0 (wc.heap[ae]?=some (.cells #[.int .i64 v,.bool B,.int .i64 X,.int .u64 C] 89 (0,0)))∧Aside0 (wc.heap[af]?=some (.cells #[.int .i64 y,.bool D,.int .i64 Y,.int .u64 E] 89 (0,0)))∧Aside0 (Below w.heap.size w wc))
    case first =>
     have H:=aN.out
     clear aN
     by_cases aL:v=1
     ·rw[if_pos aL] at H
      obtain⟨u,aO⟩:=zt aL
      clear aL
      (first|rw[u]|(simp only[i64_w,i32_w];rw[u])|skip)
      have H':=Aside0.mk H
      clear H
      obtain⟨dT,dU⟩:=z2 d
      obtain⟨dV,dW⟩:=z2 g
      obtain⟨aP,aQ,aR,aS,aT,aU,aV,aW⟩:=zc4 b
      go_wp2
      go_meet
      case rel=>exact⟨_,(true),(by first|rfl|(simp[*];done)),H',⟨by have:=aM.out;first|omega|exact Nat.le_refl _⟩,⟨zk a⟩,⟨zk b⟩,⟨zk c⟩,⟨zb HB⟩⟩
     rw[if_neg aL] at H
     obtain⟨u,aO⟩:=zf aL
     (first|rw[u]|(simp only[i64_w,i32_w];rw[u])|skip)
     have H':=Aside0.mk H
     clear H
     obtain⟨dX,dY⟩:=z2 d
     obtain⟨dZ,d0⟩:=z2 g
     obtain⟨aX,aY,aZ,a0,a3,a4,a5,a6⟩:=zc4 b
     obtain⟨d1,d2⟩:=z2 i
     obtain⟨a7,a8,a9,ba,bb,bc,bd,be⟩:=zc4 c
     go_wp2
     go_meet
     case rel=>exact⟨_,((y==1)),(by first|rfl|(simp[*];done)),H',⟨by have:=aM.out;first|omega|exact Nat.le_refl _⟩,⟨zk a⟩,⟨zk b⟩,⟨zk c⟩,⟨zb HB⟩⟩
    case rest =>
     clear aN
     try clear c1 c2 p2 aJ aK c6 d4 d5 d6 d7 aH s aI d8 d9 ea eb ec F G I J P Q R S ag ah ai aj ao ap aq ar ay az aA aB aa ab K L M O T U V W ak al am an au av aw ax aC aD aE aF ac ad p2
     obtain⟨kq,p,rfl,HA,bf,a,b,c,HB⟩:=hcut
     cases kq with
     | zero=>exact absurd HA.out (by simp[soft_Mul.j1])
     | succ bP =>
      have H:=HA.out
      clear HA
      simp only[soft_Mul.j1] at H
      have bg:=Aside0.mk H
      clear H
      obtain⟨ed,ee⟩:=z2 d
      obtain⟨ef,eg⟩:=z2 g
      obtain⟨bh,bi,bj,bk,bl,bm,bn,bo⟩:=zc4 b
      obtain⟨eh,ei⟩:=z2 i
      obtain⟨bp,bq,br,bs,bt,bu,bv,bw⟩:=zc4 c
      go_upto_region 7 with (fail)
      go_cut [48] (fun v48 wc=>∃ (kq:Nat) (z:Bool),v48=.bool z∧Aside0 (soft_Mul.j2 kq q p (B != D) z l m v B X C y D Y E=some (r1,r2))∧Aside0 (kq≤bP)∧Aside0 (wc.heap[Z]?=some (.cells #[.int .i64 l,.int .i64 m] 58 (0,0)))∧Aside0 (wc.heap[ae]?=some (.cells #[.int .i64 v,.bool B,.int .i64 X,.int .u64 C] 89 (0,0)))∧Aside0 (wc.heap[af]?=some (.cells #[.int .i64 y,.bool D,.int .i64 Y,.int .u64 E] 89 (0,0)))∧Aside0 (Below w.heap.size w wc))
      case first =>
       have H:=bg.out
       clear bg
       obtain⟨bQ,bK,H⟩:=oB H
       by_cases bx:bQ=true
       ·subst bx
        rw[if_pos rfl] at H
        have H':=Aside0.mk H
        clear H
        obtain⟨ej,ek⟩:=z2 d
        obtain⟨el,em⟩:=z2 g
        obtain⟨bR,bS,bT,bU,bV,bW,bX,bY⟩:=zc4 b
        obtain⟨en,eo⟩:=z2 i
        obtain⟨bZ,b0,b1,b2,b3,b4,b5,b6⟩:=zc4 c
        go_wp2_with (first|((with_reducible refine gate_callee (f:=101) rfl ?_);refine zgc (some 51) Try.func101 (soft_odd.calls bK.out) ?_;intro fj hb;obtain⟨a,b,c,HB⟩:=zu3 a b c HB hb;clear hb))
        go_meet
        case rel=>exact⟨_,(true),(by first|rfl|(simp[*];done)),H',⟨by have:=aM.out;have:=bf.out;first|omega|exact Nat.le_refl _⟩,⟨zk a⟩,⟨zk b⟩,⟨zk c⟩,⟨zb HB⟩⟩
       replace bx:=Bool.eq_false_iff.mpr bx
       subst bx
       rw[if_neg nft] at H
       by_cases bz:q=true
       ·subst bz
        rw[if_pos rfl] at H
        have H':=Aside0.mk H
        clear H
        obtain⟨ep,eq⟩:=z2 d
        obtain⟨er,es⟩:=z2 g
        obtain⟨b7,b8,b9,ca,cb,cc,cd,ce⟩:=zc4 b
        obtain⟨et,eu⟩:=z2 i
        obtain⟨cf,cg,ch,ci,cj,ck,cl,cm⟩:=zc4 c
        go_wp2_with (first|((with_reducible refine gate_callee (f:=101) rfl ?_);refine zgc (some 51) Try.func101 (soft_odd.calls bK.out) ?_;intro fk hb;obtain⟨a,b,c,HB⟩:=zu3 a b c HB hb;clear hb))
        go_meet
        case rel=>exact⟨_,(p),(by first|rfl|(simp[*];done)),H',⟨by have:=aM.out;have:=bf.out;first|omega|exact Nat.le_refl _⟩,⟨zk a⟩,⟨zk b⟩,⟨zk c⟩,⟨zb HB⟩⟩
       replace bz:=Bool.eq_false_iff.mpr bz
       subst bz
       rw[if_neg nft] at H
       have H':=Aside0.mk H
       clear H
       obtain⟨ev,ew⟩:=z2 d
       obtain⟨ex,ey⟩:=z2 g
       obtain⟨cn,co,cp,cq,cr,ct,cu,cv⟩:=zc4 b
       obtain⟨ez,eA⟩:=z2 i
       obtain⟨cw,cx,cy,cz,cA,cB,cC,cD⟩:=zc4 c
       go_wp2_with (first|((with_reducible refine gate_callee (f:=101) rfl ?_);refine zgc (some 51) Try.func101 (soft_odd.calls bK.out) ?_;intro fl hb;obtain⟨a,b,c,HB⟩:=zu3 a b c HB hb;clear hb))
       go_meet
       case rel=>exact⟨_,(false),(by first|rfl|(simp[*];done)),H',⟨by have:=aM.out;have:=bf.out;first|omega|exact Nat.le_refl _⟩,⟨zk a⟩,⟨zk b⟩,⟨zk c⟩,⟨zb HB⟩⟩
      case rest =>
       clear bg
       try clear c1 c2 p2 c3 aJ aK c6 d4 d5 d6 d7 aH s aI d8 d9 ea eb ec aL u aO fm fn fo fp fq F G I J P Q R S ag ah ai aj ao ap aq ar ay az aA aB aP aQ aR aS aX aY aZ a0 a7 a8 a9 ba bh bi bj bk bp bq br bs aa ab K L M O T U V W ak al am an au av aw ax aC aD aE aF aT aU aV aW a3 a4 a5 a6 bb bc bd be bl bm bn bo bt bu bv bw ac ad p2
       obtain⟨kq,z,rfl,HA,e5,a,b,c,HB⟩:=hcut
       cases kq with
       | zero=>exact absurd HA.out (by simp[soft_Mul.j2])
       | succ e6 =>
        have H:=HA.out
        clear HA
        simp only[soft_Mul.j2] at H
        by_cases bA:z=true
        ·subst bA
         rw[if_pos rfl] at H
         obtain⟨e7,eB,H⟩:=oB H
         simp only[Option.some.injEq,Prod.mk.injEq] at H
         obtain⟨rfl,rfl⟩:=H
         obtain⟨eC,eD⟩:=z2 n
         obtain⟨eE,eF⟩:=z2 o
         obtain⟨cE,cF,cG,cH⟩:=zc2 a
         go_wp2_with (first|((with_reducible refine gate_callee (f:=97) rfl ?_);refine zgc (some 59) Try.func97 (round_NaN.calls eB.out) ?_;intro fr hb;obtain⟨a,b,c,HB⟩:=zu3 a b c HB hb;clear hb))
         go_ret2
         exact zr HB
        replace bA:=Bool.eq_false_iff.mpr bA
        subst bA
        rw[if_neg nft] at H
        by_cases bB:q=true
        ·subst bB
         rw[if_pos rfl] at H
         obtain⟨e8,eG,H⟩:=oB H
         simp only[Option.some.injEq,Prod.mk.injEq] at H
         obtain⟨rfl,rfl⟩:=H
         obtain⟨eH,eI⟩:=z2 n
         obtain⟨eJ,eK⟩:=z2 o
         obtain⟨cI,cJ,cK,cL⟩:=zc2 a
         go_wp2_with (first|((with_reducible refine gate_callee (f:=98) rfl ?_);refine zgc (some 64) Try.func98 (round_Inf.calls eG.out) ?_;intro fs hb;obtain⟨a,b,c,HB⟩:=zu3 a b c HB hb;clear hb))
         go_ret2
         exact zr HB
        replace bB:=Bool.eq_false_iff.mpr bB
        subst bB
        rw[if_neg nft] at H
        by_cases bC:p=true
        ·subst bC
         rw[if_pos rfl] at H
         obtain⟨e9,eL,H⟩:=oB H
         simp only[Option.some.injEq,Prod.mk.injEq] at H
         obtain⟨rfl,rfl⟩:=H
         obtain⟨eM,eN⟩:=z2 n
         obtain⟨eO,eP⟩:=z2 o
         obtain⟨cM,cN,cO,cP⟩:=zc2 a
         go_wp2_with (first|((with_reducible refine gate_callee (f:=102) rfl ?_);refine zgc (some 69) Try.func102 (round_Zero.calls eL.out) ?_;intro ft hb;obtain⟨a,b,c,HB⟩:=zu3 a b c HB hb;clear hb))
         go_ret2
         exact zr HB
        replace bC:=Bool.eq_false_iff.mpr bC
        subst bC
        rw[if_neg nft] at H
        obtain⟨⟨fa,fb⟩,eQ,H⟩:=oB H
        try dsimp only at H
        obtain⟨⟨fc,fd⟩,eR,H⟩:=oB H
        try dsimp only at H
        simp only[Option.some.injEq,Prod.mk.injEq] at H
        obtain⟨rfl,rfl⟩:=H
        obtain⟨eS,eT⟩:=z2 d
        obtain⟨eU,eV⟩:=z2 g
        obtain⟨cQ,cR,cS,cT,cU,cV,cW,cX⟩:=zc4 b
        obtain⟨eW,eX⟩:=z2 i
        obtain⟨cY,cZ,c0,c4,c7,c8,c9,da⟩:=zc4 c
        go_wp2_with (first|((with_reducible refine gate_callee (f:=104) rfl ?_);refine zgo (some 75) Try.func104 #[.int .u64 C,.int .u64 E] ?_;(with_reducible refine (bits_Mul64.calls eQ.out).mono ?_);rintro e w' ⟨rfl,⟨nd,rfl⟩⟩;refine⟨_,rfl,?_⟩;obtain⟨db,dc,dd,de⟩:=zc2 a)|((with_reducible refine gate_callee (f:=87) rfl ?_);refine zgc (some 87) Try.func87 (round_Pack.calls eR.out) ?_;intro fu hb;obtain⟨a,b,c,HB⟩:=zu3 a b c HB hb;clear hb))
        go_ret2
        exact zr HB
 rw[if_neg c5] at H
 obtain⟨aJ,aK⟩:=zf c5
 simp only[Option.some.injEq,Prod.mk.injEq] at H
 obtain⟨rfl,rfl⟩:=H
 go_enter Try.func60,Try.ntmps60
 go_wp2_with (first|((with_reducible refine gate_dst (N:=3) rfl ?_);refine zbox (N:=3) (cs:=#[.int .i64 l,.int .i64 m]) (t:=58) ?_;intro Z hg fv hbox hb;have a:=Aside0.mk hbox;have bE:=zge hg HB;have bF:=zge hg HB;replace HB:=zbs HB hb;clear hb hbox hg;obtain⟨df,dg,dh,di⟩:=zc2 a)|((with_reducible refine gate_callee (f:=100) rfl ?_);refine zgc (some 20) Try.func100 (soft_two.calls A4.out) ?_;intro fw hb;obtain⟨a,HB⟩:=zu1 a HB hb;clear hb)|((with_reducible refine gate_dst (N:=8) rfl ?_);refine zbox (N:=8) (cs:=#[.int .i64 0,.bool false,.int .i64 0,.int .u64 0]) (t:=89) ?_;intro ae hg fx hbox hb;have b:=Aside0.mk hbox;have bG:=zge hg HB;have bH:=zge hg HB;have n:=znl hg a;have d:=zng hg a;obtain⟨a,HB⟩:=zu1 a HB hb;clear hb hbox hg)|((with_reducible refine gate_dst (N:=9) rfl ?_);refine zbox (N:=9) (cs:=#[.int .i64 0,.bool false,.int .i64 0,.int .u64 0]) (t:=89) ?_;intro af hg fy hbox hb;have c:=Aside0.mk hbox;have bI:=zge hg HB;have bJ:=zge hg HB;have o:=znl hg a;have i:=zng hg a;have g:=znl hg b;have aG:=zng hg b;obtain⟨a,b,HB⟩:=zu2 a b HB hb;clear hb hbox hg;obtain⟨eY,eZ⟩:=z2 d;obtain⟨e0,e1⟩:=z2 g;obtain⟨dj,dk,dl,dm,dn,dp,dq,dr⟩:=zc4 b;obtain⟨e2,e3⟩:=z2 i;obtain⟨ds,dt,du,dv,dw,dx,dy,dz⟩:=zc4 c))
 go_ret2
 exact zr HB

/-! ### bits_LeadingZeros64: function 105 -/
def bits_LeadingZeros64.f (k:Nat) (a0:Int):Option (Int):=(bits_Len64.f k a0).bind fun a=>(some (wrap64 (64-a)))
theorem bits_LeadingZeros64.mono:∀ a0 k,LeO (bits_LeadingZeros64.f k a0) (bits_LeadingZeros64.f (k+1) a0):=by
 intro a0 k
 unfold bits_LeadingZeros64.f
 repeat' first|(with_reducible first|apply bits_Len64.mono|exact LeO.refl _|exact LeO.none _|refine LeO.ite ?_ ?_|refine LeO.bind ?_ (fun _=>?_))|refine LeO.ite ?_ ?_|refine LeO.bind ?_ (fun _=>?_)
set_option maxHeartbeats 8000000 in
set_option maxRecDepth 100000 in
theorem bits_LeadingZeros64.calls {k:Nat} {b:Int} {r:Int} {w:World} (h:bits_LeadingZeros64.f k b=some r) :
  Calls Try.prog 105 #[.int .u64 b] w fun e w'=>e=.returned (.int .i64 r)∧Drawn0 w w':=by
 have H:=h
 unfold bits_LeadingZeros64.f at H
 clear h
 obtain⟨a,c,H⟩:=oB H
 obtain rfl:=Option.some.inj H
 go_enter Try.func105,Try.ntmps105
 go_wp2_with (first|((with_reducible refine gate_callee (f:=118) rfl ?_);refine zgo (some 4) Try.func118 #[.int .u64 b] ?_;(with_reducible refine (bits_Len64.calls c.out).mono ?_);rintro e w' ⟨rfl,⟨nd,rfl⟩⟩;refine⟨_,rfl,?_⟩))
 go_ret
 exact⟨by first|rfl|(simp;done)|(simp[*];done),by repeat (first|exact Drawn0.refl _|apply Drawn0.step)⟩

/-! ### bits_Div64: function 106 -/
mutual
def bits_Div64.j2:Nat→Int→Int→Int→Int→Int→Int→Int→Int→Option (Int×Int)
 | 0,_,_,_,_,_,_,_,_=>none
 | k+1,a,f,b,g,d,e,h,c=>if b=0 then (none) else (bits_Div64.l1 k a f b g h c (IntKind.u64.wrap ((IntKind.u64.wrap ((IntKind.u64.wrap ((IntKind.u64.wrap (d*4294967296))+e))-(IntKind.u64.wrap (c*a))))-(IntKind.u64.wrap ((IntKind.u64.wrap (Int.tdiv (IntKind.u64.wrap ((IntKind.u64.wrap ((IntKind.u64.wrap (d*4294967296))+e))-(IntKind.u64.wrap (c*a)))) b))*b)))) (IntKind.u64.wrap ((IntKind.u64.wrap ((IntKind.u64.wrap (d*4294967296))+e))-(IntKind.u64.wrap (c*a)))) (IntKind.u64.wrap (Int.tdiv (IntKind.u64.wrap ((IntKind.u64.wrap ((IntKind.u64.wrap (d*4294967296))+e))-(IntKind.u64.wrap (c*a)))) b)))
def bits_Div64.l1:Nat→Int→Int→Int→Int→Int→Int→Int→Int→Int→Option (Int×Int)
 | 0,_,_,_,_,_,_,_,_,_=>none
 | k+1,e,f,g,b,c,h,d,i,a=>if a≥4294967296 then (bits_Div64.j4 k e f g b c h d i a true) else (bits_Div64.j4 k e f g b c h d i a (decide ((IntKind.u64.wrap (a*b))>(IntKind.u64.wrap ((IntKind.u64.wrap (4294967296*d))+c)))))
def bits_Div64.j4:Nat→Int→Int→Int→Int→Int→Int→Int→Int→Int→Bool→Option (Int×Int)
 | 0,_,_,_,_,_,_,_,_,_,_=>none
 | k+1,c,a,d,i,e,f,h,g,b,j=>if j=true then (if (IntKind.u64.wrap (h+d))≥4294967296 then (if 0≤a then (some (IntKind.u64.wrap ((IntKind.u64.wrap (f*4294967296))+(IntKind.u64.wrap (b-1))),shr .u64 (IntKind.u64.wrap ((IntKind.u64.wrap ((IntKind.u64.wrap (g*4294967296))+e))-(IntKind.u64.wrap ((IntKind.u64.wrap (b-1))*c)))) a)) else (none)) else (bits_Div64.l1 k c a d i e f (IntKind.u64.wrap (h+d)) g (IntKind.u64.wrap (b-1)))) else (if 0≤a then (some (IntKind.u64.wrap ((IntKind.u64.wrap (f*4294967296))+b),shr .u64 (IntKind.u64.wrap ((IntKind.u64.wrap ((IntKind.u64.wrap (g*4294967296))+e))-(IntKind.u64.wrap (b*c)))) a)) else (none))
def bits_Div64.l0:Nat→Int→Int→Int→Int→Int→Int→Int→Int→Int→Option (Int×Int)
 | 0,_,_,_,_,_,_,_,_,_=>none
 | k+1,e,f,g,b,h,c,i,a,d=>if a≥4294967296 then (bits_Div64.j1 k e f g b h c i a d true) else (bits_Div64.j1 k e f g b h c i a d (decide ((IntKind.u64.wrap (a*b))>(IntKind.u64.wrap ((IntKind.u64.wrap (4294967296*d))+c)))))
def bits_Div64.j1:Nat→Int→Int→Int→Int→Int→Int→Int→Int→Int→Bool→Option (Int×Int)
 | 0,_,_,_,_,_,_,_,_,_,_=>none
 | k+1,b,c,a,d,e,f,g,h,i,j=>if j=true then (if (IntKind.u64.wrap (i+a))≥4294967296 then (bits_Div64.j2 k b c a d e f g (IntKind.u64.wrap (h-1))) else (bits_Div64.l0 k b c a d e f g (IntKind.u64.wrap (h-1)) (IntKind.u64.wrap (i+a)))) else (bits_Div64.j2 k b c a d e f g h)
end
def bits_Div64.f (k:Nat) (a0:Int) (a1:Int) (a2:Int):Option (Int×Int):=if a2=0 then (none) else (if a2≤a0 then (none) else (if a0=0 then (some (IntKind.u64.wrap (Int.tdiv a1 a2),Int.tmod a1 a2)) else ((bits_LeadingZeros64.f k a2).bind fun a=>(if 0≤(IntKind.u64.wrap (a)) then (if 0≤(IntKind.u64.wrap (64-(IntKind.u64.wrap (a)))) then (if ((shl .u64 a2 (IntKind.u64.wrap (a)))/4294967296)=0 then (none) else (bits_Div64.l0 k (shl .u64 a2 (IntKind.u64.wrap (a))) (IntKind.u64.wrap (a)) ((shl .u64 a2 (IntKind.u64.wrap (a)))/4294967296) (Go.bits .and .u64 (shl .u64 a2 (IntKind.u64.wrap (a))) 4294967295) (Go.bits .or .u64 (shl .u64 a0 (IntKind.u64.wrap (a))) (shr .u64 a1 (IntKind.u64.wrap (64-(IntKind.u64.wrap (a)))))) ((shl .u64 a1 (IntKind.u64.wrap (a)))/4294967296) (Go.bits .and .u64 (shl .u64 a1 (IntKind.u64.wrap (a))) 4294967295) (IntKind.u64.wrap (Int.tdiv (Go.bits .or .u64 (shl .u64 a0 (IntKind.u64.wrap (a))) (shr .u64 a1 (IntKind.u64.wrap (64-(IntKind.u64.wrap (a)))))) ((shl .u64 a2 (IntKind.u64.wrap (a)))/4294967296))) (IntKind.u64.wrap ((Go.bits .or .u64 (shl .u64 a0 (IntKind.u64.wrap (a))) (shr .u64 a1 (IntKind.u64.wrap (64-(IntKind.u64.wrap (a))))))-(IntKind.u64.wrap ((IntKind.u64.wrap (Int.tdiv (Go.bits .or .u64 (shl .u64 a0 (IntKind.u64.wrap (a))) (shr .u64 a1 (IntKind.u64.wrap (64-(IntKind.u64.wrap (a)))))) ((shl .u64 a2 (IntKind.u64.wrap (a)))/4294967296)))*((shl .u64 a2 (IntKind.u64.wrap (a)))/4294967296))))))) else (none)) else (none)))))
theorem bits_Div64.mono_l:∀ k,(∀ y0 y1 y2 y3 y4 y5 y6 y7,LeO (bits_Div64.j2 k y0 y1 y2 y3 y4 y5 y6 y7) (bits_Div64.j2 (k+1) y0 y1 y2 y3 y4 y5 y6 y7))∧(∀ y0 y1 y2 y3 y4 y5 y6 y7 y8,LeO (bits_Div64.l1 k y0 y1 y2 y3 y4 y5 y6 y7 y8) (bits_Div64.l1 (k+1) y0 y1 y2 y3 y4 y5 y6 y7 y8))∧(∀ y0 y1 y2 y3 y4 y5 y6 y7 y8 y9,LeO (bits_Div64.j4 k y0 y1 y2 y3 y4 y5 y6 y7 y8 y9) (bits_Div64.j4 (k+1) y0 y1 y2 y3 y4 y5 y6 y7 y8 y9))∧(∀ y0 y1 y2 y3 y4 y5 y6 y7 y8,LeO (bits_Div64.l0 k y0 y1 y2 y3 y4 y5 y6 y7 y8) (bits_Div64.l0 (k+1) y0 y1 y2 y3 y4 y5 y6 y7 y8))∧(∀ y0 y1 y2 y3 y4 y5 y6 y7 y8 y9,LeO (bits_Div64.j1 k y0 y1 y2 y3 y4 y5 y6 y7 y8 y9) (bits_Div64.j1 (k+1) y0 y1 y2 y3 y4 y5 y6 y7 y8 y9))
 | 0=>⟨fun _ _ _ _ _ _ _ _ r h=>by simp[bits_Div64.j2] at h,fun _ _ _ _ _ _ _ _ _ r h=>by simp[bits_Div64.l1] at h,fun _ _ _ _ _ _ _ _ _ _ r h=>by simp[bits_Div64.j4] at h,fun _ _ _ _ _ _ _ _ _ r h=>by simp[bits_Div64.l0] at h,fun _ _ _ _ _ _ _ _ _ _ r h=>by simp[bits_Div64.j1] at h⟩
 | k+1=>by
  obtain⟨ih0,ih1,ih2,ih3,ih4⟩:=bits_Div64.mono_l k
  refine⟨?_,?_,?_,?_,?_⟩ <;> intros <;> (first|unfold bits_Div64.j2|unfold bits_Div64.l1|unfold bits_Div64.j4|unfold bits_Div64.l0|unfold bits_Div64.j1) <;> (repeat' first|(with_reducible first|apply ih0|apply ih1|apply ih2|apply ih3|apply ih4|apply bits_LeadingZeros64.mono|exact LeO.refl _|exact LeO.none _|refine LeO.ite ?_ ?_|refine LeO.bind ?_ (fun _=>?_))|refine LeO.ite ?_ ?_|refine LeO.bind ?_ (fun _=>?_))
theorem bits_Div64.mono:∀ a0 a1 a2 k,LeO (bits_Div64.f k a0 a1 a2) (bits_Div64.f (k+1) a0 a1 a2):=by
 intro a0 a1 a2 k
 obtain⟨ih0,ih1,ih2,ih3,ih4⟩:=bits_Div64.mono_l k
 unfold bits_Div64.f
 repeat' first|(with_reducible first|apply ih0|apply ih1|apply ih2|apply ih3|apply ih4|apply bits_LeadingZeros64.mono|exact LeO.refl _|exact LeO.none _|refine LeO.ite ?_ ?_|refine LeO.bind ?_ (fun _=>?_))|refine LeO.ite ?_ ?_|refine LeO.bind ?_ (fun _=>?_)
set_option maxHeartbeats 8000000 in
set_option maxRecDepth 100000 in
theorem bits_Div64.calls {k:Nat} {P:Int} {s:Int} {C:Int} {r1:Int} {r2:Int} {w:World} (h:bits_Div64.f k P s C=some (r1,r2)) :
  Calls Try.prog 106 #[.int .u64 P,.int .u64 s,.int .u64 C] w fun e w'=>e=.returned (.tuple #[.int .u64 r1,.int .u64 r2])∧Drawn0 w w':=by
 have H:=h
 unfold bits_Div64.f at H
 clear h
 by_cases c4:C=0
 ·rw[if_pos c4] at H
  exact absurd H (by simp)
 rw[if_neg c4] at H
 obtain⟨S,T⟩:=zf c4
 by_cases c5:C≤P
 ·rw[if_pos c5] at H
  exact absurd H (by simp)
 rw[if_neg c5] at H
 have U:decide (C≤P)=false:=decide_eq_false c5
 clear c5
 by_cases c6:P=0
 ·rw[if_pos c6] at H
  obtain⟨Q,R⟩:=zt c6
  clear c6
  simp only[Option.some.injEq,Prod.mk.injEq] at H
  obtain⟨rfl,rfl⟩:=H
  go_enter Try.func106,Try.ntmps106
  go_wp2
  repeat (go_quiet (fail);try go_wp2)
  go_ret2
  exact⟨by first|rfl|(simp;done)|(simp[*];done),by repeat (first|exact Drawn0.refl _|apply Drawn0.step)⟩
 rw[if_neg c6] at H
 obtain⟨Q,R⟩:=zf c6
 obtain⟨l,A7,H⟩:=oB H
 obtain⟨b,V⟩:∃ j_:Int,(IntKind.u64.wrap (l))=j_:=⟨_,rfl⟩
 first|rw[V] at H|simp only[V] at H
 (try rw[V] at A7)
 by_cases c9:0≤(b)
 ·rw[if_pos c9] at H
  have W:=eq_true c9
  have X:decide (0≤(b))=true:=decide_eq_true c9
  clear c9
  obtain⟨a,m⟩:∃ j_:Int,(shl .u64 C (b))=j_:=⟨_,rfl⟩
  first|rw[m] at H|simp only[m] at H
  (try rw[m] at A7)
  have aN:(IntKind.u64.wrap (C*2^min (b).toNat 64))=a:=m
  have aO:(b)≤64→(IntKind.u64.wrap (C*2^(b).toNat))=a:=shl_small m
  have E:=eq_true (of_decide_eq_true (by first|(with_reducible assumption)|assumption):0≤(b))
  obtain⟨c,n⟩:∃ j_:Int,(shl .u64 P (b))=j_:=⟨_,rfl⟩
  first|rw[n] at H|simp only[n] at H
  (try rw[n] at A7)
  have aP:(IntKind.u64.wrap (P*2^min (b).toNat 64))=c:=n
  have aQ:(b)≤64→(IntKind.u64.wrap (P*2^(b).toNat))=c:=shl_small n
  obtain⟨y,F⟩:∃ j_:Int,(IntKind.u64.wrap (64-(b)))=j_:=⟨_,rfl⟩
  first|rw[F] at H|simp only[F] at H
  (try rw[F] at A7)
  by_cases ak:0≤(y)
  ·rw[if_pos ak] at H
   have G:=eq_true ak
   have I:decide (0≤(y))=true:=decide_eq_true ak
   clear ak
   obtain⟨i,o⟩:∃ j_:Int,(shr .u64 s (y))=j_:=⟨_,rfl⟩
   first|rw[o] at H|simp only[o] at H
   (try rw[o] at A7)
   have aR:(s/2^min (y).toNat 64)=i:=o
   have aS:(y)≤64→(s/2^(y).toNat)=i:=shr_small o
   have J:=eq_true (of_decide_eq_true (by first|(with_reducible assumption)|assumption):0≤(b))
   obtain⟨d,p⟩:∃ j_:Int,(shl .u64 s (b))=j_:=⟨_,rfl⟩
   first|rw[p] at H|simp only[p] at H
   (try rw[p] at A7)
   have aT:(IntKind.u64.wrap (s*2^min (b).toNat 64))=d:=p
   have aU:(b)≤64→(IntKind.u64.wrap (s*2^(b).toNat))=d:=shl_small p
   by_cases Y:((a)/4294967296)=0
   ·rw[if_pos Y] at H
    exact absurd H (by simp)
   rw[if_neg Y] at H
   obtain⟨K,L⟩:=zf Y
   have al:=Aside0.mk H
   clear H
   go_enter Try.func106,Try.ntmps106
   go_upto_block 0 with (first|(go_at_call 105;(with_reducible refine (bits_LeadingZeros64.calls A7.out).mono ?_);rintro e w' ⟨rfl,⟨nd,rfl⟩⟩;(try first|exact⟨rfl,_,World.drewN_drewN _ _ _⟩|exact⟨rfl,_,Eq.trans (World.drewN_drewN _ _ _) (congrArg (World.drewN _) (Nat.add_assoc _ _ _))⟩)))
   repeat (go_quiet (first|(go_at_call 105;(with_reducible refine (bits_LeadingZeros64.calls A7.out).mono ?_);rintro e w' ⟨rfl,⟨nd,rfl⟩⟩;(try first|exact⟨rfl,_,World.drewN_drewN _ _ _⟩|exact⟨rfl,_,Eq.trans (World.drewN_drewN _ _ _) (congrArg (World.drewN _) (Nat.add_assoc _ _ _))⟩)));go_upto_block 0 with (first|(go_at_call 105;(with_reducible refine (bits_LeadingZeros64.calls A7.out).mono ?_);rintro e w' ⟨rfl,⟨nd,rfl⟩⟩;(try first|exact⟨rfl,_,World.drewN_drewN _ _ _⟩|exact⟨rfl,_,Eq.trans (World.drewN_drewN _ _ _) (congrArg (World.drewN _) (Nat.add_assoc _ _ _))⟩))))
   (try simp only[Act.put,List.setIfInBounds_toArray,List.set_cons_zero,List.set_cons_succ])
   go_cut [15] (fun v15 wc=>∃ (kq:Nat) (g:Int),v15=.int .u64 g∧Aside0 (bits_Div64.j2 kq a b ((a)/4294967296) (Go.bits .and .u64 (a) 4294967295) (Go.bits .or .u64 (c) (i)) ((d)/4294967296) (Go.bits .and .u64 (d) 4294967295) g=some (r1,r2))∧Aside0 (kq≤k)∧Drawn0 w wc)
   case first =>
    have H:=al.out
    clear al
    have H':=Aside0.mk H
    clear H
    go_wp2
    repeat (go_quiet (fail);try go_wp2)
    go_loopg [15,16] k (fun kq v15 v16 w'=>∃ (q:Int) (u:Int),v15=.int .u64 q∧v16=.int .u64 u∧Aside0 (bits_Div64.l0 kq a b ((a)/4294967296) (Go.bits .and .u64 (a) 4294967295) (Go.bits .or .u64 (c) (i)) ((d)/4294967296) (Go.bits .and .u64 (d) 4294967295) q u=some (r1,r2))∧Aside0 (kq≤k)∧Drawn0 w w')
    case atStart=>exact⟨(IntKind.u64.wrap (Int.tdiv (Go.bits .or .u64 (c) (i)) ((a)/4294967296))),(IntKind.u64.wrap ((Go.bits .or .u64 (c) (i))-(IntKind.u64.wrap ((IntKind.u64.wrap (Int.tdiv (Go.bits .or .u64 (c) (i)) ((a)/4294967296)))*((a)/4294967296))))),(by first|rfl|(simp;done)|(simp only[←m,←n,←o] <;> (first|rfl|simp))|(simp[*];done)),(by first|rfl|(simp;done)|(simp only[←m,←n,←o] <;> (first|rfl|simp))|(simp[*];done)),H',⟨Nat.le_refl _⟩,by repeat (first|exact Drawn0.refl _|apply Drawn0.step)⟩
    case round =>
     clear H'
     try clear c4 S T U c6 Q R W X E G I J Y K L
     obtain⟨q,u,rfl,rfl,HA,ag,⟨m1,rfl⟩⟩:=hrel
     cases gk with
     | zero=>exact absurd HA.out (by simp[bits_Div64.l0])
     | succ k1 =>
      have H:=HA.out
      clear HA
      simp only[bits_Div64.l0] at H
      have am:=Aside0.mk H
      clear H
      go_upto_region 17 with (fail)
      repeat (go_quiet (fail);go_upto_region 17 with (fail))
      go_cut [78] (fun v78 wc=>∃ (kq:Nat) (D:Bool),v78=.bool D∧Aside0 (bits_Div64.j1 kq a b ((a)/4294967296) (Go.bits .and .u64 (a) 4294967295) (Go.bits .or .u64 (c) (i)) ((d)/4294967296) (Go.bits .and .u64 (d) 4294967295) q u D=some (r1,r2))∧Aside0 (kq≤k1)∧Drawn0 w wc)
      case first =>
       have H:=am.out
       clear am
       by_cases Z:q≥4294967296
       ·rw[if_pos Z] at H
        have z:decide (4294967296≤q)=true:=decide_eq_true Z
        clear Z
        (first|rw[z]|(simp only[i64_w,i32_w];rw[z])|skip)
        have H':=Aside0.mk H
        clear H
        go_wp2
        repeat (go_quiet (fail);try go_wp2)
        go_meet
        case rel=>exact⟨_,(true),(by first|rfl|(simp[*];done)),H',⟨by have:=ag.out;first|omega|exact Nat.le_refl _⟩,by repeat (first|exact Drawn0.refl _|apply Drawn0.step)⟩
       rw[if_neg Z] at H
       have z:decide (4294967296≤q)=false:=decide_eq_false Z
       clear Z
       (first|rw[z]|(simp only[i64_w,i32_w];rw[z])|skip)
       have H':=Aside0.mk H
       clear H
       go_wp2
       repeat (go_quiet (fail);try go_wp2)
       go_meet
       case rel=>exact⟨_,(decide ((IntKind.u64.wrap (q*(Go.bits .and .u64 (a) 4294967295)))>(IntKind.u64.wrap ((IntKind.u64.wrap (4294967296*u))+((d)/4294967296))))),(by first|rfl|(simp;done)|(simp only[←m,←p] <;> (first|rfl|simp))|(simp[*];done)),H',⟨by have:=ag.out;first|omega|exact Nat.le_refl _⟩,by repeat (first|exact Drawn0.refl _|apply Drawn0.step)⟩
      case rest =>
       clear am
       try clear c1 p2 c4 S T U c6 Q R W X aH aI E G I aJ J Y K L p2
       obtain⟨kq,D,rfl,HA,ae,⟨mc19,rfl⟩⟩:=hcut
       cases kq with
       | zero=>exact absurd HA.out (by simp[bits_Div64.j1])
       | succ aK =>
        have H:=HA.out
        clear HA
        simp only[bits_Div64.j1] at H
        by_cases ah:D=true
        ·subst ah
         rw[if_pos rfl] at H
         by_cases aa:(IntKind.u64.wrap (u+((a)/4294967296)))≥4294967296
         ·rw[if_pos aa] at H
          have ad:decide (4294967296≤(IntKind.u64.wrap (u+((a)/4294967296))))=true:=decide_eq_true aa
          clear aa
          have H':=Aside0.mk H
          clear H
          go_wp2
          repeat (go_quiet (fail);try go_wp2)
          go_meet
          case rel=>exact⟨_,(IntKind.u64.wrap (q-1)),(by first|rfl|(simp[*];done)),H',⟨by have:=ag.out;have:=ae.out;first|omega|exact Nat.le_refl _⟩,by repeat (first|exact Drawn0.refl _|apply Drawn0.step)⟩
         rw[if_neg aa] at H
         have ad:decide (4294967296≤(IntKind.u64.wrap (u+((a)/4294967296))))=false:=decide_eq_false aa
         clear aa
         have H':=Aside0.mk H
         clear H
         go_wp2
         repeat (go_quiet (fail);try go_wp2)
         go_roundg aK
         case measure=>have:=ag.out;have:=ae.out;omega
         case rel=>exact⟨(IntKind.u64.wrap (q-1)),(IntKind.u64.wrap (u+((a)/4294967296))),(by first|rfl|(simp[*];done)),(by first|rfl|(simp;done)|(simp only[←m] <;> (first|rfl|simp))|(simp[*];done)),H',⟨by have:=ag.out;have:=ae.out;omega⟩,by repeat (first|exact Drawn0.refl _|apply Drawn0.step)⟩
        replace ah:=Bool.eq_false_iff.mpr ah
        subst ah
        rw[if_neg nft] at H
        have H':=Aside0.mk H
        clear H
        go_wp2
        repeat (go_quiet (fail);try go_wp2)
        go_meet
        case rel=>exact⟨_,(q),(by first|rfl|(simp[*];done)),H',⟨by have:=ag.out;have:=ae.out;first|omega|exact Nat.le_refl _⟩,by repeat (first|exact Drawn0.refl _|apply Drawn0.step)⟩
   case rest =>
    clear al
    try clear c4 S T U c6 Q R W X E G I J Y K L
    obtain⟨kq,g,rfl,HA,af,⟨mc18,rfl⟩⟩:=hcut
    cases kq with
    | zero=>exact absurd HA.out (by simp[bits_Div64.j2])
    | succ aC =>
     have H:=HA.out
     clear HA
     simp only[bits_Div64.j2] at H
     by_cases an:((a)/4294967296)=0
     ·rw[if_pos an] at H
      exact absurd H (by simp)
     rw[if_neg an] at H
     obtain⟨ao,ap⟩:=zf an
     have H':=Aside0.mk H
     clear H
     go_wp2
     repeat (go_quiet (fail);try go_wp2)
     go_loopg [16,18] aC (fun kq v16 v18 w'=>∃ (v:Int) (j:Int),v16=.int .u64 v∧v18=.int .u64 j∧Aside0 (bits_Div64.l1 kq a b ((a)/4294967296) (Go.bits .and .u64 (a) 4294967295) (Go.bits .and .u64 (d) 4294967295) g v (IntKind.u64.wrap ((IntKind.u64.wrap ((IntKind.u64.wrap ((Go.bits .or .u64 (c) (i))*4294967296))+((d)/4294967296)))-(IntKind.u64.wrap (g*a)))) j=some (r1,r2))∧Aside0 (kq≤aC)∧Drawn0 w w')
     case atStart=>exact⟨(IntKind.u64.wrap ((IntKind.u64.wrap ((IntKind.u64.wrap ((IntKind.u64.wrap ((Go.bits .or .u64 (c) (i))*4294967296))+((d)/4294967296)))-(IntKind.u64.wrap (g*a))))-(IntKind.u64.wrap ((IntKind.u64.wrap (Int.tdiv (IntKind.u64.wrap ((IntKind.u64.wrap ((IntKind.u64.wrap ((Go.bits .or .u64 (c) (i))*4294967296))+((d)/4294967296)))-(IntKind.u64.wrap (g*a)))) ((a)/4294967296)))*((a)/4294967296))))),(IntKind.u64.wrap (Int.tdiv (IntKind.u64.wrap ((IntKind.u64.wrap ((IntKind.u64.wrap ((Go.bits .or .u64 (c) (i))*4294967296))+((d)/4294967296)))-(IntKind.u64.wrap (g*a)))) ((a)/4294967296))),(by first|rfl|(simp;done)|(simp only[←m,←n,←o,←p] <;> (first|rfl|simp))|(simp[*];done)),(by first|rfl|(simp;done)|(simp only[←m,←n,←o,←p] <;> (first|rfl|simp))|(simp[*];done)),H',⟨Nat.le_refl _⟩,by repeat (first|exact Drawn0.refl _|apply Drawn0.step)⟩
     case round =>
      clear H'
      try clear c1 c2 p2 c4 S T U c6 Q R W X aH aI E G I aJ J Y K L aZ Z z ah aa ad an ao ap p2
      obtain⟨v,j,rfl,rfl,HA,az,⟨m2,rfl⟩⟩:=hrel
      cases gk with
      | zero=>exact absurd HA.out (by simp[bits_Div64.l1])
      | succ k2 =>
       have H:=HA.out
       clear HA
       simp only[bits_Div64.l1] at H
       have aq:=Aside0.mk H
       clear H
       go_upto_region 24 with (fail)
       repeat (go_quiet (fail);go_upto_region 24 with (fail))
       go_cut [113] (fun v113 wc=>∃ (kq:Nat) (B:Bool),v113=.bool B∧Aside0 (bits_Div64.j4 kq a b ((a)/4294967296) (Go.bits .and .u64 (a) 4294967295) (Go.bits .and .u64 (d) 4294967295) g v (IntKind.u64.wrap ((IntKind.u64.wrap ((IntKind.u64.wrap ((Go.bits .or .u64 (c) (i))*4294967296))+((d)/4294967296)))-(IntKind.u64.wrap (g*a)))) j B=some (r1,r2))∧Aside0 (kq≤k2)∧Drawn0 w wc)
       case first =>
        have H:=aq.out
        clear aq
        by_cases ai:j≥4294967296
        ·rw[if_pos ai] at H
         have M:decide (4294967296≤j)=true:=decide_eq_true ai
         clear ai
         (first|rw[M]|(simp only[i64_w,i32_w];rw[M])|skip)
         have H':=Aside0.mk H
         clear H
         go_wp2
         repeat (go_quiet (fail);try go_wp2)
         go_meet
         case rel=>exact⟨_,(true),(by first|rfl|(simp[*];done)),H',⟨by have:=af.out;have:=az.out;first|omega|exact Nat.le_refl _⟩,by repeat (first|exact Drawn0.refl _|apply Drawn0.step)⟩
        rw[if_neg ai] at H
        have M:decide (4294967296≤j)=false:=decide_eq_false ai
        clear ai
        (first|rw[M]|(simp only[i64_w,i32_w];rw[M])|skip)
        have H':=Aside0.mk H
        clear H
        go_wp2
        repeat (go_quiet (fail);try go_wp2)
        go_meet
        case rel=>exact⟨_,(decide ((IntKind.u64.wrap (j*(Go.bits .and .u64 (a) 4294967295)))>(IntKind.u64.wrap ((IntKind.u64.wrap (4294967296*v))+(Go.bits .and .u64 (d) 4294967295))))),(by first|rfl|(simp;done)|(simp only[←m,←p] <;> (first|rfl|simp))|(simp[*];done)),H',⟨by have:=af.out;have:=az.out;first|omega|exact Nat.le_refl _⟩,by repeat (first|exact Drawn0.refl _|apply Drawn0.step)⟩
       case rest =>
        clear aq
        try clear c1 c2 p2 c4 S T U c6 Q R W X aH aI E G I aJ J Y K L aZ Z z ah aa ad an ao ap p2
        obtain⟨kq,B,rfl,HA,aD,⟨mc24,rfl⟩⟩:=hcut
        cases kq with
        | zero=>exact absurd HA.out (by simp[bits_Div64.j4])
        | succ aL =>
         have H:=HA.out
         clear HA
         simp only[bits_Div64.j4] at H
         by_cases aA:B=true
         ·subst aA
          rw[if_pos rfl] at H
          by_cases aj:(IntKind.u64.wrap (v+((a)/4294967296)))≥4294967296
          ·rw[if_pos aj] at H
           have aE:decide (4294967296≤(IntKind.u64.wrap (v+((a)/4294967296))))=true:=decide_eq_true aj
           clear aj
           by_cases ar:0≤b
           ·rw[if_pos ar] at H
            have a3:=eq_true ar
            have a4:decide (0≤b)=true:=decide_eq_true ar
            clear ar
            obtain⟨au,N⟩:∃ j_:Int,(shr .u64 (IntKind.u64.wrap ((IntKind.u64.wrap ((IntKind.u64.wrap ((IntKind.u64.wrap ((IntKind.u64.wrap ((IntKind.u64.wrap ((Go.bits .or .u64 (c) (i))*4294967296))+((d)/4294967296)))-(IntKind.u64.wrap (g*a))))*4294967296))+(Go.bits .and .u64 (d) 4294967295)))-(IntKind.u64.wrap ((IntKind.u64.wrap (j-1))*a)))) b)=j_:=⟨_,rfl⟩
            first|rw[N] at H|simp only[N] at H
            have aV:((IntKind.u64.wrap ((IntKind.u64.wrap ((IntKind.u64.wrap ((IntKind.u64.wrap ((IntKind.u64.wrap ((IntKind.u64.wrap ((Go.bits .or .u64 (c) (i))*4294967296))+((d)/4294967296)))-(IntKind.u64.wrap (g*a))))*4294967296))+(Go.bits .and .u64 (d) 4294967295)))-(IntKind.u64.wrap ((IntKind.u64.wrap (j-1))*a))))/2^min b.toNat 64)=au:=N
            have aW:b≤64→((IntKind.u64.wrap ((IntKind.u64.wrap ((IntKind.u64.wrap ((IntKind.u64.wrap ((IntKind.u64.wrap ((IntKind.u64.wrap ((Go.bits .or .u64 (c) (i))*4294967296))+((d)/4294967296)))-(IntKind.u64.wrap (g*a))))*4294967296))+(Go.bits .and .u64 (d) 4294967295)))-(IntKind.u64.wrap ((IntKind.u64.wrap (j-1))*a))))/2^b.toNat)=au:=shr_small N
            simp only[Option.some.injEq,Prod.mk.injEq] at H
            obtain⟨rfl,rfl⟩:=H
            go_wp2
            repeat (go_quiet (fail);try go_wp2)
            go_ret2
            exact⟨by first|rfl|(simp;done)|(simp only[←V,←m,←n,←F,←o,←p,←N] <;> (first|rfl|simp))|(simp[*];done),by repeat (first|exact Drawn0.refl _|apply Drawn0.step)⟩
           rw[if_neg ar] at H
           exact absurd H (by simp)
          rw[if_neg aj] at H
          have aE:decide (4294967296≤(IntKind.u64.wrap (v+((a)/4294967296))))=false:=decide_eq_false aj
          clear aj
          have H':=Aside0.mk H
          clear H
          go_wp2
          repeat (go_quiet (fail);try go_wp2)
          go_roundg aL
          case measure=>have:=af.out;have:=az.out;have:=aD.out;omega
          case rel=>exact⟨(IntKind.u64.wrap (v+((a)/4294967296))),(IntKind.u64.wrap (j-1)),(by first|rfl|(simp;done)|(simp only[←m] <;> (first|rfl|simp))|(simp[*];done)),(by first|rfl|(simp[*];done)),H',⟨by have:=af.out;have:=az.out;have:=aD.out;omega⟩,by repeat (first|exact Drawn0.refl _|apply Drawn0.step)⟩
         replace aA:=Bool.eq_false_iff.mpr aA
         subst aA
         rw[if_neg nft] at H
         by_cases av:0≤b
         ·rw[if_pos av] at H
          have a5:=eq_true av
          have a6:decide (0≤b)=true:=decide_eq_true av
          clear av
          obtain⟨aw,O⟩:∃ j_:Int,(shr .u64 (IntKind.u64.wrap ((IntKind.u64.wrap ((IntKind.u64.wrap ((IntKind.u64.wrap ((IntKind.u64.wrap ((IntKind.u64.wrap ((Go.bits .or .u64 (c) (i))*4294967296))+((d)/4294967296)))-(IntKind.u64.wrap (g*a))))*4294967296))+(Go.bits .and .u64 (d) 4294967295)))-(IntKind.u64.wrap (j*a)))) b)=j_:=⟨_,rfl⟩
          first|rw[O] at H|simp only[O] at H
          have aX:((IntKind.u64.wrap ((IntKind.u64.wrap ((IntKind.u64.wrap ((IntKind.u64.wrap ((IntKind.u64.wrap ((IntKind.u64.wrap ((Go.bits .or .u64 (c) (i))*4294967296))+((d)/4294967296)))-(IntKind.u64.wrap (g*a))))*4294967296))+(Go.bits .and .u64 (d) 4294967295)))-(IntKind.u64.wrap (j*a))))/2^min b.toNat 64)=aw:=O
          have aY:b≤64→((IntKind.u64.wrap ((IntKind.u64.wrap ((IntKind.u64.wrap ((IntKind.u64.wrap ((IntKind.u64.wrap ((IntKind.u64.wrap ((Go.bits .or .u64 (c) (i))*4294967296))+((d)/4294967296)))-(IntKind.u64.wrap (g*a))))*4294967296))+(Go.bits .and .u64 (d) 4294967295)))-(IntKind.u64.wrap (j*a))))/2^b.toNat)=aw:=shr_small O
          simp only[Option.some.injEq,Prod.mk.injEq] at H
          obtain⟨rfl,rfl⟩:=H
          go_wp2
          repeat (go_quiet (fail);try go_wp2)
          go_ret2
          exact⟨by first|rfl|(simp;done)|(simp only[←V,←m,←n,←F,←o,←p,←O] <;> (first|rfl|simp))|(simp[*];done),by repeat (first|exact Drawn0.refl _|apply Drawn0.step)⟩
         rw[if_neg av] at H
         exact absurd H (by simp)
  rw[if_neg ak] at H
  exact absurd H (by simp)
 rw[if_neg c9] at H
 exact absurd H (by simp)

end Go.Proofs.Ythkifpdachjlgaa.PQ
