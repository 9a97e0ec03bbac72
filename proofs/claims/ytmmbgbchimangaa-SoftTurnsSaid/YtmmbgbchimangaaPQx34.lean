-- by a program of this claim
import Derived.Test.YtmmbgbchimangaaPQx0
import Derived.Test.YtmmbgbchimangaaPQx2
namespace Go.Proofs.Ytmmbgbchimangaa.PQ
open Go.RowKit Go.Proofs.YtmmbgbchimangaaW.PrintWords Go.Proofs.YtmmbgbchimangaaW.PrintLast Go.Proofs.YtmmbgbchimangaaW.PrintMore Go.Proofs.Ytmmbgbchimangaa.Z
attribute [local go_sem] max2_int min2_int max_two min_two max_three min_three max_four min_four   -- for this text's walks alone
set_option linter.unusedVariables false
set_option linter.unusedSimpArgs false

/-! ### soft_place: function 80 -/
def soft_place.f (a0_0:Int) (a0_1:Int) (a1:Int):Option (Int):=(round_Zero.f a0_0 a0_1 true).bind fun a=>(if (Go.bits .and .u64 a1 a)=0 then (some (wrap64 (a1))) else (some (wrap64 (-(wrap64 (Go.bits .xor .u64 a1 a))))))
set_option maxHeartbeats 8000000 in
set_option maxRecDepth 100000 in
theorem soft_place.calls {c:Int} {d:Int} {l:Int} {r:Int} {w:World} (h:soft_place.f c d l=some r) :
  Calls Try.prog 80 #[.agg #[.int .i64 c,.int .i64 d],.int .u64 l] w fun e w'=>e=.returned (.int .i64 r)∧Below w.heap.size w w':=by
 have hu23:=Try.underlying23
 have HB:=Aside0.mk (Below.refl w.heap.size w)
 have H:=h
 unfold soft_place.f at H
 clear h
 obtain⟨b,C,H⟩:=oB H
 by_cases m:(Go.bits .and .u64 l b)=0
 ·rw[if_pos m] at H
  obtain⟨n,o⟩:=zt m
  clear m
  obtain rfl:=Option.some.inj H
  go_enter Try.func80,Try.ntmps80
  go_wp2_with (first|((with_reducible refine gate_dst (N:=2) rfl ?_);refine zbox (N:=2) (cs:=#[.int .i64 c,.int .i64 d]) (t:=23) ?_;intro g hg E hbox hb;have a:=Aside0.mk hbox;have i:=zge hg HB;have j:=zge hg HB;replace HB:=zbs HB hb;clear hb hbox hg;obtain⟨p,q,s,u⟩:=zc2 a)|((with_reducible refine gate_callee (f:=50) rfl ?_);refine zgc (some 7) Try.func50 (round_Zero.calls C.out) ?_;intro F hb;obtain⟨a,HB⟩:=zu1 a HB hb;clear hb))
  go_ret
  exact zr HB
 rw[if_neg m] at H
 obtain⟨n,o⟩:=zf m
 obtain rfl:=Option.some.inj H
 go_enter Try.func80,Try.ntmps80
 go_wp2_with (first|((with_reducible refine gate_dst (N:=2) rfl ?_);refine zbox (N:=2) (cs:=#[.int .i64 c,.int .i64 d]) (t:=23) ?_;intro g hg G hbox hb;have a:=Aside0.mk hbox;have i:=zge hg HB;have j:=zge hg HB;replace HB:=zbs HB hb;clear hb hbox hg;obtain⟨v,y,z,B⟩:=zc2 a)|((with_reducible refine gate_callee (f:=50) rfl ?_);refine zgc (some 7) Try.func50 (round_Zero.calls C.out) ?_;intro D hb;obtain⟨a,HB⟩:=zu1 a HB hb;clear hb))
 go_ret
 exact zr HB

/-! ### soft_Cmp: function 37 -/
def soft_Cmp.j0:Nat→Int→Int→Int→Bool→Int→Int→Option (Int×Bool×Int)
 | 0,_,_,_,_,_,_=>none
 | k+1,e,g,h,i,a,b=>if i=true then (some (0,false,h)) else ((soft_place.f a b e).bind fun c=>((soft_place.f a b g).bind fun d=>(if c<d then (some ((-1),true,0)) else (if c>d then (some (1,true,0)) else (some (0,true,0))))))
def soft_Cmp.f (k:Nat) (a0_0:Int) (a0_1:Int) (a1:Int) (a2:Int):Option (Int×Bool×Int):=(soft_two.f k a0_0 a0_1 a1 a2).bind fun a=>(if a.2.2.2.2.2.2.2.2=0 then ((soft_odd.f a.1 a.2.1 a.2.2.1 a.2.2.2.1 a.2.2.2.2.1 a.2.2.2.2.2.1 a.2.2.2.2.2.2.1 a.2.2.2.2.2.2.2.1).bind fun b=>(soft_Cmp.j0 k a1 a2 a.2.2.2.2.2.2.2.2 b a0_0 a0_1)) else (soft_Cmp.j0 k a1 a2 a.2.2.2.2.2.2.2.2 true a0_0 a0_1))
theorem soft_Cmp.mono_l:∀ k,(∀ y0 y1 y2 y3 y4 y5,LeO (soft_Cmp.j0 k y0 y1 y2 y3 y4 y5) (soft_Cmp.j0 (k+1) y0 y1 y2 y3 y4 y5))
 | 0=>fun _ _ _ _ _ _ r h=>by simp[soft_Cmp.j0] at h
 | k+1=>by
  have ih0:=soft_Cmp.mono_l k
  intros;unfold soft_Cmp.j0;repeat' first|(with_reducible first|apply ih0|apply soft_two.mono|exact LeO.refl _|exact LeO.none _|refine LeO.ite ?_ ?_|refine LeO.bind ?_ (fun _=>?_))|refine LeO.ite ?_ ?_|refine LeO.bind ?_ (fun _=>?_)
theorem soft_Cmp.mono:∀ a0 a1 a2 a3 k,LeO (soft_Cmp.f k a0 a1 a2 a3) (soft_Cmp.f (k+1) a0 a1 a2 a3):=by
 intro a0 a1 a2 a3 k
 have ih0:=soft_Cmp.mono_l k
 unfold soft_Cmp.f
 repeat' first|(with_reducible first|apply ih0|apply soft_two.mono|exact LeO.refl _|exact LeO.none _|refine LeO.ite ?_ ?_|refine LeO.bind ?_ (fun _=>?_))|refine LeO.ite ?_ ?_|refine LeO.bind ?_ (fun _=>?_)
def soft_Cmp.T4:Bool×List (List Nat×List Nat):=(true,[([],[]),([],[]),([0,1],[0,1]),([],[]),([],[]),([3,4,2],[3,4]),([2,5,0,1,2],[2]),([5,6,0,1,2,3,4,5,6],[5])])
def soft_Cmp.B4:List Nat:=[0,0,3,0,0,31,63,127]
theorem soft_Cmp.tab4:rtab .any (opsOf Try.f37 4)=soft_Cmp.T4:=by kernel_rfl
theorem soft_Cmp.bits4:waitsOk soft_Cmp.T4.2 soft_Cmp.B4=true:=by kernel_rfl
set_option maxHeartbeats 8000000 in
set_option maxRecDepth 100000 in
theorem soft_Cmp.calls {k:Nat} {g:Int} {j:Int} {a1:Int} {a2:Int} {r1:Int} {r2:Bool} {r3:Int} {w:World} (h:soft_Cmp.f k g j a1 a2=some (r1,r2,r3)) :
  Calls Try.prog 37 #[.agg #[.int .i64 g,.int .i64 j],.int .u64 a1,.int .u64 a2] w fun e w'=>e=.returned (.tuple #[.int .i64 r1,.bool r2,.int .i64 r3])∧Below w.heap.size w w':=by
 have hu23:=Try.underlying23
 have hu34:=Try.underlying34
 have HB:=Aside0.mk (Below.refl w.heap.size w)
 have H:=h
 unfold soft_Cmp.f at H
 clear h
 obtain⟨⟨D,E,F,G,I,J,L,M,O⟩,A4,H⟩:=oB H
 try dsimp only at H
 have av:=Aside0.mk H
 clear H
 go_enter Try.func37,Try.ntmps37
 go_upto_region 2 with (first|((with_reducible refine gate_dst (N:=3) rfl ?_);refine zbox (N:=3) (cs:=#[.int .i64 g,.int .i64 j]) (t:=23) ?_;intro l hg w6 hbox hb;have a:=Aside0.mk hbox;have aU:=zge hg HB;have aV:=zge hg HB;replace HB:=zbs HB hb;clear hb hbox hg;obtain⟨aj,ak,al,am⟩:=zc2 a)|((with_reducible refine gate_callee (f:=47) rfl ?_);refine zgc (some 18) Try.func47 (soft_two.calls A4.out) ?_;intro w8 hb;obtain⟨a,HB⟩:=zu1 a HB hb;clear hb)|((with_reducible refine gate_dst (N:=9) rfl ?_);refine zbox (N:=9) (cs:=#[.int .i64 0,.bool false,.int .i64 0,.int .u64 0]) (t:=34) ?_;intro an hg w9 hbox hb;have b:=Aside0.mk hbox;have aW:=zge hg HB;have aX:=zge hg HB;have ao:=znl hg a;have m:=zng hg a;obtain⟨a,HB⟩:=zu1 a HB hb;clear hb hbox hg)|((with_reducible refine gate_dst (N:=10) rfl ?_);refine zbox (N:=10) (cs:=#[.int .i64 0,.bool false,.int .i64 0,.int .u64 0]) (t:=34) ?_;intro ap hg bg hbox hb;have c:=Aside0.mk hbox;have aY:=zge hg HB;have aZ:=zge hg HB;have aq:=znl hg a;have p:=zng hg a;have q:=znl hg b;have ar:=zng hg b;obtain⟨a,b,HB⟩:=zu2 a b HB hb;clear hb hbox hg;obtain⟨a0,a3⟩:=z2 m;obtain⟨a4,a5⟩:=z2 q;obtain⟨P,Q,R,T,U,V,W,X⟩:=zc4 b;obtain⟨a6,a7⟩:=z2 p;obtain⟨Y,Z,aa,ab,ac,ad,ae,af⟩:=zc4 c))
 (try simp only[Act.put,List.setIfInBounds_toArray,List.set_cons_zero,List.set_cons_succ])
 go_cut [28] (fun v28 wc=>∃ (kq:Nat) (y:Bool),v28=.bool y∧Aside0 (soft_Cmp.j0 kq a1 a2 O y g j=some (r1,r2,r3))∧Aside0 (kq≤k)∧Aside0 (wc.heap[l]?=some (.cells #[.int .i64 g,.int .i64 j] 23 (0,0)))∧Aside0 (wc.heap[an]?=some (.cells #[.int .i64 D,.bool E,.int .i64 F,.int .u64 G] 34 (0,0)))∧Aside0 (wc.heap[ap]?=some (.cells #[.int .i64 I,.bool J,.int .i64 L,.int .u64 M] 34 (0,0)))∧Aside0 (Below w.heap.size w wc))
 case first =>
  have H:=av.out
  clear av
  by_cases ag:O=0
  ·rw[if_pos ag] at H
   obtain⟨v,aw⟩:=zt ag
   clear ag
   (first|rw[v]|(simp only[i64_w,i32_w];rw[v])|skip)
   obtain⟨z,a8,H⟩:=oB H
   have H':=Aside0.mk H
   clear H
   obtain⟨a9,ba⟩:=z2 m
   obtain⟨bb,bc⟩:=z2 q
   obtain⟨aB,aC,aD,aE,aF,aG,aH,aI⟩:=zc4 b
   obtain⟨bd,be⟩:=z2 p
   obtain⟨aJ,aK,aL,aM,aN,aO,aP,aQ⟩:=zc4 c
   go_wp2_with (first|(go_at_call 48;(with_reducible refine (soft_odd.calls a8.out).mono ?_);rintro e bh ⟨rfl,hb⟩;replace a:=zkb a hb;replace b:=zkbo (o:=.cells #[.int .i64 D,.bool E,.int .i64 F,.int .u64 G] 34 (0,0)) b hb;replace c:=zkbo (o:=.cells #[.int .i64 I,.bool J,.int .i64 L,.int .u64 M] 34 (0,0)) c hb;replace HB:=zbs HB hb;clear hb))
   go_meet
   case rel=>exact⟨_,(z),(by first|rfl|(simp[*];done)),H',⟨by omega⟩,⟨zk a⟩,⟨zk b⟩,⟨zk c⟩,⟨zb HB⟩⟩
  rw[if_neg ag] at H
  obtain⟨v,aw⟩:=zf ag
  (first|rw[v]|(simp only[i64_w,i32_w];rw[v])|skip)
  have H':=Aside0.mk H
  clear H
  go_wp2
  go_meet
  case rel=>exact⟨_,(true),(by first|rfl|(simp[*];done)),H',⟨by omega⟩,⟨zk a⟩,⟨zkp b⟩,⟨zkp c⟩,⟨zb HB⟩⟩
 case rest =>
  clear av
  try clear P Q R T Y Z aa ab aj ak U V W X ac ad ae af al am
  obtain⟨kq,y,rfl,HA,bi,a,b,c,HB⟩:=hcut
  cases kq with
  | zero=>exact absurd HA.out (by simp[soft_Cmp.j0])
  | succ bj =>
   have H:=HA.out
   clear HA
   simp only[soft_Cmp.j0] at H
   by_cases au:y=true
   ·subst au
    rw[if_pos rfl] at H
    simp only[Option.some.injEq,Prod.mk.injEq] at H
    obtain⟨rfl,rfl,rfl⟩:=H
    go_wp2
    go_ret3
    exact zr HB
   replace au:=Bool.eq_false_iff.mpr au
   subst au
   rw[if_neg nft] at H
   obtain⟨s,ax,H⟩:=oB H
   obtain⟨u,ay,H⟩:=oB H
   by_cases B:s<u
   ·rw[if_pos B] at H
    have az:decide (s<u)=true:=decide_eq_true B
    clear B
    simp only[Option.some.injEq,Prod.mk.injEq] at H
    obtain⟨rfl,rfl,rfl⟩:=H
    try go_wp2
    replace a:=Aside0.mk (blk_drew a.out)
    replace b:=Aside0.mk (blk_drew b.out)
    replace c:=Aside0.mk (blk_drew c.out)
    replace HB:=Aside0.mk (below_drew1 HB.out)
    refine start_ (n:=8) (S:=fun w'=>w'.cell? ⟨l,0,none⟩=some (.int .i64 g)∧w'.cell? ⟨l,1,none⟩=some (.int .i64 j)) (ds:=[]) #[false,false,false,false,false,false,false,false] (by kernel_rfl) rfl rfl ⟨(blk_cell a.out 0).trans rfl,(blk_cell a.out 1).trans rfl⟩ (fun hHeld=>?_);refine with_tabW soft_Cmp.tab4 soft_Cmp.bits4 (fun HT_ HW_=>?_)
    generalize wc.drew=bk at a b c HB hHeld ⊢
    refine zpure_ (i:=1) (N:=some 31) #[false,true,false,false,false,false,false,false] (any_of HT_.out (by kernel_rfl)) ?_
    refine zpure_ (i:=4) (N:=some 34) #[false,true,false,false,true,false,false,false] (any_of HT_.out (by kernel_rfl)) ?_
    refine ztake_ (i:=0) (N:=some 30) #[true,true,false,false,true,false,false,false] rfl (take_ofW HT_.out HW_.out (by kernel_rfl)) hHeld (Or.inl ⟨by rfl,by rintro w' ⟨s0,s1⟩;go_simp;with_reducible rfl⟩) ?_
    refine ztake_ (i:=3) (N:=some 33) #[true,true,false,true,true,false,false,false] rfl (take_ofW HT_.out HW_.out (by kernel_rfl)) hHeld (Or.inl ⟨by rfl,by rintro w' ⟨s0,s1⟩;go_simp;with_reducible rfl⟩) ?_
    refine one_ (i:=2) (N:=some 32) #[true,true,true,true,true,false,false,false] rfl rfl (one_of HT_.out (by kernel_rfl)) (by decide) (fun K hK=>?_)
    refine goes_ Try.func80 (by kernel_rfl) rfl #[.agg #[.int .i64 g,.int .i64 j],.int .u64 a1] (by rfl) rfl rfl (by (try simp only[List.map_toArray,List.map_cons,List.map_nil]);first|done|rfl|(simp only[List.length_drop,List.length_take];rfl)) ?_
    with_reducible refine (soft_place.calls ax.out).mono ?_
    rintro e bl ⟨rfl,hb⟩
    refine⟨_,rfl,?_⟩
    obtain⟨a,b,c,HB⟩:=zu3 a b c HB hb
    try clear hb
    refine hK.out _ _ ⟨(blk_cell a.out 0).trans rfl,(blk_cell a.out 1).trans rfl⟩ (fun hHeld=>?_)
    clear hK K
    refine norm_ (a':=?_) ?_ ?_
    rotate_left
    ·show Act.put _ (some 32) _=_
     simp only[Act.put,List.setIfInBounds_toArray,List.set_cons_zero,List.set_cons_succ,i64_w,i32_w]
     rfl
    refine one_ (i:=5) (N:=some 35) #[true,true,true,true,true,true,false,false] rfl rfl (one_of HT_.out (by kernel_rfl)) (by decide) (fun K hK=>?_)
    refine goes_ Try.func80 (by kernel_rfl) rfl #[.agg #[.int .i64 g,.int .i64 j],.int .u64 a2] (by rfl) rfl rfl (by (try simp only[List.map_toArray,List.map_cons,List.map_nil]);first|done|rfl|(simp only[List.length_drop,List.length_take];rfl)) ?_
    with_reducible refine (soft_place.calls ay.out).mono ?_
    rintro e bm ⟨rfl,hb⟩
    refine⟨_,rfl,?_⟩
    obtain⟨a,b,c,HB⟩:=zu3 a b c HB hb
    try clear hb
    refine hK.out _ _ ⟨(blk_cell a.out 0).trans rfl,(blk_cell a.out 1).trans rfl⟩ (fun hHeld=>?_)
    clear hK K
    refine norm_ (a':=?_) ?_ ?_
    rotate_left
    ·show Act.put _ (some 35) _=_
     simp only[Act.put,List.setIfInBounds_toArray,List.set_cons_zero,List.set_cons_succ,i64_w,i32_w]
     rfl
    refine zpure_ (i:=6) (N:=some 12) #[true,true,true,true,true,true,true,false] (any_of HT_.out (by kernel_rfl)) ?_
    refine zpure_ (i:=7) (N:=some 13) #[true,true,true,true,true,true,true,true] (any_of HT_.out (by kernel_rfl)) ?_
    refine done_ (done_of HT_.out (by kernel_rfl)) ?_
    try go_wp2
    go_ret3
    exact zr HB
   rw[if_neg B] at H
   have az:decide (s<u)=false:=decide_eq_false B
   clear B
   by_cases C:s>u
   ·rw[if_pos C] at H
    have aA:decide (u<s)=true:=decide_eq_true C
    clear C
    simp only[Option.some.injEq,Prod.mk.injEq] at H
    obtain⟨rfl,rfl,rfl⟩:=H
    try go_wp2
    replace a:=Aside0.mk (blk_drew a.out)
    replace b:=Aside0.mk (blk_drew b.out)
    replace c:=Aside0.mk (blk_drew c.out)
    replace HB:=Aside0.mk (below_drew1 HB.out)
    refine start_ (n:=8) (S:=fun w'=>w'.cell? ⟨l,0,none⟩=some (.int .i64 g)∧w'.cell? ⟨l,1,none⟩=some (.int .i64 j)) (ds:=[]) #[false,false,false,false,false,false,false,false] (by kernel_rfl) rfl rfl ⟨(blk_cell a.out 0).trans rfl,(blk_cell a.out 1).trans rfl⟩ (fun hHeld=>?_);refine with_tabW soft_Cmp.tab4 soft_Cmp.bits4 (fun HT_ HW_=>?_)
    generalize wc.drew=bn at a b c HB hHeld ⊢
    refine zpure_ (i:=1) (N:=some 31) #[false,true,false,false,false,false,false,false] (any_of HT_.out (by kernel_rfl)) ?_
    refine zpure_ (i:=4) (N:=some 34) #[false,true,false,false,true,false,false,false] (any_of HT_.out (by kernel_rfl)) ?_
    refine ztake_ (i:=0) (N:=some 30) #[true,true,false,false,true,false,false,false] rfl (take_ofW HT_.out HW_.out (by kernel_rfl)) hHeld (Or.inl ⟨by rfl,by rintro w' ⟨s0,s1⟩;go_simp;with_reducible rfl⟩) ?_
    refine ztake_ (i:=3) (N:=some 33) #[true,true,false,true,true,false,false,false] rfl (take_ofW HT_.out HW_.out (by kernel_rfl)) hHeld (Or.inl ⟨by rfl,by rintro w' ⟨s0,s1⟩;go_simp;with_reducible rfl⟩) ?_
    refine one_ (i:=2) (N:=some 32) #[true,true,true,true,true,false,false,false] rfl rfl (one_of HT_.out (by kernel_rfl)) (by decide) (fun K hK=>?_)
    refine goes_ Try.func80 (by kernel_rfl) rfl #[.agg #[.int .i64 g,.int .i64 j],.int .u64 a1] (by rfl) rfl rfl (by (try simp only[List.map_toArray,List.map_cons,List.map_nil]);first|done|rfl|(simp only[List.length_drop,List.length_take];rfl)) ?_
    with_reducible refine (soft_place.calls ax.out).mono ?_
    rintro e bo ⟨rfl,hb⟩
    refine⟨_,rfl,?_⟩
    obtain⟨a,b,c,HB⟩:=zu3 a b c HB hb
    try clear hb
    refine hK.out _ _ ⟨(blk_cell a.out 0).trans rfl,(blk_cell a.out 1).trans rfl⟩ (fun hHeld=>?_)
    clear hK K
    refine norm_ (a':=?_) ?_ ?_
    rotate_left
    ·show Act.put _ (some 32) _=_
     simp only[Act.put,List.setIfInBounds_toArray,List.set_cons_zero,List.set_cons_succ,i64_w,i32_w]
     rfl
    refine one_ (i:=5) (N:=some 35) #[true,true,true,true,true,true,false,false] rfl rfl (one_of HT_.out (by kernel_rfl)) (by decide) (fun K hK=>?_)
    refine goes_ Try.func80 (by kernel_rfl) rfl #[.agg #[.int .i64 g,.int .i64 j],.int .u64 a2] (by rfl) rfl rfl (by (try simp only[List.map_toArray,List.map_cons,List.map_nil]);first|done|rfl|(simp only[List.length_drop,List.length_take];rfl)) ?_
    with_reducible refine (soft_place.calls ay.out).mono ?_
    rintro e bp ⟨rfl,hb⟩
    refine⟨_,rfl,?_⟩
    obtain⟨a,b,c,HB⟩:=zu3 a b c HB hb
    try clear hb
    refine hK.out _ _ ⟨(blk_cell a.out 0).trans rfl,(blk_cell a.out 1).trans rfl⟩ (fun hHeld=>?_)
    clear hK K
    refine norm_ (a':=?_) ?_ ?_
    rotate_left
    ·show Act.put _ (some 35) _=_
     simp only[Act.put,List.setIfInBounds_toArray,List.set_cons_zero,List.set_cons_succ,i64_w,i32_w]
     rfl
    refine zpure_ (i:=6) (N:=some 12) #[true,true,true,true,true,true,true,false] (any_of HT_.out (by kernel_rfl)) ?_
    refine zpure_ (i:=7) (N:=some 13) #[true,true,true,true,true,true,true,true] (any_of HT_.out (by kernel_rfl)) ?_
    refine done_ (done_of HT_.out (by kernel_rfl)) ?_
    try go_wp2
    go_ret3
    exact zr HB
   rw[if_neg C] at H
   have aA:decide (u<s)=false:=decide_eq_false C
   clear C
   simp only[Option.some.injEq,Prod.mk.injEq] at H
   obtain⟨rfl,rfl,rfl⟩:=H
   try go_wp2
   replace a:=Aside0.mk (blk_drew a.out)
   replace b:=Aside0.mk (blk_drew b.out)
   replace c:=Aside0.mk (blk_drew c.out)
   replace HB:=Aside0.mk (below_drew1 HB.out)
   refine start_ (n:=8) (S:=fun w'=>w'.cell? ⟨l,0,none⟩=some (.int .i64 g)∧w'.cell? ⟨l,1,none⟩=some (.int .i64 j)) (ds:=[]) #[false,false,false,false,false,false,false,false] (by kernel_rfl) rfl rfl ⟨(blk_cell a.out 0).trans rfl,(blk_cell a.out 1).trans rfl⟩ (fun hHeld=>?_);refine with_tabW soft_Cmp.tab4 soft_Cmp.bits4 (fun HT_ HW_=>?_)
   generalize wc.drew=bq at a b c HB hHeld ⊢
   refine zpure_ (i:=1) (N:=some 31) #[false,true,false,false,false,false,false,false] (any_of HT_.out (by kernel_rfl)) ?_
   refine zpure_ (i:=4) (N:=some 34) #[false,true,false,false,true,false,false,false] (any_of HT_.out (by kernel_rfl)) ?_
   refine ztake_ (i:=0) (N:=some 30) #[true,true,false,false,true,false,false,false] rfl (take_ofW HT_.out HW_.out (by kernel_rfl)) hHeld (Or.inl ⟨by rfl,by rintro w' ⟨s0,s1⟩;go_simp;with_reducible rfl⟩) ?_
   refine ztake_ (i:=3) (N:=some 33) #[true,true,false,true,true,false,false,false] rfl (take_ofW HT_.out HW_.out (by kernel_rfl)) hHeld (Or.inl ⟨by rfl,by rintro w' ⟨s0,s1⟩;go_simp;with_reducible rfl⟩) ?_
   refine one_ (i:=2) (N:=some 32) #[true,true,true,true,true,false,false,false] rfl rfl (one_of HT_.out (by kernel_rfl)) (by decide) (fun K hK=>?_)
   refine goes_ Try.func80 (by kernel_rfl) rfl #[.agg #[.int .i64 g,.int .i64 j],.int .u64 a1] (by rfl) rfl rfl (by (try simp only[List.map_toArray,List.map_cons,List.map_nil]);first|done|rfl|(simp only[List.length_drop,List.length_take];rfl)) ?_
   with_reducible refine (soft_place.calls ax.out).mono ?_
   rintro e br ⟨rfl,hb⟩
   refine⟨_,rfl,?_⟩
   obtain⟨a,b,c,HB⟩:=zu3 a b c HB hb
   try clear hb
   refine hK.out _ _ ⟨(blk_cell a.out 0).trans rfl,(blk_cell a.out 1).trans rfl⟩ (fun hHeld=>?_)
   clear hK K
   refine norm_ (a':=?_) ?_ ?_
   rotate_left
   ·show Act.put _ (some 32) _=_
    simp only[Act.put,List.setIfInBounds_toArray,List.set_cons_zero,List.set_cons_succ,i64_w,i32_w]
    rfl
   refine one_ (i:=5) (N:=some 35) #[true,true,true,true,true,true,false,false] rfl rfl (one_of HT_.out (by kernel_rfl)) (by decide) (fun K hK=>?_)
   refine goes_ Try.func80 (by kernel_rfl) rfl #[.agg #[.int .i64 g,.int .i64 j],.int .u64 a2] (by rfl) rfl rfl (by (try simp only[List.map_toArray,List.map_cons,List.map_nil]);first|done|rfl|(simp only[List.length_drop,List.length_take];rfl)) ?_
   with_reducible refine (soft_place.calls ay.out).mono ?_
   rintro e bs ⟨rfl,hb⟩
   refine⟨_,rfl,?_⟩
   obtain⟨a,b,c,HB⟩:=zu3 a b c HB hb
   try clear hb
   refine hK.out _ _ ⟨(blk_cell a.out 0).trans rfl,(blk_cell a.out 1).trans rfl⟩ (fun hHeld=>?_)
   clear hK K
   refine norm_ (a':=?_) ?_ ?_
   rotate_left
   ·show Act.put _ (some 35) _=_
    simp only[Act.put,List.setIfInBounds_toArray,List.set_cons_zero,List.set_cons_succ,i64_w,i32_w]
    rfl
   refine zpure_ (i:=6) (N:=some 12) #[true,true,true,true,true,true,true,false] (any_of HT_.out (by kernel_rfl)) ?_
   refine zpure_ (i:=7) (N:=some 13) #[true,true,true,true,true,true,true,true] (any_of HT_.out (by kernel_rfl)) ?_
   refine done_ (done_of HT_.out (by kernel_rfl)) ?_
   try go_wp2
   go_ret3
   exact zr HB

end Go.Proofs.Ytmmbgbchimangaa.PQ
