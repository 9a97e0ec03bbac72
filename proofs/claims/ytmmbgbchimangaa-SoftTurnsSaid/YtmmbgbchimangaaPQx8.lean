-- by a program of this claim
import Derived.Test.YtmmbgbchimangaaPQx0
namespace Go.Proofs.Ytmmbgbchimangaa.PQ
open Go.RowKit Go.Proofs.YtmmbgbchimangaaW.PrintWords Go.Proofs.YtmmbgbchimangaaW.PrintLast Go.Proofs.YtmmbgbchimangaaW.PrintMore Go.Proofs.Ytmmbgbchimangaa.Z
attribute [local go_sem] max2_int min2_int max_two min_two max_three min_three max_four min_four   -- for this text's walks alone
set_option linter.unusedVariables false
set_option linter.unusedSimpArgs false

/-! ### grottoref02_power: function 60 -/
def grottoref02_power.l0:Nat→Int→Int→Int→Option (Int)
 | 0,_,_,_=>none
 | k+1,a,b,c=>if c<a then (grottoref02_power.l0 k a (IntKind.u64.wrap (2*b)) (wrap64 (c+1))) else (some b)
def grottoref02_power.f (k:Nat) (a0:Int):Option (Int):=grottoref02_power.l0 k a0 1 0
theorem grottoref02_power.mono_l:∀ k,(∀ y0 y1 y2,LeO (grottoref02_power.l0 k y0 y1 y2) (grottoref02_power.l0 (k+1) y0 y1 y2))
 | 0=>fun _ _ _ r h=>by simp[grottoref02_power.l0] at h
 | k+1=>by
  have ih0:=grottoref02_power.mono_l k
  intros;unfold grottoref02_power.l0;repeat' first|(with_reducible first|apply ih0|exact LeO.refl _|exact LeO.none _|refine LeO.ite ?_ ?_|refine LeO.bind ?_ (fun _=>?_))|refine LeO.ite ?_ ?_|refine LeO.bind ?_ (fun _=>?_)
theorem grottoref02_power.mono:∀ a0 k,LeO (grottoref02_power.f k a0) (grottoref02_power.f (k+1) a0):=by
 intro a0 k
 have ih0:=grottoref02_power.mono_l k
 unfold grottoref02_power.f
 repeat' first|(with_reducible first|apply ih0|exact LeO.refl _|exact LeO.none _|refine LeO.ite ?_ ?_|refine LeO.bind ?_ (fun _=>?_))|refine LeO.ite ?_ ?_|refine LeO.bind ?_ (fun _=>?_)
set_option maxHeartbeats 8000000 in
set_option maxRecDepth 100000 in
theorem grottoref02_power.calls {k:Nat} {c:Int} {r:Int} {w:World} (h:grottoref02_power.f k c=some r) :
  Calls Try.prog 60 #[.int .i64 c] w fun e w'=>e=.returned (.int .u64 r)∧Drawn0 w w':=by
 have H:=h
 unfold grottoref02_power.f at H
 clear h
 have H':=Aside0.mk H
 clear H
 go_enter Try.func60,Try.ntmps60
 go_wp2
 go_loopg [3,4] k (fun kq v3 v4 w'=>∃ (b:Int) (a:Int),v3=.int .u64 b∧v4=.int .i64 a∧Aside0 (grottoref02_power.l0 kq c b a=some r)∧Aside0 (kq≤k)∧Drawn0 w w')
 case atStart=>exact⟨(1),(0),(by first|rfl|(simp[*];done)),(by first|rfl|(simp[*];done)),H',⟨Nat.le_refl _⟩,by repeat (first|exact Drawn0.refl _|apply Drawn0.step)⟩
 case round =>
  clear H'
  obtain⟨b,a,rfl,rfl,HA,g,⟨m1,rfl⟩⟩:=hrel
  cases gk with
  | zero=>exact absurd HA.out (by simp[grottoref02_power.l0])
  | succ k1 =>
   have H:=HA.out
   clear HA
   simp only[grottoref02_power.l0] at H
   by_cases d:a<c
   ·rw[if_pos d] at H
    have i:decide (a<c)=true:=decide_eq_true d
    clear d
    have H':=Aside0.mk H
    clear H
    go_wp2
    go_roundg k1
    case measure=>have:=g.out;omega
    case rel=>exact⟨(IntKind.u64.wrap (2*b)),(wrap64 (a+1)),(by first|rfl|(simp[*];done)),(by first|rfl|(simp[*];done)),H',⟨by have:=g.out;omega⟩,by repeat (first|exact Drawn0.refl _|apply Drawn0.step)⟩
   rw[if_neg d] at H
   have i:decide (a<c)=false:=decide_eq_false d
   clear d
   obtain rfl:=Option.some.inj H
   go_wp2
   go_ret
   exact⟨by first|rfl|(simp;done)|(simp[*];done),by repeat (first|exact Drawn0.refl _|apply Drawn0.step)⟩

/-! ### grottoref02_Whole: function 62 -/
def grottoref02_Whole.f (k:Nat) (a0_0:Int) (a0_1:Int) (a1:Bool) (a2:Int) (a3:Int):Option (Int):=(grottoref02_power.f k a0_0).bind fun a=>(if a1=true then ((grottoref02_power.f k (wrap64 (a0_0+a0_1))).bind fun b=>(some (IntKind.u64.wrap ((IntKind.u64.wrap ((IntKind.u64.wrap (a2*a))+a3))+b)))) else (some (IntKind.u64.wrap ((IntKind.u64.wrap (a2*a))+a3))))
theorem grottoref02_Whole.mono:∀ a0 a1 a2 a3 a4 k,LeO (grottoref02_Whole.f k a0 a1 a2 a3 a4) (grottoref02_Whole.f (k+1) a0 a1 a2 a3 a4):=by
 intro a0 a1 a2 a3 a4 k
 unfold grottoref02_Whole.f
 repeat' first|(with_reducible first|apply grottoref02_power.mono|exact LeO.refl _|exact LeO.none _|refine LeO.ite ?_ ?_|refine LeO.bind ?_ (fun _=>?_))|refine LeO.ite ?_ ?_|refine LeO.bind ?_ (fun _=>?_)
set_option maxHeartbeats 8000000 in
set_option maxRecDepth 100000 in
theorem grottoref02_Whole.calls {k:Nat} {a:Int} {b:Int} {q:Bool} {s:Int} {u:Int} {r:Int} {w:World} (h:grottoref02_Whole.f k a b q s u=some r) :
  Calls Try.prog 62 #[.agg #[.int .i64 a,.int .i64 b],.bool q,.int .u64 s,.int .u64 u] w fun e w'=>e=.returned (.int .u64 r)∧Below w.heap.size w w':=by
 have hu23:=Try.underlying23
 have HB:=Aside0.mk (Below.refl w.heap.size w)
 have H:=h
 unfold grottoref02_Whole.f at H
 clear h
 obtain⟨d,D,H⟩:=oB H
 by_cases v:q=true
 ·subst v
  rw[if_pos rfl] at H
  obtain⟨g,E,H⟩:=oB H
  obtain rfl:=Option.some.inj H
  go_enter Try.func62,Try.ntmps62
  go_wp2_with (first|((with_reducible refine gate_dst (N:=4) rfl ?_);refine zbox (N:=4) (cs:=#[.int .i64 a,.int .i64 b]) (t:=23) ?_;intro i hg G hbox hb;have c:=Aside0.mk hbox;have j:=zge hg HB;have l:=zge hg HB;replace HB:=zbs HB hb;clear hb hbox hg;obtain⟨y,z,B,C⟩:=zc2 c)|((with_reducible refine gate_callee (f:=60) rfl ?_);refine zgo (some 13) Try.func60 #[.int .i64 a] ?_;(with_reducible refine (grottoref02_power.calls D.out).mono ?_);rintro e w' ⟨rfl,⟨nd,rfl⟩⟩;refine⟨_,rfl,?_⟩)|((with_reducible refine gate_callee (f:=60) rfl ?_);refine zgo (some 24) Try.func60 #[.int .i64 (wrap64 (a+b))] ?_;(with_reducible refine (grottoref02_power.calls E.out).mono ?_);rintro e w' ⟨rfl,⟨nd,rfl⟩⟩;refine⟨_,rfl,?_⟩))
  go_ret
  exact zr HB
 replace v:=Bool.eq_false_iff.mpr v
 subst v
 rw[if_neg nft] at H
 obtain rfl:=Option.some.inj H
 go_enter Try.func62,Try.ntmps62
 go_wp2_with (first|((with_reducible refine gate_dst (N:=4) rfl ?_);refine zbox (N:=4) (cs:=#[.int .i64 a,.int .i64 b]) (t:=23) ?_;intro i hg F hbox hb;have c:=Aside0.mk hbox;have j:=zge hg HB;have l:=zge hg HB;replace HB:=zbs HB hb;clear hb hbox hg;obtain⟨m,n,o,p⟩:=zc2 c)|((with_reducible refine gate_callee (f:=60) rfl ?_);refine zgo (some 13) Try.func60 #[.int .i64 a] ?_;(with_reducible refine (grottoref02_power.calls D.out).mono ?_);rintro e w' ⟨rfl,⟨nd,rfl⟩⟩;refine⟨_,rfl,?_⟩))
 go_ret
 exact zr HB

/-! ### grottoref02_NaN: function 21 -/
def grottoref02_NaN.f (k:Nat) (a0_0:Int) (a0_1:Int):Option (Int):=(grottoref02_power.f k a0_1).bind fun a=>((grottoref02_power.f k (wrap64 (a0_0-1))).bind fun b=>((grottoref02_Whole.f k a0_0 a0_1 false (IntKind.u64.wrap (a-1)) b).bind fun c=>(some c)))
theorem grottoref02_NaN.mono:∀ a0 a1 k,LeO (grottoref02_NaN.f k a0 a1) (grottoref02_NaN.f (k+1) a0 a1):=by
 intro a0 a1 k
 unfold grottoref02_NaN.f
 repeat' first|(with_reducible first|apply grottoref02_Whole.mono|apply grottoref02_power.mono|exact LeO.refl _|exact LeO.none _|refine LeO.ite ?_ ?_|refine LeO.bind ?_ (fun _=>?_))|refine LeO.ite ?_ ?_|refine LeO.bind ?_ (fun _=>?_)
def grottoref02_NaN.T1:Bool×List (List Nat×List Nat):=(true,[([],[]),([],[]),([1],[1]),([2],[2]),([3],[3]),([],[]),([5],[5]),([6],[6]),([7,3],[7]),([0,4,8,8],[0,4,8]),([9,9,0,1,2,3,4,5,6,7,8,9],[9])])
def grottoref02_NaN.B1:List Nat:=[0,0,2,6,14,0,32,96,238,511,1023]
theorem grottoref02_NaN.tab1:rtab .any (opsOf Try.f21 1)=grottoref02_NaN.T1:=by kernel_rfl
theorem grottoref02_NaN.bits1:waitsOk grottoref02_NaN.T1.2 grottoref02_NaN.B1=true:=by kernel_rfl
set_option maxHeartbeats 8000000 in
set_option maxRecDepth 100000 in
theorem grottoref02_NaN.calls {k:Nat} {b:Int} {c:Int} {r:Int} {w:World} (h:grottoref02_NaN.f k b c=some r) :
  Calls Try.prog 21 #[.agg #[.int .i64 b,.int .i64 c]] w fun e w'=>e=.returned (.int .u64 r)∧Below w.heap.size w w':=by
 have hu23:=Try.underlying23
 have HB:=Aside0.mk (Below.refl w.heap.size w)
 have H:=h
 unfold grottoref02_NaN.f at H
 clear h
 obtain⟨d,p,H⟩:=oB H
 obtain⟨g,q,H⟩:=oB H
 obtain⟨l,s,H⟩:=oB H
 obtain rfl:=Option.some.inj H
 go_enter Try.func21,Try.ntmps21
 try go_wp2_with (first|((with_reducible refine gate_dst (N:=1) rfl ?_);refine zbox (N:=1) (cs:=#[.int .i64 b,.int .i64 c]) (t:=23) ?_;intro j hg u hbox hb;have a:=Aside0.mk hbox;have m:=zge hg HB;have o:=zge hg HB;replace HB:=zbs HB hb;clear hb hbox hg))
 replace a:=Aside0.mk (blk_drew a.out)
 replace HB:=Aside0.mk (below_drew1 HB.out)
 refine start_ (n:=11) (S:=fun w'=>w'.cell? ⟨j,0,none⟩=some (.int .i64 b)∧w'.cell? ⟨j,1,none⟩=some (.int .i64 c)) (ds:=[]) #[false,false,false,false,false,false,false,false,false,false,false] (by kernel_rfl) rfl rfl ⟨(blk_cell a.out 0).trans rfl,(blk_cell a.out 1).trans rfl⟩ (fun hHeld=>?_);refine with_tabW grottoref02_NaN.tab1 grottoref02_NaN.bits1 (fun HT_ HW_=>?_)
 generalize u.drew=v at a HB hHeld ⊢
 refine zpure_ (i:=1) (N:=some 4) #[false,true,false,false,false,false,false,false,false,false,false] (any_of HT_.out (by kernel_rfl)) ?_
 refine zpure_ (i:=5) (N:=some 8) #[false,true,false,false,false,true,false,false,false,false,false] (any_of HT_.out (by kernel_rfl)) ?_
 refine ztake_ (i:=0) (N:=some 3) #[true,true,false,false,false,true,false,false,false,false,false] rfl (take_ofW HT_.out HW_.out (by kernel_rfl)) hHeld (Or.inl ⟨by rfl,by rintro w' ⟨s0,s1⟩;go_simp;with_reducible rfl⟩) ?_
 refine ztake_ (i:=2) (N:=some 5) #[true,true,true,false,false,true,false,false,false,false,false] rfl (take_ofW HT_.out HW_.out (by kernel_rfl)) hHeld (Or.inl ⟨by rfl,by rintro w' ⟨s0,s1⟩;go_simp;with_reducible rfl⟩) ?_
 refine ztake_ (i:=6) (N:=some 9) #[true,true,true,false,false,true,true,false,false,false,false] rfl (take_ofW HT_.out HW_.out (by kernel_rfl)) hHeld (Or.inl ⟨by rfl,by rintro w' ⟨s0,s1⟩;go_simp;with_reducible rfl⟩) ?_
 refine zpure_ (i:=7) (N:=some 10) #[true,true,true,false,false,true,true,true,false,false,false] (any_of HT_.out (by kernel_rfl)) ?_
 refine one_ (i:=3) (N:=some 6) #[true,true,true,true,false,true,true,true,false,false,false] rfl rfl (one_of HT_.out (by kernel_rfl)) (by decide) (fun K hK=>?_)
 refine goes_ Try.func60 (by kernel_rfl) rfl #[.int .i64 c] (by rfl) rfl rfl (by (try simp only[List.map_toArray,List.map_cons,List.map_nil]);first|done|rfl|(simp only[List.length_drop,List.length_take];rfl)) ?_
 with_reducible refine (grottoref02_power.calls p.out).mono ?_
 rintro e w' ⟨rfl,⟨nd,rfl⟩⟩
 refine⟨_,rfl,?_⟩
 refine hK.out _ _ ⟨(blk_cell a.out 0).trans rfl,(blk_cell a.out 1).trans rfl⟩ (fun hHeld=>?_)
 clear hK K
 refine norm_ (a':=?_) ?_ ?_
 rotate_left
 ·show Act.put _ (some 6) _=_
  simp only[Act.put,List.setIfInBounds_toArray,List.set_cons_zero,List.set_cons_succ,i64_w,i32_w]
  rfl
 refine zpure_ (i:=4) (N:=some 7) #[true,true,true,true,true,true,true,true,false,false,false] (any_of HT_.out (by kernel_rfl)) ?_
 refine one_ (i:=8) (N:=some 11) #[true,true,true,true,true,true,true,true,true,false,false] rfl rfl (one_of HT_.out (by kernel_rfl)) (by decide) (fun K hK=>?_)
 refine goes_ Try.func60 (by kernel_rfl) rfl #[.int .i64 (wrap64 (b-1))] (by rfl) rfl rfl (by (try simp only[List.map_toArray,List.map_cons,List.map_nil]);first|done|rfl|(simp only[List.length_drop,List.length_take];rfl)) ?_
 with_reducible refine (grottoref02_power.calls q.out).mono ?_
 rintro e w' ⟨rfl,⟨nd,rfl⟩⟩
 refine⟨_,rfl,?_⟩
 refine hK.out _ _ ⟨(blk_cell a.out 0).trans rfl,(blk_cell a.out 1).trans rfl⟩ (fun hHeld=>?_)
 clear hK K
 refine norm_ (a':=?_) ?_ ?_
 rotate_left
 ·show Act.put _ (some 11) _=_
  simp only[Act.put,List.setIfInBounds_toArray,List.set_cons_zero,List.set_cons_succ,i64_w,i32_w]
  rfl
 refine one_ (i:=9) (N:=some 12) #[true,true,true,true,true,true,true,true,true,true,false] rfl rfl (one_of HT_.out (by kernel_rfl)) (by decide) (fun K hK=>?_)
 refine goes_ Try.func62 (by kernel_rfl) rfl #[.agg #[.int .i64 b,.int .i64 c],.bool false,.int .u64 (IntKind.u64.wrap (d-1)),.int .u64 g] (by rfl) rfl rfl (by (try simp only[List.map_toArray,List.map_cons,List.map_nil]);first|done|rfl|(simp only[List.length_drop,List.length_take];rfl)) ?_
 with_reducible refine (grottoref02_Whole.calls s.out).mono ?_
 rintro e y ⟨rfl,hb⟩
 refine⟨_,rfl,?_⟩
 obtain⟨a,HB⟩:=zu1 a HB hb
 try clear hb
 refine hK.out _ _ ⟨(blk_cell a.out 0).trans rfl,(blk_cell a.out 1).trans rfl⟩ (fun hHeld=>?_)
 clear hK K
 refine norm_ (a':=?_) ?_ ?_
 rotate_left
 ·show Act.put _ (some 12) _=_
  simp only[Act.put,List.setIfInBounds_toArray,List.set_cons_zero,List.set_cons_succ,i64_w,i32_w]
  rfl
 refine zpure_ (i:=10) (N:=some 2) #[true,true,true,true,true,true,true,true,true,true,true] (any_of HT_.out (by kernel_rfl)) ?_
 refine done_ (done_of HT_.out (by kernel_rfl)) ?_
 try go_wp2
 go_ret
 exact zr HB

/-! ### grottoref02_Zero: function 46 -/
def grottoref02_Zero.f (k:Nat) (a0_0:Int) (a0_1:Int) (a1:Bool):Option (Int):=(grottoref02_Whole.f k a0_0 a0_1 a1 0 0).bind fun a=>(some a)
theorem grottoref02_Zero.mono:∀ a0 a1 a2 k,LeO (grottoref02_Zero.f k a0 a1 a2) (grottoref02_Zero.f (k+1) a0 a1 a2):=by
 intro a0 a1 a2 k
 unfold grottoref02_Zero.f
 repeat' first|(with_reducible first|apply grottoref02_Whole.mono|exact LeO.refl _|exact LeO.none _|refine LeO.ite ?_ ?_|refine LeO.bind ?_ (fun _=>?_))|refine LeO.ite ?_ ?_|refine LeO.bind ?_ (fun _=>?_)
set_option maxHeartbeats 8000000 in
set_option maxRecDepth 100000 in
theorem grottoref02_Zero.calls {k:Nat} {b:Int} {c:Int} {m:Bool} {r:Int} {w:World} (h:grottoref02_Zero.f k b c m=some r) :
  Calls Try.prog 46 #[.agg #[.int .i64 b,.int .i64 c],.bool m] w fun e w'=>e=.returned (.int .u64 r)∧Below w.heap.size w w':=by
 have hu23:=Try.underlying23
 have HB:=Aside0.mk (Below.refl w.heap.size w)
 have H:=h
 unfold grottoref02_Zero.f at H
 clear h
 obtain⟨d,q,H⟩:=oB H
 obtain rfl:=Option.some.inj H
 go_enter Try.func46,Try.ntmps46
 go_wp2_with (first|((with_reducible refine gate_dst (N:=2) rfl ?_);refine zbox (N:=2) (cs:=#[.int .i64 b,.int .i64 c]) (t:=23) ?_;intro n hg s hbox hb;have a:=Aside0.mk hbox;have o:=zge hg HB;have p:=zge hg HB;replace HB:=zbs HB hb;clear hb hbox hg;obtain⟨g,i,j,l⟩:=zc2 a)|((with_reducible refine gate_callee (f:=62) rfl ?_);refine zgc (some 7) Try.func62 (grottoref02_Whole.calls q.out) ?_;intro u hb;obtain⟨a,HB⟩:=zu1 a HB hb;clear hb))
 go_ret
 exact zr HB

/-! ### grottoref02_Bias: function 36 -/
def grottoref02_Bias.f (k:Nat) (a0_0:Int) (a0_1:Int):Option (Int):=(grottoref02_power.f k (wrap64 (a0_1-1))).bind fun a=>(some (wrap64 ((wrap64 (a))-1)))
theorem grottoref02_Bias.mono:∀ a0 a1 k,LeO (grottoref02_Bias.f k a0 a1) (grottoref02_Bias.f (k+1) a0 a1):=by
 intro a0 a1 k
 unfold grottoref02_Bias.f
 repeat' first|(with_reducible first|apply grottoref02_power.mono|exact LeO.refl _|exact LeO.none _|refine LeO.ite ?_ ?_|refine LeO.bind ?_ (fun _=>?_))|refine LeO.ite ?_ ?_|refine LeO.bind ?_ (fun _=>?_)
set_option maxHeartbeats 8000000 in
set_option maxRecDepth 100000 in
theorem grottoref02_Bias.calls {k:Nat} {b:Int} {a:Int} {r:Int} {w:World} (h:grottoref02_Bias.f k b a=some r) :
  Calls Try.prog 36 #[.agg #[.int .i64 b,.int .i64 a]] w fun e w'=>e=.returned (.int .i64 r)∧Below w.heap.size w w':=by
 have hu23:=Try.underlying23
 have HB:=Aside0.mk (Below.refl w.heap.size w)
 have H:=h
 unfold grottoref02_Bias.f at H
 clear h
 obtain⟨c,p,H⟩:=oB H
 obtain rfl:=Option.some.inj H
 go_enter Try.func36,Try.ntmps36
 go_wp2_with (first|((with_reducible refine gate_dst (N:=1) rfl ?_);refine zbox (N:=1) (cs:=#[.int .i64 b,.int .i64 a]) (t:=23) ?_;intro m hg q hbox hb;have d:=Aside0.mk hbox;have n:=zge hg HB;have o:=zge hg HB;replace HB:=zbs HB hb;clear hb hbox hg;obtain⟨g,i,j,l⟩:=zc2 d)|((with_reducible refine gate_callee (f:=60) rfl ?_);refine zgo (some 6) Try.func60 #[.int .i64 (wrap64 (a-1))] ?_;(with_reducible refine (grottoref02_power.calls p.out).mono ?_);rintro e w' ⟨rfl,⟨nd,rfl⟩⟩;refine⟨_,rfl,?_⟩))
 go_ret
 exact zr HB

/-! ### grottoref02_Check: function 38 -/
def grottoref02_Check.f (a0_0:Int) (a0_1:Int):Option (Int):=if a0_0<2 then (some 1) else (if a0_0>52 then (some 1) else (if a0_1<2 then (some 1) else (if a0_1>11 then (some 1) else (some 0))))
set_option maxHeartbeats 8000000 in
set_option maxRecDepth 100000 in
theorem grottoref02_Check.calls {a:Int} {b:Int} {r:Int} {w:World} (h:grottoref02_Check.f a b=some r) :
  Calls Try.prog 38 #[.agg #[.int .i64 a,.int .i64 b]] w fun e w'=>e=.returned (.int .i64 r)∧Below w.heap.size w w':=by
 have hu23:=Try.underlying23
 have HB:=Aside0.mk (Below.refl w.heap.size w)
 have H:=h
 unfold grottoref02_Check.f at H
 clear h
 by_cases m:a<2
 ·rw[if_pos m] at H
  have p:decide (a<2)=true:=decide_eq_true m
  clear m
  obtain rfl:=Option.some.inj H
  go_enter Try.func38,Try.ntmps38
  go_wp2_with (first|((with_reducible refine gate_dst (N:=1) rfl ?_);refine zbox (N:=1) (cs:=#[.int .i64 a,.int .i64 b]) (t:=23) ?_;intro d hg V hbox hb;have c:=Aside0.mk hbox;have g:=zge hg HB;have i:=zge hg HB;replace HB:=zbs HB hb;clear hb hbox hg;obtain⟨K,L,M,O⟩:=zc2 c))
  go_ret
  exact zr HB
 rw[if_neg m] at H
 have p:decide (a<2)=false:=decide_eq_false m
 clear m
 by_cases n:a>52
 ·rw[if_pos n] at H
  have q:decide (52<a)=true:=decide_eq_true n
  clear n
  obtain rfl:=Option.some.inj H
  go_enter Try.func38,Try.ntmps38
  go_wp2_with (first|((with_reducible refine gate_dst (N:=1) rfl ?_);refine zbox (N:=1) (cs:=#[.int .i64 a,.int .i64 b]) (t:=23) ?_;intro d hg W hbox hb;have c:=Aside0.mk hbox;have g:=zge hg HB;have i:=zge hg HB;replace HB:=zbs HB hb;clear hb hbox hg;obtain⟨P,Q,R,S⟩:=zc2 c))
  go_ret
  exact zr HB
 rw[if_neg n] at H
 have q:decide (52<a)=false:=decide_eq_false n
 clear n
 by_cases o:b<2
 ·rw[if_pos o] at H
  have s:decide (b<2)=true:=decide_eq_true o
  clear o
  obtain rfl:=Option.some.inj H
  go_enter Try.func38,Try.ntmps38
  go_wp2_with (first|((with_reducible refine gate_dst (N:=1) rfl ?_);refine zbox (N:=1) (cs:=#[.int .i64 a,.int .i64 b]) (t:=23) ?_;intro d hg X hbox hb;have c:=Aside0.mk hbox;have g:=zge hg HB;have i:=zge hg HB;replace HB:=zbs HB hb;clear hb hbox hg;obtain⟨u,v,y,z⟩:=zc2 c))
  go_ret
  exact zr HB
 rw[if_neg o] at H
 have s:decide (b<2)=false:=decide_eq_false o
 clear o
 by_cases j:b>11
 ·rw[if_pos j] at H
  have l:decide (11<b)=true:=decide_eq_true j
  clear j
  obtain rfl:=Option.some.inj H
  go_enter Try.func38,Try.ntmps38
  go_wp2_with (first|((with_reducible refine gate_dst (N:=1) rfl ?_);refine zbox (N:=1) (cs:=#[.int .i64 a,.int .i64 b]) (t:=23) ?_;intro d hg T hbox hb;have c:=Aside0.mk hbox;have g:=zge hg HB;have i:=zge hg HB;replace HB:=zbs HB hb;clear hb hbox hg;obtain⟨B,C,D,E⟩:=zc2 c))
  go_ret
  exact zr HB
 rw[if_neg j] at H
 have l:decide (11<b)=false:=decide_eq_false j
 clear j
 obtain rfl:=Option.some.inj H
 go_enter Try.func38,Try.ntmps38
 go_wp2_with (first|((with_reducible refine gate_dst (N:=1) rfl ?_);refine zbox (N:=1) (cs:=#[.int .i64 a,.int .i64 b]) (t:=23) ?_;intro d hg U hbox hb;have c:=Aside0.mk hbox;have g:=zge hg HB;have i:=zge hg HB;replace HB:=zbs HB hb;clear hb hbox hg;obtain⟨F,G,I,J⟩:=zc2 c))
 go_ret
 exact zr HB

/-! ### grottoref02_Least: function 61 -/
def grottoref02_Least.f (k:Nat) (a0_0:Int) (a0_1:Int):Option (Int):=(grottoref02_Bias.f k a0_0 a0_1).bind fun a=>(some (wrap64 ((wrap64 (1-a))-a0_0)))
theorem grottoref02_Least.mono:∀ a0 a1 k,LeO (grottoref02_Least.f k a0 a1) (grottoref02_Least.f (k+1) a0 a1):=by
 intro a0 a1 k
 unfold grottoref02_Least.f
 repeat' first|(with_reducible first|apply grottoref02_Bias.mono|exact LeO.refl _|exact LeO.none _|refine LeO.ite ?_ ?_|refine LeO.bind ?_ (fun _=>?_))|refine LeO.ite ?_ ?_|refine LeO.bind ?_ (fun _=>?_)
set_option maxHeartbeats 8000000 in
set_option maxRecDepth 100000 in
theorem grottoref02_Least.calls {k:Nat} {b:Int} {c:Int} {r:Int} {w:World} (h:grottoref02_Least.f k b c=some r) :
  Calls Try.prog 61 #[.agg #[.int .i64 b,.int .i64 c]] w fun e w'=>e=.returned (.int .i64 r)∧Below w.heap.size w w':=by
 have hu23:=Try.underlying23
 have HB:=Aside0.mk (Below.refl w.heap.size w)
 have H:=h
 unfold grottoref02_Least.f at H
 clear h
 obtain⟨g,m,H⟩:=oB H
 obtain rfl:=Option.some.inj H
 go_enter Try.func61,Try.ntmps61
 try go_wp2_with (first|((with_reducible refine gate_dst (N:=1) rfl ?_);refine zbox (N:=1) (cs:=#[.int .i64 b,.int .i64 c]) (t:=23) ?_;intro d hg o hbox hb;have a:=Aside0.mk hbox;have j:=zge hg HB;have l:=zge hg HB;replace HB:=zbs HB hb;clear hb hbox hg))
 replace a:=Aside0.mk (blk_drew a.out)
 replace HB:=Aside0.mk (below_drew1 HB.out)
 refine start_ (n:=7) (S:=fun w'=>w'.cell? ⟨d,0,none⟩=some (.int .i64 b)∧w'.cell? ⟨d,1,none⟩=some (.int .i64 c)) (ds:=[]) #[false,false,false,false,false,false,false] (by kernel_rfl) rfl rfl ⟨(blk_cell a.out 0).trans rfl,(blk_cell a.out 1).trans rfl⟩ (fun hHeld=>?_)
 generalize o.drew=p at a HB hHeld ⊢
 refine zpure_ (i:=3) (N:=some 6) #[false,false,false,true,false,false,false] (by kernel_rfl) ?_
 refine ztake_ (i:=0) (N:=some 3) #[true,false,false,true,false,false,false] rfl (by kernel_rfl) hHeld (Or.inl ⟨by rfl,by rintro w' ⟨s0,s1⟩;go_simp;with_reducible rfl⟩) ?_
 refine ztake_ (i:=4) (N:=some 7) #[true,false,false,true,true,false,false] rfl (by kernel_rfl) hHeld (Or.inl ⟨by rfl,by rintro w' ⟨s0,s1⟩;go_simp;with_reducible rfl⟩) ?_
 refine one_ (i:=1) (N:=some 4) #[true,true,false,true,true,false,false] rfl rfl (by kernel_rfl) (by decide) (fun K hK=>?_)
 refine goes_ Try.func36 (by kernel_rfl) rfl #[.agg #[.int .i64 b,.int .i64 c]] (by rfl) rfl rfl (by (try simp only[List.map_toArray,List.map_cons,List.map_nil]);first|done|rfl|(simp only[List.length_drop,List.length_take];rfl)) ?_
 with_reducible refine (grottoref02_Bias.calls m.out).mono ?_
 rintro e q ⟨rfl,hb⟩
 refine⟨_,rfl,?_⟩
 obtain⟨a,HB⟩:=zu1 a HB hb
 try clear hb
 refine hK.out _ _ ⟨(blk_cell a.out 0).trans rfl,(blk_cell a.out 1).trans rfl⟩ (fun hHeld=>?_)
 clear hK K
 refine norm_ (a':=?_) ?_ ?_
 rotate_left
 ·show Act.put _ (some 4) _=_
  simp only[Act.put,List.setIfInBounds_toArray,List.set_cons_zero,List.set_cons_succ,i64_w,i32_w]
  rfl
 refine zpure_ (i:=2) (N:=some 5) #[true,true,true,true,true,false,false] (by kernel_rfl) ?_
 refine zpure_ (i:=5) (N:=some 8) #[true,true,true,true,true,true,false] (by kernel_rfl) ?_
 refine zpure_ (i:=6) (N:=some 2) #[true,true,true,true,true,true,true] (by kernel_rfl) ?_
 refine done_ (by kernel_rfl) ?_
 try go_wp2
 go_ret
 exact zr HB

/-! ### grottoref02_Open: function 20 -/
mutual
def grottoref02_Open.j0:Nat→Int→Int→Bool→Int→Int→Int→Bool→Int→Int→Option (Int×Bool×Int×Int×Int)
 | 0,_,_,_,_,_,_,_,_,_=>none
 | k+1,e,a,j,h,g,i,b,c,d=>if j=true then (some (3,b,c,d,0)) else ((grottoref02_power.f k g).bind fun l=>(if a=(IntKind.u64.wrap (l-1)) then (some (4,b,c,d,0)) else (if a=0 then (grottoref02_Open.j1 k e a (e==0) h g i b c d) else (grottoref02_Open.j1 k e a false h g i b c d))))
def grottoref02_Open.j1:Nat→Int→Int→Bool→Int→Int→Int→Bool→Int→Int→Option (Int×Bool×Int×Int×Int)
 | 0,_,_,_,_,_,_,_,_,_=>none
 | k+1,c,d,g,a,e,n,b,h,i=>if g=true then (some (1,b,h,i,0)) else (if d=0 then ((grottoref02_Least.f k a e).bind fun j=>(some (2,b,j,c,0))) else ((grottoref02_power.f k a).bind fun l=>((grottoref02_Bias.f k a e).bind fun m=>(some (2,b,wrap64 ((wrap64 ((wrap64 (d))-m))-a),IntKind.u64.wrap (l+c),0)))))
end
def grottoref02_Open.f (k:Nat) (a0_0:Int) (a0_1:Int) (a1:Int):Option (Int×Bool×Int×Int×Int):=(grottoref02_Check.f a0_0 a0_1).bind fun e=>(if e=0 then ((grottoref02_power.f k a0_0).bind fun b=>(if b=0 then (none) else ((grottoref02_power.f k a0_0).bind fun a=>(if a=0 then (none) else ((grottoref02_power.f k a0_1).bind fun c=>(if c=0 then (none) else ((grottoref02_power.f k a0_1).bind fun d=>(if d=0 then (none) else (if (IntKind.u64.wrap (Int.tdiv (IntKind.u64.wrap (Int.tdiv a1 a)) d))>1 then (some (0,false,0,0,1)) else ((grottoref02_power.f k a0_1).bind fun g=>(if (Int.tmod (IntKind.u64.wrap (Int.tdiv a1 a)) c)=(IntKind.u64.wrap (g-1)) then (grottoref02_Open.j0 k (Int.tmod a1 b) (Int.tmod (IntKind.u64.wrap (Int.tdiv a1 a)) c) ((Int.tmod a1 b)==0) a0_0 a0_1 0 ((IntKind.u64.wrap (Int.tdiv (IntKind.u64.wrap (Int.tdiv a1 a)) d))==1) 0 0) else (grottoref02_Open.j0 k (Int.tmod a1 b) (Int.tmod (IntKind.u64.wrap (Int.tdiv a1 a)) c) false a0_0 a0_1 0 ((IntKind.u64.wrap (Int.tdiv (IntKind.u64.wrap (Int.tdiv a1 a)) d))==1) 0 0)))))))))))) else (some (0,false,0,0,1)))
theorem grottoref02_Open.mono_l:∀ k,(∀ y0 y1 y2 y3 y4 y5 y6 y7 y8,LeO (grottoref02_Open.j0 k y0 y1 y2 y3 y4 y5 y6 y7 y8) (grottoref02_Open.j0 (k+1) y0 y1 y2 y3 y4 y5 y6 y7 y8))∧(∀ y0 y1 y2 y3 y4 y5 y6 y7 y8,LeO (grottoref02_Open.j1 k y0 y1 y2 y3 y4 y5 y6 y7 y8) (grottoref02_Open.j1 (k+1) y0 y1 y2 y3 y4 y5 y6 y7 y8))
 | 0=>⟨fun _ _ _ _ _ _ _ _ _ r h=>by simp[grottoref02_Open.j0] at h,fun _ _ _ _ _ _ _ _ _ r h=>by simp[grottoref02_Open.j1] at h⟩
 | k+1=>by
  obtain⟨ih0,ih1⟩:=grottoref02_Open.mono_l k
  refine⟨?_,?_⟩ <;> intros <;> (first|unfold grottoref02_Open.j0|unfold grottoref02_Open.j1) <;> (repeat' first|(with_reducible first|apply ih0|apply ih1|apply grottoref02_Bias.mono|apply grottoref02_Least.mono|apply grottoref02_power.mono|exact LeO.refl _|exact LeO.none _|refine LeO.ite ?_ ?_|refine LeO.bind ?_ (fun _=>?_))|refine LeO.ite ?_ ?_|refine LeO.bind ?_ (fun _=>?_))
theorem grottoref02_Open.mono:∀ a0 a1 a2 k,LeO (grottoref02_Open.f k a0 a1 a2) (grottoref02_Open.f (k+1) a0 a1 a2):=by
 intro a0 a1 a2 k
 obtain⟨ih0,ih1⟩:=grottoref02_Open.mono_l k
 unfold grottoref02_Open.f
 repeat' first|(with_reducible first|apply ih0|apply ih1|apply grottoref02_Bias.mono|apply grottoref02_Least.mono|apply grottoref02_power.mono|exact LeO.refl _|exact LeO.none _|refine LeO.ite ?_ ?_|refine LeO.bind ?_ (fun _=>?_))|refine LeO.ite ?_ ?_|refine LeO.bind ?_ (fun _=>?_)
def grottoref02_Open.T10:Bool×List (List Nat×List Nat):=(true,[([],[]),([0],[0]),([1],[1]),([],[]),([2,3],[2,3]),([],[]),([5],[5]),([],[]),([7,2],[7]),([6,8],[6,8]),([],[]),([10],[10]),([9,11],[9,11]),([],[]),([13,8],[13]),([0,1,2,3,4,13,14],[]),([15,4,14,0,1,2,3,4,13,14],[4,15]),([0,1,2,3,4,5,6,7,8,9,10,11,12,13,14,15,16],[]),([17,12,16,0,1,2,3,4,5,6,7,8,9,10,11,12,13,14,15,16],[12,17])])
def grottoref02_Open.B10:List Nat:=[0,1,3,0,15,0,32,0,135,487,0,1024,4071,0,8583,24991,57759,131071,262143]
theorem grottoref02_Open.tab10:rtab .any (opsOf Try.f20 10)=grottoref02_Open.T10:=by kernel_rfl
theorem grottoref02_Open.bits10:waitsOk grottoref02_Open.T10.2 grottoref02_Open.B10=true:=by kernel_rfl
set_option maxHeartbeats 8000000 in
set_option maxRecDepth 100000 in
theorem grottoref02_Open.calls {k:Nat} {l:Int} {j:Int} {G:Int} {r1:Int} {r2:Bool} {r3:Int} {r4:Int} {r5:Int} {w:World} (h:grottoref02_Open.f k l j G=some (r1,r2,r3,r4,r5)) :
  Calls Try.prog 20 #[.agg #[.int .i64 l,.int .i64 j],.int .u64 G] w fun e w'=>e=.returned (.tuple #[.agg #[.int .i64 r1,.bool r2,.int .i64 r3,.int .u64 r4],.int .i64 r5])∧Below w.heap.size w w':=by
 have hu23:=Try.underlying23
 have hu34:=Try.underlying34
 have HB:=Aside0.mk (Below.refl w.heap.size w)
 have H:=h
 unfold grottoref02_Open.f at H
 clear h
 obtain⟨al,A3,H⟩:=oB H
 by_cases c4:al=0
 rotate_left
 ·rw[if_neg c4] at H
  obtain⟨an,ao⟩:=zf c4
  simp only[Option.some.injEq,Prod.mk.injEq] at H
  obtain⟨rfl,rfl,rfl,rfl,rfl⟩:=H
  go_enter Try.func20,Try.ntmps20
  go_wp2_with (first|((with_reducible refine gate_dst (N:=2) rfl ?_);refine zbox (N:=2) (cs:=#[.int .i64 l,.int .i64 j]) (t:=23) ?_;intro y hg eS hbox hb;have a:=Aside0.mk hbox;have ax:=zge hg HB;have ay:=zge hg HB;replace HB:=zbs HB hb;clear hb hbox hg)|((with_reducible refine gate_dst (N:=4) rfl ?_);refine zbox (N:=4) (cs:=#[.int .i64 0,.bool false,.int .i64 0,.int .u64 0]) (t:=34) ?_;intro s hg eT hbox hb;have b:=Aside0.mk hbox;have az:=zge hg HB;have aA:=zge hg HB;have q:=znl hg a;have E:=zng hg a;obtain⟨a,HB⟩:=zu1 a HB hb;clear hb hbox hg;obtain⟨eu,ev⟩:=z2 q;obtain⟨dm,dn,dp,dq⟩:=zc2 a)|((with_reducible refine gate_callee (f:=38) rfl ?_);refine zgc (some 10) Try.func38 (grottoref02_Check.calls A3.out) ?_;intro eU hb;obtain⟨a,b,HB⟩:=zu2 a b HB hb;clear hb;obtain⟨dr,dt,du,dv,dw,dx,dy,dz⟩:=zc4 b))
  refine bodyPost_ret (results_ct rfl _ _ s 34 #[.int .i64 0,.bool false,.int .i64 0,.int .u64 0] (0,0) _ rfl (zkp b) Try.underlying34 rfl (by kernel_rfl)) rfl ?_
  exact zr HB

 rw[if_pos c4] at H
 obtain⟨an,ao⟩:=zt c4
 clear c4
 obtain⟨I,A5,H⟩:=oB H
 by_cases c6:I=0
 ·rw[if_pos c6] at H
  exact absurd H (by simp)
 rw[if_neg c6] at H
 obtain⟨bd,be⟩:=zf c6
 obtain⟨m,A7,H⟩:=oB H
 by_cases c8:m=0
 ·rw[if_pos c8] at H
  exact absurd H (by simp)
 rw[if_neg c8] at H
 obtain⟨bf,bg⟩:=zf c8
 obtain⟨F,A9,H⟩:=oB H
 by_cases ap:F=0
 ·rw[if_pos ap] at H
  exact absurd H (by simp)
 rw[if_neg ap] at H
 obtain⟨aq,ar⟩:=zf ap
 obtain⟨v,bu,H⟩:=oB H
 by_cases au:v=0
 ·rw[if_pos au] at H
  exact absurd H (by simp)
 rw[if_neg au] at H
 obtain⟨av,aw⟩:=zf au
 by_cases ai:(IntKind.u64.wrap (Int.tdiv (IntKind.u64.wrap (Int.tdiv G m)) v))>1
 ·rw[if_pos ai] at H
  have ah:decide (1<(IntKind.u64.wrap (Int.tdiv (IntKind.u64.wrap (Int.tdiv G m)) v)))=true:=decide_eq_true ai
  clear ai
  simp only[Option.some.injEq,Prod.mk.injEq] at H
  obtain⟨rfl,rfl,rfl,rfl,rfl⟩:=H
  go_enter Try.func20,Try.ntmps20
  go_wp2_with (first|((with_reducible refine gate_dst (N:=2) rfl ?_);refine zbox (N:=2) (cs:=#[.int .i64 l,.int .i64 j]) (t:=23) ?_;intro y hg eB hbox hb;have a:=Aside0.mk hbox;have ax:=zge hg HB;have ay:=zge hg HB;replace HB:=zbs HB hb;clear hb hbox hg)|((with_reducible refine gate_dst (N:=4) rfl ?_);refine zbox (N:=4) (cs:=#[.int .i64 0,.bool false,.int .i64 0,.int .u64 0]) (t:=34) ?_;intro s hg eC hbox hb;have b:=Aside0.mk hbox;have az:=zge hg HB;have aA:=zge hg HB;have q:=znl hg a;have E:=zng hg a;obtain⟨a,HB⟩:=zu1 a HB hb;clear hb hbox hg;obtain⟨dB,dC⟩:=z2 q;obtain⟨aB,aC,aD,aE⟩:=zc2 a)|((with_reducible refine gate_callee (f:=38) rfl ?_);refine zgc (some 10) Try.func38 (grottoref02_Check.calls A3.out) ?_;intro C hb;obtain⟨a,b,HB⟩:=zu2 a b HB hb;clear hb;obtain⟨aF,aG,aH,aI⟩:=zc2 a)|((with_reducible refine gate_callee (f:=60) rfl ?_);refine zgo (some 16) Try.func60 #[.int .i64 l] ?_;(with_reducible refine (grottoref02_power.calls A5.out).mono ?_);rintro e w' ⟨rfl,⟨nd,rfl⟩⟩;refine⟨_,rfl,?_⟩;(try (rw[drewN_self C];generalize hq_:World.drewN C _=C;have n0_:Aside0 (C.heap[y]?=some (.cells #[.int .i64 l,.int .i64 j] 23 (0,0))):=⟨by rw[←hq_];exact (zk a)⟩;have n1_:Aside0 (C.heap[s]?=some (.cells #[.int .i64 0,.bool false,.int .i64 0,.int .u64 0] 34 (0,0))):=⟨by rw[←hq_];exact (zk b)⟩;have n2_:Aside0 (Below w.heap.size w C):=⟨by rw[←hq_];exact (zb HB)⟩;clear a b HB hq_;have a:=n0_;have b:=n1_;have HB:=n2_;clear n0_ n1_ n2_;obtain⟨y203_0,y203_1,y203_2,y203_3⟩:=zc2 a;obtain⟨y204_0,y204_1,y204_2,y204_3,y204_4,y204_5,y204_6,y204_7⟩:=zc4 b)))|((with_reducible refine gate_callee (f:=60) rfl ?_);refine zgo (some 21) Try.func60 #[.int .i64 l] ?_;(with_reducible refine (grottoref02_power.calls A7.out).mono ?_);rintro e w' ⟨rfl,⟨nd,rfl⟩⟩;refine⟨_,rfl,?_⟩;(try (rw[drewN_self C];generalize hq_:World.drewN C _=C;have n0_:Aside0 (C.heap[y]?=some (.cells #[.int .i64 l,.int .i64 j] 23 (0,0))):=⟨by rw[←hq_];exact (zk a)⟩;have n1_:Aside0 (C.heap[s]?=some (.cells #[.int .i64 0,.bool false,.int .i64 0,.int .u64 0] 34 (0,0))):=⟨by rw[←hq_];exact (zk b)⟩;have n2_:Aside0 (Below w.heap.size w C):=⟨by rw[←hq_];exact (zb HB)⟩;clear a b HB hq_;have a:=n0_;have b:=n1_;have HB:=n2_;clear n0_ n1_ n2_;obtain⟨y203_0,y203_1,y203_2,y203_3⟩:=zc2 a;obtain⟨y204_0,y204_1,y204_2,y204_3,y204_4,y204_5,y204_6,y204_7⟩:=zc4 b)))|((with_reducible refine gate_callee (f:=60) rfl ?_);refine zgo (some 26) Try.func60 #[.int .i64 j] ?_;(with_reducible refine (grottoref02_power.calls A9.out).mono ?_);rintro e w' ⟨rfl,⟨nd,rfl⟩⟩;refine⟨_,rfl,?_⟩;(try (rw[drewN_self C];generalize hq_:World.drewN C _=C;have n0_:Aside0 (C.heap[y]?=some (.cells #[.int .i64 l,.int .i64 j] 23 (0,0))):=⟨by rw[←hq_];exact (zk a)⟩;have n1_:Aside0 (C.heap[s]?=some (.cells #[.int .i64 0,.bool false,.int .i64 0,.int .u64 0] 34 (0,0))):=⟨by rw[←hq_];exact (zk b)⟩;have n2_:Aside0 (Below w.heap.size w C):=⟨by rw[←hq_];exact (zb HB)⟩;clear a b HB hq_;have a:=n0_;have b:=n1_;have HB:=n2_;clear n0_ n1_ n2_;obtain⟨y203_0,y203_1,y203_2,y203_3⟩:=zc2 a;obtain⟨y204_0,y204_1,y204_2,y204_3,y204_4,y204_5,y204_6,y204_7⟩:=zc4 b)))|((with_reducible refine gate_callee (f:=60) rfl ?_);refine zgo (some 31) Try.func60 #[.int .i64 j] ?_;(with_reducible refine (grottoref02_power.calls bu.out).mono ?_);rintro e w' ⟨rfl,⟨nd,rfl⟩⟩;refine⟨_,rfl,?_⟩;(try (rw[drewN_self C];generalize hq_:World.drewN C _=C;have n0_:Aside0 (C.heap[y]?=some (.cells #[.int .i64 l,.int .i64 j] 23 (0,0))):=⟨by rw[←hq_];exact (zk a)⟩;have n1_:Aside0 (C.heap[s]?=some (.cells #[.int .i64 0,.bool false,.int .i64 0,.int .u64 0] 34 (0,0))):=⟨by rw[←hq_];exact (zk b)⟩;have n2_:Aside0 (Below w.heap.size w C):=⟨by rw[←hq_];exact (zb HB)⟩;clear a b HB hq_;have a:=n0_;have b:=n1_;have HB:=n2_;clear n0_ n1_ n2_;obtain⟨y203_0,y203_1,y203_2,y203_3⟩:=zc2 a;obtain⟨y204_0,y204_1,y204_2,y204_3,y204_4,y204_5,y204_6,y204_7⟩:=zc4 b));obtain⟨aJ,aK,aL,aM,aN,aO,aP,aQ⟩:=zc4 b))
  refine bodyPost_ret (results_ct rfl _ _ s 34 #[.int .i64 0,.bool false,.int .i64 0,.int .u64 0] (0,0) _ rfl (zkp b) Try.underlying34 rfl (by kernel_rfl)) rfl ?_
  exact zr HB
 rw[if_neg ai] at H
 have ah:decide (1<(IntKind.u64.wrap (Int.tdiv (IntKind.u64.wrap (Int.tdiv G m)) v)))=false:=decide_eq_false ai
 clear ai
 have aR:=Aside0.mk H
 clear H
 go_enter Try.func20,Try.ntmps20
 go_upto_region 11 with (first|((with_reducible refine gate_dst (N:=2) rfl ?_);refine zbox (N:=2) (cs:=#[.int .i64 l,.int .i64 j]) (t:=23) ?_;intro y hg eD hbox hb;have a:=Aside0.mk hbox;have ax:=zge hg HB;have ay:=zge hg HB;replace HB:=zbs HB hb;clear hb hbox hg)|((with_reducible refine gate_dst (N:=4) rfl ?_);refine zbox (N:=4) (cs:=#[.int .i64 0,.bool false,.int .i64 0,.int .u64 0]) (t:=34) ?_;intro s hg eE hbox hb;have b:=Aside0.mk hbox;have az:=zge hg HB;have aA:=zge hg HB;have q:=znl hg a;have E:=zng hg a;obtain⟨a,HB⟩:=zu1 a HB hb;clear hb hbox hg;obtain⟨dD,dE⟩:=z2 q;obtain⟨Q,R,T,U⟩:=zc2 a)|((with_reducible refine gate_callee (f:=38) rfl ?_);refine zgc (some 10) Try.func38 (grottoref02_Check.calls A3.out) ?_;intro D hb;obtain⟨a,b,HB⟩:=zu2 a b HB hb;clear hb;obtain⟨V,W,X,Y⟩:=zc2 a)|((with_reducible refine gate_callee (f:=60) rfl ?_);refine zgo (some 16) Try.func60 #[.int .i64 l] ?_;(with_reducible refine (grottoref02_power.calls A5.out).mono ?_);rintro e w' ⟨rfl,⟨nd,rfl⟩⟩;refine⟨_,rfl,?_⟩;(try (rw[drewN_self D];generalize hq_:World.drewN D _=D;have n0_:Aside0 (D.heap[y]?=some (.cells #[.int .i64 l,.int .i64 j] 23 (0,0))):=⟨by rw[←hq_];exact (zk a)⟩;have n1_:Aside0 (D.heap[s]?=some (.cells #[.int .i64 0,.bool false,.int .i64 0,.int .u64 0] 34 (0,0))):=⟨by rw[←hq_];exact (zk b)⟩;have n2_:Aside0 (Below w.heap.size w D):=⟨by rw[←hq_];exact (zb HB)⟩;clear a b HB hq_;have a:=n0_;have b:=n1_;have HB:=n2_;clear n0_ n1_ n2_;obtain⟨y203_0,y203_1,y203_2,y203_3⟩:=zc2 a;obtain⟨y204_0,y204_1,y204_2,y204_3,y204_4,y204_5,y204_6,y204_7⟩:=zc4 b)))|((with_reducible refine gate_callee (f:=60) rfl ?_);refine zgo (some 21) Try.func60 #[.int .i64 l] ?_;(with_reducible refine (grottoref02_power.calls A7.out).mono ?_);rintro e w' ⟨rfl,⟨nd,rfl⟩⟩;refine⟨_,rfl,?_⟩;(try (rw[drewN_self D];generalize hq_:World.drewN D _=D;have n0_:Aside0 (D.heap[y]?=some (.cells #[.int .i64 l,.int .i64 j] 23 (0,0))):=⟨by rw[←hq_];exact (zk a)⟩;have n1_:Aside0 (D.heap[s]?=some (.cells #[.int .i64 0,.bool false,.int .i64 0,.int .u64 0] 34 (0,0))):=⟨by rw[←hq_];exact (zk b)⟩;have n2_:Aside0 (Below w.heap.size w D):=⟨by rw[←hq_];exact (zb HB)⟩;clear a b HB hq_;have a:=n0_;have b:=n1_;have HB:=n2_;clear n0_ n1_ n2_;obtain⟨y203_0,y203_1,y203_2,y203_3⟩:=zc2 a;obtain⟨y204_0,y204_1,y204_2,y204_3,y204_4,y204_5,y204_6,y204_7⟩:=zc4 b)))|((with_reducible refine gate_callee (f:=60) rfl ?_);refine zgo (some 26) Try.func60 #[.int .i64 j] ?_;(with_reducible refine (grottoref02_power.calls A9.out).mono ?_);rintro e w' ⟨rfl,⟨nd,rfl⟩⟩;refine⟨_,rfl,?_⟩;(try (rw[drewN_self D];generalize hq_:World.drewN D _=D;have n0_:Aside0 (D.heap[y]?=some (.cells #[.int .i64 l,.int .i64 j] 23 (0,0))):=⟨by rw[←hq_];exact (zk a)⟩;have n1_:Aside0 (D.heap[s]?=some (.cells #[.int .i64 0,.bool false,.int .i64 0,.int .u64 0] 34 (0,0))):=⟨by rw[←hq_];exact (zk b)⟩;have n2_:Aside0 (Below w.heap.size w D):=⟨by rw[←hq_];exact (zb HB)⟩;clear a b HB hq_;have a:=n0_;have b:=n1_;have HB:=n2_;clear n0_ n1_ n2_;obtain⟨y203_0,y203_1,y203_2,y203_3⟩:=zc2 a;obtain⟨y204_0,y204_1,y204_2,y204_3,y204_4,y204_5,y204_6,y204_7⟩:=zc4 b)))|((with_reducible refine gate_callee (f:=60) rfl ?_);refine zgo (some 31) Try.func60 #[.int .i64 j] ?_;(with_reducible refine (grottoref02_power.calls bu.out).mono ?_);rintro e w' ⟨rfl,⟨nd,rfl⟩⟩;refine⟨_,rfl,?_⟩;(try (rw[drewN_self D];generalize hq_:World.drewN D _=D;have n0_:Aside0 (D.heap[y]?=some (.cells #[.int .i64 l,.int .i64 j] 23 (0,0))):=⟨by rw[←hq_];exact (zk a)⟩;have n1_:Aside0 (D.heap[s]?=some (.cells #[.int .i64 0,.bool false,.int .i64 0,.int .u64 0] 34 (0,0))):=⟨by rw[←hq_];exact (zk b)⟩;have n2_:Aside0 (Below w.heap.size w D):=⟨by rw[←hq_];exact (zb HB)⟩;clear a b HB hq_;have a:=n0_;have b:=n1_;have HB:=n2_;clear n0_ n1_ n2_;obtain⟨y203_0,y203_1,y203_2,y203_3⟩:=zc2 a;obtain⟨y204_0,y204_1,y204_2,y204_3,y204_4,y204_5,y204_6,y204_7⟩:=zc4 b)))|((with_reducible refine gate_dst (N:=8) rfl ?_);refine zbox (N:=8) (cs:=#[.int .i64 0,.bool false,.int .i64 0,.int .u64 0]) (t:=34) ?_;intro B hg eF hbox hb;have c:=Aside0.mk hbox;have dF:=zge hg HB;have dG:=zge hg HB;have d:=znl hg a;have z:=zng hg a;have J:=znl hg b;have u:=zng hg b;obtain⟨a,b,HB⟩:=zu2 a b HB hb;clear hb hbox hg;obtain⟨dH,dI⟩:=z2 z;obtain⟨dJ,dK⟩:=z2 u;obtain⟨Z,aa,ab,ac,ad,ae,af,ag⟩:=zc4 c))
 (try simp only[Act.put,List.setIfInBounds_toArray,List.set_cons_zero,List.set_cons_succ])
 go_cut [55] (fun v55 wc=>∃ (kq:Nat) (M:Bool),v55=.bool M∧Aside0 (grottoref02_Open.j0 kq (Int.tmod G I) (Int.tmod (IntKind.u64.wrap (Int.tdiv G m)) F) M l j 0 ((IntKind.u64.wrap (Int.tdiv (IntKind.u64.wrap (Int.tdiv G m)) v))==1) 0 0=some (r1,r2,r3,r4,r5))∧Aside0 (kq≤k)∧Aside0 (wc.heap[y]?=some (.cells #[.int .i64 l,.int .i64 j] 23 (0,0)))∧Aside0 (wc.heap[s]?=some (.cells #[.int .i64 0,.bool false,.int .i64 0,.int .u64 0] 34 (0,0)))∧Aside0 (wc.heap[B]?=some (.cells #[.int .i64 0,.bool ((IntKind.u64.wrap (Int.tdiv (IntKind.u64.wrap (Int.tdiv G m)) v))==1),.int .i64 0,.int .u64 0] 34 (0,0)))∧Aside0 (Below w.heap.size w wc))
 case first =>
  have H:=aR.out
  clear aR
  obtain⟨am,bv,H⟩:=oB H
  by_cases aj:(Int.tmod (IntKind.u64.wrap (Int.tdiv G m)) F)=(IntKind.u64.wrap (am-1))
  ·rw[if_pos aj] at H
   obtain⟨L,aS⟩:=zt aj
   clear aj
   (first|rw[L]|(simp only[i64_w,i32_w];rw[L])|skip)
   have H':=Aside0.mk H
   clear H
   obtain⟨dL,dM⟩:=z2 q
   obtain⟨dN,dO⟩:=z2 d
   obtain⟨aT,aU,aV,aW⟩:=zc2 a
   go_wp2_with (first|((with_reducible refine gate_callee (f:=60) rfl ?_);refine zgo (some 59) Try.func60 #[.int .i64 j] ?_;(with_reducible refine (grottoref02_power.calls bv.out).mono ?_);rintro e w' ⟨rfl,⟨nd,rfl⟩⟩;refine⟨_,rfl,?_⟩))
   go_meet
   case rel=>exact⟨_,(((Int.tmod G I)==0)),(by first|rfl|(simp[*];done)),H',⟨by omega⟩,⟨zk a⟩,⟨zk b⟩,⟨zkp c⟩,⟨zb HB⟩⟩
  rw[if_neg aj] at H
  obtain⟨L,aS⟩:=zf aj
  (first|rw[L]|(simp only[i64_w,i32_w];rw[L])|skip)
  have H':=Aside0.mk H
  clear H
  obtain⟨dP,dQ⟩:=z2 q
  obtain⟨dR,dS⟩:=z2 d
  obtain⟨aX,aY,aZ,a0⟩:=zc2 a
  go_wp2_with (first|((with_reducible refine gate_callee (f:=60) rfl ?_);refine zgo (some 59) Try.func60 #[.int .i64 j] ?_;(with_reducible refine (grottoref02_power.calls bv.out).mono ?_);rintro e w' ⟨rfl,⟨nd,rfl⟩⟩;refine⟨_,rfl,?_⟩))
  go_meet
  case rel=>exact⟨_,(false),(by first|rfl|(simp[*];done)),H',⟨by omega⟩,⟨zk a⟩,⟨zk b⟩,⟨zkp c⟩,⟨zb HB⟩⟩
 case rest =>
  clear aR
  try clear an ao c6 bd be c8 bf bg ap aq ar au av aw ah Q R V W Z aa ab ac T U X Y ad ae af ag
  obtain⟨kq,M,rfl,HA,bh,a,b,c,HB⟩:=hcut
  cases kq with
  | zero=>exact absurd HA.out (by simp[grottoref02_Open.j0])
  | succ bw =>
   have H:=HA.out
   clear HA
   simp only[grottoref02_Open.j0] at H
   by_cases a2:M=true
   ·subst a2
    rw[if_pos rfl] at H
    simp only[Option.some.injEq,Prod.mk.injEq] at H
    obtain⟨rfl,rfl,rfl,rfl,rfl⟩:=H
    obtain⟨dT,dU⟩:=z2 z
    obtain⟨dV,dW⟩:=z2 u
    obtain⟨bx,bz,bA,bB,bC,bD,bE,bF⟩:=zc4 c
    obtain⟨dX,dY⟩:=z2 E
    obtain⟨bG,bH,bI,bJ,bK,bL,bM,bN⟩:=zc4 b
    go_wp2
    refine bodyPost_ret (results_ct rfl _ _ s 34 #[.int .i64 3,.bool ((IntKind.u64.wrap (Int.tdiv (IntKind.u64.wrap (Int.tdiv G m)) v))==1),.int .i64 0,.int .u64 0] (0,0) _ rfl (zkp b) Try.underlying34 rfl (by kernel_rfl)) rfl ?_
    exact zr HB
   replace a2:=Bool.eq_false_iff.mpr a2
   subst a2
   rw[if_neg nft] at H
   obtain⟨bO,bP,H⟩:=oB H
   by_cases ak:(Int.tmod (IntKind.u64.wrap (Int.tdiv G m)) F)=(IntKind.u64.wrap (bO-1))
   ·rw[if_pos ak] at H
    obtain⟨a3,a4⟩:=zt ak
    clear ak
    simp only[Option.some.injEq,Prod.mk.injEq] at H
    obtain⟨rfl,rfl,rfl,rfl,rfl⟩:=H
    obtain⟨dZ,d0⟩:=z2 q
    obtain⟨d1,d2⟩:=z2 d
    obtain⟨bQ,bR,bS,bT⟩:=zc2 a
    go_wp2_with (first|((with_reducible refine gate_callee (f:=60) rfl ?_);refine zgo (some 71) Try.func60 #[.int .i64 j] ?_;(with_reducible refine (grottoref02_power.calls bP.out).mono ?_);rintro e w' ⟨rfl,⟨nd,rfl⟩⟩;refine⟨_,rfl,?_⟩;(try (rw[drewN_self wc];generalize hq_:World.drewN wc _=wc;have n0_:Aside0 (wc.heap[y]?=some (.cells #[.int .i64 l,.int .i64 j] 23 (0,0))):=⟨by rw[←hq_];exact (zk a)⟩;have n1_:Aside0 (wc.heap[s]?=some (.cells #[.int .i64 0,.bool false,.int .i64 0,.int .u64 0] 34 (0,0))):=⟨by rw[←hq_];exact (zk b)⟩;have n2_:Aside0 (wc.heap[B]?=some (.cells #[.int .i64 0,.bool ((IntKind.u64.wrap (Int.tdiv (IntKind.u64.wrap (Int.tdiv G m)) v))==1),.int .i64 0,.int .u64 0] 34 (0,0))):=⟨by rw[←hq_];exact (zk c)⟩;have n3_:Aside0 (Below w.heap.size w wc):=⟨by rw[←hq_];exact (zb HB)⟩;clear a b c HB hq_;have a:=n0_;have b:=n1_;have c:=n2_;have HB:=n3_;clear n0_ n1_ n2_ n3_;obtain⟨y203_0,y203_1,y203_2,y203_3⟩:=zc2 a;obtain⟨y204_0,y204_1,y204_2,y204_3,y204_4,y204_5,y204_6,y204_7⟩:=zc4 b;obtain⟨y210_0,y210_1,y210_2,y210_3,y210_4,y210_5,y210_6,y210_7⟩:=zc4 c));obtain⟨d3,d4⟩:=z2 u;obtain⟨bU,bV,bW,bX,bY,bZ,b0,b1⟩:=zc4 c;obtain⟨b2,b3,b4,b5,b6,b7,b8,b9⟩:=zc4 b))
    refine bodyPost_ret (results_ct rfl _ _ s 34 #[.int .i64 4,.bool ((IntKind.u64.wrap (Int.tdiv (IntKind.u64.wrap (Int.tdiv G m)) v))==1),.int .i64 0,.int .u64 0] (0,0) _ rfl (zkp b) Try.underlying34 rfl (by kernel_rfl)) rfl ?_
    exact zr HB
   rw[if_neg ak] at H
   obtain⟨a3,a4⟩:=zf ak
   have a5:=Aside0.mk H
   clear H
   obtain⟨d5,d6⟩:=z2 q
   obtain⟨d7,d8⟩:=z2 d
   obtain⟨a6,a7,a8,a9⟩:=zc2 a
   go_upto_region 15 with (first|((with_reducible refine gate_callee (f:=60) rfl ?_);refine zgo (some 71) Try.func60 #[.int .i64 j] ?_;(with_reducible refine (grottoref02_power.calls bP.out).mono ?_);rintro e w' ⟨rfl,⟨nd,rfl⟩⟩;refine⟨_,rfl,?_⟩))
   (try simp only[Act.put,List.setIfInBounds_toArray,List.set_cons_zero,List.set_cons_succ])
   go_cut [75] (fun v75 wc=>∃ (kq:Nat) (O:Bool),v75=.bool O∧Aside0 (grottoref02_Open.j1 kq (Int.tmod G I) (Int.tmod (IntKind.u64.wrap (Int.tdiv G m)) F) O l j 0 ((IntKind.u64.wrap (Int.tdiv (IntKind.u64.wrap (Int.tdiv G m)) v))==1) 0 0=some (r1,r2,r3,r4,r5))∧Aside0 (kq≤bw)∧Aside0 (wc.heap[y]?=some (.cells #[.int .i64 l,.int .i64 j] 23 (0,0)))∧Aside0 (wc.heap[s]?=some (.cells #[.int .i64 0,.bool false,.int .i64 0,.int .u64 0] 34 (0,0)))∧Aside0 (wc.heap[B]?=some (.cells #[.int .i64 0,.bool ((IntKind.u64.wrap (Int.tdiv (IntKind.u64.wrap (Int.tdiv G m)) v))==1),.int .i64 0,.int .u64 0] 34 (0,0)))∧Aside0 (Below w.heap.size w wc))
   case first =>
    have H:=a5.out
    clear a5
    by_cases ba:(Int.tmod (IntKind.u64.wrap (Int.tdiv G m)) F)=0
    ·rw[if_pos ba] at H
     obtain⟨P,bi⟩:=zt ba
     clear ba
     (first|rw[P]|(simp only[i64_w,i32_w];rw[P])|skip)
     have H':=Aside0.mk H
     clear H
     go_wp2
     go_meet
     case rel=>exact⟨_,(((Int.tmod G I)==0)),(by first|rfl|(simp[*];done)),H',⟨by have:=bh.out;first|omega|exact Nat.le_refl _⟩,⟨zk a⟩,⟨zk b⟩,⟨zk c⟩,⟨zb HB⟩⟩
    rw[if_neg ba] at H
    obtain⟨P,bi⟩:=zf ba
    (first|rw[P]|(simp only[i64_w,i32_w];rw[P])|skip)
    have H':=Aside0.mk H
    clear H
    go_wp2
    go_meet
    case rel=>exact⟨_,(false),(by first|rfl|(simp[*];done)),H',⟨by have:=bh.out;first|omega|exact Nat.le_refl _⟩,⟨zk a⟩,⟨zk b⟩,⟨zk c⟩,⟨zb HB⟩⟩
   case rest =>
    clear a5
    try clear c1 c2 p2 c3 an ao c6 bd be c8 bf bg ap aq ar au av aw ah eH eI eJ eK eL aj L aS eM eN eO eP a2 ak a3 a4 aB aC aF aG aJ aK aL aM Q R V W Z aa ab ac aT aU aX aY a6 a7 aD aE aH aI aN aO aP aQ T U X Y ad ae af ag aV aW aZ a0 a8 a9 p2
    obtain⟨kq,O,rfl,HA,ez,a,b,c,HB⟩:=hcut
    cases kq with
    | zero=>exact absurd HA.out (by simp[grottoref02_Open.j1])
    | succ eA =>
     have H:=HA.out
     clear HA
     simp only[grottoref02_Open.j1] at H
     by_cases bc:O=true
     ·subst bc
      rw[if_pos rfl] at H
      simp only[Option.some.injEq,Prod.mk.injEq] at H
      obtain⟨rfl,rfl,rfl,rfl,rfl⟩:=H
      obtain⟨d9,ea⟩:=z2 z
      obtain⟨eb,ec⟩:=z2 u
      obtain⟨ca,cb,cc,cd,ce,cf,cg,ch⟩:=zc4 c
      obtain⟨ed,ee⟩:=z2 E
      obtain⟨ci,cj,ck,cl,cm,cn,co,cp⟩:=zc4 b
      go_wp2
      refine bodyPost_ret (results_ct rfl _ _ s 34 #[.int .i64 1,.bool ((IntKind.u64.wrap (Int.tdiv (IntKind.u64.wrap (Int.tdiv G m)) v))==1),.int .i64 0,.int .u64 0] (0,0) _ rfl (zkp b) Try.underlying34 rfl (by kernel_rfl)) rfl ?_
      exact zr HB
     replace bc:=Bool.eq_false_iff.mpr bc
     subst bc
     rw[if_neg nft] at H
     by_cases bb:(Int.tmod (IntKind.u64.wrap (Int.tdiv G m)) F)=0
     ·rw[if_pos bb] at H
      obtain⟨bj,bk⟩:=zt bb
      clear bb
      obtain⟨cq,ef,H⟩:=oB H
      simp only[Option.some.injEq,Prod.mk.injEq] at H
      obtain⟨rfl,rfl,rfl,rfl,rfl⟩:=H
      obtain⟨eg,eh⟩:=z2 q
      obtain⟨ei,ej⟩:=z2 d
      obtain⟨cr,ct,cu,cv⟩:=zc2 a
      go_wp2_with (first|((with_reducible refine gate_callee (f:=61) rfl ?_);refine zgc (some 88) Try.func61 (grottoref02_Least.calls ef.out) ?_;intro eQ hb;replace a:=zkb a hb;replace b:=zkb b hb;replace c:=Aside0.mk (blk_below (g:=B) (o:=.cells #[.int .i64 0,.bool ((IntKind.u64.wrap (Int.tdiv (IntKind.u64.wrap (Int.tdiv G m)) v))==1),.int .i64 0,.int .u64 0] 34 (0,0)) (zk c) hb);replace HB:=zbs HB hb;clear hb;obtain⟨ek,el⟩:=z2 u;obtain⟨cw,cx,cy,cz,cA,cB,cC,cD⟩:=zc4 c;obtain⟨cE,cF,cG,cH,cI,cJ,cK,cL⟩:=zc4 b))
      refine bodyPost_ret (results_ct rfl _ _ s 34 #[.int .i64 2,.bool ((IntKind.u64.wrap (Int.tdiv (IntKind.u64.wrap (Int.tdiv G m)) v))==1),.int .i64 cq,.int .u64 (Int.tmod G I)] (0,0) _ rfl (zkp b) Try.underlying34 rfl (by kernel_rfl)) rfl ?_
      exact zr HB
     rw[if_neg bb] at H
     obtain⟨bj,bk⟩:=zf bb
     obtain⟨cM,em,H⟩:=oB H
     obtain⟨cN,en,H⟩:=oB H
     simp only[Option.some.injEq,Prod.mk.injEq] at H
     obtain⟨rfl,rfl,rfl,rfl,rfl⟩:=H
     try go_wp2
     replace a:=Aside0.mk (blk_drew a.out)
     replace b:=Aside0.mk (blk_drew b.out)
     replace c:=Aside0.mk (blk_drew c.out)
     replace HB:=Aside0.mk (below_drew1 HB.out)
     refine start_ (n:=19) (S:=fun w'=>w'.cell? ⟨y,0,none⟩=some (.int .i64 l)∧w'.cell? ⟨y,1,none⟩=some (.int .i64 j)) (ds:=[]) #[false,false,false,false,false,false,false,false,false,false,false,false,false,false,false,false,false,false,false] (by kernel_rfl) rfl rfl ⟨(blk_cell a.out 0).trans rfl,(blk_cell a.out 1).trans rfl⟩ (fun hHeld=>?_);refine with_tabW grottoref02_Open.tab10 grottoref02_Open.bits10 (fun HT_ HW_=>?_)
     generalize wc.drew=eR at a b c HB hHeld ⊢
     refine zpure_ (i:=0) (N:=some 39) #[true,false,false,false,false,false,false,false,false,false,false,false,false,false,false,false,false,false,false] (any_of HT_.out (by kernel_rfl)) ?_
     refine zpure_ (i:=3) (N:=some 42) #[true,false,false,true,false,false,false,false,false,false,false,false,false,false,false,false,false,false,false] (any_of HT_.out (by kernel_rfl)) ?_
     refine zpure_ (i:=5) (N:=some 44) #[true,false,false,true,false,true,false,false,false,false,false,false,false,false,false,false,false,false,false] (any_of HT_.out (by kernel_rfl)) ?_
     refine zpure_ (i:=6) (N:=some 45) #[true,false,false,true,false,true,true,false,false,false,false,false,false,false,false,false,false,false,false] (any_of HT_.out (by kernel_rfl)) ?_
     refine zpure_ (i:=10) (N:=some 49) #[true,false,false,true,false,true,true,false,false,false,true,false,false,false,false,false,false,false,false] (any_of HT_.out (by kernel_rfl)) ?_
     refine zpure_ (i:=13) (N:=some 52) #[true,false,false,true,false,true,true,false,false,false,true,false,false,true,false,false,false,false,false] (any_of HT_.out (by kernel_rfl)) ?_
     refine ztake_ (i:=1) (N:=some 40) #[true,true,false,true,false,true,true,false,false,false,true,false,false,true,false,false,false,false,false] rfl (take_ofW HT_.out HW_.out (by kernel_rfl)) hHeld (Or.inl ⟨by rfl,by rintro w' ⟨s0,s1⟩;go_simp;with_reducible rfl⟩) ?_
     refine ztake_ (i:=7) (N:=some 46) #[true,true,false,true,false,true,true,true,false,false,true,false,false,true,false,false,false,false,false] rfl (take_ofW HT_.out HW_.out (by kernel_rfl)) hHeld (Or.inl ⟨by rfl,by rintro w' ⟨s0,s1⟩;go_simp;with_reducible rfl⟩) ?_
     refine ztake_ (i:=11) (N:=some 50) #[true,true,false,true,false,true,true,true,false,false,true,true,false,true,false,false,false,false,false] rfl (take_ofW HT_.out HW_.out (by kernel_rfl)) hHeld (Or.inl ⟨by rfl,by rintro w' ⟨s0,s1⟩;go_simp;with_reducible rfl⟩) ?_
     refine one_ (i:=2) (N:=some 41) #[true,true,true,true,false,true,true,true,false,false,true,true,false,true,false,false,false,false,false] rfl rfl (one_of HT_.out (by kernel_rfl)) (by decide) (fun K hK=>?_)
     refine goes_ Try.func60 (by kernel_rfl) rfl #[.int .i64 l] (by rfl) rfl rfl (by (try simp only[List.map_toArray,List.map_cons,List.map_nil]);first|done|rfl|(simp only[List.length_drop,List.length_take];rfl)) ?_
     with_reducible refine (grottoref02_power.calls em.out).mono ?_
     rintro e w' ⟨rfl,⟨nd,rfl⟩⟩
     refine⟨_,rfl,?_⟩
     refine hK.out _ _ ⟨(blk_cell a.out 0).trans rfl,(blk_cell a.out 1).trans rfl⟩ (fun hHeld=>?_)
     clear hK K
     refine norm_ (a':=?_) ?_ ?_
     rotate_left
     ·show Act.put _ (some 41) _=_
      simp only[Act.put,List.setIfInBounds_toArray,List.set_cons_zero,List.set_cons_succ,i64_w,i32_w]
      rfl
     refine zpure_ (i:=4) (N:=some 43) #[true,true,true,true,true,true,true,true,false,false,true,true,false,true,false,false,false,false,false] (any_of HT_.out (by kernel_rfl)) ?_
     refine one_ (i:=8) (N:=some 47) #[true,true,true,true,true,true,true,true,true,false,true,true,false,true,false,false,false,false,false] rfl rfl (one_of HT_.out (by kernel_rfl)) (by decide) (fun K hK=>?_)
     refine goes_ Try.func36 (by kernel_rfl) rfl #[.agg #[.int .i64 l,.int .i64 j]] (by rfl) rfl rfl (by (try simp only[List.map_toArray,List.map_cons,List.map_nil]);first|done|rfl|(simp only[List.length_drop,List.length_take];rfl)) ?_
     with_reducible refine (grottoref02_Bias.calls en.out).mono ?_
     rintro e bl ⟨rfl,hb⟩
     refine⟨_,rfl,?_⟩
     replace a:=zkb a hb
     replace b:=zkb b hb
     replace c:=Aside0.mk (blk_below (g:=B) (o:=.cells #[.int .i64 0,.bool ((IntKind.u64.wrap (Int.tdiv (IntKind.u64.wrap (Int.tdiv G m)) v))==1),.int .i64 0,.int .u64 0] 34 (0,0)) (zk c) hb)
     replace HB:=zbs HB hb
     try clear hb
     refine hK.out _ _ ⟨(blk_cell a.out 0).trans rfl,(blk_cell a.out 1).trans rfl⟩ (fun hHeld=>?_)
     clear hK K
     refine norm_ (a':=?_) ?_ ?_
     rotate_left
     ·show Act.put _ (some 47) _=_
      simp only[Act.put,List.setIfInBounds_toArray,List.set_cons_zero,List.set_cons_succ,i64_w,i32_w]
      rfl
     refine zpure_ (i:=9) (N:=some 48) #[true,true,true,true,true,true,true,true,true,true,true,true,false,true,false,false,false,false,false] (any_of HT_.out (by kernel_rfl)) ?_
     refine zpure_ (i:=12) (N:=some 51) #[true,true,true,true,true,true,true,true,true,true,true,true,true,true,false,false,false,false,false] (any_of HT_.out (by kernel_rfl)) ?_
     refine one_ (i:=14) (N:=none) #[true,true,true,true,true,true,true,true,true,true,true,true,true,true,true,false,false,false,false] rfl rfl (one_of HT_.out (by kernel_rfl)) (by decide) (fun K hK=>?_)
     have hs78:bl.cell? ⟨B,0,none⟩=some (.int .i64 0):=(blk_cell c.out 0).trans rfl
     have hfs78:=blk_frozen c.out 0
     have cO:=d.out
     have cP:=J.out
     have cQ:=z.out
     have cR:=u.out
     refine skip_ (w1:=?_) (by rfl) rfl ?_ ?_
     rotate_left
     ·go_simp
      rfl
     refine hK.out _ _ ⟨((cell_far (p:=⟨B,_,none⟩) d.out _).trans (hHeld.1)),((cell_far (p:=⟨B,_,none⟩) d.out _).trans (hHeld.2))⟩ (fun hHeld=>?_)
     clear hK K
     refine zpure_ (i:=15) (N:=some 53) #[true,true,true,true,true,true,true,true,true,true,true,true,true,true,true,true,false,false,false] (any_of HT_.out (by kernel_rfl)) ?_
     refine one_ (i:=16) (N:=none) #[true,true,true,true,true,true,true,true,true,true,true,true,true,true,true,true,true,false,false] rfl rfl (one_of HT_.out (by kernel_rfl)) (by decide) (fun K hK=>?_)
     have hs79:bl.cell? ⟨B,3,none⟩=some (.int .u64 0):=(blk_cell c.out 3).trans rfl
     have hfs79:=blk_frozen c.out 3
     have cS:=d.out
     have cT:=J.out
     have cU:=z.out
     have cV:=u.out
     refine skip_ (w1:=?_) (by rfl) rfl ?_ ?_
     rotate_left
     ·go_simp
      rfl
     refine hK.out _ _ ⟨((cell_far (p:=⟨B,_,none⟩) d.out _).trans (hHeld.1)),((cell_far (p:=⟨B,_,none⟩) d.out _).trans (hHeld.2))⟩ (fun hHeld=>?_)
     clear hK K
     refine zpure_ (i:=17) (N:=some 54) #[true,true,true,true,true,true,true,true,true,true,true,true,true,true,true,true,true,true,false] (any_of HT_.out (by kernel_rfl)) ?_
     refine one_ (i:=18) (N:=none) #[true,true,true,true,true,true,true,true,true,true,true,true,true,true,true,true,true,true,true] rfl rfl (one_of HT_.out (by kernel_rfl)) (by decide) (fun K hK=>?_)
     have hs80:bl.cell? ⟨B,2,none⟩=some (.int .i64 0):=(blk_cell c.out 2).trans rfl
     have hfs80:=blk_frozen c.out 2
     have cW:=d.out
     have cX:=J.out
     have cY:=z.out
     have cZ:=u.out
     refine skip_ (w1:=?_) (by rfl) rfl ?_ ?_
     rotate_left
     ·go_simp
      rfl
     refine hK.out _ _ ⟨((cell_far (p:=⟨B,_,none⟩) d.out _).trans (hHeld.1)),((cell_far (p:=⟨B,_,none⟩) d.out _).trans (hHeld.2))⟩ (fun hHeld=>?_)
     clear hK K
     refine done_ (done_of HT_.out (by kernel_rfl)) ?_
     obtain⟨eo,ep⟩:=z2 z
     obtain⟨eq,er⟩:=z2 u
     obtain⟨c0,c5,c7,c9,da,db,dc,dd⟩:=zc4 c
     obtain⟨es,et⟩:=z2 E
     obtain⟨de,df,dg,dh,di,dj,dk,dl⟩:=zc4 b
     try go_wp2
     refine bodyPost_ret (results_ct rfl _ _ s 34 #[.int .i64 2,.bool ((IntKind.u64.wrap (Int.tdiv (IntKind.u64.wrap (Int.tdiv G m)) v))==1),.int .i64 (wrap64 ((wrap64 ((wrap64 ((Int.tmod (IntKind.u64.wrap (Int.tdiv G m)) F)))-cN))-l)),.int .u64 (IntKind.u64.wrap (cM+(Int.tmod G I)))] (0,0) _ rfl (zkp b) Try.underlying34 rfl (by kernel_rfl)) rfl ?_
     exact zr HB
end Go.Proofs.Ytmmbgbchimangaa.PQ
