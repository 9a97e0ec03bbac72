-- by a program of this claim
import Derived.Test.YtmmbgbchimangaaPQx0
import Derived.Test.YtmmbgbchimangaaPQx1
import Derived.Test.YtmmbgbchimangaaPQx2
import Derived.Test.YtmmbgbchimangaaPQx4
namespace Go.Proofs.Ytmmbgbchimangaa.PQ
open Go.RowKit Go.Proofs.YtmmbgbchimangaaW.PrintWords Go.Proofs.YtmmbgbchimangaaW.PrintLast Go.Proofs.YtmmbgbchimangaaW.PrintMore Go.Proofs.Ytmmbgbchimangaa.Z
attribute [local go_sem] max2_int min2_int max_two min_two max_three min_three max_four min_four   -- for this text's walks alone
set_option linter.unusedVariables false
set_option linter.unusedSimpArgs false

/-! ### soft_root: function 70 -/
def soft_root.l0:Nat→Int→Int→Int→Int→Option (Int)
 | 0,_,_,_,_=>none
 | k+1,c,d,b,a=>if a≥0 then (if 0≤a then ((bits_Mul64.f (Go.bits .or .u64 b (shl .u64 1 a)) (Go.bits .or .u64 b (shl .u64 1 a))).bind fun e=>(if e.1<c then (soft_root.l0 k c d (Go.bits .or .u64 b (shl .u64 1 a)) (wrap64 (a-1))) else (if e.1=c then (if e.2≤d then (soft_root.l0 k c d (Go.bits .or .u64 b (shl .u64 1 a)) (wrap64 (a-1))) else (soft_root.l0 k c d b (wrap64 (a-1)))) else (soft_root.l0 k c d b (wrap64 (a-1)))))) else (none)) else (some b)
def soft_root.f (k:Nat) (a0:Int) (a1:Int):Option (Int):=soft_root.l0 k a0 a1 0 63
theorem soft_root.mono_l:∀ k,(∀ y0 y1 y2 y3,LeO (soft_root.l0 k y0 y1 y2 y3) (soft_root.l0 (k+1) y0 y1 y2 y3))
 | 0=>fun _ _ _ _ r h=>by simp[soft_root.l0] at h
 | k+1=>by
  have ih0:=soft_root.mono_l k
  intros;unfold soft_root.l0;repeat' first|(with_reducible first|apply ih0|exact LeO.refl _|exact LeO.none _|refine LeO.ite ?_ ?_|refine LeO.bind ?_ (fun _=>?_))|refine LeO.ite ?_ ?_|refine LeO.bind ?_ (fun _=>?_)
theorem soft_root.mono:∀ a0 a1 k,LeO (soft_root.f k a0 a1) (soft_root.f (k+1) a0 a1):=by
 intro a0 a1 k
 have ih0:=soft_root.mono_l k
 unfold soft_root.f
 repeat' first|(with_reducible first|apply ih0|exact LeO.refl _|exact LeO.none _|refine LeO.ite ?_ ?_|refine LeO.bind ?_ (fun _=>?_))|refine LeO.ite ?_ ?_|refine LeO.bind ?_ (fun _=>?_)
set_option maxHeartbeats 8000000 in
set_option maxRecDepth 100000 in
theorem soft_root.calls {k:Nat} {j:Int} {m:Int} {r:Int} {w:World} (h:soft_root.f k j m=some r) :
  Calls Try.prog 70 #[.int .u64 j,.int .u64 m] w fun e w'=>e=.returned (.int .u64 r)∧Drawn0 w w':=by
 have H:=h
 unfold soft_root.f at H
 clear h
 have H':=Aside0.mk H
 clear H
 go_enter Try.func70,Try.ntmps70
 go_wp2
 go_loopg [5,6] k (fun kq v5 v6 w'=>∃ (b:Int) (a:Int),v5=.int .u64 b∧v6=.int .i64 a∧Aside0 (soft_root.l0 kq j m b a=some r)∧Aside0 (kq≤k)∧Drawn0 w w')
 case atStart=>exact⟨(0),(63),(by first|rfl|(simp[*];done)),(by first|rfl|(simp[*];done)),H',⟨Nat.le_refl _⟩,by repeat (first|exact Drawn0.refl _|apply Drawn0.step)⟩
 case round =>
  clear H'
  obtain⟨b,a,rfl,rfl,HA,g,⟨m1,rfl⟩⟩:=hrel
  cases gk with
  | zero=>exact absurd HA.out (by simp[soft_root.l0])
  | succ k1 =>
   have H:=HA.out
   clear HA
   simp only[soft_root.l0] at H
   by_cases q:a≥0
   rotate_left
   ·rw[if_neg q] at H
    have v:decide (0≤a)=false:=decide_eq_false q
    clear q
    obtain rfl:=Option.some.inj H
    go_wp2
    go_ret
    exact⟨by first|rfl|(simp;done)|(simp[*];done),by repeat (first|exact Drawn0.refl _|apply Drawn0.step)⟩

   rw[if_pos q] at H
   have v:decide (0≤a)=true:=decide_eq_true q
   clear q
   by_cases y:0≤a
   rotate_left
   ·rw[if_neg y] at H
    exact absurd H (by simp)
   rw[if_pos y] at H
   have J:=eq_true y
   have K:decide (0≤a)=true:=decide_eq_true y
   clear y
   obtain⟨c,d⟩:∃ j_:Int,(shl .u64 1 a)=j_:=⟨_,rfl⟩
   first|rw[d] at H|simp only[d] at H
   have o:(IntKind.u64.wrap (1*2^min a.toNat 64))=c:=d
   have p:a≤64→(IntKind.u64.wrap (1*2^a.toNat))=c:=shl_small d
   have G:(IntKind.u64.wrap (2^min a.toNat 64))=c:=by have h_:=o;rw[Int.one_mul] at h_;exact h_
   have I:a≤64→(IntKind.u64.wrap (2^a.toNat))=c:=fun hle_=>by have h_:=p hle_;rw[Int.one_mul] at h_;exact h_
   obtain⟨⟨l,n⟩,F,H⟩:=oB H
   try dsimp only at H
   by_cases s:l<j
   ·rw[if_pos s] at H
    have z:decide (l<j)=true:=decide_eq_true s
    clear s
    have H':=Aside0.mk H
    clear H
    go_wp2_with (first|((with_reducible refine gate_callee (f:=71) rfl ?_);refine goesL_ (some 21) rfl rfl Try.func71 (by kernel_rfl) rfl #[.int .u64 (Go.bits .or .u64 b (c)),.int .u64 (Go.bits .or .u64 b (c))] rfl (by (try simp only[List.map_toArray,List.map_cons,List.map_nil]);first|done|(simp only[d];rfl)|rfl|(simp only[List.length_drop,List.length_take];rfl)) ?_;(with_reducible refine (bits_Mul64.calls F.out).mono ?_);rintro e w' ⟨rfl,⟨nd,rfl⟩⟩;refine⟨_,rfl,?_⟩))
    go_roundg k1
    case measure=>have:=g.out;omega
    case rel=>exact⟨(Go.bits .or .u64 b (c)),(wrap64 (a-1)),(by first|rfl|(simp;done)|(simp only[←d] <;> (first|rfl|simp))|(simp[*];done)),(by first|rfl|(simp[*];done)),H',⟨by have:=g.out;omega⟩,by repeat (first|exact Drawn0.refl _|apply Drawn0.step)⟩
   rw[if_neg s] at H
   have z:decide (l<j)=false:=decide_eq_false s
   clear s
   by_cases B:l=j
   ·rw[if_pos B] at H
    obtain⟨C,D⟩:=zt B
    clear B
    by_cases u:n≤m
    ·rw[if_pos u] at H
     have E:decide (n≤m)=true:=decide_eq_true u
     clear u
     have H':=Aside0.mk H
     clear H
     go_wp2_with (first|((with_reducible refine gate_callee (f:=71) rfl ?_);refine goesL_ (some 21) rfl rfl Try.func71 (by kernel_rfl) rfl #[.int .u64 (Go.bits .or .u64 b (c)),.int .u64 (Go.bits .or .u64 b (c))] rfl (by (try simp only[List.map_toArray,List.map_cons,List.map_nil]);first|done|(simp only[d];rfl)|rfl|(simp only[List.length_drop,List.length_take];rfl)) ?_;(with_reducible refine (bits_Mul64.calls F.out).mono ?_);rintro e w' ⟨rfl,⟨nd,rfl⟩⟩;refine⟨_,rfl,?_⟩))
     go_roundg k1
     case measure=>have:=g.out;omega
     case rel=>exact⟨(Go.bits .or .u64 b (c)),(wrap64 (a-1)),(by first|rfl|(simp;done)|(simp only[←d] <;> (first|rfl|simp))|(simp[*];done)),(by first|rfl|(simp[*];done)),H',⟨by have:=g.out;omega⟩,by repeat (first|exact Drawn0.refl _|apply Drawn0.step)⟩
    rw[if_neg u] at H
    have E:decide (n≤m)=false:=decide_eq_false u
    clear u
    have H':=Aside0.mk H
    clear H
    go_wp2_with (first|((with_reducible refine gate_callee (f:=71) rfl ?_);refine goesL_ (some 21) rfl rfl Try.func71 (by kernel_rfl) rfl #[.int .u64 (Go.bits .or .u64 b (c)),.int .u64 (Go.bits .or .u64 b (c))] rfl (by (try simp only[List.map_toArray,List.map_cons,List.map_nil]);first|done|(simp only[d];rfl)|rfl|(simp only[List.length_drop,List.length_take];rfl)) ?_;(with_reducible refine (bits_Mul64.calls F.out).mono ?_);rintro e w' ⟨rfl,⟨nd,rfl⟩⟩;refine⟨_,rfl,?_⟩))
    go_roundg k1
    case measure=>have:=g.out;omega
    case rel=>exact⟨(b),(wrap64 (a-1)),(by first|rfl|(simp[*];done)),(by first|rfl|(simp[*];done)),H',⟨by have:=g.out;omega⟩,by repeat (first|exact Drawn0.refl _|apply Drawn0.step)⟩
   rw[if_neg B] at H
   obtain⟨C,D⟩:=zf B
   have H':=Aside0.mk H
   clear H
   go_wp2_with (first|((with_reducible refine gate_callee (f:=71) rfl ?_);refine goesL_ (some 21) rfl rfl Try.func71 (by kernel_rfl) rfl #[.int .u64 (Go.bits .or .u64 b (c)),.int .u64 (Go.bits .or .u64 b (c))] rfl (by (try simp only[List.map_toArray,List.map_cons,List.map_nil]);first|done|(simp only[d];rfl)|rfl|(simp only[List.length_drop,List.length_take];rfl)) ?_;(with_reducible refine (bits_Mul64.calls F.out).mono ?_);rintro e w' ⟨rfl,⟨nd,rfl⟩⟩;refine⟨_,rfl,?_⟩))
   go_roundg k1
   case measure=>have:=g.out;omega
   case rel=>exact⟨(b),(wrap64 (a-1)),(by first|rfl|(simp[*];done)),(by first|rfl|(simp[*];done)),H',⟨by have:=g.out;omega⟩,by repeat (first|exact Drawn0.refl _|apply Drawn0.step)⟩
/-! ### soft_Sqrt: function 28 -/
def soft_Sqrt.j0:Nat→Int→Bool→Int→Int→Int→Bool→Int→Int→Option (Int×Int)
 | 0,_,_,_,_,_,_,_,_=>none
 | k+1,p,q,b,c,r,s,d,e=>if q=true then (some (p,0)) else (if r=4 then ((round_NaN.f b c).bind fun t=>(some (t,0))) else (if s=true then ((round_NaN.f b c).bind fun u=>(some (u,0))) else ((bits_LeadingZeros64.f k e).bind fun a=>(if (Int.tmod (wrap64 (d-a)) 2)=0 then (if 0≤a then ((soft_root.f k (shl .u64 e a) 0).bind fun g=>((bits_Mul64.f g g).bind fun i=>(if i.1=(shl .u64 e a) then ((round_Pack.f k b c false 0 g (wrap64 (Int.tdiv (wrap64 ((wrap64 (d-a))-64)) 2)) (i.2 != 0)).bind fun j=>(some (j.1,j.2))) else ((round_Pack.f k b c false 0 g (wrap64 (Int.tdiv (wrap64 ((wrap64 (d-a))-64)) 2)) true).bind fun l=>(some (l.1,l.2)))))) else (none)) else (if 0≤(wrap64 (a-1)) then ((soft_root.f k (shl .u64 e (wrap64 (a-1))) 0).bind fun h=>((bits_Mul64.f h h).bind fun m=>(if m.1=(shl .u64 e (wrap64 (a-1))) then ((round_Pack.f k b c false 0 h (wrap64 (Int.tdiv (wrap64 ((wrap64 (d-(wrap64 (a-1))))-64)) 2)) (m.2 != 0)).bind fun n=>(some (n.1,n.2))) else ((round_Pack.f k b c false 0 h (wrap64 (Int.tdiv (wrap64 ((wrap64 (d-(wrap64 (a-1))))-64)) 2)) true).bind fun o=>(some (o.1,o.2)))))) else (none))))))
def soft_Sqrt.f (k:Nat) (a0_0:Int) (a0_1:Int) (a1:Int):Option (Int×Int):=(round_Open.f k a0_0 a0_1 a1).bind fun a=>(if a.2.2.2.2=0 then (if a.1=1 then (soft_Sqrt.j0 k a1 true a0_0 a0_1 a.1 a.2.1 a.2.2.1 a.2.2.2.1) else (if a.1=3 then (soft_Sqrt.j0 k a1 (!a.2.1) a0_0 a0_1 a.1 a.2.1 a.2.2.1 a.2.2.2.1) else (soft_Sqrt.j0 k a1 false a0_0 a0_1 a.1 a.2.1 a.2.2.1 a.2.2.2.1))) else (some (0,a.2.2.2.2)))
theorem soft_Sqrt.mono_l:∀ k,(∀ y0 y1 y2 y3 y4 y5 y6 y7,LeO (soft_Sqrt.j0 k y0 y1 y2 y3 y4 y5 y6 y7) (soft_Sqrt.j0 (k+1) y0 y1 y2 y3 y4 y5 y6 y7))
 | 0=>fun _ _ _ _ _ _ _ _ r h=>by simp[soft_Sqrt.j0] at h
 | k+1=>by
  have ih0:=soft_Sqrt.mono_l k
  intros;unfold soft_Sqrt.j0;repeat' first|(with_reducible first|apply ih0|apply bits_LeadingZeros64.mono|apply round_Open.mono|apply round_Pack.mono|apply soft_root.mono|exact LeO.refl _|exact LeO.none _|refine LeO.ite ?_ ?_|refine LeO.bind ?_ (fun _=>?_))|refine LeO.ite ?_ ?_|refine LeO.bind ?_ (fun _=>?_)
theorem soft_Sqrt.mono:∀ a0 a1 a2 k,LeO (soft_Sqrt.f k a0 a1 a2) (soft_Sqrt.f (k+1) a0 a1 a2):=by
 intro a0 a1 a2 k
 have ih0:=soft_Sqrt.mono_l k
 unfold soft_Sqrt.f
 repeat' first|(with_reducible first|apply ih0|apply bits_LeadingZeros64.mono|apply round_Open.mono|apply round_Pack.mono|apply soft_root.mono|exact LeO.refl _|exact LeO.none _|refine LeO.ite ?_ ?_|refine LeO.bind ?_ (fun _=>?_))|refine LeO.ite ?_ ?_|refine LeO.bind ?_ (fun _=>?_)
set_option maxHeartbeats 8000000 in
set_option maxRecDepth 100000 in
theorem soft_Sqrt.calls {k:Nat} {g:Int} {i:Int} {a1:Int} {r1:Int} {r2:Int} {w:World} (h:soft_Sqrt.f k g i a1=some (r1,r2)) :
  Calls Try.prog 28 #[.agg #[.int .i64 g,.int .i64 i],.int .u64 a1] w fun e w'=>e=.returned (.tuple #[.int .u64 r1,.int .i64 r2])∧Below w.heap.size w w':=by
 have hu23:=Try.underlying23
 have hu34:=Try.underlying34
 have HB:=Aside0.mk (Below.refl w.heap.size w)
 have H:=h
 unfold soft_Sqrt.f at H
 clear h
 obtain⟨⟨G,K,p,m,aK⟩,A3,H⟩:=oB H
 try dsimp only at H
 by_cases c4:aK=0
 rotate_left
 ·rw[if_neg c4] at H
  obtain⟨an,ao⟩:=zf c4
  simp only[Option.some.injEq,Prod.mk.injEq] at H
  obtain⟨rfl,rfl⟩:=H
  go_enter Try.func28,Try.ntmps28
  go_wp2_with (first|((with_reducible refine gate_dst (N:=2) rfl ?_);refine zbox (N:=2) (cs:=#[.int .i64 g,.int .i64 i]) (t:=23) ?_;intro L hg dC hbox hb;have a:=Aside0.mk hbox;have av:=zge hg HB;have aw:=zge hg HB;replace HB:=zbs HB hb;clear hb hbox hg;obtain⟨cu,cv,cw,cx⟩:=zc2 a)|((with_reducible refine gate_callee (f:=68) rfl ?_);refine zgc (some 16) Try.func68 (round_Open.calls A3.out) ?_;intro dD hb;obtain⟨a,HB⟩:=zu1 a HB hb;clear hb)|((with_reducible refine gate_dst (N:=6) rfl ?_);refine zbox (N:=6) (cs:=#[.int .i64 0,.bool false,.int .i64 0,.int .u64 0]) (t:=34) ?_;intro M hg dE hbox hb;have b:=Aside0.mk hbox;have ax:=zge hg HB;have ay:=zge hg HB;have I:=znl hg a;have c:=zng hg a;obtain⟨a,HB⟩:=zu1 a HB hb;clear hb hbox hg;obtain⟨dg,dh⟩:=z2 c;obtain⟨cy,cz,cA,cB,cC,cD,cE,cF⟩:=zc4 b))
  go_ret2
  exact zr HB

 rw[if_pos c4] at H
 obtain⟨an,ao⟩:=zt c4
 clear c4
 have au:=Aside0.mk H
 clear H
 go_enter Try.func28,Try.ntmps28
 go_upto_region 4 with (first|((with_reducible refine gate_dst (N:=2) rfl ?_);refine zbox (N:=2) (cs:=#[.int .i64 g,.int .i64 i]) (t:=23) ?_;intro L hg w6 hbox hb;have a:=Aside0.mk hbox;have av:=zge hg HB;have aw:=zge hg HB;replace HB:=zbs HB hb;clear hb hbox hg;obtain⟨ah,ai,aj,ak⟩:=zc2 a)|((with_reducible refine gate_callee (f:=68) rfl ?_);refine zgc (some 16) Try.func68 (round_Open.calls A3.out) ?_;intro w8 hb;obtain⟨a,HB⟩:=zu1 a HB hb;clear hb)|((with_reducible refine gate_dst (N:=6) rfl ?_);refine zbox (N:=6) (cs:=#[.int .i64 0,.bool false,.int .i64 0,.int .u64 0]) (t:=34) ?_;intro M hg w9 hbox hb;have b:=Aside0.mk hbox;have ax:=zge hg HB;have ay:=zge hg HB;have I:=znl hg a;have c:=zng hg a;obtain⟨a,HB⟩:=zu1 a HB hb;clear hb hbox hg;obtain⟨cL,cM⟩:=z2 c;obtain⟨O,P,Q,R,S,T,U,V⟩:=zc4 b))
 (try simp only[Act.put,List.setIfInBounds_toArray,List.set_cons_zero,List.set_cons_succ])
 go_cut [23] (fun v23 wc=>∃ (kq:Nat) (E:Bool),v23=.bool E∧Aside0 (soft_Sqrt.j0 kq a1 E g i G K p m=some (r1,r2))∧Aside0 (kq≤k)∧Aside0 (wc.heap[L]?=some (.cells #[.int .i64 g,.int .i64 i] 23 (0,0)))∧Aside0 (wc.heap[M]?=some (.cells #[.int .i64 G,.bool K,.int .i64 p,.int .u64 m] 34 (0,0)))∧Aside0 (Below w.heap.size w wc))
 case first =>
  have H:=au.out
  clear au
  by_cases W:G=1
  ·rw[if_pos W] at H
   obtain⟨v,az⟩:=zt W
   clear W
   (first|rw[v]|(simp only[i64_w,i32_w];rw[v])|skip)
   have H':=Aside0.mk H
   clear H
   obtain⟨cN,cO⟩:=z2 c
   obtain⟨aM,aN,aO,aP,aQ,aR,aS,aT⟩:=zc4 b
   go_wp2
   go_meet
   case rel=>exact⟨_,(true),(by first|rfl|(simp[*];done)),H',⟨by omega⟩,⟨zk a⟩,⟨zkp b⟩,⟨zb HB⟩⟩
  rw[if_neg W] at H
  obtain⟨v,az⟩:=zf W
  (first|rw[v]|(simp only[i64_w,i32_w];rw[v])|skip)
  by_cases X:G=3
  ·rw[if_pos X] at H
   obtain⟨aA,aB⟩:=zt X
   clear X
   have H':=Aside0.mk H
   clear H
   obtain⟨cP,cQ⟩:=z2 c
   obtain⟨aU,aV,aW,aX,aY,aZ,a0,a2⟩:=zc4 b
   go_wp2
   go_meet
   case rel=>exact⟨_,(!K),(by first|rfl|(simp[*];done)),H',⟨by omega⟩,⟨zk a⟩,⟨zkp b⟩,⟨zb HB⟩⟩
  rw[if_neg X] at H
  obtain⟨aA,aB⟩:=zf X
  have H':=Aside0.mk H
  clear H
  obtain⟨cR,cS⟩:=z2 c
  obtain⟨a3,a4,a5,a6,a7,a8,a9,ba⟩:=zc4 b
  go_wp2
  go_meet
  case rel=>exact⟨_,(false),(by first|rfl|(simp[*];done)),H',⟨by omega⟩,⟨zk a⟩,⟨zkp b⟩,⟨zb HB⟩⟩
 case rest =>
  clear au
  try clear an ao O P Q R ah ai S T U V aj ak
  obtain⟨kq,E,rfl,HA,dv,a,b,HB⟩:=hcut
  cases kq with
  | zero=>exact absurd HA.out (by simp[soft_Sqrt.j0])
  | succ F =>
   have H:=HA.out
   clear HA
   simp only[soft_Sqrt.j0] at H
   by_cases al:E=true
   ·subst al
    rw[if_pos rfl] at H
    simp only[Option.some.injEq,Prod.mk.injEq] at H
    obtain⟨rfl,rfl⟩:=H
    go_wp2
    go_ret2
    exact zr HB
   replace al:=Bool.eq_false_iff.mpr al
   subst al
   rw[if_neg nft] at H
   by_cases Y:G=4
   ·rw[if_pos Y] at H
    obtain⟨aC,aD⟩:=zt Y
    clear Y
    obtain⟨dj,cT,H⟩:=oB H
    simp only[Option.some.injEq,Prod.mk.injEq] at H
    obtain⟨rfl,rfl⟩:=H
    obtain⟨cU,cV⟩:=z2 c
    obtain⟨bb,bc,bd,be,bf,bg,bh,bi⟩:=zc4 b
    obtain⟨bj,bk,bl,bm⟩:=zc2 a
    go_wp2_with (first|((with_reducible refine gate_callee (f:=49) rfl ?_);refine zgc (some 47) Try.func49 (round_NaN.calls cT.out) ?_;intro dw hb;obtain⟨a,b,HB⟩:=zu2 a b HB hb;clear hb))
    go_ret2
    exact zr HB
   rw[if_neg Y] at H
   obtain⟨aC,aD⟩:=zf Y
   by_cases am:K=true
   ·subst am
    rw[if_pos rfl] at H
    obtain⟨dk,cW,H⟩:=oB H
    simp only[Option.some.injEq,Prod.mk.injEq] at H
    obtain⟨rfl,rfl⟩:=H
    obtain⟨cX,cY⟩:=z2 c
    obtain⟨bn,bo,bp,bq,br,bs,bt,bu⟩:=zc4 b
    obtain⟨bv,bw,bx,bz⟩:=zc2 a
    go_wp2_with (first|((with_reducible refine gate_callee (f:=49) rfl ?_);refine zgc (some 47) Try.func49 (round_NaN.calls cW.out) ?_;intro dx hb;obtain⟨a,b,HB⟩:=zu2 a b HB hb;clear hb))
    go_ret2
    exact zr HB
   replace am:=Bool.eq_false_iff.mpr am
   subst am
   rw[if_neg nft] at H
   obtain⟨q,J,H⟩:=oB H
   by_cases Z:(Int.tmod (wrap64 (p-q)) 2)=0
   ·rw[if_pos Z] at H
    obtain⟨aE,aF⟩:=zt Z
    clear Z
    by_cases aa:0≤q
    rotate_left
    ·rw[if_neg aa] at H
     exact absurd H (by simp)
    rw[if_pos aa] at H
    have cZ:=eq_true aa
    have c0:decide (0≤q)=true:=decide_eq_true aa
    clear aa
    obtain⟨y,n⟩:∃ j_:Int,(shl .u64 m q)=j_:=⟨_,rfl⟩
    first|rw[n] at H|simp only[n] at H
    (try rw[n] at J)
    have cG:(IntKind.u64.wrap (m*2^min q.toNat 64))=y:=n
    have cH:q≤64→(IntKind.u64.wrap (m*2^q.toNat))=y:=shl_small n
    obtain⟨u,bA,H⟩:=oB H
    obtain⟨⟨bB,dl⟩,bC,H⟩:=oB H
    try dsimp only at H
    by_cases ae:bB=(y)
    ·rw[if_pos ae] at H
     obtain⟨aG,aH⟩:=zt ae
     clear ae
     obtain⟨⟨dm,dn⟩,c1,H⟩:=oB H
     try dsimp only at H
     simp only[Option.some.injEq,Prod.mk.injEq] at H
     obtain⟨rfl,rfl⟩:=H
     obtain⟨c2,c3⟩:=z2 c
     obtain⟨bD,bE,bF,bG,bH,bI,bJ,bK⟩:=zc4 b
     go_wp2_with (first|((with_reducible refine gate_callee (f:=69) rfl ?_);refine zgo (some 50) Try.func69 #[.int .u64 m] ?_;(with_reducible refine (bits_LeadingZeros64.calls J.out).mono ?_);rintro e w' ⟨rfl,⟨nd,rfl⟩⟩;refine⟨_,rfl,?_⟩)|((with_reducible refine gate_callee (f:=70) rfl ?_);refine goesL_ (some 64) rfl rfl Try.func70 (by kernel_rfl) rfl #[.int .u64 y,.int .u64 0] rfl (by (try simp only[List.map_toArray,List.map_cons,List.map_nil]);first|done|(simp only[n];rfl)|rfl|(simp only[List.length_drop,List.length_take];rfl)) ?_;(with_reducible refine (soft_root.calls bA.out).mono ?_);rintro e w' ⟨rfl,⟨nd,rfl⟩⟩;refine⟨_,rfl,?_⟩)|((with_reducible refine gate_callee (f:=71) rfl ?_);refine zgo (some 68) Try.func71 #[.int .u64 u,.int .u64 u] ?_;(with_reducible refine (bits_Mul64.calls bC.out).mono ?_);rintro e w' ⟨rfl,⟨nd,rfl⟩⟩;refine⟨_,rfl,?_⟩;obtain⟨bL,bM,bN,bO⟩:=zc2 a)|((with_reducible refine gate_callee (f:=51) rfl ?_);refine zgc (some 86) Try.func51 (round_Pack.calls c1.out) ?_;intro dy hb;obtain⟨a,b,HB⟩:=zu2 a b HB hb;clear hb))
     go_ret2
     exact⟨by first|rfl|(simp[errW_none,errW_some] <;> rfl)|(simp only[←n];first|rfl|(simp[errW_none,errW_some] <;> rfl))|(simp[*,errW_none,errW_some] <;> rfl),zb HB⟩
    rw[if_neg ae] at H
    obtain⟨aG,aH⟩:=zf ae
    obtain⟨⟨dp,dq⟩,c5,H⟩:=oB H
    try dsimp only at H
    simp only[Option.some.injEq,Prod.mk.injEq] at H
    obtain⟨rfl,rfl⟩:=H
    obtain⟨c6,c7⟩:=z2 c
    obtain⟨bP,bQ,bR,bS,bT,bU,bV,bW⟩:=zc4 b
    go_wp2_with (first|((with_reducible refine gate_callee (f:=69) rfl ?_);refine zgo (some 50) Try.func69 #[.int .u64 m] ?_;(with_reducible refine (bits_LeadingZeros64.calls J.out).mono ?_);rintro e w' ⟨rfl,⟨nd,rfl⟩⟩;refine⟨_,rfl,?_⟩)|((with_reducible refine gate_callee (f:=70) rfl ?_);refine goesL_ (some 64) rfl rfl Try.func70 (by kernel_rfl) rfl #[.int .u64 y,.int .u64 0] rfl (by (try simp only[List.map_toArray,List.map_cons,List.map_nil]);first|done|(simp only[n];rfl)|rfl|(simp only[List.length_drop,List.length_take];rfl)) ?_;(with_reducible refine (soft_root.calls bA.out).mono ?_);rintro e w' ⟨rfl,⟨nd,rfl⟩⟩;refine⟨_,rfl,?_⟩)|((with_reducible refine gate_callee (f:=71) rfl ?_);refine zgo (some 68) Try.func71 #[.int .u64 u,.int .u64 u] ?_;(with_reducible refine (bits_Mul64.calls bC.out).mono ?_);rintro e w' ⟨rfl,⟨nd,rfl⟩⟩;refine⟨_,rfl,?_⟩;obtain⟨bX,bY,bZ,b0⟩:=zc2 a)|((with_reducible refine gate_callee (f:=51) rfl ?_);refine zgc (some 86) Try.func51 (round_Pack.calls c5.out) ?_;intro dz hb;obtain⟨a,b,HB⟩:=zu2 a b HB hb;clear hb))
    go_ret2
    exact⟨by first|rfl|(simp[errW_none,errW_some] <;> rfl)|(simp only[←n];first|rfl|(simp[errW_none,errW_some] <;> rfl))|(simp[*,errW_none,errW_some] <;> rfl),zb HB⟩
   rw[if_neg Z] at H
   obtain⟨aE,aF⟩:=zf Z
   obtain⟨j,s⟩:∃ j_:Int,(wrap64 (q-1))=j_:=⟨_,rfl⟩
   first|rw[s] at H|simp only[s] at H
   (try rw[s] at J)
   have cI:(IntKind.i64.wrap (q-1))=j:=(i64_w _).trans s
   by_cases af:0≤(j)
   rotate_left
   ·rw[if_neg af] at H
    exact absurd H (by simp)
   rw[if_pos af] at H
   have c8:=eq_true af
   have c9:decide (0≤(j))=true:=decide_eq_true af
   clear af
   obtain⟨D,o⟩:∃ j_:Int,(shl .u64 m (j))=j_:=⟨_,rfl⟩
   first|rw[o] at H|simp only[o] at H
   (try rw[o] at J)
   have cJ:(IntKind.u64.wrap (m*2^min (j).toNat 64))=D:=o
   have cK:(j)≤64→(IntKind.u64.wrap (m*2^(j).toNat))=D:=shl_small o
   obtain⟨l,b1,H⟩:=oB H
   obtain⟨⟨b2,b3⟩,b4,H⟩:=oB H
   try dsimp only at H
   by_cases ag:b2=(D)
   ·rw[if_pos ag] at H
    obtain⟨aI,aJ⟩:=zt ag
    clear ag
    obtain⟨⟨dr,ds⟩,da,H⟩:=oB H
    try dsimp only at H
    simp only[Option.some.injEq,Prod.mk.injEq] at H
    obtain⟨rfl,rfl⟩:=H
    obtain⟨db,dc⟩:=z2 c
    obtain⟨b5,b6,b7,b8,b9,ca,cb,cc⟩:=zc4 b
    go_wp2_with (first|((with_reducible refine gate_callee (f:=69) rfl ?_);refine zgo (some 50) Try.func69 #[.int .u64 m] ?_;(with_reducible refine (bits_LeadingZeros64.calls J.out).mono ?_);rintro e w' ⟨rfl,⟨nd,rfl⟩⟩;refine⟨_,rfl,?_⟩)|((with_reducible refine gate_callee (f:=70) rfl ?_);refine goesL_ (some 64) rfl rfl Try.func70 (by kernel_rfl) rfl #[.int .u64 D,.int .u64 0] rfl (by (try simp only[List.map_toArray,List.map_cons,List.map_nil]);first|done|(simp only[o];rfl)|rfl|(simp only[List.length_drop,List.length_take];rfl)) ?_;(with_reducible refine (soft_root.calls b1.out).mono ?_);rintro e w' ⟨rfl,⟨nd,rfl⟩⟩;refine⟨_,rfl,?_⟩)|((with_reducible refine gate_callee (f:=71) rfl ?_);refine zgo (some 68) Try.func71 #[.int .u64 l,.int .u64 l] ?_;(with_reducible refine (bits_Mul64.calls b4.out).mono ?_);rintro e w' ⟨rfl,⟨nd,rfl⟩⟩;refine⟨_,rfl,?_⟩;obtain⟨cd,ce,cf,cg⟩:=zc2 a)|((with_reducible refine gate_callee (f:=51) rfl ?_);refine goesL_ (some 86) rfl rfl Try.func51 (by kernel_rfl) rfl #[.agg #[.int .i64 g,.int .i64 i],.bool false,.int .u64 0,.int .u64 l,.int .i64 (wrap64 (Int.tdiv (wrap64 ((wrap64 (p-(j)))-64)) 2)),.bool (b3 != 0)] rfl (by (try simp only[List.map_toArray,List.map_cons,List.map_nil]);first|done|(simp only[s];rfl)|rfl|(simp only[List.length_drop,List.length_take];rfl)) ?_;(with_reducible refine (round_Pack.calls da.out).mono ?_);rintro e dA ⟨rfl,hb⟩;refine⟨_,rfl,?_⟩;obtain⟨a,b,HB⟩:=zu2 a b HB hb;clear hb))
    go_ret2
    exact⟨by first|rfl|(simp[errW_none,errW_some] <;> rfl)|(simp only[←s,←o];first|rfl|(simp[errW_none,errW_some] <;> rfl))|(simp[*,errW_none,errW_some] <;> rfl),zb HB⟩
   rw[if_neg ag] at H
   obtain⟨aI,aJ⟩:=zf ag
   obtain⟨⟨dt,du⟩,dd,H⟩:=oB H
   try dsimp only at H
   simp only[Option.some.injEq,Prod.mk.injEq] at H
   obtain⟨rfl,rfl⟩:=H
   obtain⟨de,df⟩:=z2 c
   obtain⟨ch,ci,cj,ck,cl,cm,cn,co⟩:=zc4 b
   go_wp2_with (first|((with_reducible refine gate_callee (f:=69) rfl ?_);refine zgo (some 50) Try.func69 #[.int .u64 m] ?_;(with_reducible refine (bits_LeadingZeros64.calls J.out).mono ?_);rintro e w' ⟨rfl,⟨nd,rfl⟩⟩;refine⟨_,rfl,?_⟩)|((with_reducible refine gate_callee (f:=70) rfl ?_);refine goesL_ (some 64) rfl rfl Try.func70 (by kernel_rfl) rfl #[.int .u64 D,.int .u64 0] rfl (by (try simp only[List.map_toArray,List.map_cons,List.map_nil]);first|done|(simp only[o];rfl)|rfl|(simp only[List.length_drop,List.length_take];rfl)) ?_;(with_reducible refine (soft_root.calls b1.out).mono ?_);rintro e w' ⟨rfl,⟨nd,rfl⟩⟩;refine⟨_,rfl,?_⟩)|((with_reducible refine gate_callee (f:=71) rfl ?_);refine zgo (some 68) Try.func71 #[.int .u64 l,.int .u64 l] ?_;(with_reducible refine (bits_Mul64.calls b4.out).mono ?_);rintro e w' ⟨rfl,⟨nd,rfl⟩⟩;refine⟨_,rfl,?_⟩;obtain⟨cp,cq,cr,ct⟩:=zc2 a)|((with_reducible refine gate_callee (f:=51) rfl ?_);refine goesL_ (some 86) rfl rfl Try.func51 (by kernel_rfl) rfl #[.agg #[.int .i64 g,.int .i64 i],.bool false,.int .u64 0,.int .u64 l,.int .i64 (wrap64 (Int.tdiv (wrap64 ((wrap64 (p-(j)))-64)) 2)),.bool true] rfl (by (try simp only[List.map_toArray,List.map_cons,List.map_nil]);first|done|(simp only[s];rfl)|rfl|(simp only[List.length_drop,List.length_take];rfl)) ?_;(with_reducible refine (round_Pack.calls dd.out).mono ?_);rintro e dB ⟨rfl,hb⟩;refine⟨_,rfl,?_⟩;obtain⟨a,b,HB⟩:=zu2 a b HB hb;clear hb))
   go_ret2
   exact⟨by first|rfl|(simp[errW_none,errW_some] <;> rfl)|(simp only[←s,←o];first|rfl|(simp[errW_none,errW_some] <;> rfl))|(simp[*,errW_none,errW_some] <;> rfl),zb HB⟩
/-! ### bits_Div64: function 79 -/
mutual
def bits_Div64.j2:Nat→Int→Int→Int→Int→Int→Int→Int→Int→Option (Int×Int)
 | 0,_,_,_,_,_,_,_,_=>none
 | k+1,a,f,b,g,d,e,h,c=>if b=0 then (none) else (bits_Div64.l1 k a f b g h c (IntKind.u64.wrap ((IntKind.u64.wrap ((IntKind.u64.wrap ((IntKind.u64.wrap (d*4294967296))+e))-(IntKind.u64.wrap (c*a))))-(IntKind.u64.wrap ((IntKind.u64.wrap (Int.tdiv (IntKind.u64.wrap ((IntKind.u64.wrap ((IntKind.u64.wrap (d*4294967296))+e))-(IntKind.u64.wrap (c*a)))) b))*b)))) (IntKind.u64.wrap ((IntKind.u64.wrap ((IntKind.u64.wrap (d*4294967296))+e))-(IntKind.u64.wrap (c*a)))) (IntKind.u64.wrap (Int.tdiv (IntKind.u64.wrap ((IntKind.u64.wrap ((IntKind.u64.wrap (d*4294967296))+e))-(IntKind.u64.wrap (c*a)))) b)))
def bits_Div64.l1:Nat→Int→Int→Int→Int→Int→Int→Int→Int→Int→Option (Int×Int)
 | 0,_,_,_,_,_,_,_,_,_=>none
 | k+1,e,f,g,b,c,h,d,i,a=>if a≥4294967296 then (bits_Div64.j4 k e f g b c h d i a true) else (bits_Div64.j4 k e f g b c h d i a (decide ((IntKind.u64.wrap (a*b))>(IntKind.u64.wrap ((IntKind.u64.wrap (4294967296*d))+c)))))
def bits_Div64.j4:Nat→Int→Int→Int→Int→Int→Int→Int→Int→Int→Bool→Option (Int×Int)
 | 0,_,_,_,_,_,_,_,_,_,_=>none
 | k+1,c,a,d,i,e,f,h,g,b,j=>if j=true then (if (IntKind.u64.wrap (h+d))≥4294967296 then (if 0≤a then (some (IntKind.u64.wrap ((IntKind.u64.wrap (f*4294967296))+(IntKind.u64.wrap (b-1))),shr .u64 (IntKind.u64.wrap ((IntKind.u64.wrap ((IntKind.u64.wrap (g*4294967296))+e))-(IntKind.u64.wrap ((IntKind.u64.wrap (b-1))*c)))) a)) else (none)) else (bits_Div64.l1 k c a d i e f (IntKind.u64.wrap (h+d)) g (IntKind.u64.wrap (b-1)))) else (if 0≤a then (some (IntKind.u64.wrap ((IntKind.u64.wrap (f*4294967296))+b),shr .u64 (IntKind.u64.wrap ((IntKind.u64.wrap ((IntKind.u64.wrap (g*4294967296))+e))-(IntKind.u64.wrap (b*c)))) a)) else (none))
def bits_Div64.l0:Nat→Int→Int→Int→Int→Int→Int→Int→Int→Int→Option (Int×Int)
 | 0,_,_,_,_,_,_,_,_,_=>none
 | k+1,e,f,g,b,h,c,i,a,d=>if a≥4294967296 then (bits_Div64.j1 k e f g b h c i a d true) else (bits_Div64.j1 k e f g b h c i a d (decide ((IntKind.u64.wrap (a*b))>(IntKind.u64.wrap ((IntKind.u64.wrap (4294967296*d))+c)))))
def bits_Div64.j1:Nat→Int→Int→Int→Int→Int→Int→Int→Int→Int→Bool→Option (Int×Int)
 | 0,_,_,_,_,_,_,_,_,_,_=>none
 | k+1,b,c,a,d,e,f,g,h,i,j=>if j=true then (if (IntKind.u64.wrap (i+a))≥4294967296 then (bits_Div64.j2 k b c a d e f g (IntKind.u64.wrap (h-1))) else (bits_Div64.l0 k b c a d e f g (IntKind.u64.wrap (h-1)) (IntKind.u64.wrap (i+a)))) else (bits_Div64.j2 k b c a d e f g h)
end
def bits_Div64.f (k:Nat) (a0:Int) (a1:Int) (a2:Int):Option (Int×Int):=if a2=0 then (none) else (if a2≤a0 then (none) else (if a0=0 then (some (IntKind.u64.wrap (Int.tdiv a1 a2),Int.tmod a1 a2)) else ((bits_LeadingZeros64.f k a2).bind fun a=>(if 0≤(IntKind.u64.wrap (a)) then (if 0≤(IntKind.u64.wrap (64-(IntKind.u64.wrap (a)))) then (if ((shl .u64 a2 (IntKind.u64.wrap (a)))/4294967296)=0 then (none) else (bits_Div64.l0 k (shl .u64 a2 (IntKind.u64.wrap (a))) (IntKind.u64.wrap (a)) ((shl .u64 a2 (IntKind.u64.wrap (a)))/4294967296) (Go.bits .and .u64 (shl .u64 a2 (IntKind.u64.wrap (a))) 4294967295) (Go.bits .or .u64 (shl .u64 a0 (IntKind.u64.wrap (a))) (shr .u64 a1 (IntKind.u64.wrap (64-(IntKind.u64.wrap (a)))))) ((shl .u64 a1 (IntKind.u64.wrap (a)))/4294967296) (Go.bits .and .u64 (shl .u64 a1 (IntKind.u64.wrap (a))) 4294967295) (IntKind.u64.wrap (Int.tdiv (Go.bits .or .u64 (shl .u64 a0 (IntKind.u64.wrap (a))) (shr .u64 a1 (IntKind.u64.wrap (64-(IntKind.u64.wrap (a)))))) ((shl .u64 a2 (IntKind.u64.wrap (a)))/4294967296))) (IntKind.u64.wrap ((Go.bits .or .u64 (shl .u64 a0 (IntKind.u64.wrap (a))) (shr .u64 a1 (IntKind.u64.wrap (64-(IntKind.u64.wrap (a))))))-(IntKind.u64.wrap ((IntKind.u64.wrap (Int.tdiv (Go.bits .or .u64 (shl .u64 a0 (IntKind.u64.wrap (a))) (shr .u64 a1 (IntKind.u64.wrap (64-(IntKind.u64.wrap (a)))))) ((shl .u64 a2 (IntKind.u64.wrap (a)))/4294967296)))*((shl .u64 a2 (IntKind.u64.wrap (a)))/4294967296))))))) else (none)) else (none)))))
theorem bits_Div64.mono_l:∀ k,(∀ y0 y1 y2 y3 y4 y5 y6 y7,LeO (bits_Div64.j2 k y0 y1 y2 y3 y4 y5 y6 y7) (bits_Div64.j2 (k+1) y0 y1 y2 y3 y4 y5 y6 y7))∧(∀ y0 y1 y2 y3 y4 y5 y6 y7 y8,LeO (bits_Div64.l1 k y0 y1 y2 y3 y4 y5 y6 y7 y8) (bits_Div64.l1 (k+1) y0 y1 y2 y3 y4 y5 y6 y7 y8))∧(∀ y0 y1 y2 y3 y4 y5 y6 y7 y8 y9,LeO (bits_Div64.j4 k y0 y1 y2 y3 y4 y5 y6 y7 y8 y9) (bits_Div64.j4 (k+1) y0 y1 y2 y3 y4 y5 y6 y7 y8 y9))∧(∀ y0 y1 y2 y3 y4 y5 y6 y7 y8,LeO (bits_Div64.l0 k y0 y1 y2 y3 y4 y5 y6 y7 y8) (bits_Div64.l0 (k+1) y0 y1 y2 y3 y4 y5 y6 y7 y8))∧(∀ y0 y1 y2 y3 y4 y5 y6 y7 y8 y9,LeO (bits_Div64.j1 k y0 y1 y2 y3 y4 y5 y6 y7 y8 y9) (bits_Div64.j1 (k+1) y0 y1 y2 y3 y4 y5 y6 y7 y8 y9))
 | 0=>⟨fun _ _ _ _ _ _ _ _ r h=>by simp[bits_Div64.j2] at h,fun _ _ _ _ _ _ _ _ _ r h=>by simp[bits_Div64.l1] at h,fun _ _ _ _ _ _ _ _ _ _ r h=>by simp[bits_Div64.j4] at h,fun _ _ _ _ _ _ _ _ _ r h=>by simp[bits_Div64.l0] at h,fun _ _ _ _ _ _ _ _ _ _ r h=>by simp[bits_Div64.j1] at h⟩
 | k+1=>by
  obtain⟨ih0,ih1,ih2,ih3,ih4⟩:=bits_Div64.mono_l k
  refine⟨?_,?_,?_,?_,?_⟩ <;> intros <;> (first|unfold bits_Div64.j2|unfold bits_Div64.l1|unfold bits_Div64.j4|unfold bits_Div64.l0|unfold bits_Div64.j1) <;> (repeat' first|(with_reducible first|apply ih0|apply ih1|apply ih2|apply ih3|apply ih4|apply bits_LeadingZeros64.mono|exact LeO.refl _|exact LeO.none _|refine LeO.ite ?_ ?_|refine LeO.bind ?_ (fun _=>?_))|refine LeO.ite ?_ ?_|refine LeO.bind ?_ (fun _=>?_))
theorem bits_Div64.mono:∀ a0 a1 a2 k,LeO (bits_Div64.f k a0 a1 a2) (bits_Div64.f (k+1) a0 a1 a2):=by
 intro a0 a1 a2 k
 obtain⟨ih0,ih1,ih2,ih3,ih4⟩:=bits_Div64.mono_l k
 unfold bits_Div64.f
 repeat' first|(with_reducible first|apply ih0|apply ih1|apply ih2|apply ih3|apply ih4|apply bits_LeadingZeros64.mono|exact LeO.refl _|exact LeO.none _|refine LeO.ite ?_ ?_|refine LeO.bind ?_ (fun _=>?_))|refine LeO.ite ?_ ?_|refine LeO.bind ?_ (fun _=>?_)
set_option maxHeartbeats 8000000 in
set_option maxRecDepth 100000 in
theorem bits_Div64.calls {k:Nat} {P:Int} {s:Int} {C:Int} {r1:Int} {r2:Int} {w:World} (h:bits_Div64.f k P s C=some (r1,r2)) :
  Calls Try.prog 79 #[.int .u64 P,.int .u64 s,.int .u64 C] w fun e w'=>e=.returned (.tuple #[.int .u64 r1,.int .u64 r2])∧Drawn0 w w':=by
 have H:=h
 unfold bits_Div64.f at H
 clear h
 by_cases c4:C=0
 ·rw[if_pos c4] at H
  exact absurd H (by simp)
 rw[if_neg c4] at H
 obtain⟨S,T⟩:=zf c4
 by_cases c5:C≤P
 ·rw[if_pos c5] at H
  exact absurd H (by simp)
 rw[if_neg c5] at H
 have U:decide (C≤P)=false:=decide_eq_false c5
 clear c5
 by_cases c6:P=0
 ·rw[if_pos c6] at H
  obtain⟨Q,R⟩:=zt c6
  clear c6
  simp only[Option.some.injEq,Prod.mk.injEq] at H
  obtain⟨rfl,rfl⟩:=H
  go_enter Try.func79,Try.ntmps79
  go_wp2
  repeat (go_quiet (fail);try go_wp2)
  go_ret2
  exact⟨by first|rfl|(simp;done)|(simp[*];done),by repeat (first|exact Drawn0.refl _|apply Drawn0.step)⟩
 rw[if_neg c6] at H
 obtain⟨Q,R⟩:=zf c6
 obtain⟨l,A7,H⟩:=oB H
 obtain⟨b,V⟩:∃ j_:Int,(IntKind.u64.wrap (l))=j_:=⟨_,rfl⟩
 first|rw[V] at H|simp only[V] at H
 (try rw[V] at A7)
 by_cases c9:0≤(b)
 rotate_left
 ·rw[if_neg c9] at H
  exact absurd H (by simp)

 rw[if_pos c9] at H
 have W:=eq_true c9
 have X:decide (0≤(b))=true:=decide_eq_true c9
 clear c9
 obtain⟨a,m⟩:∃ j_:Int,(shl .u64 C (b))=j_:=⟨_,rfl⟩
 first|rw[m] at H|simp only[m] at H
 (try rw[m] at A7)
 have aM:(IntKind.u64.wrap (C*2^min (b).toNat 64))=a:=m
 have aN:(b)≤64→(IntKind.u64.wrap (C*2^(b).toNat))=a:=shl_small m
 have E:=eq_true (of_decide_eq_true (by first|(with_reducible assumption)|assumption):0≤(b))
 obtain⟨c,n⟩:∃ j_:Int,(shl .u64 P (b))=j_:=⟨_,rfl⟩
 first|rw[n] at H|simp only[n] at H
 (try rw[n] at A7)
 have aO:(IntKind.u64.wrap (P*2^min (b).toNat 64))=c:=n
 have aP:(b)≤64→(IntKind.u64.wrap (P*2^(b).toNat))=c:=shl_small n
 obtain⟨y,F⟩:∃ j_:Int,(IntKind.u64.wrap (64-(b)))=j_:=⟨_,rfl⟩
 first|rw[F] at H|simp only[F] at H
 (try rw[F] at A7)
 by_cases ak:0≤(y)
 rotate_left
 ·rw[if_neg ak] at H
  exact absurd H (by simp)
 rw[if_pos ak] at H
 have G:=eq_true ak
 have I:decide (0≤(y))=true:=decide_eq_true ak
 clear ak
 obtain⟨i,o⟩:∃ j_:Int,(shr .u64 s (y))=j_:=⟨_,rfl⟩
 first|rw[o] at H|simp only[o] at H
 (try rw[o] at A7)
 have aQ:(s/2^min (y).toNat 64)=i:=o
 have aR:(y)≤64→(s/2^(y).toNat)=i:=shr_small o
 have J:=eq_true (of_decide_eq_true (by first|(with_reducible assumption)|assumption):0≤(b))
 obtain⟨d,p⟩:∃ j_:Int,(shl .u64 s (b))=j_:=⟨_,rfl⟩
 first|rw[p] at H|simp only[p] at H
 (try rw[p] at A7)
 have aS:(IntKind.u64.wrap (s*2^min (b).toNat 64))=d:=p
 have aT:(b)≤64→(IntKind.u64.wrap (s*2^(b).toNat))=d:=shl_small p
 by_cases Y:((a)/4294967296)=0
 ·rw[if_pos Y] at H
  exact absurd H (by simp)
 rw[if_neg Y] at H
 obtain⟨K,L⟩:=zf Y
 have al:=Aside0.mk H
 clear H
 go_enter Try.func79,Try.ntmps79
 go_upto_block 0 with (first|(go_at_call 69;(with_reducible refine (bits_LeadingZeros64.calls A7.out).mono ?_);rintro e w' ⟨rfl,⟨nd,rfl⟩⟩;(try first|exact⟨rfl,_,World.drewN_drewN _ _ _⟩|exact⟨rfl,_,Eq.trans (World.drewN_drewN _ _ _) (congrArg (World.drewN _) (Nat.add_assoc _ _ _))⟩)))
 repeat (go_quiet (first|(go_at_call 69;(with_reducible refine (bits_LeadingZeros64.calls A7.out).mono ?_);rintro e w' ⟨rfl,⟨nd,rfl⟩⟩;(try first|exact⟨rfl,_,World.drewN_drewN _ _ _⟩|exact⟨rfl,_,Eq.trans (World.drewN_drewN _ _ _) (congrArg (World.drewN _) (Nat.add_assoc _ _ _))⟩)));go_upto_block 0 with (first|(go_at_call 69;(with_reducible refine (bits_LeadingZeros64.calls A7.out).mono ?_);rintro e w' ⟨rfl,⟨nd,rfl⟩⟩;(try first|exact⟨rfl,_,World.drewN_drewN _ _ _⟩|exact⟨rfl,_,Eq.trans (World.drewN_drewN _ _ _) (congrArg (World.drewN _) (Nat.add_assoc _ _ _))⟩))))
 (try simp only[Act.put,List.setIfInBounds_toArray,List.set_cons_zero,List.set_cons_succ])
 go_cut [15] (fun v15 wc=>∃ (kq:Nat) (g:Int),v15=.int .u64 g∧Aside0 (bits_Div64.j2 kq a b ((a)/4294967296) (Go.bits .and .u64 (a) 4294967295) (Go.bits .or .u64 (c) (i)) ((d)/4294967296) (Go.bits .and .u64 (d) 4294967295) g=some (r1,r2))∧Aside0 (kq≤k)∧Drawn0 w wc)
 case first =>
  have H:=al.out
  clear al
  have H':=Aside0.mk H
  clear H
  go_wp2
  repeat (go_quiet (fail);try go_wp2)
  go_loopg [15,16] k (fun kq v15 v16 w'=>∃ (q:Int) (u:Int),v15=.int .u64 q∧v16=.int .u64 u∧Aside0 (bits_Div64.l0 kq a b ((a)/4294967296) (Go.bits .and .u64 (a) 4294967295) (Go.bits .or .u64 (c) (i)) ((d)/4294967296) (Go.bits .and .u64 (d) 4294967295) q u=some (r1,r2))∧Aside0 (kq≤k)∧Drawn0 w w')
  case atStart=>exact⟨(IntKind.u64.wrap (Int.tdiv (Go.bits .or .u64 (c) (i)) ((a)/4294967296))),(IntKind.u64.wrap ((Go.bits .or .u64 (c) (i))-(IntKind.u64.wrap ((IntKind.u64.wrap (Int.tdiv (Go.bits .or .u64 (c) (i)) ((a)/4294967296)))*((a)/4294967296))))),(by first|rfl|(simp;done)|(simp only[←m,←n,←o] <;> (first|rfl|simp))|(simp[*];done)),(by first|rfl|(simp;done)|(simp only[←m,←n,←o] <;> (first|rfl|simp))|(simp[*];done)),H',⟨Nat.le_refl _⟩,by repeat (first|exact Drawn0.refl _|apply Drawn0.step)⟩
  case round =>
   clear H'
   try clear c4 S T U c6 Q R W X E G I J Y K L
   obtain⟨q,u,rfl,rfl,HA,ag,⟨m1,rfl⟩⟩:=hrel
   cases gk with
   | zero=>exact absurd HA.out (by simp[bits_Div64.l0])
   | succ k1 =>
    have H:=HA.out
    clear HA
    simp only[bits_Div64.l0] at H
    have am:=Aside0.mk H
    clear H
    go_upto_region 17 with (fail)
    repeat (go_quiet (fail);go_upto_region 17 with (fail))
    go_cut [78] (fun v78 wc=>∃ (kq:Nat) (D:Bool),v78=.bool D∧Aside0 (bits_Div64.j1 kq a b ((a)/4294967296) (Go.bits .and .u64 (a) 4294967295) (Go.bits .or .u64 (c) (i)) ((d)/4294967296) (Go.bits .and .u64 (d) 4294967295) q u D=some (r1,r2))∧Aside0 (kq≤k1)∧Drawn0 w wc)
    case first =>
     have H:=am.out
     clear am
     by_cases Z:q≥4294967296
     ·rw[if_pos Z] at H
      have z:decide (4294967296≤q)=true:=decide_eq_true Z
      clear Z
      (first|rw[z]|(simp only[i64_w,i32_w];rw[z])|skip)
      have H':=Aside0.mk H
      clear H
      go_wp2
      repeat (go_quiet (fail);try go_wp2)
      go_meet
      case rel=>exact⟨_,(true),(by first|rfl|(simp[*];done)),H',⟨by have:=ag.out;first|omega|exact Nat.le_refl _⟩,by repeat (first|exact Drawn0.refl _|apply Drawn0.step)⟩
     rw[if_neg Z] at H
     have z:decide (4294967296≤q)=false:=decide_eq_false Z
     clear Z
     (first|rw[z]|(simp only[i64_w,i32_w];rw[z])|skip)
     have H':=Aside0.mk H
     clear H
     go_wp2
     repeat (go_quiet (fail);try go_wp2)
     go_meet
     case rel=>exact⟨_,(decide ((IntKind.u64.wrap (q*(Go.bits .and .u64 (a) 4294967295)))>(IntKind.u64.wrap ((IntKind.u64.wrap (4294967296*u))+((d)/4294967296))))),(by first|rfl|(simp;done)|(simp only[←m,←p] <;> (first|rfl|simp))|(simp[*];done)),H',⟨by have:=ag.out;first|omega|exact Nat.le_refl _⟩,by repeat (first|exact Drawn0.refl _|apply Drawn0.step)⟩
    case rest =>
     clear am
     try clear c1 p2 c4 S T U c6 Q R c7 W X aH E G I aI J Y K L p2
     obtain⟨kq,D,rfl,HA,ae,⟨mc19,rfl⟩⟩:=hcut
     cases kq with
     | zero=>exact absurd HA.out (by simp[bits_Div64.j1])
     | succ aJ =>
      have H:=HA.out
      clear HA
      simp only[bits_Div64.j1] at H
      by_cases ah:D=true
      ·subst ah
       rw[if_pos rfl] at H
       by_cases aa:(IntKind.u64.wrap (u+((a)/4294967296)))≥4294967296
       ·rw[if_pos aa] at H
        have ad:decide (4294967296≤(IntKind.u64.wrap (u+((a)/4294967296))))=true:=decide_eq_true aa
        clear aa
        have H':=Aside0.mk H
        clear H
        go_wp2
        repeat (go_quiet (fail);try go_wp2)
        go_meet
        case rel=>exact⟨_,(IntKind.u64.wrap (q-1)),(by first|rfl|(simp[*];done)),H',⟨by have:=ag.out;have:=ae.out;first|omega|exact Nat.le_refl _⟩,by repeat (first|exact Drawn0.refl _|apply Drawn0.step)⟩
       rw[if_neg aa] at H
       have ad:decide (4294967296≤(IntKind.u64.wrap (u+((a)/4294967296))))=false:=decide_eq_false aa
       clear aa
       have H':=Aside0.mk H
       clear H
       go_wp2
       repeat (go_quiet (fail);try go_wp2)
       go_roundg aJ
       case measure=>have:=ag.out;have:=ae.out;omega
       case rel=>exact⟨(IntKind.u64.wrap (q-1)),(IntKind.u64.wrap (u+((a)/4294967296))),(by first|rfl|(simp[*];done)),(by first|rfl|(simp;done)|(simp only[←m] <;> (first|rfl|simp))|(simp[*];done)),H',⟨by have:=ag.out;have:=ae.out;omega⟩,by repeat (first|exact Drawn0.refl _|apply Drawn0.step)⟩
      replace ah:=Bool.eq_false_iff.mpr ah
      subst ah
      rw[if_neg nft] at H
      have H':=Aside0.mk H
      clear H
      go_wp2
      repeat (go_quiet (fail);try go_wp2)
      go_meet
      case rel=>exact⟨_,(q),(by first|rfl|(simp[*];done)),H',⟨by have:=ag.out;have:=ae.out;first|omega|exact Nat.le_refl _⟩,by repeat (first|exact Drawn0.refl _|apply Drawn0.step)⟩
 case rest =>
  clear al
  try clear c4 S T U c6 Q R W X E G I J Y K L
  obtain⟨kq,g,rfl,HA,af,⟨mc18,rfl⟩⟩:=hcut
  cases kq with
  | zero=>exact absurd HA.out (by simp[bits_Div64.j2])
  | succ aC =>
   have H:=HA.out
   clear HA
   simp only[bits_Div64.j2] at H
   by_cases an:((a)/4294967296)=0
   ·rw[if_pos an] at H
    exact absurd H (by simp)
   rw[if_neg an] at H
   obtain⟨ao,ap⟩:=zf an
   have H':=Aside0.mk H
   clear H
   go_wp2
   repeat (go_quiet (fail);try go_wp2)
   go_loopg [16,18] aC (fun kq v16 v18 w'=>∃ (v:Int) (j:Int),v16=.int .u64 v∧v18=.int .u64 j∧Aside0 (bits_Div64.l1 kq a b ((a)/4294967296) (Go.bits .and .u64 (a) 4294967295) (Go.bits .and .u64 (d) 4294967295) g v (IntKind.u64.wrap ((IntKind.u64.wrap ((IntKind.u64.wrap ((Go.bits .or .u64 (c) (i))*4294967296))+((d)/4294967296)))-(IntKind.u64.wrap (g*a)))) j=some (r1,r2))∧Aside0 (kq≤aC)∧Drawn0 w w')
   case atStart=>exact⟨(IntKind.u64.wrap ((IntKind.u64.wrap ((IntKind.u64.wrap ((IntKind.u64.wrap ((Go.bits .or .u64 (c) (i))*4294967296))+((d)/4294967296)))-(IntKind.u64.wrap (g*a))))-(IntKind.u64.wrap ((IntKind.u64.wrap (Int.tdiv (IntKind.u64.wrap ((IntKind.u64.wrap ((IntKind.u64.wrap ((Go.bits .or .u64 (c) (i))*4294967296))+((d)/4294967296)))-(IntKind.u64.wrap (g*a)))) ((a)/4294967296)))*((a)/4294967296))))),(IntKind.u64.wrap (Int.tdiv (IntKind.u64.wrap ((IntKind.u64.wrap ((IntKind.u64.wrap ((Go.bits .or .u64 (c) (i))*4294967296))+((d)/4294967296)))-(IntKind.u64.wrap (g*a)))) ((a)/4294967296))),(by first|rfl|(simp;done)|(simp only[←m,←n,←o,←p] <;> (first|rfl|simp))|(simp[*];done)),(by first|rfl|(simp;done)|(simp only[←m,←n,←o,←p] <;> (first|rfl|simp))|(simp[*];done)),H',⟨Nat.le_refl _⟩,by repeat (first|exact Drawn0.refl _|apply Drawn0.step)⟩
   case round =>
    clear H'
    try clear c1 c2 p2 c4 S T U c6 Q R c7 W X aH E G I aI J Y K L aY Z z ah aa ad an ao ap p2
    obtain⟨v,j,rfl,rfl,HA,az,⟨m2,rfl⟩⟩:=hrel
    cases gk with
    | zero=>exact absurd HA.out (by simp[bits_Div64.l1])
    | succ k2 =>
     have H:=HA.out
     clear HA
     simp only[bits_Div64.l1] at H
     have aq:=Aside0.mk H
     clear H
     go_upto_region 24 with (fail)
     repeat (go_quiet (fail);go_upto_region 24 with (fail))
     go_cut [113] (fun v113 wc=>∃ (kq:Nat) (B:Bool),v113=.bool B∧Aside0 (bits_Div64.j4 kq a b ((a)/4294967296) (Go.bits .and .u64 (a) 4294967295) (Go.bits .and .u64 (d) 4294967295) g v (IntKind.u64.wrap ((IntKind.u64.wrap ((IntKind.u64.wrap ((Go.bits .or .u64 (c) (i))*4294967296))+((d)/4294967296)))-(IntKind.u64.wrap (g*a)))) j B=some (r1,r2))∧Aside0 (kq≤k2)∧Drawn0 w wc)
     case first =>
      have H:=aq.out
      clear aq
      by_cases ai:j≥4294967296
      ·rw[if_pos ai] at H
       have M:decide (4294967296≤j)=true:=decide_eq_true ai
       clear ai
       (first|rw[M]|(simp only[i64_w,i32_w];rw[M])|skip)
       have H':=Aside0.mk H
       clear H
       go_wp2
       repeat (go_quiet (fail);try go_wp2)
       go_meet
       case rel=>exact⟨_,(true),(by first|rfl|(simp[*];done)),H',⟨by have:=af.out;have:=az.out;first|omega|exact Nat.le_refl _⟩,by repeat (first|exact Drawn0.refl _|apply Drawn0.step)⟩
      rw[if_neg ai] at H
      have M:decide (4294967296≤j)=false:=decide_eq_false ai
      clear ai
      (first|rw[M]|(simp only[i64_w,i32_w];rw[M])|skip)
      have H':=Aside0.mk H
      clear H
      go_wp2
      repeat (go_quiet (fail);try go_wp2)
      go_meet
      case rel=>exact⟨_,(decide ((IntKind.u64.wrap (j*(Go.bits .and .u64 (a) 4294967295)))>(IntKind.u64.wrap ((IntKind.u64.wrap (4294967296*v))+(Go.bits .and .u64 (d) 4294967295))))),(by first|rfl|(simp;done)|(simp only[←m,←p] <;> (first|rfl|simp))|(simp[*];done)),H',⟨by have:=af.out;have:=az.out;first|omega|exact Nat.le_refl _⟩,by repeat (first|exact Drawn0.refl _|apply Drawn0.step)⟩
     case rest =>
      clear aq
      try clear c1 c2 p2 c4 S T U c6 Q R c7 W X aH E G I aI J Y K L aY Z z ah aa ad an ao ap p2
      obtain⟨kq,B,rfl,HA,aD,⟨mc24,rfl⟩⟩:=hcut
      cases kq with
      | zero=>exact absurd HA.out (by simp[bits_Div64.j4])
      | succ aK =>
       have H:=HA.out
       clear HA
       simp only[bits_Div64.j4] at H
       by_cases aA:B=true
       ·subst aA
        rw[if_pos rfl] at H
        by_cases aj:(IntKind.u64.wrap (v+((a)/4294967296)))≥4294967296
        ·rw[if_pos aj] at H
         have aE:decide (4294967296≤(IntKind.u64.wrap (v+((a)/4294967296))))=true:=decide_eq_true aj
         clear aj
         by_cases ar:0≤b
         ·rw[if_pos ar] at H
          have aZ:=eq_true ar
          have a3:decide (0≤b)=true:=decide_eq_true ar
          clear ar
          obtain⟨au,N⟩:∃ j_:Int,(shr .u64 (IntKind.u64.wrap ((IntKind.u64.wrap ((IntKind.u64.wrap ((IntKind.u64.wrap ((IntKind.u64.wrap ((IntKind.u64.wrap ((Go.bits .or .u64 (c) (i))*4294967296))+((d)/4294967296)))-(IntKind.u64.wrap (g*a))))*4294967296))+(Go.bits .and .u64 (d) 4294967295)))-(IntKind.u64.wrap ((IntKind.u64.wrap (j-1))*a)))) b)=j_:=⟨_,rfl⟩
          first|rw[N] at H|simp only[N] at H
          have aU:((IntKind.u64.wrap ((IntKind.u64.wrap ((IntKind.u64.wrap ((IntKind.u64.wrap ((IntKind.u64.wrap ((IntKind.u64.wrap ((Go.bits .or .u64 (c) (i))*4294967296))+((d)/4294967296)))-(IntKind.u64.wrap (g*a))))*4294967296))+(Go.bits .and .u64 (d) 4294967295)))-(IntKind.u64.wrap ((IntKind.u64.wrap (j-1))*a))))/2^min b.toNat 64)=au:=N
          have aV:b≤64→((IntKind.u64.wrap ((IntKind.u64.wrap ((IntKind.u64.wrap ((IntKind.u64.wrap ((IntKind.u64.wrap ((IntKind.u64.wrap ((Go.bits .or .u64 (c) (i))*4294967296))+((d)/4294967296)))-(IntKind.u64.wrap (g*a))))*4294967296))+(Go.bits .and .u64 (d) 4294967295)))-(IntKind.u64.wrap ((IntKind.u64.wrap (j-1))*a))))/2^b.toNat)=au:=shr_small N
          simp only[Option.some.injEq,Prod.mk.injEq] at H
          obtain⟨rfl,rfl⟩:=H
          go_wp2
          repeat (go_quiet (fail);try go_wp2)
          go_ret2
          exact⟨by first|rfl|(simp;done)|(simp only[←V,←m,←n,←F,←o,←p,←N] <;> (first|rfl|simp))|(simp[*];done),by repeat (first|exact Drawn0.refl _|apply Drawn0.step)⟩
         rw[if_neg ar] at H
         exact absurd H (by simp)
        rw[if_neg aj] at H
        have aE:decide (4294967296≤(IntKind.u64.wrap (v+((a)/4294967296))))=false:=decide_eq_false aj
        clear aj
        have H':=Aside0.mk H
        clear H
        go_wp2
        repeat (go_quiet (fail);try go_wp2)
        go_roundg aK
        case measure=>have:=af.out;have:=az.out;have:=aD.out;omega
        case rel=>exact⟨(IntKind.u64.wrap (v+((a)/4294967296))),(IntKind.u64.wrap (j-1)),(by first|rfl|(simp;done)|(simp only[←m] <;> (first|rfl|simp))|(simp[*];done)),(by first|rfl|(simp[*];done)),H',⟨by have:=af.out;have:=az.out;have:=aD.out;omega⟩,by repeat (first|exact Drawn0.refl _|apply Drawn0.step)⟩
       replace aA:=Bool.eq_false_iff.mpr aA
       subst aA
       rw[if_neg nft] at H
       by_cases av:0≤b
       ·rw[if_pos av] at H
        have a4:=eq_true av
        have a5:decide (0≤b)=true:=decide_eq_true av
        clear av
        obtain⟨aw,O⟩:∃ j_:Int,(shr .u64 (IntKind.u64.wrap ((IntKind.u64.wrap ((IntKind.u64.wrap ((IntKind.u64.wrap ((IntKind.u64.wrap ((IntKind.u64.wrap ((Go.bits .or .u64 (c) (i))*4294967296))+((d)/4294967296)))-(IntKind.u64.wrap (g*a))))*4294967296))+(Go.bits .and .u64 (d) 4294967295)))-(IntKind.u64.wrap (j*a)))) b)=j_:=⟨_,rfl⟩
        first|rw[O] at H|simp only[O] at H
        have aW:((IntKind.u64.wrap ((IntKind.u64.wrap ((IntKind.u64.wrap ((IntKind.u64.wrap ((IntKind.u64.wrap ((IntKind.u64.wrap ((Go.bits .or .u64 (c) (i))*4294967296))+((d)/4294967296)))-(IntKind.u64.wrap (g*a))))*4294967296))+(Go.bits .and .u64 (d) 4294967295)))-(IntKind.u64.wrap (j*a))))/2^min b.toNat 64)=aw:=O
        have aX:b≤64→((IntKind.u64.wrap ((IntKind.u64.wrap ((IntKind.u64.wrap ((IntKind.u64.wrap ((IntKind.u64.wrap ((IntKind.u64.wrap ((Go.bits .or .u64 (c) (i))*4294967296))+((d)/4294967296)))-(IntKind.u64.wrap (g*a))))*4294967296))+(Go.bits .and .u64 (d) 4294967295)))-(IntKind.u64.wrap (j*a))))/2^b.toNat)=aw:=shr_small O
        simp only[Option.some.injEq,Prod.mk.injEq] at H
        obtain⟨rfl,rfl⟩:=H
        go_wp2
        repeat (go_quiet (fail);try go_wp2)
        go_ret2
        exact⟨by first|rfl|(simp;done)|(simp only[←V,←m,←n,←F,←o,←p,←O] <;> (first|rfl|simp))|(simp[*];done),by repeat (first|exact Drawn0.refl _|apply Drawn0.step)⟩
       rw[if_neg av] at H
       exact absurd H (by simp)
end Go.Proofs.Ytmmbgbchimangaa.PQ
