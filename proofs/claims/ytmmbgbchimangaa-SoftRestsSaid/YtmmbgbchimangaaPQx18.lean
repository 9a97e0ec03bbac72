-- by a program of this claim
import Derived.Test.YtmmbgbchimangaaPQx0
import Derived.Test.YtmmbgbchimangaaPQx3
import Derived.Test.YtmmbgbchimangaaPQx7
import Derived.Test.YtmmbgbchimangaaPQx8
import Derived.Test.YtmmbgbchimangaaPQx15
import Derived.Test.YtmmbgbchimangaaPQx17
namespace Go.Proofs.Ytmmbgbchimangaa.PQ
open Go.RowKit Go.Proofs.YtmmbgbchimangaaW.PrintWords Go.Proofs.YtmmbgbchimangaaW.PrintLast Go.Proofs.YtmmbgbchimangaaW.PrintMore Go.Proofs.Ytmmbgbchimangaa.Z
attribute [local go_sem] max2_int min2_int max_two min_two max_three min_three max_four min_four   -- for this text's walks alone
set_option linter.unusedVariables false
set_option linter.unusedSimpArgs false

/-! ### grottolaw03_SoftRests: function 4 -/
mutual
def grottolaw03_SoftRests.j0:Nat→Int→Int→Int→Int→Bool→Int→Int→Int→Bool→Int→Int→Int→Bool→Int→Int→Option (Bool)
 | 0,_,_,_,_,_,_,_,_,_,_,_,_,_,_,_=>none
 | k+1,e,c,d,p,q,g,h,a,i,j,l,b,m,n,o=>if q=true then ((grottolaw03_num.f p).bind fun r=>(if r=1 then (if c=0 then (if d=0 then ((grottolaw03_live.f k).bind fun s=>(some s)) else (some false)) else (some false)) else (some false))) else ((grottolaw03_num.f p).bind fun t=>(if t=0 then (if a=4 then (grottolaw03_SoftRests.j1 k e c d true g h a i j l b m n o) else (if a=3 then (grottolaw03_SoftRests.j1 k e c d true g h a i j l b m n o) else (if b=4 then (grottolaw03_SoftRests.j1 k e c d true g h a i j l b m n o) else (grottolaw03_SoftRests.j1 k e c d (b==1) g h a i j l b m n o)))) else (some false)))
def grottolaw03_SoftRests.j1:Nat→Int→Int→Int→Bool→Int→Int→Int→Bool→Int→Int→Int→Bool→Int→Int→Option (Bool)
 | 0,_,_,_,_,_,_,_,_,_,_,_,_,_,_=>none
 | k+1,h,e,i,r,c,d,j,g,l,m,n,o,p,q=>if r=true then ((grottoref02_NaN.f k c d).bind fun s=>(if e=s then (if i=e then ((grottolaw03_live.f k).bind fun t=>(some t)) else (some false)) else (some false))) else ((grottoref02_Open.f k c d e).bind fun a=>((grottoref02_Open.f k c d i).bind fun b=>(if g=true then ((grottoref03_Turn.f k c d e).bind fun u=>(grottolaw03_SoftRests.j2 k h u a.2.2.2.2 b.2.2.2.2 c d j g l m n o p q a.1 a.2.1 a.2.2.1 a.2.2.2.1 b.1 b.2.1 b.2.2.1 b.2.2.2.1)) else (grottolaw03_SoftRests.j2 k h e a.2.2.2.2 b.2.2.2.2 c d j g l m n o p q a.1 a.2.1 a.2.2.1 a.2.2.2.1 b.1 b.2.1 b.2.2.1 b.2.2.2.1))))
def grottolaw03_SoftRests.j2:Nat→Int→Int→Int→Int→Int→Int→Int→Bool→Int→Int→Int→Bool→Int→Int→Int→Bool→Int→Int→Int→Bool→Int→Int→Option (Bool)
 | 0,_,_,_,_,_,_,_,_,_,_,_,_,_,_,_,_,_,_,_,_,_,_=>none
 | k+1,e,g,h,i,b,c,r,a,s,t,u,d,v,w,x,j,y,z,A,l,B,C=>if d=true then ((grottoref03_Turn.f k b c e).bind fun o=>((grottoref03_Cmp.f k b c g o).bind fun m=>(if h=0 then (if i=0 then (if m.2.1=true then (if m.1<0 then (if (j==a)=true then (if (l==(a != d))=true then ((grottolaw03_live.f k).bind fun p=>(some p)) else (some false)) else (some false)) else (some false)) else (some false)) else (some false)) else (some false)))) else ((grottoref03_Cmp.f k b c g e).bind fun n=>(if h=0 then (if i=0 then (if n.2.1=true then (if n.1<0 then (if (j==a)=true then (if (l==(a != d))=true then ((grottolaw03_live.f k).bind fun q=>(some q)) else (some false)) else (some false)) else (some false)) else (some false)) else (some false)) else (some false)))
end
def grottolaw03_SoftRests.f (k:Nat) (a0_0:Int) (a0_1:Int) (a1:Int) (a2:Int):Option (Bool):=(grottoref02_Open.f k a0_0 a0_1 a1).bind fun a=>((grottoref02_Open.f k a0_0 a0_1 a2).bind fun b=>((soft_Mod.f k a0_0 a0_1 a1 a2).bind fun c=>(if a.2.2.2.2=0 then (grottolaw03_SoftRests.j0 k a2 c.1 c.2.1 c.2.2 (b.2.2.2.2 != 0) a0_0 a0_1 a.1 a.2.1 a.2.2.1 a.2.2.2.1 b.1 b.2.1 b.2.2.1 b.2.2.2.1) else (grottolaw03_SoftRests.j0 k a2 c.1 c.2.1 c.2.2 true a0_0 a0_1 a.1 a.2.1 a.2.2.1 a.2.2.2.1 b.1 b.2.1 b.2.2.1 b.2.2.2.1))))
theorem grottolaw03_SoftRests.mono_l:∀ k,(∀ y0 y1 y2 y3 y4 y5 y6 y7 y8 y9 y10 y11 y12 y13 y14,LeO (grottolaw03_SoftRests.j0 k y0 y1 y2 y3 y4 y5 y6 y7 y8 y9 y10 y11 y12 y13 y14) (grottolaw03_SoftRests.j0 (k+1) y0 y1 y2 y3 y4 y5 y6 y7 y8 y9 y10 y11 y12 y13 y14))∧(∀ y0 y1 y2 y3 y4 y5 y6 y7 y8 y9 y10 y11 y12 y13,LeO (grottolaw03_SoftRests.j1 k y0 y1 y2 y3 y4 y5 y6 y7 y8 y9 y10 y11 y12 y13) (grottolaw03_SoftRests.j1 (k+1) y0 y1 y2 y3 y4 y5 y6 y7 y8 y9 y10 y11 y12 y13))∧(∀ y0 y1 y2 y3 y4 y5 y6 y7 y8 y9 y10 y11 y12 y13 y14 y15 y16 y17 y18 y19 y20 y21,LeO (grottolaw03_SoftRests.j2 k y0 y1 y2 y3 y4 y5 y6 y7 y8 y9 y10 y11 y12 y13 y14 y15 y16 y17 y18 y19 y20 y21) (grottolaw03_SoftRests.j2 (k+1) y0 y1 y2 y3 y4 y5 y6 y7 y8 y9 y10 y11 y12 y13 y14 y15 y16 y17 y18 y19 y20 y21))
 | 0=>⟨fun _ _ _ _ _ _ _ _ _ _ _ _ _ _ _ r h=>by simp[grottolaw03_SoftRests.j0] at h,fun _ _ _ _ _ _ _ _ _ _ _ _ _ _ r h=>by simp[grottolaw03_SoftRests.j1] at h,fun _ _ _ _ _ _ _ _ _ _ _ _ _ _ _ _ _ _ _ _ _ _ r h=>by simp[grottolaw03_SoftRests.j2] at h⟩
 | k+1=>by
  obtain⟨ih0,ih1,ih2⟩:=grottolaw03_SoftRests.mono_l k
  refine⟨?_,?_,?_⟩ <;> intros <;> (first|unfold grottolaw03_SoftRests.j0|unfold grottolaw03_SoftRests.j1|unfold grottolaw03_SoftRests.j2) <;> (repeat' first|(with_reducible first|apply ih0|apply ih1|apply ih2|apply grottolaw03_live.mono|apply grottoref02_NaN.mono|apply grottoref02_Open.mono|apply grottoref03_Cmp.mono|apply grottoref03_Turn.mono|apply soft_Mod.mono|exact LeO.refl _|exact LeO.none _|refine LeO.ite ?_ ?_|refine LeO.bind ?_ (fun _=>?_))|refine LeO.ite ?_ ?_|refine LeO.bind ?_ (fun _=>?_))
theorem grottolaw03_SoftRests.mono:∀ a0 a1 a2 a3 k,LeO (grottolaw03_SoftRests.f k a0 a1 a2 a3) (grottolaw03_SoftRests.f (k+1) a0 a1 a2 a3):=by
 intro a0 a1 a2 a3 k
 obtain⟨ih0,ih1,ih2⟩:=grottolaw03_SoftRests.mono_l k
 unfold grottolaw03_SoftRests.f
 repeat' first|(with_reducible first|apply ih0|apply ih1|apply ih2|apply grottolaw03_live.mono|apply grottoref02_NaN.mono|apply grottoref02_Open.mono|apply grottoref03_Cmp.mono|apply grottoref03_Turn.mono|apply soft_Mod.mono|exact LeO.refl _|exact LeO.none _|refine LeO.ite ?_ ?_|refine LeO.bind ?_ (fun _=>?_))|refine LeO.ite ?_ ?_|refine LeO.bind ?_ (fun _=>?_)
set_option maxHeartbeats 8000000 in
set_option maxRecDepth 100000 in
theorem grottolaw03_SoftRests.calls {k:Nat} {F:Int} {G:Int} {a1:Int} {a2:Int} {r:Bool} {w:World} (h:grottolaw03_SoftRests.f k F G a1 a2=some r) :
  Calls Try.prog 4 #[.agg #[.int .i64 F,.int .i64 G],.int .u64 a1,.int .u64 a2] w fun e w'=>e=.returned (.bool r)∧Below w.heap.size w w':=by
 have hu23:=Try.underlying23
 have hu34:=Try.underlying34
 have HB:=Aside0.mk (Below.refl w.heap.size w)
 have H:=h
 unfold grottolaw03_SoftRests.f at H
 clear h
 obtain⟨⟨Q,p,W,X,jA⟩,A4,H⟩:=oB H
 try dsimp only at H
 obtain⟨⟨R,U,Y,Z,jB⟩,A5,H⟩:=oB H
 try dsimp only at H
 obtain⟨⟨aE,a6,aa⟩,A6,H⟩:=oB H
 try dsimp only at H
 have dB:=Aside0.mk H
 clear H
 go_enter Try.func4,Try.ntmps4
 go_upto_region 4 with (first|((with_reducible refine gate_dst (N:=3) rfl ?_);refine zbox (N:=3) (cs:=#[.int .i64 F,.int .i64 G]) (t:=23) ?_;intro aR hg w8 hbox hb;have a:=Aside0.mk hbox;have n1:=zge hg HB;have n2:=zge hg HB;replace HB:=zbs HB hb;clear hb hbox hg;obtain⟨aH,aI,aJ,aK⟩:=zc2 a)|((with_reducible refine gate_callee (f:=20) rfl ?_);refine zgc (some 24) Try.func20 (grottoref02_Open.calls A4.out) ?_;intro pX hb;obtain⟨a,HB⟩:=zu1 a HB hb;clear hb)|((with_reducible refine gate_dst (N:=7) rfl ?_);refine zbox (N:=7) (cs:=#[.int .i64 0,.bool false,.int .i64 0,.int .u64 0]) (t:=34) ?_;intro aS hg pY hbox hb;have c:=Aside0.mk hbox;have n3:=zge hg HB;have n4:=zge hg HB;have i:=znl hg a;have C:=zng hg a;obtain⟨a,HB⟩:=zu1 a HB hb;clear hb hbox hg;obtain⟨n5,n6⟩:=z2 C;obtain⟨ab,ac,ad,ae,af,ag,ah,ai⟩:=zc4 c;obtain⟨aj,ak,al,am⟩:=zc2 a)|((with_reducible refine gate_callee (f:=20) rfl ?_);refine zgc (some 30) Try.func20 (grottoref02_Open.calls A5.out) ?_;intro pZ hb;replace a:=zkb a hb;replace c:=zkbo (o:=.cells #[.int .i64 Q,.bool p,.int .i64 W,.int .u64 X] 34 (0,0)) c hb;replace HB:=zbs HB hb;clear hb)|((with_reducible refine gate_dst (N:=9) rfl ?_);refine zbox (N:=9) (cs:=#[.int .i64 0,.bool false,.int .i64 0,.int .u64 0]) (t:=34) ?_;intro aT hg p0 hbox hb;have b:=Aside0.mk hbox;have n7:=zge hg HB;have n8:=zge hg HB;have D:=znl hg a;have j:=zng hg a;have E:=znl hg c;have l:=zng hg c;obtain⟨a,c,HB⟩:=zu2 a c HB hb;clear hb hbox hg;obtain⟨n9,oa⟩:=z2 j;obtain⟨ob,oc⟩:=z2 l;obtain⟨an,ao,ap,aq,ar,au,av,aw⟩:=zc4 b;obtain⟨ax,ay,az,aA⟩:=zc2 a)|((with_reducible refine gate_callee (f:=16) rfl ?_);refine zgc (some 37) Try.func16 (soft_Mod.calls A6.out) ?_;intro p1 hb;replace a:=zkb a hb;replace c:=zkb c hb;replace b:=zkbo (o:=.cells #[.int .i64 R,.bool U,.int .i64 Y,.int .u64 Z] 34 (0,0)) b hb;replace HB:=zbs HB hb;clear hb))
 (try simp only[Act.put,List.setIfInBounds_toArray,List.set_cons_zero,List.set_cons_succ])
 go_cut [46] (fun v46 wc=>∃ (kq:Nat) (aL:Bool),v46=.bool aL∧Aside0 (grottolaw03_SoftRests.j0 kq a2 aE a6 aa aL F G Q p W X R U Y Z=some r)∧Aside0 (kq≤k)∧Aside0 (wc.heap[aR]?=some (.cells #[.int .i64 F,.int .i64 G] 23 (0,0)))∧Aside0 (wc.heap[aS]?=some (.cells #[.int .i64 Q,.bool p,.int .i64 W,.int .u64 X] 34 (0,0)))∧Aside0 (wc.heap[aT]?=some (.cells #[.int .i64 R,.bool U,.int .i64 Y,.int .u64 Z] 34 (0,0)))∧Aside0 (Below w.heap.size w wc))
 case first =>
  have H:=dB.out
  clear dB
  by_cases aU:jA=0
  ·rw[if_pos aU] at H
   obtain⟨P,aV⟩:=zt aU
   clear aU
   (first|rw[P]|(simp only[i64_w,i32_w];rw[P])|skip)
   have H':=Aside0.mk H
   clear H
   go_wp2
   go_meet
   case rel=>exact⟨_,((jB != 0)),(by first|rfl|(simp[*];done)),H',⟨by omega⟩,⟨zk a⟩,⟨zk c⟩,⟨zk b⟩,⟨zb HB⟩⟩
  rw[if_neg aU] at H
  obtain⟨P,aV⟩:=zf aU
  (first|rw[P]|(simp only[i64_w,i32_w];rw[P])|skip)
  have H':=Aside0.mk H
  clear H
  go_wp2
  go_meet
  case rel=>exact⟨_,(true),(by first|rfl|(simp[*];done)),H',⟨by omega⟩,⟨zk a⟩,⟨zk c⟩,⟨zk b⟩,⟨zb HB⟩⟩
 case rest =>
  clear dB
  try clear ab ac ad ae aj ak an ao ap aq ax ay aH aI af ag ah ai al am ar au av aw az aA aJ aK
  obtain⟨kq,aL,rfl,HA,ba,a,c,b,HB⟩:=hcut
  cases kq with
  | zero=>exact absurd HA.out (by simp[grottolaw03_SoftRests.j0])
  | succ jC =>
   have H:=HA.out
   clear HA
   simp only[grottolaw03_SoftRests.j0] at H
   by_cases bb:aL=true
   ·subst bb
    rw[if_pos rfl] at H
    obtain⟨jD,c9,H⟩:=oB H
    by_cases bc:jD=1
    ·rw[if_pos bc] at H
     obtain⟨bi,bj⟩:=zt bc
     clear bc
     by_cases bd:aE=0
     ·rw[if_pos bd] at H
      obtain⟨bk,bl⟩:=zt bd
      clear bd
      by_cases be:a6=0
      ·rw[if_pos be] at H
       obtain⟨bm,bn⟩:=zt be
       clear be
       obtain⟨jE,od,H⟩:=oB H
       obtain rfl:=Option.some.inj H
       go_wp2_with (first|((with_reducible refine gate_callee (f:=18) rfl ?_);refine zgo (some 48) Try.func18 #[.int .i64 aa] ?_;(with_reducible refine (grottolaw03_num.calls c9.out).mono ?_);rintro e w' ⟨rfl,⟨nd,rfl⟩⟩;refine⟨_,rfl,?_⟩)|(go_at_call 19;(with_reducible refine (grottolaw03_live.calls jC  jE _ od.out).mono ?_);rintro e p3 ⟨rfl,hb⟩;obtain⟨a,c,b,HB⟩:=zu3 a c b HB hb;clear hb))
       go_ret
       exact zr HB
      rw[if_neg be] at H
      obtain⟨bm,bn⟩:=zf be
      obtain rfl:=Option.some.inj H
      go_wp2_with (first|((with_reducible refine gate_callee (f:=18) rfl ?_);refine zgo (some 48) Try.func18 #[.int .i64 aa] ?_;(with_reducible refine (grottolaw03_num.calls c9.out).mono ?_);rintro e w' ⟨rfl,⟨nd,rfl⟩⟩;refine⟨_,rfl,?_⟩))
      go_ret
      exact zr HB
     rw[if_neg bd] at H
     obtain⟨bk,bl⟩:=zf bd
     obtain rfl:=Option.some.inj H
     go_wp2_with (first|((with_reducible refine gate_callee (f:=18) rfl ?_);refine zgo (some 48) Try.func18 #[.int .i64 aa] ?_;(with_reducible refine (grottolaw03_num.calls c9.out).mono ?_);rintro e w' ⟨rfl,⟨nd,rfl⟩⟩;refine⟨_,rfl,?_⟩))
     go_ret
     exact zr HB
    rw[if_neg bc] at H
    obtain⟨bi,bj⟩:=zf bc
    obtain rfl:=Option.some.inj H
    go_wp2_with (first|((with_reducible refine gate_callee (f:=18) rfl ?_);refine zgo (some 48) Try.func18 #[.int .i64 aa] ?_;(with_reducible refine (grottolaw03_num.calls c9.out).mono ?_);rintro e w' ⟨rfl,⟨nd,rfl⟩⟩;refine⟨_,rfl,?_⟩))
    go_ret
    exact zr HB
   replace bb:=Bool.eq_false_iff.mpr bb
   subst bb
   rw[if_neg nft] at H
   obtain⟨jF,jG,H⟩:=oB H
   by_cases bo:jF=0
   rotate_left
   ·rw[if_neg bo] at H
    obtain⟨aW,aX⟩:=zf bo
    obtain rfl:=Option.some.inj H
    go_wp2_with (first|((with_reducible refine gate_callee (f:=18) rfl ?_);refine zgo (some 62) Try.func18 #[.int .i64 aa] ?_;(with_reducible refine (grottolaw03_num.calls jG.out).mono ?_);rintro e w' ⟨rfl,⟨nd,rfl⟩⟩;refine⟨_,rfl,?_⟩))
    go_ret
    exact zr HB

   rw[if_pos bo] at H
   obtain⟨aW,aX⟩:=zt bo
   clear bo
   have bp:=Aside0.mk H
   clear H
   go_upto_region 8 with (first|((with_reducible refine gate_callee (f:=18) rfl ?_);refine zgo (some 62) Try.func18 #[.int .i64 aa] ?_;(with_reducible refine (grottolaw03_num.calls jG.out).mono ?_);rintro e w' ⟨rfl,⟨nd,rfl⟩⟩;refine⟨_,rfl,?_⟩))
   (try simp only[Act.put,List.setIfInBounds_toArray,List.set_cons_zero,List.set_cons_succ])
   go_cut [81] (fun v81 wc=>∃ (kq:Nat) (V:Bool),v81=.bool V∧Aside0 (grottolaw03_SoftRests.j1 kq a2 aE a6 V F G Q p W X R U Y Z=some r)∧Aside0 (kq≤jC)∧Aside0 (wc.heap[aR]?=some (.cells #[.int .i64 F,.int .i64 G] 23 (0,0)))∧Aside0 (wc.heap[aS]?=some (.cells #[.int .i64 Q,.bool p,.int .i64 W,.int .u64 X] 34 (0,0)))∧Aside0 (wc.heap[aT]?=some (.cells #[.int .i64 R,.bool U,.int .i64 Y,.int .u64 Z] 34 (0,0)))∧Aside0 (Below w.heap.size w wc))
   case first =>
    have H:=bp.out
    clear bp
    by_cases bf:Q=4
    ·rw[if_pos bf] at H
     obtain⟨T,bq⟩:=zt bf
     clear bf
     (first|rw[T]|(simp only[i64_w,i32_w];rw[T])|skip)
     have H':=Aside0.mk H
     clear H
     obtain⟨oe,og⟩:=z2 C
     obtain⟨oh,oi⟩:=z2 E
     obtain⟨br,bs,bt,bu,bv,bw,bx,bz⟩:=zc4 c
     go_wp2
     go_meet
     case rel=>exact⟨_,(true),(by first|rfl|(simp[*];done)),H',⟨by have:=ba.out;first|omega|exact Nat.le_refl _⟩,⟨zk a⟩,⟨zk c⟩,⟨zk b⟩,⟨zb HB⟩⟩
    rw[if_neg bf] at H
    obtain⟨T,bq⟩:=zf bf
    (first|rw[T]|(simp only[i64_w,i32_w];rw[T])|skip)
    by_cases bg:Q=3
    ·rw[if_pos bg] at H
     obtain⟨bA,bB⟩:=zt bg
     clear bg
     have H':=Aside0.mk H
     clear H
     obtain⟨oj,ok⟩:=z2 C
     obtain⟨ol,om⟩:=z2 E
     obtain⟨bC,bD,bE,bF,bG,bH,bI,bJ⟩:=zc4 c
     go_wp2
     go_meet
     case rel=>exact⟨_,(true),(by first|rfl|(simp[*];done)),H',⟨by have:=ba.out;first|omega|exact Nat.le_refl _⟩,⟨zk a⟩,⟨zk c⟩,⟨zk b⟩,⟨zb HB⟩⟩
    rw[if_neg bg] at H
    obtain⟨bA,bB⟩:=zf bg
    by_cases bh:R=4
    ·rw[if_pos bh] at H
     obtain⟨bK,bL⟩:=zt bh
     clear bh
     have H':=Aside0.mk H
     clear H
     obtain⟨on,oo⟩:=z2 C
     obtain⟨op,oq⟩:=z2 E
     obtain⟨bM,bN,bO,bP,bQ,bR,bS,bT⟩:=zc4 c
     obtain⟨os,ot⟩:=z2 j
     obtain⟨bU,bV,bW,bX,bY,bZ,b0,b1⟩:=zc4 b
     go_wp2
     go_meet
     case rel=>exact⟨_,(true),(by first|rfl|(simp[*];done)),H',⟨by have:=ba.out;first|omega|exact Nat.le_refl _⟩,⟨zk a⟩,⟨zk c⟩,⟨zk b⟩,⟨zb HB⟩⟩
    rw[if_neg bh] at H
    obtain⟨bK,bL⟩:=zf bh
    have H':=Aside0.mk H
    clear H
    obtain⟨ou,ov⟩:=z2 C
    obtain⟨ow,ox⟩:=z2 E
    obtain⟨b2,b3,b4,b5,b6,b7,b8,b9⟩:=zc4 c
    obtain⟨oy,oz⟩:=z2 j
    obtain⟨ca,cb,cc,cd,ce,cf,cg,ch⟩:=zc4 b
    go_wp2
    go_meet
    case rel=>exact⟨_,((R==1)),(by first|rfl|(simp[*];done)),H',⟨by have:=ba.out;first|omega|exact Nat.le_refl _⟩,⟨zk a⟩,⟨zk c⟩,⟨zk b⟩,⟨zb HB⟩⟩
   case rest =>
    clear bp
    try clear c1 c2 p2 c4 oC oD oE oF oG aU P aV bb aW aX ab ac ad ae aj ak an ao ap aq ax ay aH aI af ag ah ai al am ar au av aw az aA aJ aK p2
    obtain⟨kq,V,rfl,HA,dy,a,c,b,HB⟩:=hcut
    cases kq with
    | zero=>exact absurd HA.out (by simp[grottolaw03_SoftRests.j1])
    | succ dz =>
     have H:=HA.out
     clear HA
     simp only[grottolaw03_SoftRests.j1] at H
     by_cases ci:V=true
     ·subst ci
      rw[if_pos rfl] at H
      obtain⟨jH,dC,H⟩:=oB H
      by_cases cj:aE=jH
      ·rw[if_pos cj] at H
       obtain⟨dD,dE⟩:=zt cj
       clear cj
       by_cases ck:a6=aE
       ·rw[if_pos ck] at H
        obtain⟨dF,dG⟩:=zt ck
        clear ck
        obtain⟨jI,oH,H⟩:=oB H
        obtain rfl:=Option.some.inj H
        obtain⟨oI,oJ⟩:=z2 i
        obtain⟨oK,oL⟩:=z2 D
        obtain⟨jJ,jK,jL,jM⟩:=zc2 a
        go_wp2_with (first|((with_reducible refine gate_callee (f:=21) rfl ?_);refine zgc (some 84) Try.func21 (grottoref02_NaN.calls dC.out) ?_;intro p7 hb;obtain⟨a,c,b,HB⟩:=zu3 a c b HB hb;clear hb)|(go_at_call 19;(with_reducible refine (grottolaw03_live.calls dz  jI _ oH.out).mono ?_);rintro e p8 ⟨rfl,hb⟩;obtain⟨a,c,b,HB⟩:=zu3 a c b HB hb;clear hb))
        go_ret
        exact zr HB
       rw[if_neg ck] at H
       obtain⟨dF,dG⟩:=zf ck
       obtain rfl:=Option.some.inj H
       obtain⟨oM,oN⟩:=z2 i
       obtain⟨oO,oP⟩:=z2 D
       obtain⟨jN,jO,jP,jQ⟩:=zc2 a
       go_wp2_with (first|((with_reducible refine gate_callee (f:=21) rfl ?_);refine zgc (some 84) Try.func21 (grottoref02_NaN.calls dC.out) ?_;intro p9 hb;obtain⟨a,c,b,HB⟩:=zu3 a c b HB hb;clear hb))
       go_ret
       exact zr HB
      rw[if_neg cj] at H
      obtain⟨dD,dE⟩:=zf cj
      obtain rfl:=Option.some.inj H
      obtain⟨oQ,oR⟩:=z2 i
      obtain⟨oS,oT⟩:=z2 D
      obtain⟨jR,jS,jT,jU⟩:=zc2 a
      go_wp2_with (first|((with_reducible refine gate_callee (f:=21) rfl ?_);refine zgc (some 84) Try.func21 (grottoref02_NaN.calls dC.out) ?_;intro qa hb;obtain⟨a,c,b,HB⟩:=zu3 a c b HB hb;clear hb))
      go_ret
      exact zr HB
     replace ci:=Bool.eq_false_iff.mpr ci
     subst ci
     rw[if_neg nft] at H
     obtain⟨⟨cl,v,cm,cn,co⟩,oU,H⟩:=oB H
     try dsimp only at H
     obtain⟨⟨cp,y,cq,cr,ct⟩,oV,H⟩:=oB H
     try dsimp only at H
     have cu:=Aside0.mk H
     clear H
     obtain⟨oW,oX⟩:=z2 i
     obtain⟨oY,oZ⟩:=z2 D
     obtain⟨cv,cw,cx,cy⟩:=zc2 a
     go_upto_if 107 with (first|((with_reducible refine gate_callee (f:=20) rfl ?_);refine zgc (some 97) Try.func20 (grottoref02_Open.calls oU.out) ?_;intro qb hb;obtain⟨a,c,b,HB⟩:=zu3 a c b HB hb;clear hb)|((with_reducible refine gate_dst (N:=14) rfl ?_);refine zbox (N:=14) (cs:=#[.int .i64 0,.bool false,.int .i64 0,.int .u64 0]) (t:=34) ?_;intro dH hg qc hbox hb;have d:=Aside0.mk hbox;have o0:=zge hg HB;have o1:=zge hg HB;have m:=znl hg a;have aY:=zng hg a;have dI:=znl hg c;have u:=zng hg c;have q:=znl hg b;have aZ:=zng hg b;obtain⟨a,c,b,HB⟩:=zu3 a c b HB hb;clear hb hbox hg;obtain⟨o2,o3⟩:=z2 aY;obtain⟨o4,o5⟩:=z2 u;obtain⟨o6,o7⟩:=z2 aZ;obtain⟨cz,cA,cB,cC,cD,cE,cF,cG⟩:=zc4 d;obtain⟨cH,cI,cJ,cK⟩:=zc2 a)|((with_reducible refine gate_callee (f:=20) rfl ?_);refine zgc (some 103) Try.func20 (grottoref02_Open.calls oV.out) ?_;intro qd hb;replace a:=zkb a hb;replace c:=zkb c hb;replace b:=zkb b hb;replace d:=zkbo (o:=.cells #[.int .i64 cl,.bool v,.int .i64 cm,.int .u64 cn] 34 (0,0)) d hb;replace HB:=zbs HB hb;clear hb)|((with_reducible refine gate_dst (N:=16) rfl ?_);refine zbox (N:=16) (cs:=#[.int .i64 0,.bool false,.int .i64 0,.int .u64 0]) (t:=34) ?_;intro dJ hg qe hbox hb;have g:=Aside0.mk hbox;have o8:=zge hg HB;have o9:=zge hg HB;have n:=znl hg a;have a0:=zng hg a;have z:=znl hg c;have a3:=zng hg c;have s:=znl hg b;have a4:=zng hg b;have B:=znl hg d;have a5:=zng hg d;obtain⟨a,c,b,d,HB⟩:=zu4 a c b d HB hb;clear hb hbox hg;obtain⟨pa,pb⟩:=z2 a0;obtain⟨pc,pd⟩:=z2 a3;obtain⟨pe,pf⟩:=z2 a4;obtain⟨pg,ph⟩:=z2 a5;obtain⟨cL,cM,cN,cO,cP,cQ,cR,cS⟩:=zc4 g;obtain⟨pi,pj⟩:=z2 E;obtain⟨cT,cU,cV,cW,cX,cY,cZ,c0⟩:=zc4 c))
     (try simp only[Act.put,List.setIfInBounds_toArray,List.set_cons_zero,List.set_cons_succ])
     go_cut [11] (fun v11 wc=>∃ (kq:Nat) (aM:Int),v11=.int .u64 aM∧Aside0 (grottolaw03_SoftRests.j2 kq a2 aM co ct F G Q p W X R U Y Z cl v cm cn cp y cq cr=some r)∧Aside0 (kq≤dz)∧Aside0 (wc.heap[aR]?=some (.cells #[.int .i64 F,.int .i64 G] 23 (0,0)))∧Aside0 (wc.heap[aS]?=some (.cells #[.int .i64 Q,.bool p,.int .i64 W,.int .u64 X] 34 (0,0)))∧Aside0 (wc.heap[aT]?=some (.cells #[.int .i64 R,.bool U,.int .i64 Y,.int .u64 Z] 34 (0,0)))∧Aside0 (wc.heap[dH]?=some (.cells #[.int .i64 cl,.bool v,.int .i64 cm,.int .u64 cn] 34 (0,0)))∧Aside0 (wc.heap[dJ]?=some (.cells #[.int .i64 cp,.bool y,.int .i64 cq,.int .u64 cr] 34 (0,0)))∧Aside0 (Below w.heap.size w wc))
     case first =>
      have H:=cu.out
      clear cu
      by_cases da:p=true
      ·subst da
       rw[if_pos rfl] at H
       obtain⟨jV,pk,H⟩:=oB H
       have H':=Aside0.mk H
       clear H
       obtain⟨pl,pm⟩:=z2 i
       obtain⟨pn,po⟩:=z2 D
       obtain⟨pp,pq⟩:=z2 m
       obtain⟨pr,ps⟩:=z2 n
       obtain⟨jW,jX,jY,jZ⟩:=zc2 a
       go_wp2_with (first|((with_reducible refine gate_callee (f:=22) rfl ?_);refine zgc (some 110) Try.func22 (grottoref03_Turn.calls pk.out) ?_;intro qf hb;replace a:=zkb a hb;replace c:=zkb c hb;replace b:=zkb b hb;replace d:=zkb d hb;replace g:=zkbo (o:=.cells #[.int .i64 cp,.bool y,.int .i64 cq,.int .u64 cr] 34 (0,0)) g hb;replace HB:=zbs HB hb;clear hb))
       go_meet
       case rel=>exact⟨_,(jV),(by first|rfl|(simp[*];done)),H',⟨by have:=ba.out;have:=dy.out;first|omega|exact Nat.le_refl _⟩,⟨zk a⟩,⟨zk c⟩,⟨zk b⟩,⟨zk d⟩,⟨zk g⟩,⟨zb HB⟩⟩
      replace da:=Bool.eq_false_iff.mpr da
      subst da
      rw[if_neg nft] at H
      have H':=Aside0.mk H
      clear H
      go_wp2
      go_meet
      case rel=>exact⟨_,(aE),(by first|rfl|(simp[*];done)),H',⟨by have:=ba.out;have:=dy.out;first|omega|exact Nat.le_refl _⟩,⟨zk a⟩,⟨zk c⟩,⟨zk b⟩,⟨zk d⟩,⟨zkp g⟩,⟨zb HB⟩⟩
     case rest =>
      clear cu
      try clear c1 c2 p2 c3 c4 c5 oC oD oE oF oG aU P aV bb bc bi bj bd bk bl be bm bn aW aX bf T bq qg qh bg bA bB qi qj bh bK bL qk ql qm qn qo qp ci ab ac ad ae aj ak an ao ap aq ax ay br bs bt bu bC bD bE bF bM bN bO bP bU bV bW bX b2 b3 b4 b5 ca cb cc cd cv cw cz cA cB cC cH cI cL cM cN cO cT cU cV cW aH aI af ag ah ai al am ar au av aw az aA bv bw bx bz bG bH bI bJ bQ bR bS bT bY bZ b0 b1 b6 b7 b8 b9 ce cf cg ch cx cy cD cE cF cG cJ cK cP cQ cR cS cX cY cZ c0 aJ aK p2
      obtain⟨kq,aM,rfl,HA,pt,a,c,b,d,g,HB⟩:=hcut
      cases kq with
      | zero=>exact absurd HA.out (by simp[grottolaw03_SoftRests.j2])
      | succ dA =>
       have H:=HA.out
       clear HA
       simp only[grottolaw03_SoftRests.j2] at H
       by_cases a7:U=true
       ·subst a7
        rw[if_pos rfl] at H
        obtain⟨pu,aB,H⟩:=oB H
        obtain⟨⟨c6,j3,pv⟩,aC,H⟩:=oB H
        try dsimp only at H
        by_cases aN:co=0
        rotate_left
        ·rw[if_neg aN] at H
         obtain⟨db,dc⟩:=zf aN
         obtain rfl:=Option.some.inj H
         obtain⟨lR,lS⟩:=z2 j
         obtain⟨lT,lU⟩:=z2 l
         obtain⟨lV,lW⟩:=z2 q
         obtain⟨lX,lY⟩:=z2 s
         obtain⟨gA,gB,gC,gD,gE,gF,gG,gH⟩:=zc4 b
         obtain⟨lZ,l0⟩:=z2 i
         obtain⟨l1,l2⟩:=z2 m
         obtain⟨l3,l4⟩:=z2 n
         obtain⟨gI,gJ,gK,gL⟩:=zc2 a
         go_wp2_with (first|((with_reducible refine gate_callee (f:=22) rfl ?_);refine zgc (some 115) Try.func22 (grottoref03_Turn.calls aB.out) ?_;intro pJ hb;obtain⟨a,c,b,d,g,HB⟩:=zu5 a c b d g HB hb;clear hb;obtain⟨gM,gN,gO,gP⟩:=zc2 a)|((with_reducible refine gate_callee (f:=23) rfl ?_);refine zgc (some 120) Try.func23 (grottoref03_Cmp.calls aC.out) ?_;intro pK hb;obtain⟨a,c,b,d,g,HB⟩:=zu5 a c b d g HB hb;clear hb))
         go_ret
         exact zr HB
        rw[if_pos aN] at H
        obtain⟨db,dc⟩:=zt aN
        clear aN
        by_cases aO:ct=0
        rotate_left
        ·rw[if_neg aO] at H
         obtain⟨dd,de⟩:=zf aO
         obtain rfl:=Option.some.inj H
         obtain⟨lD,lE⟩:=z2 j
         obtain⟨lF,lG⟩:=z2 l
         obtain⟨lH,lI⟩:=z2 q
         obtain⟨lJ,lK⟩:=z2 s
         obtain⟨gk,gl,gm,gn,go,gp,gq,gr⟩:=zc4 b
         obtain⟨lL,lM⟩:=z2 i
         obtain⟨lN,lO⟩:=z2 m
         obtain⟨lP,lQ⟩:=z2 n
         obtain⟨gs,gt,gu,gv⟩:=zc2 a
         go_wp2_with (first|((with_reducible refine gate_callee (f:=22) rfl ?_);refine zgc (some 115) Try.func22 (grottoref03_Turn.calls aB.out) ?_;intro pH hb;obtain⟨a,c,b,d,g,HB⟩:=zu5 a c b d g HB hb;clear hb;obtain⟨gw,gx,gy,gz⟩:=zc2 a)|((with_reducible refine gate_callee (f:=23) rfl ?_);refine zgc (some 120) Try.func23 (grottoref03_Cmp.calls aC.out) ?_;intro pI hb;obtain⟨a,c,b,d,g,HB⟩:=zu5 a c b d g HB hb;clear hb))
         go_ret
         exact zr HB
        rw[if_pos aO] at H
        obtain⟨dd,de⟩:=zt aO
        clear aO
        by_cases a8:j3=true
        rotate_left
        ·replace a8:=Bool.eq_false_iff.mpr a8
         subst a8
         rw[if_neg nft] at H
         obtain rfl:=Option.some.inj H
         obtain⟨lp,lq⟩:=z2 j
         obtain⟨lr,ls⟩:=z2 l
         obtain⟨lt,lu⟩:=z2 q
         obtain⟨lv,lw⟩:=z2 s
         obtain⟨f4,f5,f6,f7,f8,f9,ga,gb⟩:=zc4 b
         obtain⟨lx,ly⟩:=z2 i
         obtain⟨lz,lA⟩:=z2 m
         obtain⟨lB,lC⟩:=z2 n
         obtain⟨gc,gd,ge,gf⟩:=zc2 a
         go_wp2_with (first|((with_reducible refine gate_callee (f:=22) rfl ?_);refine zgc (some 115) Try.func22 (grottoref03_Turn.calls aB.out) ?_;intro pF hb;obtain⟨a,c,b,d,g,HB⟩:=zu5 a c b d g HB hb;clear hb;obtain⟨gg,gh,gi,gj⟩:=zc2 a)|((with_reducible refine gate_callee (f:=23) rfl ?_);refine zgc (some 120) Try.func23 (grottoref03_Cmp.calls aC.out) ?_;intro pG hb;obtain⟨a,c,b,d,g,HB⟩:=zu5 a c b d g HB hb;clear hb))
         go_ret
         exact zr HB
        subst a8
        rw[if_pos rfl] at H
        by_cases aF:c6<0
        rotate_left
        ·rw[if_neg aF] at H
         have df:decide (c6<0)=false:=decide_eq_false aF
         clear aF
         obtain rfl:=Option.some.inj H
         obtain⟨lb,lc⟩:=z2 j
         obtain⟨ld,le⟩:=z2 l
         obtain⟨lf,lg⟩:=z2 q
         obtain⟨lh,li⟩:=z2 s
         obtain⟨fO,fP,fQ,fR,fS,fT,fU,fV⟩:=zc4 b
         obtain⟨lj,lk⟩:=z2 i
         obtain⟨ll,lm⟩:=z2 m
         obtain⟨ln,lo⟩:=z2 n
         obtain⟨fW,fX,fY,fZ⟩:=zc2 a
         go_wp2_with (first|((with_reducible refine gate_callee (f:=22) rfl ?_);refine zgc (some 115) Try.func22 (grottoref03_Turn.calls aB.out) ?_;intro pD hb;obtain⟨a,c,b,d,g,HB⟩:=zu5 a c b d g HB hb;clear hb;obtain⟨f0,f1,f2,f3⟩:=zc2 a)|((with_reducible refine gate_callee (f:=23) rfl ?_);refine zgc (some 120) Try.func23 (grottoref03_Cmp.calls aC.out) ?_;intro pE hb;obtain⟨a,c,b,d,g,HB⟩:=zu5 a c b d g HB hb;clear hb))
         go_ret
         exact zr HB
        rw[if_pos aF] at H
        have df:decide (c6<0)=true:=decide_eq_true aF
        clear aF
        by_cases K:(v==p)=true
        ·rw[if_pos K] at H
         have dg:(v==p)=true:=K
         (try (have dh:decide (v=p)=true:=by simpa using K))
         (try (have di:(v==p)=true:=by simpa using K))
         clear K
         by_cases L:(y==(p != true))=true
         ·rw[if_pos L] at H
          have dj:(y==(p != true))=true:=L
          (try (have dk:decide (y=(p != true))=true:=by simpa using L))
          (try (have dl:(y==(p != true))=true:=by simpa using L))
          (try (have Lq1 : (y == (!p)) = true := by simpa using L))
          (try (have Lq2 : decide (y = (!p)) = true := by simpa using L))
          (try (have Lq3 : (y = (!p)) := by simpa using L))
          clear L
          obtain⟨j4,j5,H⟩:=oB H
          obtain rfl:=Option.some.inj H
          obtain⟨ka,kb⟩:=z2 j
          obtain⟨kc,kd⟩:=z2 l
          obtain⟨ke,kf⟩:=z2 q
          obtain⟨kg,kh⟩:=z2 s
          obtain⟨dK,dL,dM,dN,dO,dP,dQ,dR⟩:=zc4 b
          obtain⟨ki,kj⟩:=z2 i
          obtain⟨kk,kl⟩:=z2 m
          obtain⟨km,kn⟩:=z2 n
          obtain⟨dS,dT,dU,dV⟩:=zc2 a
          go_wp2_with (first|((with_reducible refine gate_callee (f:=22) rfl ?_);refine zgc (some 115) Try.func22 (grottoref03_Turn.calls aB.out) ?_;intro pw hb;obtain⟨a,c,b,d,g,HB⟩:=zu5 a c b d g HB hb;clear hb;obtain⟨dW,dX,dY,dZ⟩:=zc2 a)|((with_reducible refine gate_callee (f:=23) rfl ?_);refine zgc (some 120) Try.func23 (grottoref03_Cmp.calls aC.out) ?_;intro px hb;obtain⟨a,c,b,d,g,HB⟩:=zu5 a c b d g HB hb;clear hb;obtain⟨ko,kp⟩:=z2 u;obtain⟨kr,ks⟩:=z2 B;obtain⟨d0,d1,d2,d3,d4,d5,d6,d7⟩:=zc4 d;obtain⟨kt,ku⟩:=z2 z;obtain⟨d8,d9,ea,eb,ec,ed,ee,ef⟩:=zc4 c;obtain⟨eg,eh,ei,ej,ek,el,em,en⟩:=zc4 g;obtain⟨eo,ep,eq,er,es,et,eu,ev⟩:=zc4 b)|(go_at_call 19;(with_reducible refine (grottolaw03_live.calls dA  j4 _ j5.out).mono ?_);rintro e py ⟨rfl,hb⟩;obtain⟨a,c,b,d,g,HB⟩:=zu5 a c b d g HB hb;clear hb))
          go_ret
          exact zr HB
         rw[if_neg L] at H
         have dj:(y==(p != true))=false:=by simpa using L
         (try (have dk:decide (y=(p != true))=false:=by simpa using L))
         (try (have dl:(y==(p != true))=false:=by simpa using L))
         (try (have Lq1 : (y == (!p)) = false := by simpa using L))
         (try (have Lq2 : decide (y = (!p)) = false := by simpa using L))
         (try (have Lq3 : ¬ (y = (!p)) := by simpa using L))
         (try (have kv:¬ (y=(p != true)):=by simpa using L))
         clear L
         obtain rfl:=Option.some.inj H
         obtain⟨kw,kx⟩:=z2 j
         obtain⟨ky,kz⟩:=z2 l
         obtain⟨kA,kB⟩:=z2 q
         obtain⟨kC,kD⟩:=z2 s
         obtain⟨ew,ex,ey,ez,eA,eB,eC,eD⟩:=zc4 b
         obtain⟨kE,kF⟩:=z2 i
         obtain⟨kG,kH⟩:=z2 m
         obtain⟨kI,kJ⟩:=z2 n
         obtain⟨eE,eF,eG,eH⟩:=zc2 a
         go_wp2_with (first|((with_reducible refine gate_callee (f:=22) rfl ?_);refine zgc (some 115) Try.func22 (grottoref03_Turn.calls aB.out) ?_;intro pz hb;obtain⟨a,c,b,d,g,HB⟩:=zu5 a c b d g HB hb;clear hb;obtain⟨eI,eJ,eK,eL⟩:=zc2 a)|((with_reducible refine gate_callee (f:=23) rfl ?_);refine zgc (some 120) Try.func23 (grottoref03_Cmp.calls aC.out) ?_;intro pA hb;obtain⟨a,c,b,d,g,HB⟩:=zu5 a c b d g HB hb;clear hb;obtain⟨kK,kL⟩:=z2 u;obtain⟨kM,kN⟩:=z2 B;obtain⟨eM,eN,eO,eP,eQ,eR,eS,eT⟩:=zc4 d;obtain⟨kO,kP⟩:=z2 z;obtain⟨eU,eV,eW,eX,eY,eZ,e0,e1⟩:=zc4 c;obtain⟨e2,e3,e4,e5,e6,e7,e8,e9⟩:=zc4 g;obtain⟨fa,fb,fc,fd,fe,ff,fg,fh⟩:=zc4 b))
         go_ret
         exact zr HB
        rw[if_neg K] at H
        have dg:(v==p)=false:=by simpa using K
        (try (have dh:decide (v=p)=false:=by simpa using K))
        (try (have di:(v==p)=false:=by simpa using K))
        (try (have kQ:¬ (v=p):=by simpa using K))
        clear K
        obtain rfl:=Option.some.inj H
        obtain⟨kR,kS⟩:=z2 j
        obtain⟨kT,kU⟩:=z2 l
        obtain⟨kV,kW⟩:=z2 q
        obtain⟨kX,kY⟩:=z2 s
        obtain⟨fi,fj,fk,fl,fm,fn,fo,fp⟩:=zc4 b
        obtain⟨kZ,k0⟩:=z2 i
        obtain⟨k1,k2⟩:=z2 m
        obtain⟨k3,k4⟩:=z2 n
        obtain⟨fq,fr,fs,ft⟩:=zc2 a
        go_wp2_with (first|((with_reducible refine gate_callee (f:=22) rfl ?_);refine zgc (some 115) Try.func22 (grottoref03_Turn.calls aB.out) ?_;intro pB hb;obtain⟨a,c,b,d,g,HB⟩:=zu5 a c b d g HB hb;clear hb;obtain⟨fu,fv,fw,fx⟩:=zc2 a)|((with_reducible refine gate_callee (f:=23) rfl ?_);refine zgc (some 120) Try.func23 (grottoref03_Cmp.calls aC.out) ?_;intro pC hb;obtain⟨a,c,b,d,g,HB⟩:=zu5 a c b d g HB hb;clear hb;obtain⟨k5,k6⟩:=z2 u;obtain⟨k7,k8⟩:=z2 B;obtain⟨fy,fz,fA,fB,fC,fD,fE,fF⟩:=zc4 d;obtain⟨k9,la⟩:=z2 z;obtain⟨fG,fH,fI,fJ,fK,fL,fM,fN⟩:=zc4 c))
        go_ret
        exact zr HB
       replace a7:=Bool.eq_false_iff.mpr a7
       subst a7
       rw[if_neg nft] at H
       obtain⟨⟨c7,j6,pL⟩,aD,H⟩:=oB H
       try dsimp only at H
       by_cases aP:co=0
       rotate_left
       ·rw[if_neg aP] at H
        obtain⟨dm,dn⟩:=zf aP
        obtain rfl:=Option.some.inj H
        obtain⟨nN,nO⟩:=z2 j
        obtain⟨nP,nQ⟩:=z2 l
        obtain⟨nR,nS⟩:=z2 q
        obtain⟨nT,nU⟩:=z2 s
        obtain⟨jo,jp,jq,jr,js,jt,ju,jv⟩:=zc4 b
        obtain⟨nV,nW⟩:=z2 i
        obtain⟨nX,nY⟩:=z2 m
        obtain⟨nZ,n0⟩:=z2 n
        obtain⟨jw,jx,jy,jz⟩:=zc2 a
        go_wp2_with (first|((with_reducible refine gate_callee (f:=23) rfl ?_);refine zgc (some 120) Try.func23 (grottoref03_Cmp.calls aD.out) ?_;intro pT hb;obtain⟨a,c,b,d,g,HB⟩:=zu5 a c b d g HB hb;clear hb))
        go_ret
        exact zr HB
       rw[if_pos aP] at H
       obtain⟨dm,dn⟩:=zt aP
       clear aP
       by_cases aQ:ct=0
       rotate_left
       ·rw[if_neg aQ] at H
        obtain⟨dp,dq⟩:=zf aQ
        obtain rfl:=Option.some.inj H
        obtain⟨nz,nA⟩:=z2 j
        obtain⟨nB,nC⟩:=z2 l
        obtain⟨nD,nE⟩:=z2 q
        obtain⟨nF,nG⟩:=z2 s
        obtain⟨jc,jd,je,jf,jg,jh,ji,jj⟩:=zc4 b
        obtain⟨nH,nI⟩:=z2 i
        obtain⟨nJ,nK⟩:=z2 m
        obtain⟨nL,nM⟩:=z2 n
        obtain⟨jk,jl,jm,jn⟩:=zc2 a
        go_wp2_with (first|((with_reducible refine gate_callee (f:=23) rfl ?_);refine zgc (some 120) Try.func23 (grottoref03_Cmp.calls aD.out) ?_;intro pS hb;obtain⟨a,c,b,d,g,HB⟩:=zu5 a c b d g HB hb;clear hb))
        go_ret
        exact zr HB
       rw[if_pos aQ] at H
       obtain⟨dp,dq⟩:=zt aQ
       clear aQ
       by_cases a9:j6=true
       rotate_left
       ·replace a9:=Bool.eq_false_iff.mpr a9
        subst a9
        rw[if_neg nft] at H
        obtain rfl:=Option.some.inj H
        obtain⟨nl,nm⟩:=z2 j
        obtain⟨nn,no⟩:=z2 l
        obtain⟨np,nq⟩:=z2 q
        obtain⟨nr,ns⟩:=z2 s
        obtain⟨i0,i1,i2,i3,i4,i5,i6,i7⟩:=zc4 b
        obtain⟨nt,nu⟩:=z2 i
        obtain⟨nv,nw⟩:=z2 m
        obtain⟨nx,ny⟩:=z2 n
        obtain⟨i8,i9,ja,jb⟩:=zc2 a
        go_wp2_with (first|((with_reducible refine gate_callee (f:=23) rfl ?_);refine zgc (some 120) Try.func23 (grottoref03_Cmp.calls aD.out) ?_;intro pR hb;obtain⟨a,c,b,d,g,HB⟩:=zu5 a c b d g HB hb;clear hb))
        go_ret
        exact zr HB
       subst a9
       rw[if_pos rfl] at H
       by_cases aG:c7<0
       rotate_left
       ·rw[if_neg aG] at H
        have dr:decide (c7<0)=false:=decide_eq_false aG
        clear aG
        obtain rfl:=Option.some.inj H
        obtain⟨m6,m7⟩:=z2 j
        obtain⟨m8,m9⟩:=z2 l
        obtain⟨na,nb⟩:=z2 q
        obtain⟨nc,ne⟩:=z2 s
        obtain⟨iO,iP,iQ,iR,iS,iT,iU,iV⟩:=zc4 b
        obtain⟨nf,ng⟩:=z2 i
        obtain⟨nh,ni⟩:=z2 m
        obtain⟨nj,nk⟩:=z2 n
        obtain⟨iW,iX,iY,iZ⟩:=zc2 a
        go_wp2_with (first|((with_reducible refine gate_callee (f:=23) rfl ?_);refine zgc (some 120) Try.func23 (grottoref03_Cmp.calls aD.out) ?_;intro pQ hb;obtain⟨a,c,b,d,g,HB⟩:=zu5 a c b d g HB hb;clear hb))
        go_ret
        exact zr HB
       rw[if_pos aG] at H
       have dr:decide (c7<0)=true:=decide_eq_true aG
       clear aG
       by_cases M:(v==p)=true
       ·rw[if_pos M] at H
        have ds:(v==p)=true:=M
        (try (have dt:decide (v=p)=true:=by simpa using M))
        (try (have du:(v==p)=true:=by simpa using M))
        clear M
        by_cases O:(y==(p != false))=true
        ·rw[if_pos O] at H
         have dv:(y==(p != false))=true:=O
         (try (have dw:decide (y=(p != false))=true:=by simpa using O))
         (try (have dx:(y==(p != false))=true:=by simpa using O))
         (try (have Oq1 : (y == p) = true := by simpa using O))
         (try (have Oq2 : decide (y = p) = true := by simpa using O))
         (try (have Oq3 : (y = p) := by simpa using O))
         clear O
         obtain⟨j7,j8,H⟩:=oB H
         obtain rfl:=Option.some.inj H
         obtain⟨l5,l6⟩:=z2 j
         obtain⟨l7,l8⟩:=z2 l
         obtain⟨l9,ma⟩:=z2 q
         obtain⟨mb,mc⟩:=z2 s
         obtain⟨gQ,gR,gS,gT,gU,gV,gW,gX⟩:=zc4 b
         obtain⟨md,me⟩:=z2 i
         obtain⟨mf,mg⟩:=z2 m
         obtain⟨mh,mi⟩:=z2 n
         obtain⟨gY,gZ,g0,g1⟩:=zc2 a
         go_wp2_with (first|((with_reducible refine gate_callee (f:=23) rfl ?_);refine zgc (some 120) Try.func23 (grottoref03_Cmp.calls aD.out) ?_;intro pM hb;obtain⟨a,c,b,d,g,HB⟩:=zu5 a c b d g HB hb;clear hb;obtain⟨mj,ml⟩:=z2 u;obtain⟨mm,mn⟩:=z2 B;obtain⟨g2,g3,g4,g5,g6,g7,g8,g9⟩:=zc4 d;obtain⟨mo,mp⟩:=z2 z;obtain⟨ha,hc,hd,he,hf,hh,hi,hj⟩:=zc4 c;obtain⟨hk,hl,hm,hn,ho,hp,hq,hr⟩:=zc4 g;obtain⟨hs,ht,hu,hv,hw,hx,hy,hz⟩:=zc4 b)|(go_at_call 19;(with_reducible refine (grottolaw03_live.calls dA  j7 _ j8.out).mono ?_);rintro e pN ⟨rfl,hb⟩;obtain⟨a,c,b,d,g,HB⟩:=zu5 a c b d g HB hb;clear hb))
         go_ret
         exact zr HB
        rw[if_neg O] at H
        have dv:(y==(p != false))=false:=by simpa using O
        (try (have dw:decide (y=(p != false))=false:=by simpa using O))
        (try (have dx:(y==(p != false))=false:=by simpa using O))
        (try (have Oq1 : (y == p) = false := by simpa using O))
        (try (have Oq2 : decide (y = p) = false := by simpa using O))
        (try (have Oq3 : ¬ (y = p) := by simpa using O))
        (try (have mq:¬ (y=(p != false)):=by simpa using O))
        clear O
        obtain rfl:=Option.some.inj H
        obtain⟨mr,ms⟩:=z2 j
        obtain⟨mt,mu⟩:=z2 l
        obtain⟨mv,mw⟩:=z2 q
        obtain⟨mx,my⟩:=z2 s
        obtain⟨hA,hB,hC,hD,hE,hF,hG,hH⟩:=zc4 b
        obtain⟨mz,mA⟩:=z2 i
        obtain⟨mB,mC⟩:=z2 m
        obtain⟨mD,mE⟩:=z2 n
        obtain⟨hI,hJ,hK,hL⟩:=zc2 a
        go_wp2_with (first|((with_reducible refine gate_callee (f:=23) rfl ?_);refine zgc (some 120) Try.func23 (grottoref03_Cmp.calls aD.out) ?_;intro pO hb;obtain⟨a,c,b,d,g,HB⟩:=zu5 a c b d g HB hb;clear hb;obtain⟨mF,mG⟩:=z2 u;obtain⟨mH,mI⟩:=z2 B;obtain⟨hM,hN,hO,hP,hQ,hR,hS,hT⟩:=zc4 d;obtain⟨mJ,mK⟩:=z2 z;obtain⟨hU,hV,hW,hX,hY,hZ,h0,h1⟩:=zc4 c;obtain⟨h2,h3,h4,h5,h6,h7,h8,h9⟩:=zc4 g;obtain⟨ia,ib,ic,ie,ig,ih,ii,ij⟩:=zc4 b))
        go_ret
        exact zr HB
       rw[if_neg M] at H
       have ds:(v==p)=false:=by simpa using M
       (try (have dt:decide (v=p)=false:=by simpa using M))
       (try (have du:(v==p)=false:=by simpa using M))
       (try (have mL:¬ (v=p):=by simpa using M))
       clear M
       obtain rfl:=Option.some.inj H
       obtain⟨mM,mN⟩:=z2 j
       obtain⟨mO,mP⟩:=z2 l
       obtain⟨mQ,mR⟩:=z2 q
       obtain⟨mS,mT⟩:=z2 s
       obtain⟨ik,il,im,io,ip,iq,ir,it⟩:=zc4 b
       obtain⟨mU,mV⟩:=z2 i
       obtain⟨mW,mX⟩:=z2 m
       obtain⟨mY,mZ⟩:=z2 n
       obtain⟨iu,iv,iw,ix⟩:=zc2 a
       go_wp2_with (first|((with_reducible refine gate_callee (f:=23) rfl ?_);refine zgc (some 120) Try.func23 (grottoref03_Cmp.calls aD.out) ?_;intro pP hb;obtain⟨a,c,b,d,g,HB⟩:=zu5 a c b d g HB hb;clear hb;obtain⟨m0,m1⟩:=z2 u;obtain⟨m2,m3⟩:=z2 B;obtain⟨iy,iz,iA,iB,iC,iD,iE,iF⟩:=zc4 d;obtain⟨m4,m5⟩:=z2 z;obtain⟨iG,iH,iI,iJ,iK,iL,iM,iN⟩:=zc4 c))
       go_ret
       exact zr HB
end Go.Proofs.Ytmmbgbchimangaa.PQ
