-- by a program of this claim
import Derived.Test.YtmmbgbchimangaaPQx0
import Derived.Test.YtmmbgbchimangaaPQx3
import Derived.Test.YtmmbgbchimangaaPQx4
import Derived.Test.YtmmbgbchimangaaPQx7
import Derived.Test.YtmmbgbchimangaaPQx8
import Derived.Test.YtmmbgbchimangaaPQx15
import Derived.Test.YtmmbgbchimangaaPQx20
import Derived.Test.YtmmbgbchimangaaPQx29
import Derived.Test.YtmmbgbchimangaaPQx34
namespace Go.Proofs.Ytmmbgbchimangaa.PQ
open Go.RowKit Go.Proofs.YtmmbgbchimangaaW.PrintWords Go.Proofs.YtmmbgbchimangaaW.PrintLast Go.Proofs.YtmmbgbchimangaaW.PrintMore Go.Proofs.Ytmmbgbchimangaa.Z
attribute [local go_sem] max2_int min2_int max_two min_two max_three min_three max_four min_four   -- for this text's walks alone
set_option linter.unusedVariables false
set_option linter.unusedSimpArgs false

/-! ### grottolaw03_SoftTurns: function 15 -/
mutual
def grottolaw03_SoftTurns.j0:Nat→Int→Int→Int→Int→Int→Int→Int→Int→Bool→Int→Int→Int→Bool→Int→Int→Int→Bool→Int→Int→Option (Bool)
 | 0,_,_,_,_,_,_,_,_,_,_,_,_,_,_,_,_,_,_,_=>none
 | k+1,a,b,r,s,c,d,e,f,t,g,h,i,j,l,m,n,o,p,q=>if t=true then (some false) else (if r=0 then (grottolaw03_SoftTurns.j1 k a b c d e f (s != 0) g h i j l m n o p q) else (grottolaw03_SoftTurns.j1 k a b c d e f true g h i j l m n o p q))
def grottolaw03_SoftTurns.j1:Nat→Int→Int→Int→Int→Int→Int→Bool→Int→Int→Int→Bool→Int→Int→Int→Bool→Int→Int→Option (Bool)
 | 0,_,_,_,_,_,_,_,_,_,_,_,_,_,_,_,_,_=>none
 | k+1,c,d,e,n,g,o,v,a,b,h,p,q,r,i,s,t,u=>if v=true then ((grottolaw03_num.f n).bind fun w=>(if w=1 then ((grottolaw03_num.f o).bind fun x=>(if x=1 then (if e=0 then (if g=0 then ((grottolaw03_live.f k).bind fun y=>(some y)) else (some false)) else (some false)) else (some false))) else (some false))) else ((grottoref03_Turn.f k a b d).bind fun z=>((soft_Sub.f k a b c z).bind fun j=>((soft_Sub.f k a b c d).bind fun l=>((soft_Sub.f k a b d c).bind fun m=>((grottolaw03_num.f n).bind fun A=>((grottolaw03_num.f o).bind fun B=>((grottolaw03_num.f j.2).bind fun C=>((grottolaw03_num.f l.2).bind fun D=>((grottolaw03_num.f m.2).bind fun E=>(if (wrap64 ((wrap64 ((wrap64 ((wrap64 (A+B))+C))+D))+E))=0 then (if h=4 then (grottolaw03_SoftTurns.j2 k c d e g j.1 l.1 m.1 true a b h p q r i s t u) else (grottolaw03_SoftTurns.j2 k c d e g j.1 l.1 m.1 (i==4) a b h p q r i s t u)) else (some false)))))))))))
def grottolaw03_SoftTurns.j2:Nat→Int→Int→Int→Int→Int→Int→Int→Bool→Int→Int→Int→Bool→Int→Int→Int→Bool→Int→Int→Option (Bool)
 | 0,_,_,_,_,_,_,_,_,_,_,_,_,_,_,_,_,_,_=>none
 | k+1,i,j,d,l,g,a,e,m,b,c,n,t,u,v,o,w,x,y=>if m=true then ((grottoref02_NaN.f k b c).bind fun p=>(if d=p then (if g=d then (if a=d then (if e=d then (if l=d then ((grottolaw03_live.f k).bind fun q=>(some q)) else (some false)) else (some false)) else (some false)) else (some false)) else (some false))) else (if g=d then ((grottoref02_Zero.f k b c false).bind fun r=>((soft_Cmp.f k b c a r).bind fun h=>(if h.2.1=true then (if h.1=0 then (if n=1 then (if o=1 then (grottolaw03_SoftTurns.j3 k a e (i==j) b c) else (grottolaw03_SoftTurns.j3 k a e true b c)) else (grottolaw03_SoftTurns.j3 k a e true b c)) else (grottolaw03_SoftTurns.j3 k a e false b c)) else (if e=a then ((grottolaw03_live.f k).bind fun s=>(some s)) else (some false))))) else (some false))
def grottolaw03_SoftTurns.j3:Nat→Int→Int→Bool→Int→Int→Option (Bool)
 | 0,_,_,_,_,_=>none
 | k+1,a,b,e,c,d=>if e=true then ((grottoref02_Zero.f k c d false).bind fun g=>(if a=g then (if b=a then ((grottolaw03_live.f k).bind fun h=>(some h)) else (some false)) else (some false))) else ((grottoref03_Turn.f k c d a).bind fun i=>(if b=i then ((grottolaw03_live.f k).bind fun j=>(some j)) else (some false)))
end
def grottolaw03_SoftTurns.f (k:Nat) (a0_0:Int) (a0_1:Int) (a1:Int) (a2:Int):Option (Bool):=(grottoref02_Open.f k a0_0 a0_1 a1).bind fun a=>((grottoref02_Open.f k a0_0 a0_1 a2).bind fun b=>((soft_Add.f k a0_0 a0_1 a1 a2).bind fun c=>((soft_Add.f k a0_0 a0_1 a2 a1).bind fun e=>((soft_Mul.f k a0_0 a0_1 a1 a2).bind fun d=>((soft_Mul.f k a0_0 a0_1 a2 a1).bind fun g=>(if c.1=e.1 then (if c.2=e.2 then (if d.1=g.1 then (grottolaw03_SoftTurns.j0 k a1 a2 a.2.2.2.2 b.2.2.2.2 c.1 c.2 d.1 d.2 (d.2 != g.2) a0_0 a0_1 a.1 a.2.1 a.2.2.1 a.2.2.2.1 b.1 b.2.1 b.2.2.1 b.2.2.2.1) else (grottolaw03_SoftTurns.j0 k a1 a2 a.2.2.2.2 b.2.2.2.2 c.1 c.2 d.1 d.2 true a0_0 a0_1 a.1 a.2.1 a.2.2.1 a.2.2.2.1 b.1 b.2.1 b.2.2.1 b.2.2.2.1)) else (grottolaw03_SoftTurns.j0 k a1 a2 a.2.2.2.2 b.2.2.2.2 c.1 c.2 d.1 d.2 true a0_0 a0_1 a.1 a.2.1 a.2.2.1 a.2.2.2.1 b.1 b.2.1 b.2.2.1 b.2.2.2.1)) else (grottolaw03_SoftTurns.j0 k a1 a2 a.2.2.2.2 b.2.2.2.2 c.1 c.2 d.1 d.2 true a0_0 a0_1 a.1 a.2.1 a.2.2.1 a.2.2.2.1 b.1 b.2.1 b.2.2.1 b.2.2.2.1)))))))
theorem grottolaw03_SoftTurns.mono_l:∀ k,(∀ y0 y1 y2 y3 y4 y5 y6 y7 y8 y9 y10 y11 y12 y13 y14 y15 y16 y17 y18,LeO (grottolaw03_SoftTurns.j0 k y0 y1 y2 y3 y4 y5 y6 y7 y8 y9 y10 y11 y12 y13 y14 y15 y16 y17 y18) (grottolaw03_SoftTurns.j0 (k+1) y0 y1 y2 y3 y4 y5 y6 y7 y8 y9 y10 y11 y12 y13 y14 y15 y16 y17 y18))∧(∀ y0 y1 y2 y3 y4 y5 y6 y7 y8 y9 y10 y11 y12 y13 y14 y15 y16,LeO (grottolaw03_SoftTurns.j1 k y0 y1 y2 y3 y4 y5 y6 y7 y8 y9 y10 y11 y12 y13 y14 y15 y16) (grottolaw03_SoftTurns.j1 (k+1) y0 y1 y2 y3 y4 y5 y6 y7 y8 y9 y10 y11 y12 y13 y14 y15 y16))∧(∀ y0 y1 y2 y3 y4 y5 y6 y7 y8 y9 y10 y11 y12 y13 y14 y15 y16 y17,LeO (grottolaw03_SoftTurns.j2 k y0 y1 y2 y3 y4 y5 y6 y7 y8 y9 y10 y11 y12 y13 y14 y15 y16 y17) (grottolaw03_SoftTurns.j2 (k+1) y0 y1 y2 y3 y4 y5 y6 y7 y8 y9 y10 y11 y12 y13 y14 y15 y16 y17))∧(∀ y0 y1 y2 y3 y4,LeO (grottolaw03_SoftTurns.j3 k y0 y1 y2 y3 y4) (grottolaw03_SoftTurns.j3 (k+1) y0 y1 y2 y3 y4))
 | 0=>⟨fun _ _ _ _ _ _ _ _ _ _ _ _ _ _ _ _ _ _ _ r h=>by simp[grottolaw03_SoftTurns.j0] at h,fun _ _ _ _ _ _ _ _ _ _ _ _ _ _ _ _ _ r h=>by simp[grottolaw03_SoftTurns.j1] at h,fun _ _ _ _ _ _ _ _ _ _ _ _ _ _ _ _ _ _ r h=>by simp[grottolaw03_SoftTurns.j2] at h,fun _ _ _ _ _ r h=>by simp[grottolaw03_SoftTurns.j3] at h⟩
 | k+1=>by
  obtain⟨ih0,ih1,ih2,ih3⟩:=grottolaw03_SoftTurns.mono_l k
  refine⟨?_,?_,?_,?_⟩ <;> intros <;> (first|unfold grottolaw03_SoftTurns.j0|unfold grottolaw03_SoftTurns.j1|unfold grottolaw03_SoftTurns.j2|unfold grottolaw03_SoftTurns.j3) <;> (repeat' first|(with_reducible first|apply ih0|apply ih1|apply ih2|apply ih3|apply grottolaw03_live.mono|apply grottoref02_NaN.mono|apply grottoref02_Open.mono|apply grottoref02_Zero.mono|apply grottoref03_Turn.mono|apply soft_Add.mono|apply soft_Cmp.mono|apply soft_Mul.mono|apply soft_Sub.mono|exact LeO.refl _|exact LeO.none _|refine LeO.ite ?_ ?_|refine LeO.bind ?_ (fun _=>?_))|refine LeO.ite ?_ ?_|refine LeO.bind ?_ (fun _=>?_))
theorem grottolaw03_SoftTurns.mono:∀ a0 a1 a2 a3 k,LeO (grottolaw03_SoftTurns.f k a0 a1 a2 a3) (grottolaw03_SoftTurns.f (k+1) a0 a1 a2 a3):=by
 intro a0 a1 a2 a3 k
 obtain⟨ih0,ih1,ih2,ih3⟩:=grottolaw03_SoftTurns.mono_l k
 unfold grottolaw03_SoftTurns.f
 repeat' first|(with_reducible first|apply ih0|apply ih1|apply ih2|apply ih3|apply grottolaw03_live.mono|apply grottoref02_NaN.mono|apply grottoref02_Open.mono|apply grottoref02_Zero.mono|apply grottoref03_Turn.mono|apply soft_Add.mono|apply soft_Cmp.mono|apply soft_Mul.mono|apply soft_Sub.mono|exact LeO.refl _|exact LeO.none _|refine LeO.ite ?_ ?_|refine LeO.bind ?_ (fun _=>?_))|refine LeO.ite ?_ ?_|refine LeO.bind ?_ (fun _=>?_)
def grottolaw03_SoftTurns.T11:Bool×List (List Nat×List Nat):=(true,[([],[]),([],[]),([],[]),([],[]),([2,3],[2,3]),([0,1,4,4],[0,1,4]),([5],[5]),([6],[6]),([6],[6]),([7,5,0,1,2,3,4,5,6,7],[7]),([8,9,0,1,2,3,4,5,6,7,8,9],[8])])
def grottolaw03_SoftTurns.B11:List Nat:=[0,0,0,0,12,31,63,127,127,255,1023]
theorem grottolaw03_SoftTurns.tab11:rtab .any (opsOf Try.f15 11)=grottolaw03_SoftTurns.T11:=by kernel_rfl
theorem grottolaw03_SoftTurns.bits11:waitsOk grottolaw03_SoftTurns.T11.2 grottolaw03_SoftTurns.B11=true:=by kernel_rfl
def grottolaw03_SoftTurns.T20:Bool×List (List Nat×List Nat):=(true,[([],[]),([],[]),([],[]),([2],[2]),([0,1,3,3],[0,1,3]),([4],[4]),([5],[5]),([5],[5]),([5],[5]),([6,4,0,1,2,3,4,5,6],[6]),([7,9,0,1,2,3,4,5,6,7,9],[7]),([8,10,0,1,2,3,4,5,6,7,8,9,10],[8])])
def grottolaw03_SoftTurns.B20:List Nat:=[0,0,0,4,15,31,63,63,63,127,767,2047]
theorem grottolaw03_SoftTurns.tab20:rtab .any (opsOf Try.f15 20)=grottolaw03_SoftTurns.T20:=by kernel_rfl
theorem grottolaw03_SoftTurns.bits20:waitsOk grottolaw03_SoftTurns.T20.2 grottolaw03_SoftTurns.B20=true:=by kernel_rfl
set_option maxHeartbeats 8000000 in
set_option maxRecDepth 100000 in
theorem grottolaw03_SoftTurns.calls {k:Nat} {j:Int} {l:Int} {a1:Int} {a2:Int} {r:Bool} {w:World} (h:grottolaw03_SoftTurns.f k j l a1 a2=some r) :
  Calls Try.prog 15 #[.agg #[.int .i64 j,.int .i64 l],.int .u64 a1,.int .u64 a2] w fun e w'=>e=.returned (.bool r)∧Below w.heap.size w w':=by
 have hu23:=Try.underlying23
 have hu34:=Try.underlying34
 have HB:=Aside0.mk (Below.refl w.heap.size w)
 have H:=h
 unfold grottolaw03_SoftTurns.f at H
 clear h
 obtain⟨⟨C,G,I,J,bL⟩,A4,H⟩:=oB H
 try dsimp only at H
 obtain⟨⟨D,L,M,O,bM⟩,A5,H⟩:=oB H
 try dsimp only at H
 obtain⟨⟨B,E⟩,A6,H⟩:=oB H
 try dsimp only at H
 obtain⟨⟨cV,cW⟩,A7,H⟩:=oB H
 try dsimp only at H
 obtain⟨⟨aL,aR⟩,A8,H⟩:=oB H
 try dsimp only at H
 obtain⟨⟨cX,cY⟩,A9,H⟩:=oB H
 try dsimp only at H
 have bN:=Aside0.mk H
 clear H
 go_enter Try.func15,Try.ntmps15
 go_upto_region 7 with (first|((with_reducible refine gate_dst (N:=3) rfl ?_);refine zbox (N:=3) (cs:=#[.int .i64 j,.int .i64 l]) (t:=23) ?_;intro q hg hr hbox hb;have a:=Aside0.mk hbox;have fk:=zge hg HB;have fl:=zge hg HB;replace HB:=zbs HB hb;clear hb hbox hg;obtain⟨T,U,V,W⟩:=zc2 a)|((with_reducible refine gate_callee (f:=20) rfl ?_);refine zgc (some 31) Try.func20 (grottoref02_Open.calls A4.out) ?_;intro hs hb;obtain⟨a,HB⟩:=zu1 a HB hb;clear hb)|((with_reducible refine gate_dst (N:=7) rfl ?_);refine zbox (N:=7) (cs:=#[.int .i64 0,.bool false,.int .i64 0,.int .u64 0]) (t:=34) ?_;intro aO hg ht hbox hb;have b:=Aside0.mk hbox;have fm:=zge hg HB;have fn:=zge hg HB;have d:=znl hg a;have s:=zng hg a;obtain⟨a,HB⟩:=zu1 a HB hb;clear hb hbox hg;obtain⟨gc,gd⟩:=z2 s;obtain⟨X,Y,Z,aa,ab,ac,ad,ae⟩:=zc4 b;obtain⟨af,ag,ah,ai⟩:=zc2 a)|((with_reducible refine gate_callee (f:=20) rfl ?_);refine zgc (some 37) Try.func20 (grottoref02_Open.calls A5.out) ?_;intro hu hb;replace a:=zkb a hb;replace b:=zkbo (o:=.cells #[.int .i64 C,.bool G,.int .i64 I,.int .u64 J] 34 (0,0)) b hb;replace HB:=zbs HB hb;clear hb)|((with_reducible refine gate_dst (N:=9) rfl ?_);refine zbox (N:=9) (cs:=#[.int .i64 0,.bool false,.int .i64 0,.int .u64 0]) (t:=34) ?_;intro aP hg hv hbox hb;have c:=Aside0.mk hbox;have fo:=zge hg HB;have fp:=zge hg HB;have g:=znl hg a;have z:=zng hg a;have u:=znl hg b;have aT:=zng hg b;obtain⟨a,b,HB⟩:=zu2 a b HB hb;clear hb hbox hg;obtain⟨ge,gf⟩:=z2 z;obtain⟨gg,gh⟩:=z2 aT;obtain⟨aj,ak,al,am,an,ao,ap,aq⟩:=zc4 c;obtain⟨ar,au,av,aw⟩:=zc2 a)|((with_reducible refine gate_callee (f:=24) rfl ?_);refine zgc (some 44) Try.func24 (soft_Add.calls A6.out) ?_;intro hw hb;replace a:=zkb a hb;replace b:=zkb b hb;replace c:=zkbo (o:=.cells #[.int .i64 D,.bool L,.int .i64 M,.int .u64 O] 34 (0,0)) c hb;replace HB:=zbs HB hb;clear hb;obtain⟨ax,ay,az,aA⟩:=zc2 a)|((with_reducible refine gate_callee (f:=24) rfl ?_);refine zgc (some 51) Try.func24 (soft_Add.calls A7.out) ?_;intro hx hb;obtain⟨a,b,c,HB⟩:=zu3 a b c HB hb;clear hb;obtain⟨aB,aC,aD,aE⟩:=zc2 a)|((with_reducible refine gate_callee (f:=32) rfl ?_);refine zgc (some 58) Try.func32 (soft_Mul.calls A8.out) ?_;intro hy hb;obtain⟨a,b,c,HB⟩:=zu3 a b c HB hb;clear hb;obtain⟨aF,aG,aH,aI⟩:=zc2 a)|((with_reducible refine gate_callee (f:=32) rfl ?_);refine zgc (some 65) Try.func32 (soft_Mul.calls A9.out) ?_;intro hz hb;obtain⟨a,b,c,HB⟩:=zu3 a b c HB hb;clear hb))
 (try simp only[Act.put,List.setIfInBounds_toArray,List.set_cons_zero,List.set_cons_succ])
 go_cut [85] (fun v85 wc=>∃ (kq:Nat) (aU:Bool),v85=.bool aU∧Aside0 (grottolaw03_SoftTurns.j0 kq a1 a2 bL bM B E aL aR aU j l C G I J D L M O=some r)∧Aside0 (kq≤k)∧Aside0 (wc.heap[q]?=some (.cells #[.int .i64 j,.int .i64 l] 23 (0,0)))∧Aside0 (wc.heap[aO]?=some (.cells #[.int .i64 C,.bool G,.int .i64 I,.int .u64 J] 34 (0,0)))∧Aside0 (wc.heap[aP]?=some (.cells #[.int .i64 D,.bool L,.int .i64 M,.int .u64 O] 34 (0,0)))∧Aside0 (Below w.heap.size w wc))
 case first =>
  have H:=bN.out
  clear bN
  by_cases a4:B=cV
  ·as_aux_lemma =>
    rw[if_pos a4] at H
    obtain⟨P,aV⟩:=zt a4
    clear a4
    (first|rw[P]|(simp only[i64_w,i32_w];rw[P])|skip)
    by_cases a5:E=cW
    ·rw[if_pos a5] at H
     obtain⟨aW,aX⟩:=zt a5
     clear a5
     by_cases a6:aL=cX
     ·rw[if_pos a6] at H
      obtain⟨aY,aZ⟩:=zt a6
      clear a6
      have H':=Aside0.mk H
      clear H
      go_wp2
      go_meet
      case rel=>exact⟨_,((aR != cY)),(by first|rfl|(simp[*];done)),H',⟨by omega⟩,⟨zk a⟩,⟨zk b⟩,⟨zk c⟩,⟨zb HB⟩⟩
     ·rw[if_neg a6] at H
      obtain⟨aY,aZ⟩:=zf a6
      have H':=Aside0.mk H
      clear H
      go_wp2
      go_meet
      case rel=>exact⟨_,(true),(by first|rfl|(simp[*];done)),H',⟨by omega⟩,⟨zk a⟩,⟨zk b⟩,⟨zk c⟩,⟨zb HB⟩⟩
    ·rw[if_neg a5] at H
     obtain⟨aW,aX⟩:=zf a5
     have H':=Aside0.mk H
     clear H
     go_wp2
     go_meet
     case rel=>exact⟨_,(true),(by first|rfl|(simp[*];done)),H',⟨by omega⟩,⟨zk a⟩,⟨zk b⟩,⟨zk c⟩,⟨zb HB⟩⟩
  ·rw[if_neg a4] at H
   obtain⟨P,aV⟩:=zf a4
   (first|rw[P]|(simp only[i64_w,i32_w];rw[P])|skip)
   have H':=Aside0.mk H
   clear H
   go_wp2
   go_meet
   case rel=>exact⟨_,(true),(by first|rfl|(simp[*];done)),H',⟨by omega⟩,⟨zk a⟩,⟨zk b⟩,⟨zk c⟩,⟨zb HB⟩⟩
 case rest =>
  clear bN
  try clear T U X Y Z aa af ag aj ak al am ar au ax ay aB aC aF aG V W ab ac ad ae ah ai an ao ap aq av aw az aA aD aE aH aI
  obtain⟨kq,aU,rfl,HA,a7,a,b,c,HB⟩:=hcut
  cases kq with
  | zero=>exact absurd HA.out (by simp[grottolaw03_SoftTurns.j0])
  | succ gi =>
   have H:=HA.out
   clear HA
   simp only[grottolaw03_SoftTurns.j0] at H
   by_cases bp:aU=true
   ·subst bp
    rw[if_pos rfl] at H
    obtain rfl:=Option.some.inj H
    go_wp2
    go_ret
    exact zr HB
   ·as_aux_lemma =>
     replace bp:=Bool.eq_false_iff.mpr bp
     subst bp
     rw[if_neg nft] at H
     have bO:=Aside0.mk H
     clear H
     go_upto_region 9 with (fail)
     go_cut [91] (fun v91 wc=>∃ (kq:Nat) (aQ:Bool),v91=.bool aQ∧Aside0 (grottolaw03_SoftTurns.j1 kq a1 a2 B E aL aR aQ j l C G I J D L M O=some r)∧Aside0 (kq≤gi)∧Aside0 (wc.heap[q]?=some (.cells #[.int .i64 j,.int .i64 l] 23 (0,0)))∧Aside0 (wc.heap[aO]?=some (.cells #[.int .i64 C,.bool G,.int .i64 I,.int .u64 J] 34 (0,0)))∧Aside0 (wc.heap[aP]?=some (.cells #[.int .i64 D,.bool L,.int .i64 M,.int .u64 O] 34 (0,0)))∧Aside0 (Below w.heap.size w wc))
     case first =>
      have H:=bO.out
      clear bO
      by_cases bq:bL=0
      ·rw[if_pos bq] at H
       obtain⟨R,br⟩:=zt bq
       clear bq
       (first|rw[R]|(simp only[i64_w,i32_w];rw[R])|skip)
       have H':=Aside0.mk H
       clear H
       go_wp2
       go_meet
       case rel=>exact⟨_,((bM != 0)),(by first|rfl|(simp[*];done)),H',⟨by have:=a7.out;first|omega|exact Nat.le_refl _⟩,⟨zk a⟩,⟨zk b⟩,⟨zk c⟩,⟨zb HB⟩⟩
      ·rw[if_neg bq] at H
       obtain⟨R,br⟩:=zf bq
       (first|rw[R]|(simp only[i64_w,i32_w];rw[R])|skip)
       have H':=Aside0.mk H
       clear H
       go_wp2
       go_meet
       case rel=>exact⟨_,(true),(by first|rfl|(simp[*];done)),H',⟨by have:=a7.out;first|omega|exact Nat.le_refl _⟩,⟨zk a⟩,⟨zk b⟩,⟨zk c⟩,⟨zb HB⟩⟩
     case rest =>
      clear bO
      try clear c1 c2 p2 c3 eO eP eQ eR a4 P aV a5 aW aX a6 aY aZ bp T U X Y Z aa af ag aj ak al am ar au ax ay aB aC aF aG V W ab ac ad ae ah ai an ao ap aq av aw az aA aD aE aH aI p2
      obtain⟨kq,aQ,rfl,HA,aS,a,b,c,HB⟩:=hcut
      cases kq with
      | zero=>exact absurd HA.out (by simp[grottolaw03_SoftTurns.j1])
      | succ cT =>
       have H:=HA.out
       clear HA
       simp only[grottolaw03_SoftTurns.j1] at H
       by_cases bE:aQ=true
       ·as_aux_lemma =>
         subst bE
         rw[if_pos rfl] at H
         obtain⟨cZ,bP,H⟩:=oB H
         by_cases bF:cZ=1
         ·as_aux_lemma =>
           rw[if_pos bF] at H
           obtain⟨bQ,bR⟩:=zt bF
           clear bF
           obtain⟨c0,cF,H⟩:=oB H
           by_cases bG:c0=1
           ·as_aux_lemma =>
             rw[if_pos bG] at H
             obtain⟨bS,bT⟩:=zt bG
             clear bG
             by_cases bH:B=0
             ·rw[if_pos bH] at H
              obtain⟨bU,bV⟩:=zt bH
              clear bH
              by_cases bI:aL=0
              ·rw[if_pos bI] at H
               obtain⟨bW,bX⟩:=zt bI
               clear bI
               obtain⟨c8,gj,H⟩:=oB H
               obtain rfl:=Option.some.inj H
               go_wp2_with (first|((with_reducible refine gate_callee (f:=18) rfl ?_);refine zgo (some 93) Try.func18 #[.int .i64 E] ?_;(with_reducible refine (grottolaw03_num.calls bP.out).mono ?_);rintro e w' ⟨rfl,⟨nd,rfl⟩⟩;refine⟨_,rfl,?_⟩)|(go_at_call 18;(with_reducible refine (grottolaw03_num.calls cF.out).mono ?_);rintro e w' ⟨rfl,⟨nd,rfl⟩⟩)|(go_at_call 19;(with_reducible refine (grottolaw03_live.calls cT  c8 _ gj.out).mono ?_);rintro e hA ⟨rfl,hb⟩;obtain⟨a,b,c,HB⟩:=zu3 a b c HB hb;clear hb))
               go_ret
               exact zr HB
              ·rw[if_neg bI] at H
               obtain⟨bW,bX⟩:=zf bI
               obtain rfl:=Option.some.inj H
               go_wp2_with (first|((with_reducible refine gate_callee (f:=18) rfl ?_);refine zgo (some 93) Try.func18 #[.int .i64 E] ?_;(with_reducible refine (grottolaw03_num.calls bP.out).mono ?_);rintro e w' ⟨rfl,⟨nd,rfl⟩⟩;refine⟨_,rfl,?_⟩)|(go_at_call 18;(with_reducible refine (grottolaw03_num.calls cF.out).mono ?_);rintro e w' ⟨rfl,⟨nd,rfl⟩⟩))
               go_ret
               exact zr HB
             ·rw[if_neg bH] at H
              obtain⟨bU,bV⟩:=zf bH
              obtain rfl:=Option.some.inj H
              go_wp2_with (first|((with_reducible refine gate_callee (f:=18) rfl ?_);refine zgo (some 93) Try.func18 #[.int .i64 E] ?_;(with_reducible refine (grottolaw03_num.calls bP.out).mono ?_);rintro e w' ⟨rfl,⟨nd,rfl⟩⟩;refine⟨_,rfl,?_⟩)|(go_at_call 18;(with_reducible refine (grottolaw03_num.calls cF.out).mono ?_);rintro e w' ⟨rfl,⟨nd,rfl⟩⟩))
              go_ret
              exact zr HB
           ·rw[if_neg bG] at H
            obtain⟨bS,bT⟩:=zf bG
            obtain rfl:=Option.some.inj H
            go_wp2_with (first|((with_reducible refine gate_callee (f:=18) rfl ?_);refine zgo (some 93) Try.func18 #[.int .i64 E] ?_;(with_reducible refine (grottolaw03_num.calls bP.out).mono ?_);rintro e w' ⟨rfl,⟨nd,rfl⟩⟩;refine⟨_,rfl,?_⟩)|(go_at_call 18;(with_reducible refine (grottolaw03_num.calls cF.out).mono ?_);rintro e w' ⟨rfl,⟨nd,rfl⟩⟩))
            go_ret
            exact zr HB
         ·rw[if_neg bF] at H
          obtain⟨bQ,bR⟩:=zf bF
          obtain rfl:=Option.some.inj H
          go_wp2_with (first|((with_reducible refine gate_callee (f:=18) rfl ?_);refine zgo (some 93) Try.func18 #[.int .i64 E] ?_;(with_reducible refine (grottolaw03_num.calls bP.out).mono ?_);rintro e w' ⟨rfl,⟨nd,rfl⟩⟩;refine⟨_,rfl,?_⟩))
          go_ret
          exact zr HB
       ·as_aux_lemma =>
         replace bE:=Bool.eq_false_iff.mpr bE
         subst bE
         rw[if_neg nft] at H
         obtain⟨bY,eS,H⟩:=oB H
         obtain⟨⟨bs,bZ⟩,eT,H⟩:=oB H
         try dsimp only at H
         obtain⟨⟨F,b0⟩,eU,H⟩:=oB H
         try dsimp only at H
         obtain⟨⟨aM,b1⟩,eV,H⟩:=oB H
         try dsimp only at H
         obtain⟨c9,eW,H⟩:=oB H
         obtain⟨da,eX,H⟩:=oB H
         obtain⟨db,eY,H⟩:=oB H
         obtain⟨dc,eZ,H⟩:=oB H
         obtain⟨dd,e0,H⟩:=oB H
         by_cases b2:(wrap64 ((wrap64 ((wrap64 ((wrap64 (c9+da))+db))+dc))+dd))=0
         ·as_aux_lemma =>
           rw[if_pos b2] at H
           obtain⟨bt,bu⟩:=zt b2
           clear b2
           have b3:=Aside0.mk H
           clear H
           try go_wp2
           replace a:=Aside0.mk (blk_drew a.out)
           replace b:=Aside0.mk (blk_drew b.out)
           replace c:=Aside0.mk (blk_drew c.out)
           replace HB:=Aside0.mk (below_drew1 HB.out)
           refine start_ (n:=11) (S:=fun w'=>w'.cell? ⟨q,0,none⟩=some (.int .i64 j)∧w'.cell? ⟨q,1,none⟩=some (.int .i64 l)) (ds:=[]) #[false,false,false,false,false,false,false,false,false,false,false] (by kernel_rfl) rfl rfl ⟨(blk_cell a.out 0).trans rfl,(blk_cell a.out 1).trans rfl⟩ (fun hHeld=>?_);refine with_tabW grottolaw03_SoftTurns.tab11 grottolaw03_SoftTurns.bits11 (fun HT_ HW_=>?_)
           generalize wc.drew=hB at a b c HB hHeld ⊢
           refine zpure_ (i:=1) (N:=some 113) #[false,true,false,false,false,false,false,false,false,false,false] (any_of HT_.out (by kernel_rfl)) ?_
           refine zpure_ (i:=3) (N:=some 115) #[false,true,false,true,false,false,false,false,false,false,false] (any_of HT_.out (by kernel_rfl)) ?_
           refine ztake_ (i:=0) (N:=some 112) #[true,true,false,true,false,false,false,false,false,false,false] rfl (take_ofW HT_.out HW_.out (by kernel_rfl)) hHeld (Or.inl ⟨by rfl,by rintro w' ⟨s0,s1⟩;go_simp;with_reducible rfl⟩) ?_
           refine ztake_ (i:=2) (N:=some 114) #[true,true,true,true,false,false,false,false,false,false,false] rfl (take_ofW HT_.out HW_.out (by kernel_rfl)) hHeld (Or.inl ⟨by rfl,by rintro w' ⟨s0,s1⟩;go_simp;with_reducible rfl⟩) ?_
           refine one_ (i:=4) (N:=some 116) #[true,true,true,true,true,false,false,false,false,false,false] rfl rfl (one_of HT_.out (by kernel_rfl)) (by decide) (fun K hK=>?_)
           refine goes_ Try.func22 (by kernel_rfl) rfl #[.agg #[.int .i64 j,.int .i64 l],.int .u64 a2] (by rfl) rfl rfl (by (try simp only[List.map_toArray,List.map_cons,List.map_nil]);first|done|rfl|(simp only[List.length_drop,List.length_take];rfl)) ?_
           with_reducible refine (grottoref03_Turn.calls eS.out).mono ?_
           rintro e hC ⟨rfl,hb⟩
           refine⟨_,rfl,?_⟩
           obtain⟨a,b,c,HB⟩:=zu3 a b c HB hb
           try clear hb
           refine hK.out _ _ ⟨(blk_cell a.out 0).trans rfl,(blk_cell a.out 1).trans rfl⟩ (fun hHeld=>?_)
           clear hK K
           refine norm_ (a':=?_) ?_ ?_
           rotate_left
           ·show Act.put _ (some 116) _=_
            simp only[Act.put,List.setIfInBounds_toArray,List.set_cons_zero,List.set_cons_succ,i64_w,i32_w]
            rfl
           refine one_ (i:=5) (N:=some 117) #[true,true,true,true,true,true,false,false,false,false,false] rfl rfl (one_of HT_.out (by kernel_rfl)) (by decide) (fun K hK=>?_)
           refine goes_ Try.func26 (by kernel_rfl) rfl #[.agg #[.int .i64 j,.int .i64 l],.int .u64 a1,.int .u64 bY] (by rfl) rfl rfl (by (try simp only[List.map_toArray,List.map_cons,List.map_nil]);first|done|rfl|(simp only[List.length_drop,List.length_take];rfl)) ?_
           with_reducible refine (soft_Sub.calls eT.out).mono ?_
           rintro e hD ⟨rfl,hb⟩
           refine⟨_,rfl,?_⟩
           obtain⟨a,b,c,HB⟩:=zu3 a b c HB hb
           try clear hb
           refine hK.out _ _ ⟨(blk_cell a.out 0).trans rfl,(blk_cell a.out 1).trans rfl⟩ (fun hHeld=>?_)
           clear hK K
           refine norm_ (a':=?_) ?_ ?_
           rotate_left
           ·show Act.put _ (some 117) _=_
            simp only[Act.put,List.setIfInBounds_toArray,List.set_cons_zero,List.set_cons_succ,i64_w,i32_w]
            rfl
           refine zpure_ (i:=6) (N:=some 111) #[true,true,true,true,true,true,true,false,false,false,false] (any_of HT_.out (by kernel_rfl)) ?_
           refine zpure_ (i:=7) (N:=some 118) #[true,true,true,true,true,true,true,true,false,false,false] (any_of HT_.out (by kernel_rfl)) ?_
           refine zpure_ (i:=8) (N:=some 119) #[true,true,true,true,true,true,true,true,true,false,false] (any_of HT_.out (by kernel_rfl)) ?_
           refine zpure_ (i:=9) (N:=some 19) #[true,true,true,true,true,true,true,true,true,true,false] (any_of HT_.out (by kernel_rfl)) ?_
           refine zpure_ (i:=10) (N:=some 20) #[true,true,true,true,true,true,true,true,true,true,true] (any_of HT_.out (by kernel_rfl)) ?_
           refine done_ (done_of HT_.out (by kernel_rfl)) ?_
           obtain⟨gk,gl⟩:=z2 d
           obtain⟨gm,gn⟩:=z2 g
           obtain⟨a8,a9,ba,bb⟩:=zc2 a
           go_upto_region 16 with (first|((with_reducible refine gate_callee (f:=26) rfl ?_);refine zgc (some 124) Try.func26 (soft_Sub.calls eU.out) ?_;intro hE hb;obtain⟨a,b,c,HB⟩:=zu3 a b c HB hb;clear hb;obtain⟨bc,bd,be,bf⟩:=zc2 a)|((with_reducible refine gate_callee (f:=26) rfl ?_);refine zgc (some 131) Try.func26 (soft_Sub.calls eV.out) ?_;intro hF hb;obtain⟨a,b,c,HB⟩:=zu3 a b c HB hb;clear hb)|((with_reducible refine gate_callee (f:=18) rfl ?_);refine zgo (some 135) Try.func18 #[.int .i64 E] ?_;(with_reducible refine (grottolaw03_num.calls eW.out).mono ?_);rintro e w' ⟨rfl,⟨nd,rfl⟩⟩;refine⟨_,rfl,?_⟩)|((with_reducible refine gate_callee (f:=18) rfl ?_);refine zgo (some 137) Try.func18 #[.int .i64 aR] ?_;(with_reducible refine (grottolaw03_num.calls eX.out).mono ?_);rintro e w' ⟨rfl,⟨nd,rfl⟩⟩;refine⟨_,rfl,?_⟩)|((with_reducible refine gate_callee (f:=18) rfl ?_);refine zgo (some 140) Try.func18 #[.int .i64 bZ] ?_;(with_reducible refine (grottolaw03_num.calls eY.out).mono ?_);rintro e w' ⟨rfl,⟨nd,rfl⟩⟩;refine⟨_,rfl,?_⟩)|((with_reducible refine gate_callee (f:=18) rfl ?_);refine zgo (some 143) Try.func18 #[.int .i64 b0] ?_;(with_reducible refine (grottolaw03_num.calls eZ.out).mono ?_);rintro e w' ⟨rfl,⟨nd,rfl⟩⟩;refine⟨_,rfl,?_⟩)|((with_reducible refine gate_callee (f:=18) rfl ?_);refine zgo (some 146) Try.func18 #[.int .i64 b1] ?_;(with_reducible refine (grottolaw03_num.calls e0.out).mono ?_);rintro e w' ⟨rfl,⟨nd,rfl⟩⟩;refine⟨_,rfl,?_⟩))
           (try simp only[Act.put,List.setIfInBounds_toArray,List.set_cons_zero,List.set_cons_succ])
           go_cut [156] (fun v156 wc=>∃ (kq:Nat) (aJ:Bool),v156=.bool aJ∧Aside0 (grottolaw03_SoftTurns.j2 kq a1 a2 B aL bs F aM aJ j l C G I J D L M O=some r)∧Aside0 (kq≤cT)∧Aside0 (wc.heap[q]?=some (.cells #[.int .i64 j,.int .i64 l] 23 (0,0)))∧Aside0 (wc.heap[aO]?=some (.cells #[.int .i64 C,.bool G,.int .i64 I,.int .u64 J] 34 (0,0)))∧Aside0 (wc.heap[aP]?=some (.cells #[.int .i64 D,.bool L,.int .i64 M,.int .u64 O] 34 (0,0)))∧Aside0 (Below w.heap.size w wc))
           case first =>
            have H:=b3.out
            clear b3
            by_cases bJ:C=4
            ·rw[if_pos bJ] at H
             obtain⟨aN,b4⟩:=zt bJ
             clear bJ
             (first|rw[aN]|(simp only[i64_w,i32_w];rw[aN])|skip)
             have H':=Aside0.mk H
             clear H
             obtain⟨go,gp⟩:=z2 s
             obtain⟨gq,gr⟩:=z2 u
             obtain⟨b5,b6,b7,b8,b9,ca,cb,cc⟩:=zc4 b
             go_wp2
             go_meet
             case rel=>exact⟨_,(true),(by first|rfl|(simp[*];done)),H',⟨by have:=a7.out;have:=aS.out;first|omega|exact Nat.le_refl _⟩,⟨zk a⟩,⟨zk b⟩,⟨zk c⟩,⟨zb HB⟩⟩
            ·rw[if_neg bJ] at H
             obtain⟨aN,b4⟩:=zf bJ
             (first|rw[aN]|(simp only[i64_w,i32_w];rw[aN])|skip)
             have H':=Aside0.mk H
             clear H
             obtain⟨gs,gt⟩:=z2 s
             obtain⟨gu,gv⟩:=z2 u
             obtain⟨cd,ce,cf,cg,ch,ci,cj,ck⟩:=zc4 b
             obtain⟨gw,gx⟩:=z2 z
             obtain⟨cl,cm,cn,co,cp,cq,cr,ct⟩:=zc4 c
             go_wp2
             go_meet
             case rel=>exact⟨_,((D==4)),(by first|rfl|(simp[*];done)),H',⟨by have:=a7.out;have:=aS.out;first|omega|exact Nat.le_refl _⟩,⟨zk a⟩,⟨zk b⟩,⟨zk c⟩,⟨zb HB⟩⟩
           case rest =>
            clear b3
            try clear c1 c2 p2 c3 eO eP eQ eR a4 P aV a5 aW aX a6 aY aZ bp bq R br bE bt bu T U X Y Z aa af ag aj ak al am ar au ax ay aB aC aF aG a8 a9 bc bd V W ab ac ad ae ah ai an ao ap aq av aw az aA aD aE aH aI ba bb be bf p2
            obtain⟨kq,aJ,rfl,HA,bA,a,b,c,HB⟩:=hcut
            cases kq with
            | zero=>exact absurd HA.out (by simp[grottolaw03_SoftTurns.j2])
            | succ cu =>
             have H:=HA.out
             clear HA
             simp only[grottolaw03_SoftTurns.j2] at H
             by_cases cv:aJ=true
             ·as_aux_lemma =>
               subst cv
               rw[if_pos rfl] at H
               obtain⟨de,bK,H⟩:=oB H
               by_cases cw:B=de
               ·as_aux_lemma =>
                 rw[if_pos cw] at H
                 obtain⟨df,dg⟩:=zt cw
                 clear cw
                 by_cases cx:bs=B
                 ·as_aux_lemma =>
                   rw[if_pos cx] at H
                   obtain⟨dh,di⟩:=zt cx
                   clear cx
                   by_cases cy:F=B
                   ·as_aux_lemma =>
                     rw[if_pos cy] at H
                     obtain⟨dj,dk⟩:=zt cy
                     clear cy
                     by_cases cz:aM=B
                     ·as_aux_lemma =>
                       rw[if_pos cz] at H
                       obtain⟨dl,dm⟩:=zt cz
                       clear cz
                       by_cases cA:aL=B
                       ·rw[if_pos cA] at H
                        obtain⟨dn,dp⟩:=zt cA
                        clear cA
                        obtain⟨dq,gy,H⟩:=oB H
                        obtain rfl:=Option.some.inj H
                        obtain⟨gz,gA⟩:=z2 d
                        obtain⟨gB,gC⟩:=z2 g
                        obtain⟨e1,e2,e3,e4⟩:=zc2 a
                        go_wp2_with (first|((with_reducible refine gate_callee (f:=21) rfl ?_);refine zgc (some 159) Try.func21 (grottoref02_NaN.calls bK.out) ?_;intro hG hb;obtain⟨a,b,c,HB⟩:=zu3 a b c HB hb;clear hb)|(go_at_call 19;(with_reducible refine (grottolaw03_live.calls cu  dq _ gy.out).mono ?_);rintro e hH ⟨rfl,hb⟩;obtain⟨a,b,c,HB⟩:=zu3 a b c HB hb;clear hb))
                        go_ret
                        exact zr HB
                       ·rw[if_neg cA] at H
                        obtain⟨dn,dp⟩:=zf cA
                        obtain rfl:=Option.some.inj H
                        obtain⟨gD,gE⟩:=z2 d
                        obtain⟨gF,gG⟩:=z2 g
                        obtain⟨e5,e6,e7,e8⟩:=zc2 a
                        go_wp2_with (first|((with_reducible refine gate_callee (f:=21) rfl ?_);refine zgc (some 159) Try.func21 (grottoref02_NaN.calls bK.out) ?_;intro hI hb;obtain⟨a,b,c,HB⟩:=zu3 a b c HB hb;clear hb))
                        go_ret
                        exact zr HB
                     ·rw[if_neg cz] at H
                      obtain⟨dl,dm⟩:=zf cz
                      obtain rfl:=Option.some.inj H
                      obtain⟨gH,gI⟩:=z2 d
                      obtain⟨gJ,gK⟩:=z2 g
                      obtain⟨e9,fa,fb,fc⟩:=zc2 a
                      go_wp2_with (first|((with_reducible refine gate_callee (f:=21) rfl ?_);refine zgc (some 159) Try.func21 (grottoref02_NaN.calls bK.out) ?_;intro hJ hb;obtain⟨a,b,c,HB⟩:=zu3 a b c HB hb;clear hb))
                      go_ret
                      exact zr HB
                   ·rw[if_neg cy] at H
                    obtain⟨dj,dk⟩:=zf cy
                    obtain rfl:=Option.some.inj H
                    obtain⟨gL,gM⟩:=z2 d
                    obtain⟨gN,gO⟩:=z2 g
                    obtain⟨fd,fe,ff,fg⟩:=zc2 a
                    go_wp2_with (first|((with_reducible refine gate_callee (f:=21) rfl ?_);refine zgc (some 159) Try.func21 (grottoref02_NaN.calls bK.out) ?_;intro hL hb;obtain⟨a,b,c,HB⟩:=zu3 a b c HB hb;clear hb))
                    go_ret
                    exact zr HB
                 ·rw[if_neg cx] at H
                  obtain⟨dh,di⟩:=zf cx
                  obtain rfl:=Option.some.inj H
                  obtain⟨fq,fr⟩:=z2 d
                  obtain⟨fs,ft⟩:=z2 g
                  obtain⟨dz,dA,dB,dC⟩:=zc2 a
                  go_wp2_with (first|((with_reducible refine gate_callee (f:=21) rfl ?_);refine zgc (some 159) Try.func21 (grottoref02_NaN.calls bK.out) ?_;intro gV hb;obtain⟨a,b,c,HB⟩:=zu3 a b c HB hb;clear hb))
                  go_ret
                  exact zr HB
               ·rw[if_neg cw] at H
                obtain⟨df,dg⟩:=zf cw
                obtain rfl:=Option.some.inj H
                obtain⟨fu,fv⟩:=z2 d
                obtain⟨fw,fx⟩:=z2 g
                obtain⟨dD,dE,dF,dG⟩:=zc2 a
                go_wp2_with (first|((with_reducible refine gate_callee (f:=21) rfl ?_);refine zgc (some 159) Try.func21 (grottoref02_NaN.calls bK.out) ?_;intro gW hb;obtain⟨a,b,c,HB⟩:=zu3 a b c HB hb;clear hb))
                go_ret
                exact zr HB
             ·as_aux_lemma =>
               replace cv:=Bool.eq_false_iff.mpr cv
               subst cv
               rw[if_neg nft] at H
               by_cases bg:bs=B
               ·as_aux_lemma =>
                 rw[if_pos bg] at H
                 obtain⟨bB,bC⟩:=zt bg
                 clear bg
                 obtain⟨bv,cB,H⟩:=oB H
                 obtain⟨⟨dr,dt,gP⟩,cC,H⟩:=oB H
                 try dsimp only at H
                 by_cases bh:dt=true
                 ·as_aux_lemma =>
                   subst bh
                   rw[if_pos rfl] at H
                   have bw:=Aside0.mk H
                   clear H
                   try go_wp2
                   replace a:=Aside0.mk (blk_drew a.out)
                   replace b:=Aside0.mk (blk_drew b.out)
                   replace c:=Aside0.mk (blk_drew c.out)
                   replace HB:=Aside0.mk (below_drew1 HB.out)
                   refine start_ (n:=12) (S:=fun w'=>w'.cell? ⟨q,0,none⟩=some (.int .i64 j)∧w'.cell? ⟨q,1,none⟩=some (.int .i64 l)) (ds:=[]) #[false,false,false,false,false,false,false,false,false,false,false,false] (by kernel_rfl) rfl rfl ⟨(blk_cell a.out 0).trans rfl,(blk_cell a.out 1).trans rfl⟩ (fun hHeld=>?_);refine with_tabW grottolaw03_SoftTurns.tab20 grottolaw03_SoftTurns.bits20 (fun HT_ HW_=>?_)
                   generalize wc.drew=gX at a b c HB hHeld ⊢
                   refine zpure_ (i:=1) (N:=some 189) #[false,true,false,false,false,false,false,false,false,false,false,false] (any_of HT_.out (by kernel_rfl)) ?_
                   refine ztake_ (i:=0) (N:=some 188) #[true,true,false,false,false,false,false,false,false,false,false,false] rfl (take_ofW HT_.out HW_.out (by kernel_rfl)) hHeld (Or.inl ⟨by rfl,by rintro w' ⟨s0,s1⟩;go_simp;with_reducible rfl⟩) ?_
                   refine ztake_ (i:=2) (N:=some 190) #[true,true,true,false,false,false,false,false,false,false,false,false] rfl (take_ofW HT_.out HW_.out (by kernel_rfl)) hHeld (Or.inl ⟨by rfl,by rintro w' ⟨s0,s1⟩;go_simp;with_reducible rfl⟩) ?_
                   refine one_ (i:=3) (N:=some 191) #[true,true,true,true,false,false,false,false,false,false,false,false] rfl rfl (one_of HT_.out (by kernel_rfl)) (by decide) (fun K hK=>?_)
                   refine goes_ Try.func46 (by kernel_rfl) rfl #[.agg #[.int .i64 j,.int .i64 l],.bool false] (by rfl) rfl rfl (by (try simp only[List.map_toArray,List.map_cons,List.map_nil]);first|done|rfl|(simp only[List.length_drop,List.length_take];rfl)) ?_
                   with_reducible refine (grottoref02_Zero.calls cB.out).mono ?_
                   rintro e gY ⟨rfl,hb⟩
                   refine⟨_,rfl,?_⟩
                   obtain⟨a,b,c,HB⟩:=zu3 a b c HB hb
                   try clear hb
                   refine hK.out _ _ ⟨(blk_cell a.out 0).trans rfl,(blk_cell a.out 1).trans rfl⟩ (fun hHeld=>?_)
                   clear hK K
                   refine norm_ (a':=?_) ?_ ?_
                   rotate_left
                   ·show Act.put _ (some 191) _=_
                    simp only[Act.put,List.setIfInBounds_toArray,List.set_cons_zero,List.set_cons_succ,i64_w,i32_w]
                    rfl
                   refine one_ (i:=4) (N:=some 192) #[true,true,true,true,true,false,false,false,false,false,false,false] rfl rfl (one_of HT_.out (by kernel_rfl)) (by decide) (fun K hK=>?_)
                   refine goes_ Try.func37 (by kernel_rfl) rfl #[.agg #[.int .i64 j,.int .i64 l],.int .u64 F,.int .u64 bv] (by rfl) rfl rfl (by (try simp only[List.map_toArray,List.map_cons,List.map_nil]);first|done|rfl|(simp only[List.length_drop,List.length_take];rfl)) ?_
                   with_reducible refine (soft_Cmp.calls cC.out).mono ?_
                   rintro e gZ ⟨rfl,hb⟩
                   refine⟨_,rfl,?_⟩
                   obtain⟨a,b,c,HB⟩:=zu3 a b c HB hb
                   try clear hb
                   refine hK.out _ _ ⟨(blk_cell a.out 0).trans rfl,(blk_cell a.out 1).trans rfl⟩ (fun hHeld=>?_)
                   clear hK K
                   refine norm_ (a':=?_) ?_ ?_
                   rotate_left
                   ·show Act.put _ (some 192) _=_
                    simp only[Act.put,List.setIfInBounds_toArray,List.set_cons_zero,List.set_cons_succ,i64_w,i32_w]
                    rfl
                   refine zpure_ (i:=5) (N:=some 187) #[true,true,true,true,true,true,false,false,false,false,false,false] (any_of HT_.out (by kernel_rfl)) ?_
                   refine zpure_ (i:=6) (N:=some 193) #[true,true,true,true,true,true,true,false,false,false,false,false] (any_of HT_.out (by kernel_rfl)) ?_
                   refine zpure_ (i:=7) (N:=some 194) #[true,true,true,true,true,true,true,true,false,false,false,false] (any_of HT_.out (by kernel_rfl)) ?_
                   refine zpure_ (i:=8) (N:=some 195) #[true,true,true,true,true,true,true,true,true,false,false,false] (any_of HT_.out (by kernel_rfl)) ?_
                   refine zpure_ (i:=9) (N:=some 25) #[true,true,true,true,true,true,true,true,true,true,false,false] (any_of HT_.out (by kernel_rfl)) ?_
                   refine zpure_ (i:=10) (N:=some 26) #[true,true,true,true,true,true,true,true,true,true,true,false] (any_of HT_.out (by kernel_rfl)) ?_
                   refine zpure_ (i:=11) (N:=some 27) #[true,true,true,true,true,true,true,true,true,true,true,true] (any_of HT_.out (by kernel_rfl)) ?_
                   refine done_ (done_of HT_.out (by kernel_rfl)) ?_
                   go_upto_region 23 with (fail)
                   go_cut [205] (fun v205 wc=>∃ (kq:Nat) (Q:Bool),v205=.bool Q∧Aside0 (grottolaw03_SoftTurns.j3 kq F aM Q j l=some r)∧Aside0 (kq≤cu)∧Aside0 (wc.heap[q]?=some (.cells #[.int .i64 j,.int .i64 l] 23 (0,0)))∧Aside0 (wc.heap[aO]?=some (.cells #[.int .i64 C,.bool G,.int .i64 I,.int .u64 J] 34 (0,0)))∧Aside0 (wc.heap[aP]?=some (.cells #[.int .i64 D,.bool L,.int .i64 M,.int .u64 O] 34 (0,0)))∧Aside0 (Below w.heap.size w wc))
                   case first =>
                    have H:=bw.out
                    clear bw
                    by_cases bi:dr=0
                    ·as_aux_lemma =>
                      rw[if_pos bi] at H
                      obtain⟨aK,cG⟩:=zt bi
                      clear bi
                      (first|rw[aK]|(simp only[i64_w,i32_w];rw[aK])|skip)
                      by_cases bj:C=1
                      ·as_aux_lemma =>
                        rw[if_pos bj] at H
                        obtain⟨cH,cI⟩:=zt bj
                        clear bj
                        by_cases bk:D=1
                        ·rw[if_pos bk] at H
                         obtain⟨cJ,cK⟩:=zt bk
                         clear bk
                         have H':=Aside0.mk H
                         clear H
                         obtain⟨fy,fz⟩:=z2 s
                         obtain⟨fA,fB⟩:=z2 u
                         obtain⟨dH,dI,dJ,dK,dL,dM,dN,dO⟩:=zc4 b
                         obtain⟨fC,fD⟩:=z2 z
                         obtain⟨dP,dQ,dR,dS,dT,dU,dV,dW⟩:=zc4 c
                         go_wp2
                         go_meet
                         case rel=>exact⟨_,((a1==a2)),(by first|rfl|(simp[*];done)),H',⟨by have:=a7.out;have:=aS.out;have:=bA.out;first|omega|exact Nat.le_refl _⟩,⟨zk a⟩,⟨zk b⟩,⟨zk c⟩,⟨zb HB⟩⟩
                        ·rw[if_neg bk] at H
                         obtain⟨cJ,cK⟩:=zf bk
                         have H':=Aside0.mk H
                         clear H
                         obtain⟨fE,fF⟩:=z2 s
                         obtain⟨fG,fH⟩:=z2 u
                         obtain⟨dX,dY,dZ,d0,d1,d2,d3,d4⟩:=zc4 b
                         obtain⟨fI,fJ⟩:=z2 z
                         obtain⟨d5,d6,d7,d8,d9,ea,eb,ec⟩:=zc4 c
                         go_wp2
                         go_meet
                         case rel=>exact⟨_,(true),(by first|rfl|(simp[*];done)),H',⟨by have:=a7.out;have:=aS.out;have:=bA.out;first|omega|exact Nat.le_refl _⟩,⟨zk a⟩,⟨zk b⟩,⟨zk c⟩,⟨zb HB⟩⟩
                      ·rw[if_neg bj] at H
                       obtain⟨cH,cI⟩:=zf bj
                       have H':=Aside0.mk H
                       clear H
                       obtain⟨fK,fL⟩:=z2 s
                       obtain⟨fM,fN⟩:=z2 u
                       obtain⟨ed,ee,ef,eg,eh,ei,ej,ek⟩:=zc4 b
                       go_wp2
                       go_meet
                       case rel=>exact⟨_,(true),(by first|rfl|(simp[*];done)),H',⟨by have:=a7.out;have:=aS.out;have:=bA.out;first|omega|exact Nat.le_refl _⟩,⟨zk a⟩,⟨zk b⟩,⟨zk c⟩,⟨zb HB⟩⟩
                    ·rw[if_neg bi] at H
                     obtain⟨aK,cG⟩:=zf bi
                     (first|rw[aK]|(simp only[i64_w,i32_w];rw[aK])|skip)
                     have H':=Aside0.mk H
                     clear H
                     go_wp2
                     go_meet
                     case rel=>exact⟨_,(false),(by first|rfl|(simp[*];done)),H',⟨by have:=a7.out;have:=aS.out;have:=bA.out;first|omega|exact Nat.le_refl _⟩,⟨zk a⟩,⟨zk b⟩,⟨zk c⟩,⟨zb HB⟩⟩
                   case rest =>
                    clear bw
                    try clear c1 c2 p2 c3 c4 c5 c6 p6 c7 eO hN eP eQ hO eR hP a4 P aV a5 aW aX a6 aY aZ bp bq R br bE bF bQ bR bG bS bT bH bU bV bI bW bX bt bu hQ hR gQ bJ aN b4 hS hT hU hV hW cv bB bC bh T U X Y Z aa af ag aj ak al am ar au ax ay aB aC aF aG a8 a9 bc bd b5 b6 b7 b8 cd ce cf cg cl cm cn co V W ab ac ad ae ah ai an ao ap aq av aw az aA aD aE aH aI ba bb be bf b9 ca cb cc ch ci cj ck cp cq cr ct p2 p6 gQ
                    obtain⟨kq,Q,rfl,HA,gR,a,b,c,HB⟩:=hcut
                    cases kq with
                    | zero=>exact absurd HA.out (by simp[grottolaw03_SoftTurns.j3])
                    | succ cD =>
                     have H:=HA.out
                     clear HA
                     simp only[grottolaw03_SoftTurns.j3] at H
                     by_cases bD:Q=true
                     ·as_aux_lemma =>
                       subst bD
                       rw[if_pos rfl] at H
                       obtain⟨du,cE,H⟩:=oB H
                       by_cases bl:F=du
                       ·as_aux_lemma =>
                         rw[if_pos bl] at H
                         obtain⟨cL,cM⟩:=zt bl
                         clear bl
                         by_cases bm:aM=F
                         ·rw[if_pos bm] at H
                          obtain⟨cN,cO⟩:=zt bm
                          clear bm
                          obtain⟨dv,fh,H⟩:=oB H
                          obtain rfl:=Option.some.inj H
                          obtain⟨fO,fP⟩:=z2 d
                          obtain⟨fQ,fR⟩:=z2 g
                          obtain⟨el,em,en,eo⟩:=zc2 a
                          go_wp2_with (first|((with_reducible refine gate_callee (f:=46) rfl ?_);refine zgc (some 225) Try.func46 (grottoref02_Zero.calls cE.out) ?_;intro g0 hb;obtain⟨a,b,c,HB⟩:=zu3 a b c HB hb;clear hb)|(go_at_call 19;(with_reducible refine (grottolaw03_live.calls cD  dv _ fh.out).mono ?_);rintro e g1 ⟨rfl,hb⟩;obtain⟨a,b,c,HB⟩:=zu3 a b c HB hb;clear hb))
                          go_ret
                          exact zr HB
                         ·rw[if_neg bm] at H
                          obtain⟨cN,cO⟩:=zf bm
                          obtain rfl:=Option.some.inj H
                          obtain⟨fS,fT⟩:=z2 d
                          obtain⟨fU,fV⟩:=z2 g
                          obtain⟨ep,eq,er,es⟩:=zc2 a
                          go_wp2_with (first|((with_reducible refine gate_callee (f:=46) rfl ?_);refine zgc (some 225) Try.func46 (grottoref02_Zero.calls cE.out) ?_;intro g2 hb;obtain⟨a,b,c,HB⟩:=zu3 a b c HB hb;clear hb))
                          go_ret
                          exact zr HB
                       ·rw[if_neg bl] at H
                        obtain⟨cL,cM⟩:=zf bl
                        obtain rfl:=Option.some.inj H
                        obtain⟨fW,fX⟩:=z2 d
                        obtain⟨fY,fZ⟩:=z2 g
                        obtain⟨et,eu,ev,ew⟩:=zc2 a
                        go_wp2_with (first|((with_reducible refine gate_callee (f:=46) rfl ?_);refine zgc (some 225) Try.func46 (grottoref02_Zero.calls cE.out) ?_;intro g3 hb;obtain⟨a,b,c,HB⟩:=zu3 a b c HB hb;clear hb))
                        go_ret
                        exact zr HB
                     ·as_aux_lemma =>
                       replace bD:=Bool.eq_false_iff.mpr bD
                       subst bD
                       rw[if_neg nft] at H
                       obtain⟨dw,cU,H⟩:=oB H
                       by_cases bn:aM=dw
                       ·rw[if_pos bn] at H
                        obtain⟨cP,cQ⟩:=zt bn
                        clear bn
                        obtain⟨dx,fi,H⟩:=oB H
                        obtain rfl:=Option.some.inj H
                        obtain⟨f0,f1⟩:=z2 d
                        obtain⟨f2,f3⟩:=z2 g
                        obtain⟨ex,ey,ez,eA⟩:=zc2 a
                        go_wp2_with (first|((with_reducible refine gate_callee (f:=22) rfl ?_);refine zgc (some 238) Try.func22 (grottoref03_Turn.calls cU.out) ?_;intro g4 hb;obtain⟨a,b,c,HB⟩:=zu3 a b c HB hb;clear hb)|(go_at_call 19;(with_reducible refine (grottolaw03_live.calls cD  dx _ fi.out).mono ?_);rintro e g5 ⟨rfl,hb⟩;obtain⟨a,b,c,HB⟩:=zu3 a b c HB hb;clear hb))
                        go_ret
                        exact zr HB
                       ·rw[if_neg bn] at H
                        obtain⟨cP,cQ⟩:=zf bn
                        obtain rfl:=Option.some.inj H
                        obtain⟨f4,f5⟩:=z2 d
                        obtain⟨f6,f7⟩:=z2 g
                        obtain⟨eB,eC,eD,eE⟩:=zc2 a
                        go_wp2_with (first|((with_reducible refine gate_callee (f:=22) rfl ?_);refine zgc (some 238) Try.func22 (grottoref03_Turn.calls cU.out) ?_;intro g6 hb;obtain⟨a,b,c,HB⟩:=zu3 a b c HB hb;clear hb))
                        go_ret
                        exact zr HB
                 ·as_aux_lemma =>
                   replace bh:=Bool.eq_false_iff.mpr bh
                   subst bh
                   rw[if_neg nft] at H
                   by_cases bo:aM=F
                   ·as_aux_lemma =>
                     rw[if_pos bo] at H
                     obtain⟨cR,cS⟩:=zt bo
                     clear bo
                     obtain⟨dy,fj,H⟩:=oB H
                     obtain rfl:=Option.some.inj H
                     try go_wp2
                     replace a:=Aside0.mk (blk_drew a.out)
                     replace b:=Aside0.mk (blk_drew b.out)
                     replace c:=Aside0.mk (blk_drew c.out)
                     replace HB:=Aside0.mk (below_drew1 HB.out)
                     refine start_ (n:=12) (S:=fun w'=>w'.cell? ⟨q,0,none⟩=some (.int .i64 j)∧w'.cell? ⟨q,1,none⟩=some (.int .i64 l)) (ds:=[]) #[false,false,false,false,false,false,false,false,false,false,false,false] (by kernel_rfl) rfl rfl ⟨(blk_cell a.out 0).trans rfl,(blk_cell a.out 1).trans rfl⟩ (fun hHeld=>?_);refine with_tabW grottolaw03_SoftTurns.tab20 grottolaw03_SoftTurns.bits20 (fun HT_ HW_=>?_)
                     generalize wc.drew=g7 at a b c HB hHeld ⊢
                     refine zpure_ (i:=1) (N:=some 189) #[false,true,false,false,false,false,false,false,false,false,false,false] (any_of HT_.out (by kernel_rfl)) ?_
                     refine ztake_ (i:=0) (N:=some 188) #[true,true,false,false,false,false,false,false,false,false,false,false] rfl (take_ofW HT_.out HW_.out (by kernel_rfl)) hHeld (Or.inl ⟨by rfl,by rintro w' ⟨s0,s1⟩;go_simp;with_reducible rfl⟩) ?_
                     refine ztake_ (i:=2) (N:=some 190) #[true,true,true,false,false,false,false,false,false,false,false,false] rfl (take_ofW HT_.out HW_.out (by kernel_rfl)) hHeld (Or.inl ⟨by rfl,by rintro w' ⟨s0,s1⟩;go_simp;with_reducible rfl⟩) ?_
                     refine one_ (i:=3) (N:=some 191) #[true,true,true,true,false,false,false,false,false,false,false,false] rfl rfl (one_of HT_.out (by kernel_rfl)) (by decide) (fun K hK=>?_)
                     refine goes_ Try.func46 (by kernel_rfl) rfl #[.agg #[.int .i64 j,.int .i64 l],.bool false] (by rfl) rfl rfl (by (try simp only[List.map_toArray,List.map_cons,List.map_nil]);first|done|rfl|(simp only[List.length_drop,List.length_take];rfl)) ?_
                     with_reducible refine (grottoref02_Zero.calls cB.out).mono ?_
                     rintro e g8 ⟨rfl,hb⟩
                     refine⟨_,rfl,?_⟩
                     obtain⟨a,b,c,HB⟩:=zu3 a b c HB hb
                     try clear hb
                     refine hK.out _ _ ⟨(blk_cell a.out 0).trans rfl,(blk_cell a.out 1).trans rfl⟩ (fun hHeld=>?_)
                     clear hK K
                     refine norm_ (a':=?_) ?_ ?_
                     rotate_left
                     ·show Act.put _ (some 191) _=_
                      simp only[Act.put,List.setIfInBounds_toArray,List.set_cons_zero,List.set_cons_succ,i64_w,i32_w]
                      rfl
                     refine one_ (i:=4) (N:=some 192) #[true,true,true,true,true,false,false,false,false,false,false,false] rfl rfl (one_of HT_.out (by kernel_rfl)) (by decide) (fun K hK=>?_)
                     refine goes_ Try.func37 (by kernel_rfl) rfl #[.agg #[.int .i64 j,.int .i64 l],.int .u64 F,.int .u64 bv] (by rfl) rfl rfl (by (try simp only[List.map_toArray,List.map_cons,List.map_nil]);first|done|rfl|(simp only[List.length_drop,List.length_take];rfl)) ?_
                     with_reducible refine (soft_Cmp.calls cC.out).mono ?_
                     rintro e g9 ⟨rfl,hb⟩
                     refine⟨_,rfl,?_⟩
                     obtain⟨a,b,c,HB⟩:=zu3 a b c HB hb
                     try clear hb
                     refine hK.out _ _ ⟨(blk_cell a.out 0).trans rfl,(blk_cell a.out 1).trans rfl⟩ (fun hHeld=>?_)
                     clear hK K
                     refine norm_ (a':=?_) ?_ ?_
                     rotate_left
                     ·show Act.put _ (some 192) _=_
                      simp only[Act.put,List.setIfInBounds_toArray,List.set_cons_zero,List.set_cons_succ,i64_w,i32_w]
                      rfl
                     refine zpure_ (i:=5) (N:=some 187) #[true,true,true,true,true,true,false,false,false,false,false,false] (any_of HT_.out (by kernel_rfl)) ?_
                     refine zpure_ (i:=6) (N:=some 193) #[true,true,true,true,true,true,true,false,false,false,false,false] (any_of HT_.out (by kernel_rfl)) ?_
                     refine zpure_ (i:=7) (N:=some 194) #[true,true,true,true,true,true,true,true,false,false,false,false] (any_of HT_.out (by kernel_rfl)) ?_
                     refine zpure_ (i:=8) (N:=some 195) #[true,true,true,true,true,true,true,true,true,false,false,false] (any_of HT_.out (by kernel_rfl)) ?_
                     refine zpure_ (i:=9) (N:=some 25) #[true,true,true,true,true,true,true,true,true,true,false,false] (any_of HT_.out (by kernel_rfl)) ?_
                     refine zpure_ (i:=10) (N:=some 26) #[true,true,true,true,true,true,true,true,true,true,true,false] (any_of HT_.out (by kernel_rfl)) ?_
                     refine zpure_ (i:=11) (N:=some 27) #[true,true,true,true,true,true,true,true,true,true,true,true] (any_of HT_.out (by kernel_rfl)) ?_
                     refine done_ (done_of HT_.out (by kernel_rfl)) ?_
                     try go_wp2_with (first|(go_at_call 19;(with_reducible refine (grottolaw03_live.calls cu  dy _ fj.out).mono ?_);rintro e ha ⟨rfl,hb⟩;obtain⟨a,b,c,HB⟩:=zu3 a b c HB hb;clear hb))
                     go_ret
                     exact zr HB
                   ·as_aux_lemma =>
                     rw[if_neg bo] at H
                     obtain⟨cR,cS⟩:=zf bo
                     obtain rfl:=Option.some.inj H
                     try go_wp2
                     replace a:=Aside0.mk (blk_drew a.out)
                     replace b:=Aside0.mk (blk_drew b.out)
                     replace c:=Aside0.mk (blk_drew c.out)
                     replace HB:=Aside0.mk (below_drew1 HB.out)
                     refine start_ (n:=12) (S:=fun w'=>w'.cell? ⟨q,0,none⟩=some (.int .i64 j)∧w'.cell? ⟨q,1,none⟩=some (.int .i64 l)) (ds:=[]) #[false,false,false,false,false,false,false,false,false,false,false,false] (by kernel_rfl) rfl rfl ⟨(blk_cell a.out 0).trans rfl,(blk_cell a.out 1).trans rfl⟩ (fun hHeld=>?_);refine with_tabW grottolaw03_SoftTurns.tab20 grottolaw03_SoftTurns.bits20 (fun HT_ HW_=>?_)
                     generalize wc.drew=hc at a b c HB hHeld ⊢
                     refine zpure_ (i:=1) (N:=some 189) #[false,true,false,false,false,false,false,false,false,false,false,false] (any_of HT_.out (by kernel_rfl)) ?_
                     refine ztake_ (i:=0) (N:=some 188) #[true,true,false,false,false,false,false,false,false,false,false,false] rfl (take_ofW HT_.out HW_.out (by kernel_rfl)) hHeld (Or.inl ⟨by rfl,by rintro w' ⟨s0,s1⟩;go_simp;with_reducible rfl⟩) ?_
                     refine ztake_ (i:=2) (N:=some 190) #[true,true,true,false,false,false,false,false,false,false,false,false] rfl (take_ofW HT_.out HW_.out (by kernel_rfl)) hHeld (Or.inl ⟨by rfl,by rintro w' ⟨s0,s1⟩;go_simp;with_reducible rfl⟩) ?_
                     refine one_ (i:=3) (N:=some 191) #[true,true,true,true,false,false,false,false,false,false,false,false] rfl rfl (one_of HT_.out (by kernel_rfl)) (by decide) (fun K hK=>?_)
                     refine goes_ Try.func46 (by kernel_rfl) rfl #[.agg #[.int .i64 j,.int .i64 l],.bool false] (by rfl) rfl rfl (by (try simp only[List.map_toArray,List.map_cons,List.map_nil]);first|done|rfl|(simp only[List.length_drop,List.length_take];rfl)) ?_
                     with_reducible refine (grottoref02_Zero.calls cB.out).mono ?_
                     rintro e hd ⟨rfl,hb⟩
                     refine⟨_,rfl,?_⟩
                     obtain⟨a,b,c,HB⟩:=zu3 a b c HB hb
                     try clear hb
                     refine hK.out _ _ ⟨(blk_cell a.out 0).trans rfl,(blk_cell a.out 1).trans rfl⟩ (fun hHeld=>?_)
                     clear hK K
                     refine norm_ (a':=?_) ?_ ?_
                     rotate_left
                     ·show Act.put _ (some 191) _=_
                      simp only[Act.put,List.setIfInBounds_toArray,List.set_cons_zero,List.set_cons_succ,i64_w,i32_w]
                      rfl
                     refine one_ (i:=4) (N:=some 192) #[true,true,true,true,true,false,false,false,false,false,false,false] rfl rfl (one_of HT_.out (by kernel_rfl)) (by decide) (fun K hK=>?_)
                     refine goes_ Try.func37 (by kernel_rfl) rfl #[.agg #[.int .i64 j,.int .i64 l],.int .u64 F,.int .u64 bv] (by rfl) rfl rfl (by (try simp only[List.map_toArray,List.map_cons,List.map_nil]);first|done|rfl|(simp only[List.length_drop,List.length_take];rfl)) ?_
                     with_reducible refine (soft_Cmp.calls cC.out).mono ?_
                     rintro e he ⟨rfl,hb⟩
                     refine⟨_,rfl,?_⟩
                     obtain⟨a,b,c,HB⟩:=zu3 a b c HB hb
                     try clear hb
                     refine hK.out _ _ ⟨(blk_cell a.out 0).trans rfl,(blk_cell a.out 1).trans rfl⟩ (fun hHeld=>?_)
                     clear hK K
                     refine norm_ (a':=?_) ?_ ?_
                     rotate_left
                     ·show Act.put _ (some 192) _=_
                      simp only[Act.put,List.setIfInBounds_toArray,List.set_cons_zero,List.set_cons_succ,i64_w,i32_w]
                      rfl
                     refine zpure_ (i:=5) (N:=some 187) #[true,true,true,true,true,true,false,false,false,false,false,false] (any_of HT_.out (by kernel_rfl)) ?_
                     refine zpure_ (i:=6) (N:=some 193) #[true,true,true,true,true,true,true,false,false,false,false,false] (any_of HT_.out (by kernel_rfl)) ?_
                     refine zpure_ (i:=7) (N:=some 194) #[true,true,true,true,true,true,true,true,false,false,false,false] (any_of HT_.out (by kernel_rfl)) ?_
                     refine zpure_ (i:=8) (N:=some 195) #[true,true,true,true,true,true,true,true,true,false,false,false] (any_of HT_.out (by kernel_rfl)) ?_
                     refine zpure_ (i:=9) (N:=some 25) #[true,true,true,true,true,true,true,true,true,true,false,false] (any_of HT_.out (by kernel_rfl)) ?_
                     refine zpure_ (i:=10) (N:=some 26) #[true,true,true,true,true,true,true,true,true,true,true,false] (any_of HT_.out (by kernel_rfl)) ?_
                     refine zpure_ (i:=11) (N:=some 27) #[true,true,true,true,true,true,true,true,true,true,true,true] (any_of HT_.out (by kernel_rfl)) ?_
                     refine done_ (done_of HT_.out (by kernel_rfl)) ?_
                     try go_wp2
                     go_ret
                     exact zr HB
               ·rw[if_neg bg] at H
                obtain⟨bB,bC⟩:=zf bg
                obtain rfl:=Option.some.inj H
                go_wp2
                go_ret
                exact zr HB
         ·as_aux_lemma =>
           rw[if_neg b2] at H
           obtain⟨bt,bu⟩:=zf b2
           obtain rfl:=Option.some.inj H
           try go_wp2
           replace a:=Aside0.mk (blk_drew a.out)
           replace b:=Aside0.mk (blk_drew b.out)
           replace c:=Aside0.mk (blk_drew c.out)
           replace HB:=Aside0.mk (below_drew1 HB.out)
           refine start_ (n:=11) (S:=fun w'=>w'.cell? ⟨q,0,none⟩=some (.int .i64 j)∧w'.cell? ⟨q,1,none⟩=some (.int .i64 l)) (ds:=[]) #[false,false,false,false,false,false,false,false,false,false,false] (by kernel_rfl) rfl rfl ⟨(blk_cell a.out 0).trans rfl,(blk_cell a.out 1).trans rfl⟩ (fun hHeld=>?_);refine with_tabW grottolaw03_SoftTurns.tab11 grottolaw03_SoftTurns.bits11 (fun HT_ HW_=>?_)
           generalize wc.drew=hf at a b c HB hHeld ⊢
           refine zpure_ (i:=1) (N:=some 113) #[false,true,false,false,false,false,false,false,false,false,false] (any_of HT_.out (by kernel_rfl)) ?_
           refine zpure_ (i:=3) (N:=some 115) #[false,true,false,true,false,false,false,false,false,false,false] (any_of HT_.out (by kernel_rfl)) ?_
           refine ztake_ (i:=0) (N:=some 112) #[true,true,false,true,false,false,false,false,false,false,false] rfl (take_ofW HT_.out HW_.out (by kernel_rfl)) hHeld (Or.inl ⟨by rfl,by rintro w' ⟨s0,s1⟩;go_simp;with_reducible rfl⟩) ?_
           refine ztake_ (i:=2) (N:=some 114) #[true,true,true,true,false,false,false,false,false,false,false] rfl (take_ofW HT_.out HW_.out (by kernel_rfl)) hHeld (Or.inl ⟨by rfl,by rintro w' ⟨s0,s1⟩;go_simp;with_reducible rfl⟩) ?_
           refine one_ (i:=4) (N:=some 116) #[true,true,true,true,true,false,false,false,false,false,false] rfl rfl (one_of HT_.out (by kernel_rfl)) (by decide) (fun K hK=>?_)
           refine goes_ Try.func22 (by kernel_rfl) rfl #[.agg #[.int .i64 j,.int .i64 l],.int .u64 a2] (by rfl) rfl rfl (by (try simp only[List.map_toArray,List.map_cons,List.map_nil]);first|done|rfl|(simp only[List.length_drop,List.length_take];rfl)) ?_
           with_reducible refine (grottoref03_Turn.calls eS.out).mono ?_
           rintro e hh ⟨rfl,hb⟩
           refine⟨_,rfl,?_⟩
           obtain⟨a,b,c,HB⟩:=zu3 a b c HB hb
           try clear hb
           refine hK.out _ _ ⟨(blk_cell a.out 0).trans rfl,(blk_cell a.out 1).trans rfl⟩ (fun hHeld=>?_)
           clear hK K
           refine norm_ (a':=?_) ?_ ?_
           rotate_left
           ·show Act.put _ (some 116) _=_
            simp only[Act.put,List.setIfInBounds_toArray,List.set_cons_zero,List.set_cons_succ,i64_w,i32_w]
            rfl
           refine one_ (i:=5) (N:=some 117) #[true,true,true,true,true,true,false,false,false,false,false] rfl rfl (one_of HT_.out (by kernel_rfl)) (by decide) (fun K hK=>?_)
           refine goes_ Try.func26 (by kernel_rfl) rfl #[.agg #[.int .i64 j,.int .i64 l],.int .u64 a1,.int .u64 bY] (by rfl) rfl rfl (by (try simp only[List.map_toArray,List.map_cons,List.map_nil]);first|done|rfl|(simp only[List.length_drop,List.length_take];rfl)) ?_
           with_reducible refine (soft_Sub.calls eT.out).mono ?_
           rintro e hi ⟨rfl,hb⟩
           refine⟨_,rfl,?_⟩
           obtain⟨a,b,c,HB⟩:=zu3 a b c HB hb
           try clear hb
           refine hK.out _ _ ⟨(blk_cell a.out 0).trans rfl,(blk_cell a.out 1).trans rfl⟩ (fun hHeld=>?_)
           clear hK K
           refine norm_ (a':=?_) ?_ ?_
           rotate_left
           ·show Act.put _ (some 117) _=_
            simp only[Act.put,List.setIfInBounds_toArray,List.set_cons_zero,List.set_cons_succ,i64_w,i32_w]
            rfl
           refine zpure_ (i:=6) (N:=some 111) #[true,true,true,true,true,true,true,false,false,false,false] (any_of HT_.out (by kernel_rfl)) ?_
           refine zpure_ (i:=7) (N:=some 118) #[true,true,true,true,true,true,true,true,false,false,false] (any_of HT_.out (by kernel_rfl)) ?_
           refine zpure_ (i:=8) (N:=some 119) #[true,true,true,true,true,true,true,true,true,false,false] (any_of HT_.out (by kernel_rfl)) ?_
           refine zpure_ (i:=9) (N:=some 19) #[true,true,true,true,true,true,true,true,true,true,false] (any_of HT_.out (by kernel_rfl)) ?_
           refine zpure_ (i:=10) (N:=some 20) #[true,true,true,true,true,true,true,true,true,true,true] (any_of HT_.out (by kernel_rfl)) ?_
           refine done_ (done_of HT_.out (by kernel_rfl)) ?_
           obtain⟨f8,f9⟩:=z2 d
           obtain⟨ga,gb⟩:=z2 g
           obtain⟨eF,eG,eH,eI⟩:=zc2 a
           try go_wp2_with (first|((with_reducible refine gate_callee (f:=26) rfl ?_);refine zgc (some 124) Try.func26 (soft_Sub.calls eU.out) ?_;intro hj hb;obtain⟨a,b,c,HB⟩:=zu3 a b c HB hb;clear hb;obtain⟨eJ,eK,eL,eM⟩:=zc2 a)|((with_reducible refine gate_callee (f:=26) rfl ?_);refine zgc (some 131) Try.func26 (soft_Sub.calls eV.out) ?_;intro hk hb;obtain⟨a,b,c,HB⟩:=zu3 a b c HB hb;clear hb)|((with_reducible refine gate_callee (f:=18) rfl ?_);refine zgo (some 135) Try.func18 #[.int .i64 E] ?_;(with_reducible refine (grottolaw03_num.calls eW.out).mono ?_);rintro e w' ⟨rfl,⟨nd,rfl⟩⟩;refine⟨_,rfl,?_⟩)|((with_reducible refine gate_callee (f:=18) rfl ?_);refine zgo (some 137) Try.func18 #[.int .i64 aR] ?_;(with_reducible refine (grottolaw03_num.calls eX.out).mono ?_);rintro e w' ⟨rfl,⟨nd,rfl⟩⟩;refine⟨_,rfl,?_⟩)|((with_reducible refine gate_callee (f:=18) rfl ?_);refine zgo (some 140) Try.func18 #[.int .i64 bZ] ?_;(with_reducible refine (grottolaw03_num.calls eY.out).mono ?_);rintro e w' ⟨rfl,⟨nd,rfl⟩⟩;refine⟨_,rfl,?_⟩)|((with_reducible refine gate_callee (f:=18) rfl ?_);refine zgo (some 143) Try.func18 #[.int .i64 b0] ?_;(with_reducible refine (grottolaw03_num.calls eZ.out).mono ?_);rintro e w' ⟨rfl,⟨nd,rfl⟩⟩;refine⟨_,rfl,?_⟩)|((with_reducible refine gate_callee (f:=18) rfl ?_);refine zgo (some 146) Try.func18 #[.int .i64 b1] ?_;(with_reducible refine (grottolaw03_num.calls e0.out).mono ?_);rintro e w' ⟨rfl,⟨nd,rfl⟩⟩;refine⟨_,rfl,?_⟩))
           go_ret
           exact zr HB

end Go.Proofs.Ytmmbgbchimangaa.PQ
