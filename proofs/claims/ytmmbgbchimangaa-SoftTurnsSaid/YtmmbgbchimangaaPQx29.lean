-- by a program of this claim
import Derived.Test.YtmmbgbchimangaaPQx0
import Derived.Test.YtmmbgbchimangaaPQx2
import Derived.Test.YtmmbgbchimangaaPQx4
namespace Go.Proofs.Ytmmbgbchimangaa.PQ
open Go.RowKit Go.Proofs.YtmmbgbchimangaaW.PrintWords Go.Proofs.YtmmbgbchimangaaW.PrintLast Go.Proofs.YtmmbgbchimangaaW.PrintMore Go.Proofs.Ytmmbgbchimangaa.Z
attribute [local go_sem] max2_int min2_int max_two min_two max_three min_three max_four min_four   -- for this text's walks alone
set_option linter.unusedVariables false
set_option linter.unusedSimpArgs false

/-! ### soft_Mul: function 32 -/
mutual
def soft_Mul.j0:Nat→Bool→Int→Int→Int→Bool→Int→Int→Int→Bool→Int→Int→Option (Int×Int)
 | 0,_,_,_,_,_,_,_,_,_,_,_=>none
 | k+1,c,d,e,a,f,g,h,b,i,j,l=>if a=1 then (soft_Mul.j1 k c true d e a f g h b i j l) else (soft_Mul.j1 k c (b==1) d e a f g h b i j l)
def soft_Mul.j1:Nat→Bool→Bool→Int→Int→Int→Bool→Int→Int→Int→Bool→Int→Int→Option (Int×Int)
 | 0,_,_,_,_,_,_,_,_,_,_,_,_=>none
 | k+1,c,d,m,n,e,a,g,h,i,b,j,l=>(soft_odd.f e a g h i b j l).bind fun o=>(if o=true then (soft_Mul.j2 k c d (a != b) true m n e a g h i b j l) else (if c=true then (soft_Mul.j2 k c d (a != b) d m n e a g h i b j l) else (soft_Mul.j2 k c d (a != b) false m n e a g h i b j l)))
def soft_Mul.j2:Nat→Bool→Bool→Bool→Bool→Int→Int→Int→Bool→Int→Int→Int→Bool→Int→Int→Option (Int×Int)
 | 0,_,_,_,_,_,_,_,_,_,_,_,_,_,_=>none
 | k+1,g,h,c,i,a,b,r,s,j,l,t,u,m,n=>if i=true then ((round_NaN.f a b).bind fun o=>(some (o,0))) else (if g=true then ((round_Inf.f a b c).bind fun p=>(some (p,0))) else (if h=true then ((round_Zero.f a b c).bind fun q=>(some (q,0))) else ((bits_Mul64.f l n).bind fun d=>((round_Pack.f k a b c d.1 d.2 (wrap64 (j+m)) false).bind fun e=>(some (e.1,e.2))))))
end
def soft_Mul.f (k:Nat) (a0_0:Int) (a0_1:Int) (a1:Int) (a2:Int):Option (Int×Int):=(soft_two.f k a0_0 a0_1 a1 a2).bind fun a=>(if a.2.2.2.2.2.2.2.2=0 then (if a.1=3 then (soft_Mul.j0 k true a0_0 a0_1 a.1 a.2.1 a.2.2.1 a.2.2.2.1 a.2.2.2.2.1 a.2.2.2.2.2.1 a.2.2.2.2.2.2.1 a.2.2.2.2.2.2.2.1) else (soft_Mul.j0 k (a.2.2.2.2.1==3) a0_0 a0_1 a.1 a.2.1 a.2.2.1 a.2.2.2.1 a.2.2.2.2.1 a.2.2.2.2.2.1 a.2.2.2.2.2.2.1 a.2.2.2.2.2.2.2.1)) else (some (0,a.2.2.2.2.2.2.2.2)))
theorem soft_Mul.mono_l:∀ k,(∀ y0 y1 y2 y3 y4 y5 y6 y7 y8 y9 y10,LeO (soft_Mul.j0 k y0 y1 y2 y3 y4 y5 y6 y7 y8 y9 y10) (soft_Mul.j0 (k+1) y0 y1 y2 y3 y4 y5 y6 y7 y8 y9 y10))∧(∀ y0 y1 y2 y3 y4 y5 y6 y7 y8 y9 y10 y11,LeO (soft_Mul.j1 k y0 y1 y2 y3 y4 y5 y6 y7 y8 y9 y10 y11) (soft_Mul.j1 (k+1) y0 y1 y2 y3 y4 y5 y6 y7 y8 y9 y10 y11))∧(∀ y0 y1 y2 y3 y4 y5 y6 y7 y8 y9 y10 y11 y12 y13,LeO (soft_Mul.j2 k y0 y1 y2 y3 y4 y5 y6 y7 y8 y9 y10 y11 y12 y13) (soft_Mul.j2 (k+1) y0 y1 y2 y3 y4 y5 y6 y7 y8 y9 y10 y11 y12 y13))
 | 0=>⟨fun _ _ _ _ _ _ _ _ _ _ _ r h=>by simp[soft_Mul.j0] at h,fun _ _ _ _ _ _ _ _ _ _ _ _ r h=>by simp[soft_Mul.j1] at h,fun _ _ _ _ _ _ _ _ _ _ _ _ _ _ r h=>by simp[soft_Mul.j2] at h⟩
 | k+1=>by
  obtain⟨ih0,ih1,ih2⟩:=soft_Mul.mono_l k
  refine⟨?_,?_,?_⟩ <;> intros <;> (first|unfold soft_Mul.j0|unfold soft_Mul.j1|unfold soft_Mul.j2) <;> (repeat' first|(with_reducible first|apply ih0|apply ih1|apply ih2|apply round_Pack.mono|apply soft_two.mono|exact LeO.refl _|exact LeO.none _|refine LeO.ite ?_ ?_|refine LeO.bind ?_ (fun _=>?_))|refine LeO.ite ?_ ?_|refine LeO.bind ?_ (fun _=>?_))
theorem soft_Mul.mono:∀ a0 a1 a2 a3 k,LeO (soft_Mul.f k a0 a1 a2 a3) (soft_Mul.f (k+1) a0 a1 a2 a3):=by
 intro a0 a1 a2 a3 k
 obtain⟨ih0,ih1,ih2⟩:=soft_Mul.mono_l k
 unfold soft_Mul.f
 repeat' first|(with_reducible first|apply ih0|apply ih1|apply ih2|apply round_Pack.mono|apply soft_two.mono|exact LeO.refl _|exact LeO.none _|refine LeO.ite ?_ ?_|refine LeO.bind ?_ (fun _=>?_))|refine LeO.ite ?_ ?_|refine LeO.bind ?_ (fun _=>?_)
set_option maxHeartbeats 8000000 in
set_option maxRecDepth 100000 in
theorem soft_Mul.calls {k:Nat} {l:Int} {m:Int} {a1:Int} {a2:Int} {r1:Int} {r2:Int} {w:World} (h:soft_Mul.f k l m a1 a2=some (r1,r2)) :
  Calls Try.prog 32 #[.agg #[.int .i64 l,.int .i64 m],.int .u64 a1,.int .u64 a2] w fun e w'=>e=.returned (.tuple #[.int .u64 r1,.int .i64 r2])∧Below w.heap.size w w':=by
 have hu23:=Try.underlying23
 have hu34:=Try.underlying34
 have HB:=Aside0.mk (Below.refl w.heap.size w)
 have H:=h
 unfold soft_Mul.f at H
 clear h
 obtain⟨⟨v,B,X,C,y,D,Y,E,bN⟩,A4,H⟩:=oB H
 try dsimp only at H
 by_cases c5:bN=0
 rotate_left
 ·rw[if_neg c5] at H
  obtain⟨aJ,aK⟩:=zf c5
  simp only[Option.some.injEq,Prod.mk.injEq] at H
  obtain⟨rfl,rfl⟩:=H
  go_enter Try.func32,Try.ntmps32
  go_wp2_with (first|((with_reducible refine gate_dst (N:=3) rfl ?_);refine zbox (N:=3) (cs:=#[.int .i64 l,.int .i64 m]) (t:=23) ?_;intro Z hg fv hbox hb;have a:=Aside0.mk hbox;have bE:=zge hg HB;have bF:=zge hg HB;replace HB:=zbs HB hb;clear hb hbox hg;obtain⟨df,dg,dh,di⟩:=zc2 a)|((with_reducible refine gate_callee (f:=47) rfl ?_);refine zgc (some 20) Try.func47 (soft_two.calls A4.out) ?_;intro fw hb;obtain⟨a,HB⟩:=zu1 a HB hb;clear hb)|((with_reducible refine gate_dst (N:=8) rfl ?_);refine zbox (N:=8) (cs:=#[.int .i64 0,.bool false,.int .i64 0,.int .u64 0]) (t:=34) ?_;intro ae hg fx hbox hb;have b:=Aside0.mk hbox;have bG:=zge hg HB;have bH:=zge hg HB;have n:=znl hg a;have d:=zng hg a;obtain⟨a,HB⟩:=zu1 a HB hb;clear hb hbox hg)|((with_reducible refine gate_dst (N:=9) rfl ?_);refine zbox (N:=9) (cs:=#[.int .i64 0,.bool false,.int .i64 0,.int .u64 0]) (t:=34) ?_;intro af hg fy hbox hb;have c:=Aside0.mk hbox;have bI:=zge hg HB;have bJ:=zge hg HB;have o:=znl hg a;have i:=zng hg a;have g:=znl hg b;have aG:=zng hg b;obtain⟨a,b,HB⟩:=zu2 a b HB hb;clear hb hbox hg;obtain⟨eX,eY⟩:=z2 d;obtain⟨eZ,e0⟩:=z2 g;obtain⟨dj,dk,dl,dm,dn,dp,dq,dr⟩:=zc4 b;obtain⟨e1,e2⟩:=z2 i;obtain⟨ds,dt,du,dv,dw,dx,dy,dz⟩:=zc4 c))
  go_ret2
  exact zr HB

 rw[if_pos c5] at H
 obtain⟨aJ,aK⟩:=zt c5
 clear c5
 have bD:=Aside0.mk H
 clear H
 go_enter Try.func32,Try.ntmps32
 go_upto_region 4 with (first|((with_reducible refine gate_dst (N:=3) rfl ?_);refine zbox (N:=3) (cs:=#[.int .i64 l,.int .i64 m]) (t:=23) ?_;intro Z hg w7 hbox hb;have a:=Aside0.mk hbox;have bE:=zge hg HB;have bF:=zge hg HB;replace HB:=zbs HB hb;clear hb hbox hg;obtain⟨aa,ab,ac,ad⟩:=zc2 a)|((with_reducible refine gate_callee (f:=47) rfl ?_);refine zgc (some 20) Try.func47 (soft_two.calls A4.out) ?_;intro w9 hb;obtain⟨a,HB⟩:=zu1 a HB hb;clear hb)|((with_reducible refine gate_dst (N:=8) rfl ?_);refine zbox (N:=8) (cs:=#[.int .i64 0,.bool false,.int .i64 0,.int .u64 0]) (t:=34) ?_;intro ae hg fd hbox hb;have b:=Aside0.mk hbox;have bG:=zge hg HB;have bH:=zge hg HB;have n:=znl hg a;have d:=zng hg a;obtain⟨a,HB⟩:=zu1 a HB hb;clear hb hbox hg)|((with_reducible refine gate_dst (N:=9) rfl ?_);refine zbox (N:=9) (cs:=#[.int .i64 0,.bool false,.int .i64 0,.int .u64 0]) (t:=34) ?_;intro af hg fe hbox hb;have c:=Aside0.mk hbox;have bI:=zge hg HB;have bJ:=zge hg HB;have o:=znl hg a;have i:=zng hg a;have g:=znl hg b;have aG:=zng hg b;obtain⟨a,b,HB⟩:=zu2 a b HB hb;clear hb hbox hg;obtain⟨dC,dD⟩:=z2 d;obtain⟨dE,dF⟩:=z2 g;obtain⟨F,G,I,J,K,L,M,O⟩:=zc4 b;obtain⟨dG,dH⟩:=z2 i;obtain⟨P,Q,R,S,T,U,V,W⟩:=zc4 c))
 (try simp only[Act.put,List.setIfInBounds_toArray,List.set_cons_zero,List.set_cons_succ])
 go_cut [11] (fun v11 wc=>∃ (kq:Nat) (q:Bool),v11=.bool q∧Aside0 (soft_Mul.j0 kq q l m v B X C y D Y E=some (r1,r2))∧Aside0 (kq≤k)∧Aside0 (wc.heap[Z]?=some (.cells #[.int .i64 l,.int .i64 m] 23 (0,0)))∧Aside0 (wc.heap[ae]?=some (.cells #[.int .i64 v,.bool B,.int .i64 X,.int .u64 C] 34 (0,0)))∧Aside0 (wc.heap[af]?=some (.cells #[.int .i64 y,.bool D,.int .i64 Y,.int .u64 E] 34 (0,0)))∧Aside0 (Below w.heap.size w wc))
 case first =>
  have H:=bD.out
  clear bD
  by_cases aH:v=3
  ·rw[if_pos aH] at H
   obtain⟨s,aI⟩:=zt aH
   clear aH
   (first|rw[s]|(simp only[i64_w,i32_w];rw[s])|skip)
   have H':=Aside0.mk H
   clear H
   obtain⟨dI,dJ⟩:=z2 d
   obtain⟨dK,dL⟩:=z2 g
   obtain⟨ag,ah,ai,aj,ak,al,am,an⟩:=zc4 b
   go_wp2
   go_meet
   case rel=>exact⟨_,(true),(by first|rfl|(simp[*];done)),H',⟨by omega⟩,⟨zk a⟩,⟨zkp b⟩,⟨zkp c⟩,⟨zb HB⟩⟩
  rw[if_neg aH] at H
  obtain⟨s,aI⟩:=zf aH
  (first|rw[s]|(simp only[i64_w,i32_w];rw[s])|skip)
  have H':=Aside0.mk H
  clear H
  obtain⟨dM,dN⟩:=z2 d
  obtain⟨dO,dP⟩:=z2 g
  obtain⟨ao,ap,aq,ar,au,av,aw,ax⟩:=zc4 b
  obtain⟨dQ,dR⟩:=z2 i
  obtain⟨ay,az,aA,aB,aC,aD,aE,aF⟩:=zc4 c
  go_wp2
  go_meet
  case rel=>exact⟨_,((y==3)),(by first|rfl|(simp[*];done)),H',⟨by omega⟩,⟨zk a⟩,⟨zkp b⟩,⟨zkp c⟩,⟨zb HB⟩⟩
 case rest =>
  clear bD
  try clear aJ aK F G I J P Q R S aa ab K L M O T U V W ac ad
  obtain⟨kq,q,rfl,HA,aM,a,b,c,HB⟩:=hcut
  cases kq with
  | zero=>exact absurd HA.out (by simp[soft_Mul.j0])
  | succ dS =>
   have H:=HA.out
   clear HA
   simp only[soft_Mul.j0] at H
   have aN:=Aside0.mk H
   clear H
   go_upto_region 5 with (fail)
   go_cut [12] (fun v12 wc=>∃ (kq:Nat) (p:Bool),v12=.bool p∧Aside0 (soft_Mul.j1 kq q p l m v B X C y D Y E=some (r1,r2))∧Aside0 (kq≤dS)∧Aside0 (wc.heap[Z]?=some (.cells #[.int .i64 l,.int .i64 m] 23 (0,0)))∧Aside0 (wc.heap[ae]?=some (.cells #[.int .i64 v,.bool B,.int .i64 X,.int .u64 C] 34 (0,0)))∧Aside0 (wc.heap[af]?=some (.cells #[.int .i64 y,.bool D,.int .i64 Y,.int .u64 E] 34 (0,0)))∧Aside0 (Below w.heap.size w wc))
   case first =>
    have H:=aN.out
    clear aN
    by_cases aL:v=1
    ·rw[if_pos aL] at H
     obtain⟨u,aO⟩:=zt aL
     clear aL
     (first|rw[u]|(simp only[i64_w,i32_w];rw[u])|skip)
     have H':=Aside0.mk H
     clear H
     obtain⟨dT,dU⟩:=z2 d
     obtain⟨dV,dW⟩:=z2 g
     obtain⟨aP,aQ,aR,aS,aT,aU,aV,aW⟩:=zc4 b
     go_wp2
     go_meet
     case rel=>exact⟨_,(true),(by first|rfl|(simp[*];done)),H',⟨by have:=aM.out;first|omega|exact Nat.le_refl _⟩,⟨zk a⟩,⟨zk b⟩,⟨zk c⟩,⟨zb HB⟩⟩
    rw[if_neg aL] at H
    obtain⟨u,aO⟩:=zf aL
    (first|rw[u]|(simp only[i64_w,i32_w];rw[u])|skip)
    have H':=Aside0.mk H
    clear H
    obtain⟨dX,dY⟩:=z2 d
    obtain⟨dZ,d0⟩:=z2 g
    obtain⟨aX,aY,aZ,a0,a3,a4,a5,a6⟩:=zc4 b
    obtain⟨d1,d2⟩:=z2 i
    obtain⟨a7,a8,a9,ba,bb,bc,bd,be⟩:=zc4 c
    go_wp2
    go_meet
    case rel=>exact⟨_,((y==1)),(by first|rfl|(simp[*];done)),H',⟨by have:=aM.out;first|omega|exact Nat.le_refl _⟩,⟨zk a⟩,⟨zk b⟩,⟨zk c⟩,⟨zb HB⟩⟩
   case rest =>
    clear aN
    try clear c1 c2 p2 c3 c4 aJ aK d4 d5 d6 aH s aI d7 d8 d9 ea eb F G I J P Q R S ag ah ai aj ao ap aq ar ay az aA aB aa ab K L M O T U V W ak al am an au av aw ax aC aD aE aF ac ad p2
    obtain⟨kq,p,rfl,HA,bf,a,b,c,HB⟩:=hcut
    cases kq with
    | zero=>exact absurd HA.out (by simp[soft_Mul.j1])
    | succ bP =>
     have H:=HA.out
     clear HA
     simp only[soft_Mul.j1] at H
     have bg:=Aside0.mk H
     clear H
     obtain⟨ec,ed⟩:=z2 d
     obtain⟨ee,ef⟩:=z2 g
     obtain⟨bh,bi,bj,bk,bl,bm,bn,bo⟩:=zc4 b
     obtain⟨eg,eh⟩:=z2 i
     obtain⟨bp,bq,br,bs,bt,bu,bv,bw⟩:=zc4 c
     go_upto_region 7 with (fail)
     go_cut [48] (fun v48 wc=>∃ (kq:Nat) (z:Bool),v48=.bool z∧Aside0 (soft_Mul.j2 kq q p (B != D) z l m v B X C y D Y E=some (r1,r2))∧Aside0 (kq≤bP)∧Aside0 (wc.heap[Z]?=some (.cells #[.int .i64 l,.int .i64 m] 23 (0,0)))∧Aside0 (wc.heap[ae]?=some (.cells #[.int .i64 v,.bool B,.int .i64 X,.int .u64 C] 34 (0,0)))∧Aside0 (wc.heap[af]?=some (.cells #[.int .i64 y,.bool D,.int .i64 Y,.int .u64 E] 34 (0,0)))∧Aside0 (Below w.heap.size w wc))
     case first =>
      have H:=bg.out
      clear bg
      obtain⟨bQ,bK,H⟩:=oB H
      by_cases bx:bQ=true
      ·subst bx
       rw[if_pos rfl] at H
       have H':=Aside0.mk H
       clear H
       obtain⟨ei,ej⟩:=z2 d
       obtain⟨ek,el⟩:=z2 g
       obtain⟨bR,bS,bT,bU,bV,bW,bX,bY⟩:=zc4 b
       obtain⟨em,en⟩:=z2 i
       obtain⟨bZ,b0,b1,b2,b3,b4,b5,b6⟩:=zc4 c
       go_wp2_with (first|((with_reducible refine gate_callee (f:=48) rfl ?_);refine zgc (some 51) Try.func48 (soft_odd.calls bK.out) ?_;intro fj hb;obtain⟨a,b,c,HB⟩:=zu3 a b c HB hb;clear hb))
       go_meet
       case rel=>exact⟨_,(true),(by first|rfl|(simp[*];done)),H',⟨by have:=aM.out;have:=bf.out;first|omega|exact Nat.le_refl _⟩,⟨zk a⟩,⟨zk b⟩,⟨zk c⟩,⟨zb HB⟩⟩
      replace bx:=Bool.eq_false_iff.mpr bx
      subst bx
      rw[if_neg nft] at H
      by_cases bz:q=true
      ·subst bz
       rw[if_pos rfl] at H
       have H':=Aside0.mk H
       clear H
       obtain⟨eo,ep⟩:=z2 d
       obtain⟨eq,er⟩:=z2 g
       obtain⟨b7,b8,b9,ca,cb,cc,cd,ce⟩:=zc4 b
       obtain⟨es,et⟩:=z2 i
       obtain⟨cf,cg,ch,ci,cj,ck,cl,cm⟩:=zc4 c
       go_wp2_with (first|((with_reducible refine gate_callee (f:=48) rfl ?_);refine zgc (some 51) Try.func48 (soft_odd.calls bK.out) ?_;intro fk hb;obtain⟨a,b,c,HB⟩:=zu3 a b c HB hb;clear hb))
       go_meet
       case rel=>exact⟨_,(p),(by first|rfl|(simp[*];done)),H',⟨by have:=aM.out;have:=bf.out;first|omega|exact Nat.le_refl _⟩,⟨zk a⟩,⟨zk b⟩,⟨zk c⟩,⟨zb HB⟩⟩
      replace bz:=Bool.eq_false_iff.mpr bz
      subst bz
      rw[if_neg nft] at H
      have H':=Aside0.mk H
      clear H
      obtain⟨eu,ev⟩:=z2 d
      obtain⟨ew,ex⟩:=z2 g
      obtain⟨cn,co,cp,cq,cr,ct,cu,cv⟩:=zc4 b
      obtain⟨ey,ez⟩:=z2 i
      obtain⟨cw,cx,cy,cz,cA,cB,cC,cD⟩:=zc4 c
      go_wp2_with (first|((with_reducible refine gate_callee (f:=48) rfl ?_);refine zgc (some 51) Try.func48 (soft_odd.calls bK.out) ?_;intro fl hb;obtain⟨a,b,c,HB⟩:=zu3 a b c HB hb;clear hb))
      go_meet
      case rel=>exact⟨_,(false),(by first|rfl|(simp[*];done)),H',⟨by have:=aM.out;have:=bf.out;first|omega|exact Nat.le_refl _⟩,⟨zk a⟩,⟨zk b⟩,⟨zk c⟩,⟨zb HB⟩⟩
     case rest =>
      clear bg
      try clear c1 c2 p2 c3 c4 aJ aK d4 d5 d6 aH s aI d7 d8 d9 ea eb aL u aO fm fn fo fp fq F G I J P Q R S ag ah ai aj ao ap aq ar ay az aA aB aP aQ aR aS aX aY aZ a0 a7 a8 a9 ba bh bi bj bk bp bq br bs aa ab K L M O T U V W ak al am an au av aw ax aC aD aE aF aT aU aV aW a3 a4 a5 a6 bb bc bd be bl bm bn bo bt bu bv bw ac ad p2
      obtain⟨kq,z,rfl,HA,e4,a,b,c,HB⟩:=hcut
      cases kq with
      | zero=>exact absurd HA.out (by simp[soft_Mul.j2])
      | succ e5 =>
       have H:=HA.out
       clear HA
       simp only[soft_Mul.j2] at H
       by_cases bA:z=true
       ·subst bA
        rw[if_pos rfl] at H
        obtain⟨e6,eA,H⟩:=oB H
        simp only[Option.some.injEq,Prod.mk.injEq] at H
        obtain⟨rfl,rfl⟩:=H
        obtain⟨eB,eC⟩:=z2 n
        obtain⟨eD,eE⟩:=z2 o
        obtain⟨cE,cF,cG,cH⟩:=zc2 a
        go_wp2_with (first|((with_reducible refine gate_callee (f:=49) rfl ?_);refine zgc (some 59) Try.func49 (round_NaN.calls eA.out) ?_;intro fr hb;obtain⟨a,b,c,HB⟩:=zu3 a b c HB hb;clear hb))
        go_ret2
        exact zr HB
       replace bA:=Bool.eq_false_iff.mpr bA
       subst bA
       rw[if_neg nft] at H
       by_cases bB:q=true
       ·subst bB
        rw[if_pos rfl] at H
        obtain⟨e7,eF,H⟩:=oB H
        simp only[Option.some.injEq,Prod.mk.injEq] at H
        obtain⟨rfl,rfl⟩:=H
        obtain⟨eG,eH⟩:=z2 n
        obtain⟨eI,eJ⟩:=z2 o
        obtain⟨cI,cJ,cK,cL⟩:=zc2 a
        go_wp2_with (first|((with_reducible refine gate_callee (f:=78) rfl ?_);refine zgc (some 64) Try.func78 (round_Inf.calls eF.out) ?_;intro fs hb;obtain⟨a,b,c,HB⟩:=zu3 a b c HB hb;clear hb))
        go_ret2
        exact zr HB
       replace bB:=Bool.eq_false_iff.mpr bB
       subst bB
       rw[if_neg nft] at H
       by_cases bC:p=true
       ·subst bC
        rw[if_pos rfl] at H
        obtain⟨e8,eK,H⟩:=oB H
        simp only[Option.some.injEq,Prod.mk.injEq] at H
        obtain⟨rfl,rfl⟩:=H
        obtain⟨eL,eM⟩:=z2 n
        obtain⟨eN,eO⟩:=z2 o
        obtain⟨cM,cN,cO,cP⟩:=zc2 a
        go_wp2_with (first|((with_reducible refine gate_callee (f:=50) rfl ?_);refine zgc (some 69) Try.func50 (round_Zero.calls eK.out) ?_;intro ft hb;obtain⟨a,b,c,HB⟩:=zu3 a b c HB hb;clear hb))
        go_ret2
        exact zr HB
       replace bC:=Bool.eq_false_iff.mpr bC
       subst bC
       rw[if_neg nft] at H
       obtain⟨⟨e9,fa⟩,eP,H⟩:=oB H
       try dsimp only at H
       obtain⟨⟨fb,fc⟩,eQ,H⟩:=oB H
       try dsimp only at H
       simp only[Option.some.injEq,Prod.mk.injEq] at H
       obtain⟨rfl,rfl⟩:=H
       obtain⟨eR,eS⟩:=z2 d
       obtain⟨eT,eU⟩:=z2 g
       obtain⟨cQ,cR,cS,cT,cU,cV,cW,cX⟩:=zc4 b
       obtain⟨eV,eW⟩:=z2 i
       obtain⟨cY,cZ,c0,c6,c7,c8,c9,da⟩:=zc4 c
       go_wp2_with (first|((with_reducible refine gate_callee (f:=71) rfl ?_);refine zgo (some 75) Try.func71 #[.int .u64 C,.int .u64 E] ?_;(with_reducible refine (bits_Mul64.calls eP.out).mono ?_);rintro e w' ⟨rfl,⟨nd,rfl⟩⟩;refine⟨_,rfl,?_⟩;obtain⟨db,dc,dd,de⟩:=zc2 a)|((with_reducible refine gate_callee (f:=51) rfl ?_);refine zgc (some 87) Try.func51 (round_Pack.calls eQ.out) ?_;intro fu hb;obtain⟨a,b,c,HB⟩:=zu3 a b c HB hb;clear hb))
       go_ret2
       exact zr HB
end Go.Proofs.Ytmmbgbchimangaa.PQ
