-- by a program of this claim
import Derived.Test.YtmmbgbchimangaaPQx0
import Derived.Test.YtmmbgbchimangaaPQx1
import Derived.Test.YtmmbgbchimangaaPQx2
import Derived.Test.YtmmbgbchimangaaPQx3
namespace Go.Proofs.Ytmmbgbchimangaa.PQ
open Go.RowKit Go.Proofs.YtmmbgbchimangaaW.PrintWords Go.Proofs.YtmmbgbchimangaaW.PrintLast Go.Proofs.YtmmbgbchimangaaW.PrintMore Go.Proofs.Ytmmbgbchimangaa.Z
attribute [local go_sem] max2_int min2_int max_two min_two max_three min_three max_four min_four   -- for this text's walks alone
set_option linter.unusedVariables false
set_option linter.unusedSimpArgs false

/-! ### soft_sum: function 66 -/
mutual
def soft_sum.j0:Nat→Int→Int→Int→Bool→Int→Int→Int→Bool→Int→Int→Option (Int×Int)
 | 0,_,_,_,_,_,_,_,_,_,_=>none
 | k+1,e,g,i,d,a,c,j,h,b,l=>if (wrap64 (a-b))>70 then (if (d != h)=true then ((round_Pack.f k e g d 0 (IntKind.u64.wrap ((IntKind.u64.wrap (c*8))-1)) (wrap64 (a-3)) true).bind fun m=>(some (m.1,m.2))) else ((round_Pack.f k e g d 0 (IntKind.u64.wrap (c*8)) (wrap64 (a-3)) true).bind fun n=>(some (n.1,n.2)))) else (if 0≤(wrap64 (a-b)) then (if (wrap64 (a-b))≥64 then (if 0≤(wrap64 ((wrap64 (a-b))-64)) then (soft_sum.j1 k (shl .u64 c (wrap64 ((wrap64 (a-b))-64))) 0 e g i d a c j h b l) else (none)) else (if (wrap64 (a-b))>0 then (if 0≤(wrap64 (64-(wrap64 (a-b)))) then (soft_sum.j1 k (shr .u64 c (wrap64 (64-(wrap64 (a-b))))) (shl .u64 c (wrap64 (a-b))) e g i d a c j h b l) else (none)) else (soft_sum.j1 k 0 (shl .u64 c (wrap64 (a-b))) e g i d a c j h b l))) else (none))
def soft_sum.j1:Nat→Int→Int→Int→Int→Int→Bool→Int→Int→Int→Bool→Int→Int→Option (Int×Int)
 | 0,_,_,_,_,_,_,_,_,_,_,_,_=>none
 | k+1,a,b,e,g,j,c,l,m,n,h,i,d=>if (c==h)=true then ((bits_Add64.f b d 0).bind fun o=>((round_Pack.f k e g c (IntKind.u64.wrap (a+o.2)) o.1 i false).bind fun p=>(some (p.1,p.2)))) else (if a=0 then (soft_sum.j2 k a b (b==d) e g j c l m n h i d) else (soft_sum.j2 k a b false e g j c l m n h i d))
def soft_sum.j2:Nat→Int→Int→Bool→Int→Int→Int→Bool→Int→Int→Int→Bool→Int→Int→Option (Int×Int)
 | 0,_,_,_,_,_,_,_,_,_,_,_,_,_=>none
 | k+1,a,b,o,c,d,g,h,i,j,l,m,n,e=>if o=true then ((round_Zero.f c d false).bind fun p=>(some (p,0))) else (if a=0 then (soft_sum.j3 k a b (decide (b<e)) c d g h i j l m n e) else (soft_sum.j3 k a b false c d g h i j l m n e))
def soft_sum.j3:Nat→Int→Int→Bool→Int→Int→Int→Bool→Int→Int→Int→Bool→Int→Int→Option (Int×Int)
 | 0,_,_,_,_,_,_,_,_,_,_,_,_,_=>none
 | k+1,j,a,l,b,c,o,m,p,q,r,n,d,e=>if l=true then ((round_Pack.f k b c n 0 (IntKind.u64.wrap (e-a)) d false).bind fun g=>(some (g.1,g.2))) else ((bits_Sub64.f a e 0).bind fun h=>((round_Pack.f k b c m (IntKind.u64.wrap (j-h.2)) h.1 d false).bind fun i=>(some (i.1,i.2))))
end
def soft_sum.f (k:Nat) (a0_0:Int) (a0_1:Int) (a1_0:Int) (a1_1:Bool) (a1_2:Int) (a1_3:Int) (a2_0:Int) (a2_1:Bool) (a2_2:Int) (a2_3:Int):Option (Int×Int):=if a1_2<a2_2 then (soft_sum.j0 k a0_0 a0_1 a2_0 a2_1 a2_2 a2_3 a1_0 a1_1 a1_2 a1_3) else (soft_sum.j0 k a0_0 a0_1 a1_0 a1_1 a1_2 a1_3 a2_0 a2_1 a2_2 a2_3)
theorem soft_sum.mono_l:∀ k,(∀ y0 y1 y2 y3 y4 y5 y6 y7 y8 y9,LeO (soft_sum.j0 k y0 y1 y2 y3 y4 y5 y6 y7 y8 y9) (soft_sum.j0 (k+1) y0 y1 y2 y3 y4 y5 y6 y7 y8 y9))∧(∀ y0 y1 y2 y3 y4 y5 y6 y7 y8 y9 y10 y11,LeO (soft_sum.j1 k y0 y1 y2 y3 y4 y5 y6 y7 y8 y9 y10 y11) (soft_sum.j1 (k+1) y0 y1 y2 y3 y4 y5 y6 y7 y8 y9 y10 y11))∧(∀ y0 y1 y2 y3 y4 y5 y6 y7 y8 y9 y10 y11 y12,LeO (soft_sum.j2 k y0 y1 y2 y3 y4 y5 y6 y7 y8 y9 y10 y11 y12) (soft_sum.j2 (k+1) y0 y1 y2 y3 y4 y5 y6 y7 y8 y9 y10 y11 y12))∧(∀ y0 y1 y2 y3 y4 y5 y6 y7 y8 y9 y10 y11 y12,LeO (soft_sum.j3 k y0 y1 y2 y3 y4 y5 y6 y7 y8 y9 y10 y11 y12) (soft_sum.j3 (k+1) y0 y1 y2 y3 y4 y5 y6 y7 y8 y9 y10 y11 y12))
 | 0=>⟨fun _ _ _ _ _ _ _ _ _ _ r h=>by simp[soft_sum.j0] at h,fun _ _ _ _ _ _ _ _ _ _ _ _ r h=>by simp[soft_sum.j1] at h,fun _ _ _ _ _ _ _ _ _ _ _ _ _ r h=>by simp[soft_sum.j2] at h,fun _ _ _ _ _ _ _ _ _ _ _ _ _ r h=>by simp[soft_sum.j3] at h⟩
 | k+1=>by
  obtain⟨ih0,ih1,ih2,ih3⟩:=soft_sum.mono_l k
  refine⟨?_,?_,?_,?_⟩ <;> intros <;> (first|unfold soft_sum.j0|unfold soft_sum.j1|unfold soft_sum.j2|unfold soft_sum.j3) <;> (repeat' first|(with_reducible first|apply ih0|apply ih1|apply ih2|apply ih3|apply round_Pack.mono|exact LeO.refl _|exact LeO.none _|refine LeO.ite ?_ ?_|refine LeO.bind ?_ (fun _=>?_))|refine LeO.ite ?_ ?_|refine LeO.bind ?_ (fun _=>?_))
theorem soft_sum.mono:∀ a0 a1 a2 a3 a4 a5 a6 a7 a8 a9 k,LeO (soft_sum.f k a0 a1 a2 a3 a4 a5 a6 a7 a8 a9) (soft_sum.f (k+1) a0 a1 a2 a3 a4 a5 a6 a7 a8 a9):=by
 intro a0 a1 a2 a3 a4 a5 a6 a7 a8 a9 k
 obtain⟨ih0,ih1,ih2,ih3⟩:=soft_sum.mono_l k
 unfold soft_sum.f
 repeat' first|(with_reducible first|apply ih0|apply ih1|apply ih2|apply ih3|apply round_Pack.mono|exact LeO.refl _|exact LeO.none _|refine LeO.ite ?_ ?_|refine LeO.bind ?_ (fun _=>?_))|refine LeO.ite ?_ ?_|refine LeO.bind ?_ (fun _=>?_)
set_option maxHeartbeats 8000000 in
set_option maxRecDepth 100000 in
theorem soft_sum.calls {k:Nat} {v:Int} {y:Int} {ae:Int} {af:Bool} {E:Int} {ag:Int} {ah:Int} {ai:Bool} {F:Int} {aj:Int} {r1:Int} {r2:Int} {w:World} (h:soft_sum.f k v y ae af E ag ah ai F aj=some (r1,r2)) :
  Calls Try.prog 66 #[.agg #[.int .i64 v,.int .i64 y],.agg #[.int .i64 ae,.bool af,.int .i64 E,.int .u64 ag],.agg #[.int .i64 ah,.bool ai,.int .i64 F,.int .u64 aj]] w fun e w'=>e=.returned (.tuple #[.int .u64 r1,.int .i64 r2])∧Below w.heap.size w w':=by
 have hu23:=Try.underlying23
 have hu34:=Try.underlying34
 have HB:=Aside0.mk (Below.refl w.heap.size w)
 have H:=h
 unfold soft_sum.f at H
 clear h
 have d3:=Aside0.mk H
 clear H
 go_enter Try.func66,Try.ntmps66
 go_upto_if 19 with (first|((with_reducible refine gate_dst (N:=3) rfl ?_);refine zbox (N:=3) (cs:=#[.int .i64 v,.int .i64 y]) (t:=23) ?_;intro ao hg w5 hbox hb;have a:=Aside0.mk hbox;have cY:=zge hg HB;have cZ:=zge hg HB;replace HB:=zbs HB hb;clear hb hbox hg)|((with_reducible refine gate_dst (N:=4) rfl ?_);refine zbox (N:=4) (cs:=#[.int .i64 ae,.bool af,.int .i64 E,.int .u64 ag]) (t:=34) ?_;intro ap hg w6 hbox hb;have b:=Aside0.mk hbox;have c0:=zge hg HB;have da:=zge hg HB;have C:=znl hg a;have p:=zng hg a;obtain⟨a,HB⟩:=zu1 a HB hb;clear hb hbox hg)|((with_reducible refine gate_dst (N:=5) rfl ?_);refine zbox (N:=5) (cs:=#[.int .i64 ah,.bool ai,.int .i64 F,.int .u64 aj]) (t:=34) ?_;intro aq hg w7 hbox hb;have i:=Aside0.mk hbox;have db:=zge hg HB;have dc:=zge hg HB;have Z:=znl hg a;have q:=zng hg a;have s:=znl hg b;have z:=zng hg b;obtain⟨a,b,HB⟩:=zu2 a b HB hb;clear hb hbox hg;obtain⟨dT,dU⟩:=z2 p;obtain⟨dV,dW⟩:=z2 s;obtain⟨G,I,J,K,L,M,O,P⟩:=zc4 b;obtain⟨dd,de⟩:=z2 q;obtain⟨Q,R,S,T,U,V,X,Y⟩:=zc4 i))
 repeat (go_quiet (first|((with_reducible refine gate_dst (N:=3) rfl ?_);refine zbox (N:=3) (cs:=#[.int .i64 v,.int .i64 y]) (t:=23) ?_;intro ao hg w5 hbox hb;have a:=Aside0.mk hbox;have cY:=zge hg HB;have cZ:=zge hg HB;replace HB:=zbs HB hb;clear hb hbox hg)|((with_reducible refine gate_dst (N:=4) rfl ?_);refine zbox (N:=4) (cs:=#[.int .i64 ae,.bool af,.int .i64 E,.int .u64 ag]) (t:=34) ?_;intro ap hg w6 hbox hb;have b:=Aside0.mk hbox;have c0:=zge hg HB;have da:=zge hg HB;have C:=znl hg a;have p:=zng hg a;obtain⟨a,HB⟩:=zu1 a HB hb;clear hb hbox hg)|((with_reducible refine gate_dst (N:=5) rfl ?_);refine zbox (N:=5) (cs:=#[.int .i64 ah,.bool ai,.int .i64 F,.int .u64 aj]) (t:=34) ?_;intro aq hg w7 hbox hb;have i:=Aside0.mk hbox;have db:=zge hg HB;have dc:=zge hg HB;have Z:=znl hg a;have q:=zng hg a;have s:=znl hg b;have z:=zng hg b;obtain⟨a,b,HB⟩:=zu2 a b HB hb;clear hb hbox hg;obtain⟨dT,dU⟩:=z2 p;obtain⟨dV,dW⟩:=z2 s;obtain⟨G,I,J,K,L,M,O,P⟩:=zc4 b;obtain⟨dd,de⟩:=z2 q;obtain⟨Q,R,S,T,U,V,X,Y⟩:=zc4 i));go_upto_if 19 with (first|((with_reducible refine gate_dst (N:=3) rfl ?_);refine zbox (N:=3) (cs:=#[.int .i64 v,.int .i64 y]) (t:=23) ?_;intro ao hg w5 hbox hb;have a:=Aside0.mk hbox;have cY:=zge hg HB;have cZ:=zge hg HB;replace HB:=zbs HB hb;clear hb hbox hg)|((with_reducible refine gate_dst (N:=4) rfl ?_);refine zbox (N:=4) (cs:=#[.int .i64 ae,.bool af,.int .i64 E,.int .u64 ag]) (t:=34) ?_;intro ap hg w6 hbox hb;have b:=Aside0.mk hbox;have c0:=zge hg HB;have da:=zge hg HB;have C:=znl hg a;have p:=zng hg a;obtain⟨a,HB⟩:=zu1 a HB hb;clear hb hbox hg)|((with_reducible refine gate_dst (N:=5) rfl ?_);refine zbox (N:=5) (cs:=#[.int .i64 ah,.bool ai,.int .i64 F,.int .u64 aj]) (t:=34) ?_;intro aq hg w7 hbox hb;have i:=Aside0.mk hbox;have db:=zge hg HB;have dc:=zge hg HB;have Z:=znl hg a;have q:=zng hg a;have s:=znl hg b;have z:=zng hg b;obtain⟨a,b,HB⟩:=zu2 a b HB hb;clear hb hbox hg;obtain⟨dT,dU⟩:=z2 p;obtain⟨dV,dW⟩:=z2 s;obtain⟨G,I,J,K,L,M,O,P⟩:=zc4 b;obtain⟨dd,de⟩:=z2 q;obtain⟨Q,R,S,T,U,V,X,Y⟩:=zc4 i)))
 (try simp only[Act.put,List.setIfInBounds_toArray,List.set_cons_zero,List.set_cons_succ])
 go_cut [] (fun wc=>∃ (kq:Nat) (n:Int) (d:Bool) (l:Int) (c:Int) (o:Int) (g:Bool) (m:Int) (j:Int),Aside0 (soft_sum.j0 kq v y n d l c o g m j=some (r1,r2))∧Aside0 (kq≤k)∧Aside0 (wc.heap[ao]?=some (.cells #[.int .i64 v,.int .i64 y] 23 (0,0)))∧Aside0 (wc.heap[ap]?=some (.cells #[.int .i64 n,.bool d,.int .i64 l,.int .u64 c] 34 (0,0)))∧Aside0 (wc.heap[aq]?=some (.cells #[.int .i64 o,.bool g,.int .i64 m,.int .u64 j] 34 (0,0)))∧Aside0 (Below w.heap.size w wc))
 case first =>
  have H:=d3.out
  clear d3
  by_cases a8:E<F
  ·rw[if_pos a8] at H
   have ab:decide (E<F)=true:=decide_eq_true a8
   clear a8
   (first|rw[ab]|(simp only[i64_w,i32_w];rw[ab])|skip)
   have H':=Aside0.mk H
   clear H
   obtain⟨e7,e8⟩:=z2 q
   obtain⟨e9,fa⟩:=z2 z
   obtain⟨aw,ax,ay,az,aA,aB,aC,aD⟩:=zc4 i
   obtain⟨fb,fc⟩:=z2 p
   obtain⟨aE,aF,aG,aH,aI,aJ,aK,aL⟩:=zc4 b
   go_wp2
   repeat (go_quiet (fail);try go_wp2)
   go_meet
   case rel=>exact⟨_,(ah),(ai),(F),(aj),(ae),(af),(E),(ag),H',⟨by omega⟩,⟨zk a⟩,⟨zkp b⟩,⟨zkp i⟩,⟨zb HB⟩⟩
  rw[if_neg a8] at H
  have ab:decide (E<F)=false:=decide_eq_false a8
  clear a8
  (first|rw[ab]|(simp only[i64_w,i32_w];rw[ab])|skip)
  have H':=Aside0.mk H
  clear H
  go_wp2
  repeat (go_quiet (fail);try go_wp2)
  go_meet
  case rel=>exact⟨_,(ae),(af),(E),(ag),(ah),(ai),(F),(aj),H',⟨by omega⟩,⟨zk a⟩,⟨zk b⟩,⟨zk i⟩,⟨zb HB⟩⟩
 case rest =>
  clear d3
  try clear G I J K Q R S T L M O P U V X Y
  obtain⟨kq,n,d,l,c,o,g,m,j,HA,cq,a,b,i,HB⟩:=hcut
  cases kq with
  | zero=>exact absurd HA.out (by simp[soft_sum.j0])
  | succ aM =>
   have H:=HA.out
   clear HA
   simp only[soft_sum.j0] at H
   by_cases cK:(wrap64 (l-m))>70
   ·rw[if_pos cK] at H
    have aN:decide (70<(wrap64 (l-m)))=true:=decide_eq_true cK
    clear cK
    by_cases ar:(d != g)=true
    ·rw[if_pos ar] at H
     have cr:(d != g)=true:=ar
     (try (have ct:decide (d=g)=false:=by simpa using ar))
     (try (have cu:(d==g)=false:=by simpa using ar))
     (try (have fd:¬ (d=g):=by simpa using ar))
     clear ar
     obtain⟨⟨gr,gs⟩,d4,H⟩:=oB H
     try dsimp only at H
     simp only[Option.some.injEq,Prod.mk.injEq] at H
     obtain⟨rfl,rfl⟩:=H
     obtain⟨fe,ff⟩:=z2 p
     obtain⟨fg,fh⟩:=z2 s
     obtain⟨a9,ba,bb,bc,bd,be,bf,bg⟩:=zc4 b
     obtain⟨fi,fj⟩:=z2 q
     obtain⟨bh,bi,bj,bk,bl,bm,bn,bo⟩:=zc4 i
     obtain⟨bp,bq,br,bs⟩:=zc2 a
     go_wp2_with (first|(go_at_call 51;(with_reducible refine (round_Pack.calls d4.out).mono ?_);rintro e ei ⟨rfl,hb⟩;obtain⟨a,b,i,HB⟩:=zu3 a b i HB hb;clear hb))
     repeat (go_quiet (first|(go_at_call 51;(with_reducible refine (round_Pack.calls d4.out).mono ?_);rintro e ei ⟨rfl,hb⟩;obtain⟨a,b,i,HB⟩:=zu3 a b i HB hb;clear hb));try go_wp2_with (first|(go_at_call 51;(with_reducible refine (round_Pack.calls d4.out).mono ?_);rintro e ei ⟨rfl,hb⟩;obtain⟨a,b,i,HB⟩:=zu3 a b i HB hb;clear hb)))
     go_ret2
     exact zr HB
    rw[if_neg ar] at H
    have cr:(d != g)=false:=by simpa using ar
    (try (have ct:decide (d=g)=true:=by simpa using ar))
    (try (have cu:(d==g)=true:=by simpa using ar))
    clear ar
    obtain⟨⟨gt,gu⟩,d5,H⟩:=oB H
    try dsimp only at H
    simp only[Option.some.injEq,Prod.mk.injEq] at H
    obtain⟨rfl,rfl⟩:=H
    obtain⟨fk,fl⟩:=z2 p
    obtain⟨fm,fn⟩:=z2 s
    obtain⟨bt,bu,bv,bw,bx,bz,bA,bB⟩:=zc4 b
    obtain⟨fo,fp⟩:=z2 q
    obtain⟨bC,bD,bE,bF,bG,bH,bI,bJ⟩:=zc4 i
    obtain⟨bK,bL,bM,bN⟩:=zc2 a
    go_wp2_with (first|(go_at_call 51;(with_reducible refine (round_Pack.calls d5.out).mono ?_);rintro e ej ⟨rfl,hb⟩;obtain⟨a,b,i,HB⟩:=zu3 a b i HB hb;clear hb))
    repeat (go_quiet (first|(go_at_call 51;(with_reducible refine (round_Pack.calls d5.out).mono ?_);rintro e ej ⟨rfl,hb⟩;obtain⟨a,b,i,HB⟩:=zu3 a b i HB hb;clear hb));try go_wp2_with (first|(go_at_call 51;(with_reducible refine (round_Pack.calls d5.out).mono ?_);rintro e ej ⟨rfl,hb⟩;obtain⟨a,b,i,HB⟩:=zu3 a b i HB hb;clear hb)))
    go_ret2
    exact zr HB
   rw[if_neg cK] at H
   have aN:decide (70<(wrap64 (l-m)))=false:=decide_eq_false cK
   clear cK
   obtain⟨u,ac⟩:∃ j_:Int,(wrap64 (l-m))=j_:=⟨_,rfl⟩
   first|rw[ac] at H|simp only[ac] at H
   (try rw[ac] at aN)
   have eU:(IntKind.i64.wrap (l-m))=u:=(i64_w _).trans ac
   by_cases df:0≤(u)
   rotate_left
   ·rw[if_neg df] at H
    exact absurd H (by simp)

   rw[if_pos df] at H
   have cv:=eq_true df
   have cw:decide (0≤(u))=true:=decide_eq_true df
   clear df
   obtain⟨av,D⟩:∃ j_:Int,(shl .u64 c (u))=j_:=⟨_,rfl⟩
   first|rw[D] at H|simp only[D] at H
   have eV:(IntKind.u64.wrap (c*2^min (u).toNat 64))=av:=D
   have eW:(u)≤64→(IntKind.u64.wrap (c*2^(u).toNat))=av:=shl_small D
   have dg:=Aside0.mk H
   clear H
   obtain⟨fq,fr⟩:=z2 p
   obtain⟨fs,ft⟩:=z2 s
   obtain⟨aO,aP,aQ,aR,aS,aT,aU,aV⟩:=zc4 b
   obtain⟨fu,fv⟩:=z2 q
   obtain⟨aW,aX,aY,aZ,a0,a1,a2,a3⟩:=zc4 i
   go_upto_block 0 with (fail)
   repeat (go_quiet (fail);go_upto_block 0 with (fail))
   go_cut [10,11] (fun v10 v11 wc=>∃ (kq:Nat) (aa:Int) (B:Int),v10=.int .u64 aa∧v11=.int .u64 B∧Aside0 (soft_sum.j1 kq aa B v y n d l c o g m j=some (r1,r2))∧Aside0 (kq≤aM)∧Aside0 (wc.heap[ao]?=some (.cells #[.int .i64 v,.int .i64 y] 23 (0,0)))∧Aside0 (wc.heap[ap]?=some (.cells #[.int .i64 n,.bool d,.int .i64 l,.int .u64 c] 34 (0,0)))∧Aside0 (wc.heap[aq]?=some (.cells #[.int .i64 o,.bool g,.int .i64 m,.int .u64 j] 34 (0,0)))∧Aside0 (Below w.heap.size w wc))
   case first =>
    have H:=dg.out
    clear dg
    by_cases bO:(u)≥64
    ·rw[if_pos bO] at H
     have ad:decide (64≤(u))=true:=decide_eq_true bO
     clear bO
     (first|rw[ad]|(simp only[i64_w,i32_w];rw[ad])|skip)
     obtain⟨ak,cx⟩:∃ j_:Int,(wrap64 ((u)-64))=j_:=⟨_,rfl⟩
     first|rw[cx] at H|simp only[cx] at H
     have eX:(IntKind.i64.wrap ((u)-64))=ak:=(i64_w _).trans cx
     by_cases cy:0≤(ak)
     ·rw[if_pos cy] at H
      have dh:=eq_true cy
      have di:decide (0≤(ak))=true:=decide_eq_true cy
      clear cy
      obtain⟨cF,a4⟩:∃ j_:Int,(shl .u64 c (ak))=j_:=⟨_,rfl⟩
      first|rw[a4] at H|simp only[a4] at H
      have eY:(IntKind.u64.wrap (c*2^min (ak).toNat 64))=cF:=a4
      have eZ:(ak)≤64→(IntKind.u64.wrap (c*2^(ak).toNat))=cF:=shl_small a4
      have H':=Aside0.mk H
      clear H
      obtain⟨fw,fx⟩:=z2 p
      obtain⟨fy,fz⟩:=z2 s
      obtain⟨bP,bQ,bR,bS,bT,bU,bV,bW⟩:=zc4 b
      go_wp2
      repeat (go_quiet (fail);try go_wp2)
      go_meet
      case rel=>exact⟨_,(cF),(0),(by first|rfl|(simp;done)|(simp only[←a4] <;> (first|rfl|simp))|(simp[*];done)),(by first|rfl|(simp[*];done)),H',⟨by have:=cq.out;first|omega|exact Nat.le_refl _⟩,⟨zk a⟩,⟨zk b⟩,⟨zk i⟩,⟨zb HB⟩⟩
     rw[if_neg cy] at H
     exact absurd H (by simp)
    rw[if_neg bO] at H
    have ad:decide (64≤(u))=false:=decide_eq_false bO
    clear bO
    (first|rw[ad]|(simp only[i64_w,i32_w];rw[ad])|skip)
    by_cases bX:(u)>0
    ·rw[if_pos bX] at H
     have cz:decide (0<(u))=true:=decide_eq_true bX
     clear bX
     obtain⟨al,cA⟩:∃ j_:Int,(wrap64 (64-(u)))=j_:=⟨_,rfl⟩
     first|rw[cA] at H|simp only[cA] at H
     have e0:(IntKind.i64.wrap (64-(u)))=al:=(i64_w _).trans cA
     by_cases cB:0≤(al)
     ·rw[if_pos cB] at H
      have dj:=eq_true cB
      have dk:decide (0≤(al))=true:=decide_eq_true cB
      clear cB
      obtain⟨cG,a5⟩:∃ j_:Int,(shr .u64 c (al))=j_:=⟨_,rfl⟩
      first|rw[a5] at H|simp only[a5] at H
      have e1:(c/2^min (al).toNat 64)=cG:=a5
      have e2:(al)≤64→(c/2^(al).toNat)=cG:=shr_small a5
      have H':=Aside0.mk H
      clear H
      obtain⟨fA,fB⟩:=z2 p
      obtain⟨fC,fD⟩:=z2 s
      obtain⟨bY,bZ,b0,b1,b2,b3,b4,b5⟩:=zc4 b
      go_wp2
      repeat (go_quiet (fail);try go_wp2)
      go_meet
      case rel=>exact⟨_,(cG),(av),(by first|rfl|(simp;done)|(simp only[←a5] <;> (first|rfl|simp))|(simp[*];done)),(by first|rfl|(simp;done)|(simp only[←D] <;> (first|rfl|simp))|(simp[*];done)),H',⟨by have:=cq.out;first|omega|exact Nat.le_refl _⟩,⟨zk a⟩,⟨zk b⟩,⟨zk i⟩,⟨zb HB⟩⟩
     rw[if_neg cB] at H
     exact absurd H (by simp)
    rw[if_neg bX] at H
    have cz:decide (0<(u))=false:=decide_eq_false bX
    clear bX
    have H':=Aside0.mk H
    clear H
    go_wp2
    repeat (go_quiet (fail);try go_wp2)
    go_meet
    case rel=>exact⟨_,(0),(av),(by first|rfl|(simp[*];done)),(by first|rfl|(simp;done)|(simp only[←D] <;> (first|rfl|simp))|(simp[*];done)),H',⟨by have:=cq.out;first|omega|exact Nat.le_refl _⟩,⟨zk a⟩,⟨zk b⟩,⟨zk i⟩,⟨zb HB⟩⟩
   case rest =>
    clear dg
    try clear c1 p2 c6 c8 c9 el a8 ab em en eo aN cv cw G I J K Q R S T aw ax ay az aE aF aG aH aO aP aQ aR aW aX aY aZ L M O P U V X Y aA aB aC aD aI aJ aK aL aS aT aU aV a0 a1 a2 a3 p2
    obtain⟨kq,aa,B,rfl,rfl,HA,cH,a,b,i,HB⟩:=hcut
    cases kq with
    | zero=>exact absurd HA.out (by simp[soft_sum.j1])
    | succ ep =>
     have H:=HA.out
     clear HA
     simp only[soft_sum.j1] at H
     by_cases a6:(d==g)=true
     ·rw[if_pos a6] at H
      have cC:(d==g)=true:=a6
      (try (have cD:decide (d=g)=true:=by simpa using a6))
      (try (have cE:(d==g)=true:=by simpa using a6))
      clear a6
      obtain⟨⟨dX,dY⟩,eq,H⟩:=oB H
      try dsimp only at H
      obtain⟨⟨gz,gA⟩,d6,H⟩:=oB H
      try dsimp only at H
      simp only[Option.some.injEq,Prod.mk.injEq] at H
      obtain⟨rfl,rfl⟩:=H
      obtain⟨fE,fF⟩:=z2 p
      obtain⟨fG,fH⟩:=z2 s
      obtain⟨dl,dm,dn,dp,dq,dr,ds,dt⟩:=zc4 b
      obtain⟨fI,fJ⟩:=z2 q
      obtain⟨du,dv,dw,dx,dy,dz,dA,dB⟩:=zc4 i
      have hxA61:=fun (W:World)=>bits_Add64.run B j 0 dX dY W eq.out
      obtain⟨b6,b7,b8,b9⟩:=zc2 a
      go_wp2_with (first|(go_at_call 51;(with_reducible refine (round_Pack.calls d6.out).mono ?_);rintro e er ⟨rfl,hb⟩;obtain⟨a,b,i,HB⟩:=zu3 a b i HB hb;clear hb))
      have hxA61:=fun (W:World)=>bits_Add64.run B j 0 dX dY W eq.out
      obtain⟨b6,b7,b8,b9⟩:=zc2 a
      repeat (go_quiet (first|(go_at_call 51;(with_reducible refine (round_Pack.calls d6.out).mono ?_);rintro e er ⟨rfl,hb⟩;obtain⟨a,b,i,HB⟩:=zu3 a b i HB hb;clear hb));try go_wp2_with (first|(go_at_call 51;(with_reducible refine (round_Pack.calls d6.out).mono ?_);rintro e er ⟨rfl,hb⟩;obtain⟨a,b,i,HB⟩:=zu3 a b i HB hb;clear hb)))
      go_ret2
      exact⟨by first|rfl|(simp[errW_none,errW_some] <;> rfl)|(simp only[←ac,←D];first|rfl|(simp[errW_none,errW_some] <;> rfl))|(simp[*,errW_none,errW_some] <;> rfl),zb HB⟩
     rw[if_neg a6] at H
     have cC:(d==g)=false:=by simpa using a6
     (try (have cD:decide (d=g)=false:=by simpa using a6))
     (try (have cE:(d==g)=false:=by simpa using a6))
     (try (have fK:¬ (d=g):=by simpa using a6))
     clear a6
     have dC:=Aside0.mk H
     clear H
     obtain⟨fL,fM⟩:=z2 p
     obtain⟨fN,fO⟩:=z2 s
     obtain⟨ca,cb,cc,cd,ce,cf,cg,ch⟩:=zc4 b
     obtain⟨fP,fQ⟩:=z2 q
     obtain⟨ci,cj,ck,cl,cm,cn,co,cp⟩:=zc4 i
     go_upto_region 17 with (fail)
     repeat (go_quiet (fail);go_upto_region 17 with (fail))
     go_cut [100] (fun v100 wc=>∃ (kq:Nat) (am:Bool),v100=.bool am∧Aside0 (soft_sum.j2 kq aa B am v y n d l c o g m j=some (r1,r2))∧Aside0 (kq≤ep)∧Aside0 (wc.heap[ao]?=some (.cells #[.int .i64 v,.int .i64 y] 23 (0,0)))∧Aside0 (wc.heap[ap]?=some (.cells #[.int .i64 n,.bool d,.int .i64 l,.int .u64 c] 34 (0,0)))∧Aside0 (wc.heap[aq]?=some (.cells #[.int .i64 o,.bool g,.int .i64 m,.int .u64 j] 34 (0,0)))∧Aside0 (Below w.heap.size w wc))
     case first =>
      have H:=dC.out
      clear dC
      by_cases cL:aa=0
      ·rw[if_pos cL] at H
       obtain⟨au,dD⟩:=zt cL
       clear cL
       (first|rw[au]|(simp only[i64_w,i32_w];rw[au])|skip)
       have H':=Aside0.mk H
       clear H
       obtain⟨fR,fS⟩:=z2 q
       obtain⟨fT,fU⟩:=z2 z
       obtain⟨dE,dF,dG,dH,dI,dJ,dK,dL⟩:=zc4 i
       go_wp2
       repeat (go_quiet (fail);try go_wp2)
       go_meet
       case rel=>exact⟨_,((B==j)),(by first|rfl|(simp[*];done)),H',⟨by have:=cq.out;have:=cH.out;first|omega|exact Nat.le_refl _⟩,⟨zk a⟩,⟨zk b⟩,⟨zk i⟩,⟨zb HB⟩⟩
      rw[if_neg cL] at H
      obtain⟨au,dD⟩:=zf cL
      (first|rw[au]|(simp only[i64_w,i32_w];rw[au])|skip)
      have H':=Aside0.mk H
      clear H
      go_wp2
      repeat (go_quiet (fail);try go_wp2)
      go_meet
      case rel=>exact⟨_,(false),(by first|rfl|(simp[*];done)),H',⟨by have:=cq.out;have:=cH.out;first|omega|exact Nat.le_refl _⟩,⟨zk a⟩,⟨zk b⟩,⟨zk i⟩,⟨zb HB⟩⟩
     case rest =>
      clear dC
      try clear c1 c2 p2 c3 c4 c5 c6 p6 c8 c9 el a8 ab em en eo aN ar cr ct cu fW fX fY fZ f0 f1 cv cw f2 f3 f4 bO ad cy dh di f5 f6 bX cz cB dj dk f7 f8 cC cD cE G I J K Q R S T aw ax ay az aE aF aG aH a9 ba bb bc bh bi bj bk bp bq bt bu bv bw bC bD bE bF bK bL aO aP aQ aR aW aX aY aZ bP bQ bR bS bY bZ b0 b1 ca cb cc cd ci cj ck cl L M O P U V X Y aA aB aC aD aI aJ aK aL bd be bf bg bl bm bn bo br bs bx bz bA bB bG bH bI bJ bM bN aS aT aU aV a0 a1 a2 a3 bT bU bV bW b2 b3 b4 b5 ce cf cg ch cm cn co cp p2 p6
      obtain⟨kq,am,rfl,HA,dZ,a,b,i,HB⟩:=hcut
      cases kq with
      | zero=>exact absurd HA.out (by simp[soft_sum.j2])
      | succ es =>
       have H:=HA.out
       clear HA
       simp only[soft_sum.j2] at H
       by_cases dM:am=true
       ·subst dM
        rw[if_pos rfl] at H
        obtain⟨gB,d7,H⟩:=oB H
        simp only[Option.some.injEq,Prod.mk.injEq] at H
        obtain⟨rfl,rfl⟩:=H
        obtain⟨f9,ga⟩:=z2 C
        obtain⟨gb,gc⟩:=z2 Z
        obtain⟨et,eu,ev,ew⟩:=zc2 a
        go_wp2_with (first|(go_at_call 50;(with_reducible refine (round_Zero.calls d7.out).mono ?_);rintro e ex ⟨rfl,hb⟩;obtain⟨a,b,i,HB⟩:=zu3 a b i HB hb;clear hb))
        repeat (go_quiet (first|(go_at_call 50;(with_reducible refine (round_Zero.calls d7.out).mono ?_);rintro e ex ⟨rfl,hb⟩;obtain⟨a,b,i,HB⟩:=zu3 a b i HB hb;clear hb));try go_wp2_with (first|(go_at_call 50;(with_reducible refine (round_Zero.calls d7.out).mono ?_);rintro e ex ⟨rfl,hb⟩;obtain⟨a,b,i,HB⟩:=zu3 a b i HB hb;clear hb)))
        go_ret2
        exact⟨by first|rfl|(simp[errW_none,errW_some] <;> rfl)|(simp only[←ac,←D];first|rfl|(simp[errW_none,errW_some] <;> rfl))|(simp[*,errW_none,errW_some] <;> rfl),zb HB⟩
       replace dM:=Bool.eq_false_iff.mpr dM
       subst dM
       rw[if_neg nft] at H
       have dN:=Aside0.mk H
       clear H
       go_upto_region 19 with (fail)
       repeat (go_quiet (fail);go_upto_region 19 with (fail))
       go_cut [110] (fun v110 wc=>∃ (kq:Nat) (an:Bool),v110=.bool an∧Aside0 (soft_sum.j3 kq aa B an v y n d l c o g m j=some (r1,r2))∧Aside0 (kq≤es)∧Aside0 (wc.heap[ao]?=some (.cells #[.int .i64 v,.int .i64 y] 23 (0,0)))∧Aside0 (wc.heap[ap]?=some (.cells #[.int .i64 n,.bool d,.int .i64 l,.int .u64 c] 34 (0,0)))∧Aside0 (wc.heap[aq]?=some (.cells #[.int .i64 o,.bool g,.int .i64 m,.int .u64 j] 34 (0,0)))∧Aside0 (Below w.heap.size w wc))
       case first =>
        have H:=dN.out
        clear dN
        by_cases dO:aa=0
        ·rw[if_pos dO] at H
         obtain⟨a7,d8⟩:=zt dO
         clear dO
         (first|rw[a7]|(simp only[i64_w,i32_w];rw[a7])|skip)
         have H':=Aside0.mk H
         clear H
         obtain⟨gd,ge⟩:=z2 q
         obtain⟨gf,gg⟩:=z2 z
         obtain⟨ey,ez,eA,eB,eC,eD,eE,eF⟩:=zc4 i
         go_wp2
         repeat (go_quiet (fail);try go_wp2)
         go_meet
         case rel=>exact⟨_,(decide (B<j)),(by first|rfl|(simp[*];done)),H',⟨by have:=cq.out;have:=cH.out;have:=dZ.out;first|omega|exact Nat.le_refl _⟩,⟨zk a⟩,⟨zk b⟩,⟨zk i⟩,⟨zb HB⟩⟩
        rw[if_neg dO] at H
        obtain⟨a7,d8⟩:=zf dO
        (first|rw[a7]|(simp only[i64_w,i32_w];rw[a7])|skip)
        have H':=Aside0.mk H
        clear H
        go_wp2
        repeat (go_quiet (fail);try go_wp2)
        go_meet
        case rel=>exact⟨_,(false),(by first|rfl|(simp[*];done)),H',⟨by have:=cq.out;have:=cH.out;have:=dZ.out;first|omega|exact Nat.le_refl _⟩,⟨zk a⟩,⟨zk b⟩,⟨zk i⟩,⟨zb HB⟩⟩
       case rest =>
        clear dN
        try clear c1 c2 p2 c3 c4 c5 c6 p6 c7 c8 c9 el a8 ab em en eo aN ar cr ct cu fW fX fY fZ f0 f1 cv cw f2 f3 f4 bO ad cy dh di f5 f6 bX cz cB dj dk f7 f8 cC cD cE gM gN gh gO gP gQ gR cL au dD gS gT dM G I J K Q R S T aw ax ay az aE aF aG aH a9 ba bb bc bh bi bj bk bp bq bt bu bv bw bC bD bE bF bK bL aO aP aQ aR aW aX aY aZ bP bQ bR bS bY bZ b0 b1 dl dm dn dp du dv dw dx b6 b7 ca cb cc cd ci cj ck cl dE dF dG dH L M O P U V X Y aA aB aC aD aI aJ aK aL bd be bf bg bl bm bn bo br bs bx bz bA bB bG bH bI bJ bM bN aS aT aU aV a0 a1 a2 a3 bT bU bV bW b2 b3 b4 b5 dq dr ds dt dy dz dA dB b8 b9 ce cf cg ch cm cn co cp dI dJ dK dL p2 p6 gh
        obtain⟨kq,an,rfl,HA,gC,a,b,i,HB⟩:=hcut
        cases kq with
        | zero=>exact absurd HA.out (by simp[soft_sum.j3])
        | succ gD =>
         have H:=HA.out
         clear HA
         simp only[soft_sum.j3] at H
         by_cases dQ:an=true
         ·subst dQ
          rw[if_pos rfl] at H
          obtain⟨⟨gE,gF⟩,d9,H⟩:=oB H
          try dsimp only at H
          simp only[Option.some.injEq,Prod.mk.injEq] at H
          obtain⟨rfl,rfl⟩:=H
          obtain⟨gi,gj⟩:=z2 C
          obtain⟨gk,gl⟩:=z2 Z
          obtain⟨eG,eH,eI,eJ⟩:=zc2 a
          obtain⟨gm,gn⟩:=z2 z
          obtain⟨eK,eL,eM,eN,eO,eP,eQ,eR⟩:=zc4 i
          go_wp2_with (first|(go_at_call 51;(with_reducible refine (round_Pack.calls d9.out).mono ?_);rintro e eS ⟨rfl,hb⟩;obtain⟨a,b,i,HB⟩:=zu3 a b i HB hb;clear hb))
          repeat (go_quiet (first|(go_at_call 51;(with_reducible refine (round_Pack.calls d9.out).mono ?_);rintro e eS ⟨rfl,hb⟩;obtain⟨a,b,i,HB⟩:=zu3 a b i HB hb;clear hb));try go_wp2_with (first|(go_at_call 51;(with_reducible refine (round_Pack.calls d9.out).mono ?_);rintro e eS ⟨rfl,hb⟩;obtain⟨a,b,i,HB⟩:=zu3 a b i HB hb;clear hb)))
          go_ret2
          exact⟨by first|rfl|(simp[errW_none,errW_some] <;> rfl)|(simp only[←ac,←D];first|rfl|(simp[errW_none,errW_some] <;> rfl))|(simp[*,errW_none,errW_some] <;> rfl),zb HB⟩
         replace dQ:=Bool.eq_false_iff.mpr dQ
         subst dQ
         rw[if_neg nft] at H
         obtain⟨⟨d0,d1⟩,eT,H⟩:=oB H
         try dsimp only at H
         obtain⟨⟨gG,gH⟩,dP,H⟩:=oB H
         try dsimp only at H
         simp only[Option.some.injEq,Prod.mk.injEq] at H
         obtain⟨rfl,rfl⟩:=H
         obtain⟨e3,e4⟩:=z2 q
         obtain⟨e5,e6⟩:=z2 z
         obtain⟨ea,eb,ec,ed,ee,ef,eg,eh⟩:=zc4 i
         have hxA99:=fun (W:World)=>bits_Sub64.run B j 0 d0 d1 W eT.out
         have dR:=C.out;have dS:=p.out;obtain⟨cM,cN,cO,cP⟩:=zc2 a;obtain⟨cQ,cR,cS,cT,cU,cV,cW,cX⟩:=zc4 b
         go_wp2_with (first|(go_at_call 51;(with_reducible refine (round_Pack.calls dP.out).mono ?_);rintro e d2 ⟨rfl,hb⟩;obtain⟨a,b,i,HB⟩:=zu3 a b i HB hb;clear hb))
         have hxA99:=fun (W:World)=>bits_Sub64.run B j 0 d0 d1 W eT.out
         have dR:=C.out;have dS:=p.out;obtain⟨cM,cN,cO,cP⟩:=zc2 a;obtain⟨cQ,cR,cS,cT,cU,cV,cW,cX⟩:=zc4 b
         repeat (go_quiet (first|(go_at_call 51;(with_reducible refine (round_Pack.calls dP.out).mono ?_);rintro e d2 ⟨rfl,hb⟩;obtain⟨a,b,i,HB⟩:=zu3 a b i HB hb;clear hb));try go_wp2_with (first|(go_at_call 51;(with_reducible refine (round_Pack.calls dP.out).mono ?_);rintro e d2 ⟨rfl,hb⟩;obtain⟨a,b,i,HB⟩:=zu3 a b i HB hb;clear hb)))
         go_ret2
         exact⟨by first|rfl|(simp[errW_none,errW_some] <;> rfl)|(simp only[←ac,←D];first|rfl|(simp[errW_none,errW_some] <;> rfl))|(simp[*,errW_none,errW_some] <;> rfl),zb HB⟩
/-! ### soft_Add: function 24 -/
mutual
def soft_Add.j0:Nat→Int→Int→Bool→Int→Int→Int→Bool→Int→Int→Int→Bool→Int→Int→Option (Int×Int)
 | 0,_,_,_,_,_,_,_,_,_,_,_,_,_=>none
 | k+1,e,g,o,b,c,a,h,i,j,d,l,m,n=>if o=true then ((round_NaN.f b c).bind fun p=>(some (p,0))) else (if a=3 then (soft_Add.j1 k e g true b c a h i j d l m n) else (if d=1 then (soft_Add.j1 k e g (a != 1) b c a h i j d l m n) else (soft_Add.j1 k e g false b c a h i j d l m n)))
def soft_Add.j1:Nat→Int→Int→Bool→Int→Int→Int→Bool→Int→Int→Int→Bool→Int→Int→Option (Int×Int)
 | 0,_,_,_,_,_,_,_,_,_,_,_,_,_=>none
 | k+1,m,c,n,d,e,b,f,g,h,a,i,j,l=>if n=true then (some (m,0)) else (if a=3 then (soft_Add.j2 k c true d e b f g h a i j l) else (if b=1 then (soft_Add.j2 k c (a != 1) d e b f g h a i j l) else (soft_Add.j2 k c false d e b f g h a i j l)))
def soft_Add.j2:Nat→Int→Bool→Int→Int→Int→Bool→Int→Int→Int→Bool→Int→Int→Option (Int×Int)
 | 0,_,_,_,_,_,_,_,_,_,_,_,_=>none
 | k+1,h,i,a,b,c,d,j,l,m,e,n,o=>if i=true then (some (h,0)) else (if c=1 then (if d=true then ((round_Zero.f a b e).bind fun p=>(some (p,0))) else ((round_Zero.f a b false).bind fun q=>(some (q,0)))) else ((soft_sum.f k a b c d j l m e n o).bind fun g=>(some (g.1,g.2))))
end
def soft_Add.f (k:Nat) (a0_0:Int) (a0_1:Int) (a1:Int) (a2:Int):Option (Int×Int):=(soft_two.f k a0_0 a0_1 a1 a2).bind fun a=>(if a.2.2.2.2.2.2.2.2=0 then ((soft_odd.f a.1 a.2.1 a.2.2.1 a.2.2.2.1 a.2.2.2.2.1 a.2.2.2.2.2.1 a.2.2.2.2.2.2.1 a.2.2.2.2.2.2.2.1).bind fun b=>(if b=true then (soft_Add.j0 k a1 a2 true a0_0 a0_1 a.1 a.2.1 a.2.2.1 a.2.2.2.1 a.2.2.2.2.1 a.2.2.2.2.2.1 a.2.2.2.2.2.2.1 a.2.2.2.2.2.2.2.1) else (if a.1=3 then (if a.2.2.2.2.1=3 then (soft_Add.j0 k a1 a2 (a.2.1 != a.2.2.2.2.2.1) a0_0 a0_1 a.1 a.2.1 a.2.2.1 a.2.2.2.1 a.2.2.2.2.1 a.2.2.2.2.2.1 a.2.2.2.2.2.2.1 a.2.2.2.2.2.2.2.1) else (soft_Add.j0 k a1 a2 false a0_0 a0_1 a.1 a.2.1 a.2.2.1 a.2.2.2.1 a.2.2.2.2.1 a.2.2.2.2.2.1 a.2.2.2.2.2.2.1 a.2.2.2.2.2.2.2.1)) else (soft_Add.j0 k a1 a2 false a0_0 a0_1 a.1 a.2.1 a.2.2.1 a.2.2.2.1 a.2.2.2.2.1 a.2.2.2.2.2.1 a.2.2.2.2.2.2.1 a.2.2.2.2.2.2.2.1)))) else (some (0,a.2.2.2.2.2.2.2.2)))
theorem soft_Add.mono_l:∀ k,(∀ y0 y1 y2 y3 y4 y5 y6 y7 y8 y9 y10 y11 y12,LeO (soft_Add.j0 k y0 y1 y2 y3 y4 y5 y6 y7 y8 y9 y10 y11 y12) (soft_Add.j0 (k+1) y0 y1 y2 y3 y4 y5 y6 y7 y8 y9 y10 y11 y12))∧(∀ y0 y1 y2 y3 y4 y5 y6 y7 y8 y9 y10 y11 y12,LeO (soft_Add.j1 k y0 y1 y2 y3 y4 y5 y6 y7 y8 y9 y10 y11 y12) (soft_Add.j1 (k+1) y0 y1 y2 y3 y4 y5 y6 y7 y8 y9 y10 y11 y12))∧(∀ y0 y1 y2 y3 y4 y5 y6 y7 y8 y9 y10 y11,LeO (soft_Add.j2 k y0 y1 y2 y3 y4 y5 y6 y7 y8 y9 y10 y11) (soft_Add.j2 (k+1) y0 y1 y2 y3 y4 y5 y6 y7 y8 y9 y10 y11))
 | 0=>⟨fun _ _ _ _ _ _ _ _ _ _ _ _ _ r h=>by simp[soft_Add.j0] at h,fun _ _ _ _ _ _ _ _ _ _ _ _ _ r h=>by simp[soft_Add.j1] at h,fun _ _ _ _ _ _ _ _ _ _ _ _ r h=>by simp[soft_Add.j2] at h⟩
 | k+1=>by
  obtain⟨ih0,ih1,ih2⟩:=soft_Add.mono_l k
  refine⟨?_,?_,?_⟩ <;> intros <;> (first|unfold soft_Add.j0|unfold soft_Add.j1|unfold soft_Add.j2) <;> (repeat' first|(with_reducible first|apply ih0|apply ih1|apply ih2|apply soft_sum.mono|apply soft_two.mono|exact LeO.refl _|exact LeO.none _|refine LeO.ite ?_ ?_|refine LeO.bind ?_ (fun _=>?_))|refine LeO.ite ?_ ?_|refine LeO.bind ?_ (fun _=>?_))
theorem soft_Add.mono:∀ a0 a1 a2 a3 k,LeO (soft_Add.f k a0 a1 a2 a3) (soft_Add.f (k+1) a0 a1 a2 a3):=by
 intro a0 a1 a2 a3 k
 obtain⟨ih0,ih1,ih2⟩:=soft_Add.mono_l k
 unfold soft_Add.f
 repeat' first|(with_reducible first|apply ih0|apply ih1|apply ih2|apply soft_sum.mono|apply soft_two.mono|exact LeO.refl _|exact LeO.none _|refine LeO.ite ?_ ?_|refine LeO.bind ?_ (fun _=>?_))|refine LeO.ite ?_ ?_|refine LeO.bind ?_ (fun _=>?_)
set_option maxHeartbeats 8000000 in
set_option maxRecDepth 100000 in
theorem soft_Add.calls {k:Nat} {l:Int} {m:Int} {a1:Int} {a2:Int} {r1:Int} {r2:Int} {w:World} (h:soft_Add.f k l m a1 a2=some (r1,r2)) :
  Calls Try.prog 24 #[.agg #[.int .i64 l,.int .i64 m],.int .u64 a1,.int .u64 a2] w fun e w'=>e=.returned (.tuple #[.int .u64 r1,.int .i64 r2])∧Below w.heap.size w w':=by
 have hu23:=Try.underlying23
 have hu34:=Try.underlying34
 have HB:=Aside0.mk (Below.refl w.heap.size w)
 have H:=h
 unfold soft_Add.f at H
 clear h
 obtain⟨⟨n,u,y,z,q,v,B,C,er⟩,A4,H⟩:=oB H
 try dsimp only at H
 by_cases c5:er=0
 rotate_left
 ·rw[if_neg c5] at H
  obtain⟨b9,ca⟩:=zf c5
  simp only[Option.some.injEq,Prod.mk.injEq] at H
  obtain⟨rfl,rfl⟩:=H
  go_enter Try.func24,Try.ntmps24
  go_wp2_with (first|((with_reducible refine gate_dst (N:=3) rfl ?_);refine zbox (N:=3) (cs:=#[.int .i64 l,.int .i64 m]) (t:=23) ?_;intro ab hg hu hbox hb;have a:=Aside0.mk hbox;have dn:=zge hg HB;have dp:=zge hg HB;replace HB:=zbs HB hb;clear hb hbox hg;obtain⟨d7,d8,d9,ea⟩:=zc2 a)|((with_reducible refine gate_callee (f:=47) rfl ?_);refine zgc (some 15) Try.func47 (soft_two.calls A4.out) ?_;intro hv hb;obtain⟨a,HB⟩:=zu1 a HB hb;clear hb)|((with_reducible refine gate_dst (N:=8) rfl ?_);refine zbox (N:=8) (cs:=#[.int .i64 0,.bool false,.int .i64 0,.int .u64 0]) (t:=34) ?_;intro ag hg hw hbox hb;have b:=Aside0.mk hbox;have dq:=zge hg HB;have dr:=zge hg HB;have I:=znl hg a;have g:=zng hg a;obtain⟨a,HB⟩:=zu1 a HB hb;clear hb hbox hg)|((with_reducible refine gate_dst (N:=9) rfl ?_);refine zbox (N:=9) (cs:=#[.int .i64 0,.bool false,.int .i64 0,.int .u64 0]) (t:=34) ?_;intro ah hg hx hbox hb;have d:=Aside0.mk hbox;have ds:=zge hg HB;have dt:=zge hg HB;have p:=znl hg a;have j:=zng hg a;have i:=znl hg b;have s:=zng hg b;obtain⟨a,b,HB⟩:=zu2 a b HB hb;clear hb hbox hg;obtain⟨fG,fH⟩:=z2 g;obtain⟨fI,fJ⟩:=z2 i;obtain⟨eb,ec,ed,ee,ef,eg,eh,ei⟩:=zc4 b;obtain⟨fK,fL⟩:=z2 j;obtain⟨ej,ek,el,em,en,eo,ep,eq⟩:=zc4 d))
  go_ret2
  exact zr HB

 rw[if_pos c5] at H
 obtain⟨b9,ca⟩:=zt c5
 clear c5
 have dm:=Aside0.mk H
 clear H
 go_enter Try.func24,Try.ntmps24
 go_upto_region 4 with (first|((with_reducible refine gate_dst (N:=3) rfl ?_);refine zbox (N:=3) (cs:=#[.int .i64 l,.int .i64 m]) (t:=23) ?_;intro ab hg w7 hbox hb;have a:=Aside0.mk hbox;have dn:=zge hg HB;have dp:=zge hg HB;replace HB:=zbs HB hb;clear hb hbox hg;obtain⟨ac,ad,ae,af⟩:=zc2 a)|((with_reducible refine gate_callee (f:=47) rfl ?_);refine zgc (some 15) Try.func47 (soft_two.calls A4.out) ?_;intro w9 hb;obtain⟨a,HB⟩:=zu1 a HB hb;clear hb)|((with_reducible refine gate_dst (N:=8) rfl ?_);refine zbox (N:=8) (cs:=#[.int .i64 0,.bool false,.int .i64 0,.int .u64 0]) (t:=34) ?_;intro ag hg hy hbox hb;have b:=Aside0.mk hbox;have dq:=zge hg HB;have dr:=zge hg HB;have I:=znl hg a;have g:=zng hg a;obtain⟨a,HB⟩:=zu1 a HB hb;clear hb hbox hg)|((with_reducible refine gate_dst (N:=9) rfl ?_);refine zbox (N:=9) (cs:=#[.int .i64 0,.bool false,.int .i64 0,.int .u64 0]) (t:=34) ?_;intro ah hg hz hbox hb;have d:=Aside0.mk hbox;have ds:=zge hg HB;have dt:=zge hg HB;have p:=znl hg a;have j:=zng hg a;have i:=znl hg b;have s:=zng hg b;obtain⟨a,b,HB⟩:=zu2 a b HB hb;clear hb hbox hg;obtain⟨fM,fN⟩:=z2 g;obtain⟨fO,fP⟩:=z2 i;obtain⟨J,K,L,M,O,P,Q,R⟩:=zc4 b;obtain⟨fQ,fR⟩:=z2 j;obtain⟨S,T,U,V,W,X,Y,Z⟩:=zc4 d))
 (try simp only[Act.put,List.setIfInBounds_toArray,List.set_cons_zero,List.set_cons_succ])
 go_cut [23] (fun v23 wc=>∃ (kq:Nat) (ai:Bool),v23=.bool ai∧Aside0 (soft_Add.j0 kq a1 a2 ai l m n u y z q v B C=some (r1,r2))∧Aside0 (kq≤k)∧Aside0 (wc.heap[ab]?=some (.cells #[.int .i64 l,.int .i64 m] 23 (0,0)))∧Aside0 (wc.heap[ag]?=some (.cells #[.int .i64 n,.bool u,.int .i64 y,.int .u64 z] 34 (0,0)))∧Aside0 (wc.heap[ah]?=some (.cells #[.int .i64 q,.bool v,.int .i64 B,.int .u64 C] 34 (0,0)))∧Aside0 (Below w.heap.size w wc))
 case first =>
  have H:=dm.out
  clear dm
  obtain⟨cg,dj,H⟩:=oB H
  by_cases cb:cg=true
  ·subst cb
   rw[if_pos rfl] at H
   have H':=Aside0.mk H
   clear H
   obtain⟨fS,fT⟩:=z2 g
   obtain⟨fU,fV⟩:=z2 i
   obtain⟨aj,ak,al,am,an,ao,ap,aq⟩:=zc4 b
   obtain⟨fW,fX⟩:=z2 j
   obtain⟨ar,au,av,aw,ax,ay,az,aA⟩:=zc4 d
   go_wp2_with (first|((with_reducible refine gate_callee (f:=48) rfl ?_);refine zgc (some 26) Try.func48 (soft_odd.calls dj.out) ?_;intro hA hb;replace a:=zkb a hb;replace b:=zkbo (o:=.cells #[.int .i64 n,.bool u,.int .i64 y,.int .u64 z] 34 (0,0)) b hb;replace d:=zkbo (o:=.cells #[.int .i64 q,.bool v,.int .i64 B,.int .u64 C] 34 (0,0)) d hb;replace HB:=zbs HB hb;clear hb))
   go_meet
   case rel=>exact⟨_,(true),(by first|rfl|(simp[*];done)),H',⟨by omega⟩,⟨zk a⟩,⟨zk b⟩,⟨zk d⟩,⟨zb HB⟩⟩
  replace cb:=Bool.eq_false_iff.mpr cb
  subst cb
  rw[if_neg nft] at H
  by_cases b4:n=3
  ·rw[if_pos b4] at H
   obtain⟨D,b5⟩:=zt b4
   clear b4
   (first|rw[D]|(simp only[i64_w,i32_w];rw[D])|skip)
   by_cases b6:q=3
   ·rw[if_pos b6] at H
    obtain⟨b7,b8⟩:=zt b6
    clear b6
    have H':=Aside0.mk H
    clear H
    obtain⟨fY,fZ⟩:=z2 g
    obtain⟨f0,f1⟩:=z2 i
    obtain⟨aB,aC,aD,aE,aF,aG,aH,aI⟩:=zc4 b
    obtain⟨f2,f3⟩:=z2 j
    obtain⟨aJ,aK,aL,aM,aN,aO,aP,aQ⟩:=zc4 d
    go_wp2_with (first|((with_reducible refine gate_callee (f:=48) rfl ?_);refine zgc (some 26) Try.func48 (soft_odd.calls dj.out) ?_;intro hB hb;replace a:=zkb a hb;replace b:=zkbo (o:=.cells #[.int .i64 n,.bool u,.int .i64 y,.int .u64 z] 34 (0,0)) b hb;replace d:=zkbo (o:=.cells #[.int .i64 q,.bool v,.int .i64 B,.int .u64 C] 34 (0,0)) d hb;replace HB:=zbs HB hb;clear hb;obtain⟨aR,aS,aT,aU,aV,aW,aX,aY⟩:=zc4 b;obtain⟨aZ,a0,a3,a4,a5,a6,a7,a8⟩:=zc4 d))
    go_meet
    case rel=>exact⟨_,((u != v)),(by first|rfl|(simp[*];done)),H',⟨by omega⟩,⟨zk a⟩,⟨zk b⟩,⟨zk d⟩,⟨zb HB⟩⟩
   rw[if_neg b6] at H
   obtain⟨b7,b8⟩:=zf b6
   have H':=Aside0.mk H
   clear H
   obtain⟨f4,f5⟩:=z2 g
   obtain⟨f6,f7⟩:=z2 i
   obtain⟨a9,ba,bb,bc,bd,be,bf,bg⟩:=zc4 b
   obtain⟨f8,f9⟩:=z2 j
   obtain⟨bh,bi,bj,bk,bl,bm,bn,bo⟩:=zc4 d
   go_wp2_with (first|((with_reducible refine gate_callee (f:=48) rfl ?_);refine zgc (some 26) Try.func48 (soft_odd.calls dj.out) ?_;intro hC hb;replace a:=zkb a hb;replace b:=zkbo (o:=.cells #[.int .i64 n,.bool u,.int .i64 y,.int .u64 z] 34 (0,0)) b hb;replace d:=zkbo (o:=.cells #[.int .i64 q,.bool v,.int .i64 B,.int .u64 C] 34 (0,0)) d hb;replace HB:=zbs HB hb;clear hb;obtain⟨bp,bq,br,bs,bt,bu,bv,bw⟩:=zc4 b;obtain⟨bx,bz,bA,bB,bC,bD,bE,bF⟩:=zc4 d))
   go_meet
   case rel=>exact⟨_,(false),(by first|rfl|(simp[*];done)),H',⟨by omega⟩,⟨zk a⟩,⟨zk b⟩,⟨zk d⟩,⟨zb HB⟩⟩
  rw[if_neg b4] at H
  obtain⟨D,b5⟩:=zf b4
  (first|rw[D]|(simp only[i64_w,i32_w];rw[D])|skip)
  have H':=Aside0.mk H
  clear H
  obtain⟨ga,gb⟩:=z2 g
  obtain⟨gc,gd⟩:=z2 i
  obtain⟨bG,bH,bI,bJ,bK,bL,bM,bN⟩:=zc4 b
  obtain⟨ge,gf⟩:=z2 j
  obtain⟨bO,bP,bQ,bR,bS,bT,bU,bV⟩:=zc4 d
  go_wp2_with (first|((with_reducible refine gate_callee (f:=48) rfl ?_);refine zgc (some 26) Try.func48 (soft_odd.calls dj.out) ?_;intro hD hb;replace a:=zkb a hb;replace b:=zkbo (o:=.cells #[.int .i64 n,.bool u,.int .i64 y,.int .u64 z] 34 (0,0)) b hb;replace d:=zkbo (o:=.cells #[.int .i64 q,.bool v,.int .i64 B,.int .u64 C] 34 (0,0)) d hb;replace HB:=zbs HB hb;clear hb;obtain⟨bW,bX,bY,bZ,b0,b1,b2,b3⟩:=zc4 b))
  go_meet
  case rel=>exact⟨_,(false),(by first|rfl|(simp[*];done)),H',⟨by omega⟩,⟨zk a⟩,⟨zk b⟩,⟨zk d⟩,⟨zb HB⟩⟩
 case rest =>
  clear dm
  try clear b9 ca J K L M S T U V ac ad O P Q R W X Y Z ae af
  obtain⟨kq,ai,rfl,HA,cc,a,b,d,HB⟩:=hcut
  cases kq with
  | zero=>exact absurd HA.out (by simp[soft_Add.j0])
  | succ gg =>
   have H:=HA.out
   clear HA
   simp only[soft_Add.j0] at H
   by_cases cd:ai=true
   ·subst cd
    rw[if_pos rfl] at H
    obtain⟨hl,gh,H⟩:=oB H
    simp only[Option.some.injEq,Prod.mk.injEq] at H
    obtain⟨rfl,rfl⟩:=H
    obtain⟨gi,gj⟩:=z2 I
    obtain⟨gk,gl⟩:=z2 p
    obtain⟨ch,ci,cj,ck⟩:=zc2 a
    go_wp2_with (first|((with_reducible refine gate_callee (f:=49) rfl ?_);refine zgc (some 45) Try.func49 (round_NaN.calls gh.out) ?_;intro hE hb;obtain⟨a,b,d,HB⟩:=zu3 a b d HB hb;clear hb))
    go_ret2
    exact zr HB
   replace cd:=Bool.eq_false_iff.mpr cd
   subst cd
   rw[if_neg nft] at H
   have cl:=Aside0.mk H
   clear H
   go_upto_region 6 with (fail)
   go_cut [46] (fun v46 wc=>∃ (kq:Nat) (F:Bool),v46=.bool F∧Aside0 (soft_Add.j1 kq a1 a2 F l m n u y z q v B C=some (r1,r2))∧Aside0 (kq≤gg)∧Aside0 (wc.heap[ab]?=some (.cells #[.int .i64 l,.int .i64 m] 23 (0,0)))∧Aside0 (wc.heap[ag]?=some (.cells #[.int .i64 n,.bool u,.int .i64 y,.int .u64 z] 34 (0,0)))∧Aside0 (wc.heap[ah]?=some (.cells #[.int .i64 q,.bool v,.int .i64 B,.int .u64 C] 34 (0,0)))∧Aside0 (Below w.heap.size w wc))
   case first =>
    have H:=cl.out
    clear cl
    by_cases ce:n=3
    ·rw[if_pos ce] at H
     obtain⟨E,cm⟩:=zt ce
     clear ce
     (first|rw[E]|(simp only[i64_w,i32_w];rw[E])|skip)
     have H':=Aside0.mk H
     clear H
     obtain⟨gm,gn⟩:=z2 g
     obtain⟨go,gp⟩:=z2 i
     obtain⟨cn,co,cp,cq,cr,ct,cu,cv⟩:=zc4 b
     go_wp2
     go_meet
     case rel=>exact⟨_,(true),(by first|rfl|(simp[*];done)),H',⟨by have:=cc.out;first|omega|exact Nat.le_refl _⟩,⟨zk a⟩,⟨zk b⟩,⟨zk d⟩,⟨zb HB⟩⟩
    rw[if_neg ce] at H
    obtain⟨E,cm⟩:=zf ce
    (first|rw[E]|(simp only[i64_w,i32_w];rw[E])|skip)
    by_cases cf:q=1
    ·rw[if_pos cf] at H
     obtain⟨cw,cx⟩:=zt cf
     clear cf
     have H':=Aside0.mk H
     clear H
     obtain⟨gq,gr⟩:=z2 g
     obtain⟨gs,gt⟩:=z2 i
     obtain⟨cy,cz,cA,cB,cC,cD,cE,cF⟩:=zc4 b
     obtain⟨gu,gv⟩:=z2 j
     obtain⟨cG,cH,cI,cJ,cK,cL,cM,cN⟩:=zc4 d
     go_wp2
     go_meet
     case rel=>exact⟨_,((n != 1)),(by first|rfl|(simp[*];done)),H',⟨by have:=cc.out;first|omega|exact Nat.le_refl _⟩,⟨zk a⟩,⟨zk b⟩,⟨zk d⟩,⟨zb HB⟩⟩
    rw[if_neg cf] at H
    obtain⟨cw,cx⟩:=zf cf
    have H':=Aside0.mk H
    clear H
    obtain⟨gw,gx⟩:=z2 g
    obtain⟨gy,gz⟩:=z2 i
    obtain⟨cO,cP,cQ,cR,cS,cT,cU,cV⟩:=zc4 b
    obtain⟨gA,gB⟩:=z2 j
    obtain⟨cW,cX,cY,cZ,c0,c8,c9,da⟩:=zc4 d
    go_wp2
    go_meet
    case rel=>exact⟨_,(false),(by first|rfl|(simp[*];done)),H',⟨by have:=cc.out;first|omega|exact Nat.le_refl _⟩,⟨zk a⟩,⟨zk b⟩,⟨zk d⟩,⟨zb HB⟩⟩
   case rest =>
    clear cl
    try clear c1 c2 p2 c3 c4 b9 ca gD gE gF cb gG gH gI gJ b4 D b5 b6 b7 b8 gK gL gM gN gO gP gQ gR gS gT gU cd J K L M S T U V aj ak al am ar au av aw aB aC aD aE aJ aK aL aM aR aS aT aU aZ a0 a3 a4 a9 ba bb bc bh bi bj bk bp bq br bs bx bz bA bB bG bH bI bJ bO bP bQ bR bW bX bY bZ ac ad O P Q R W X Y Z an ao ap aq ax ay az aA aF aG aH aI aN aO aP aQ aV aW aX aY a5 a6 a7 a8 bd be bf bg bl bm bn bo bt bu bv bw bC bD bE bF bK bL bM bN bS bT bU bV b0 b1 b2 b3 ae af p2
    obtain⟨kq,F,rfl,HA,db,a,b,d,HB⟩:=hcut
    cases kq with
    | zero=>exact absurd HA.out (by simp[soft_Add.j1])
    | succ et =>
     have H:=HA.out
     clear HA
     simp only[soft_Add.j1] at H
     by_cases dc:F=true
     ·subst dc
      rw[if_pos rfl] at H
      simp only[Option.some.injEq,Prod.mk.injEq] at H
      obtain⟨rfl,rfl⟩:=H
      go_wp2
      go_ret2
      exact zr HB
     replace dc:=Bool.eq_false_iff.mpr dc
     subst dc
     rw[if_neg nft] at H
     have dd:=Aside0.mk H
     clear H
     go_upto_region 8 with (fail)
     go_cut [61] (fun v61 wc=>∃ (kq:Nat) (G:Bool),v61=.bool G∧Aside0 (soft_Add.j2 kq a2 G l m n u y z q v B C=some (r1,r2))∧Aside0 (kq≤et)∧Aside0 (wc.heap[ab]?=some (.cells #[.int .i64 l,.int .i64 m] 23 (0,0)))∧Aside0 (wc.heap[ag]?=some (.cells #[.int .i64 n,.bool u,.int .i64 y,.int .u64 z] 34 (0,0)))∧Aside0 (wc.heap[ah]?=some (.cells #[.int .i64 q,.bool v,.int .i64 B,.int .u64 C] 34 (0,0)))∧Aside0 (Below w.heap.size w wc))
     case first =>
      have H:=dd.out
      clear dd
      by_cases de:q=3
      ·rw[if_pos de] at H
       obtain⟨aa,du⟩:=zt de
       clear de
       (first|rw[aa]|(simp only[i64_w,i32_w];rw[aa])|skip)
       have H':=Aside0.mk H
       clear H
       obtain⟨gV,gW⟩:=z2 j
       obtain⟨gX,gY⟩:=z2 s
       obtain⟨eu,ev,ew,ex,ey,ez,eA,eB⟩:=zc4 d
       go_wp2
       go_meet
       case rel=>exact⟨_,(true),(by first|rfl|(simp[*];done)),H',⟨by have:=cc.out;have:=db.out;first|omega|exact Nat.le_refl _⟩,⟨zk a⟩,⟨zk b⟩,⟨zk d⟩,⟨zb HB⟩⟩
      rw[if_neg de] at H
      obtain⟨aa,du⟩:=zf de
      (first|rw[aa]|(simp only[i64_w,i32_w];rw[aa])|skip)
      by_cases df:n=1
      ·rw[if_pos df] at H
       obtain⟨dv,dw⟩:=zt df
       clear df
       have H':=Aside0.mk H
       clear H
       obtain⟨gZ,g0⟩:=z2 j
       obtain⟨g1,g2⟩:=z2 s
       obtain⟨eC,eD,eE,eF,eG,eH,eI,eJ⟩:=zc4 d
       obtain⟨g3,g4⟩:=z2 g
       obtain⟨eK,eL,eM,eN,eO,eP,eQ,eR⟩:=zc4 b
       go_wp2
       go_meet
       case rel=>exact⟨_,((q != 1)),(by first|rfl|(simp[*];done)),H',⟨by have:=cc.out;have:=db.out;first|omega|exact Nat.le_refl _⟩,⟨zk a⟩,⟨zk b⟩,⟨zk d⟩,⟨zb HB⟩⟩
      rw[if_neg df] at H
      obtain⟨dv,dw⟩:=zf df
      have H':=Aside0.mk H
      clear H
      obtain⟨g5,g6⟩:=z2 j
      obtain⟨g7,g8⟩:=z2 s
      obtain⟨eS,eT,eU,eV,eW,eX,eY,eZ⟩:=zc4 d
      obtain⟨g9,ha⟩:=z2 g
      obtain⟨e0,e1,e2,e3,e4,e5,e6,e7⟩:=zc4 b
      go_wp2
      go_meet
      case rel=>exact⟨_,(false),(by first|rfl|(simp[*];done)),H',⟨by have:=cc.out;have:=db.out;first|omega|exact Nat.le_refl _⟩,⟨zk a⟩,⟨zk b⟩,⟨zk d⟩,⟨zb HB⟩⟩
     case rest =>
      clear dd
      try clear c1 c2 p2 c3 c4 b9 ca c6 c7 gD gE gF cb gG gH gI gJ b4 D b5 b6 b7 b8 gK gL gM gN gO gP gQ gR gS gT gU hJ cd hK hL ce E cm hM hN cf cw cx hO hP hQ hR hS hT dc J K L M S T U V aj ak al am ar au av aw aB aC aD aE aJ aK aL aM aR aS aT aU aZ a0 a3 a4 a9 ba bb bc bh bi bj bk bp bq br bs bx bz bA bB bG bH bI bJ bO bP bQ bR bW bX bY bZ ch ci cn co cp cq cy cz cA cB cG cH cI cJ cO cP cQ cR cW cX cY cZ ac ad O P Q R W X Y Z an ao ap aq ax ay az aA aF aG aH aI aN aO aP aQ aV aW aX aY a5 a6 a7 a8 bd be bf bg bl bm bn bo bt bu bv bw bC bD bE bF bK bL bM bN bS bT bU bV b0 b1 b2 b3 cj ck cr ct cu cv cC cD cE cF cK cL cM cN cS cT cU cV c0 c8 c9 da ae af p2
      obtain⟨kq,G,rfl,HA,hm,a,b,d,HB⟩:=hcut
      cases kq with
      | zero=>exact absurd HA.out (by simp[soft_Add.j2])
      | succ hn =>
       have H:=HA.out
       clear HA
       simp only[soft_Add.j2] at H
       by_cases dk:G=true
       ·subst dk
        rw[if_pos rfl] at H
        simp only[Option.some.injEq,Prod.mk.injEq] at H
        obtain⟨rfl,rfl⟩:=H
        go_wp2
        go_ret2
        exact zr HB
       replace dk:=Bool.eq_false_iff.mpr dk
       subst dk
       rw[if_neg nft] at H
       by_cases dg:n=1
       ·rw[if_pos dg] at H
        obtain⟨dx,dy⟩:=zt dg
        clear dg
        by_cases dl:u=true
        ·subst dl
         rw[if_pos rfl] at H
         obtain⟨ho,hc,H⟩:=oB H
         simp only[Option.some.injEq,Prod.mk.injEq] at H
         obtain⟨rfl,rfl⟩:=H
         obtain⟨hd,he⟩:=z2 g
         obtain⟨hf,hh⟩:=z2 i
         obtain⟨e8,e9,fa,fb,fc,fd,fe,ff⟩:=zc4 b
         obtain⟨hi,hj⟩:=z2 p
         obtain⟨fg,fh,fi,fj⟩:=zc2 a
         obtain⟨fk,fl,fm,fn,fo,fp,fq,fr⟩:=zc4 d
         go_wp2_with (first|((with_reducible refine gate_callee (f:=50) rfl ?_);refine zgc (some 87) Try.func50 (round_Zero.calls hc.out) ?_;intro hU hb;obtain⟨a,b,d,HB⟩:=zu3 a b d HB hb;clear hb))
         go_ret2
         exact zr HB
        replace dl:=Bool.eq_false_iff.mpr dl
        subst dl
        rw[if_neg nft] at H
        obtain⟨hp,fs,H⟩:=oB H
        simp only[Option.some.injEq,Prod.mk.injEq] at H
        obtain⟨rfl,rfl⟩:=H
        obtain⟨fu,fv⟩:=z2 g
        obtain⟨fw,fx⟩:=z2 i
        obtain⟨dB,dC,dD,dE,dF,dG,dH,dI⟩:=zc4 b
        obtain⟨fy,fz⟩:=z2 p
        obtain⟨dJ,dK,dL,dM⟩:=zc2 a
        go_wp2_with (first|((with_reducible refine gate_callee (f:=50) rfl ?_);refine zgc (some 87) Try.func50 (round_Zero.calls fs.out) ?_;intro hq hb;obtain⟨a,b,d,HB⟩:=zu3 a b d HB hb;clear hb))
        go_ret2
        exact zr HB
       rw[if_neg dg] at H
       obtain⟨dx,dy⟩:=zf dg
       obtain⟨⟨hr,hs⟩,ft,H⟩:=oB H
       try dsimp only at H
       simp only[Option.some.injEq,Prod.mk.injEq] at H
       obtain⟨rfl,rfl⟩:=H
       obtain⟨fA,fB⟩:=z2 g
       obtain⟨fC,fD⟩:=z2 i
       obtain⟨dN,dO,dP,dQ,dR,dS,dT,dU⟩:=zc4 b
       obtain⟨fE,fF⟩:=z2 p
       obtain⟨dV,dW,dX,dY⟩:=zc2 a
       obtain⟨dZ,d0,d1,d2,d3,d4,d5,d6⟩:=zc4 d
       go_wp2_with (first|((with_reducible refine gate_callee (f:=66) rfl ?_);refine zgc (some 91) Try.func66 (soft_sum.calls ft.out) ?_;intro ht hb;obtain⟨a,b,d,HB⟩:=zu3 a b d HB hb;clear hb))
       go_ret2
       exact zr HB
/-! ### bits_LeadingZeros64: function 69 -/
def bits_LeadingZeros64.f (k:Nat) (a0:Int):Option (Int):=(bits_Len64.f k a0).bind fun a=>(some (wrap64 (64-a)))
theorem bits_LeadingZeros64.mono:∀ a0 k,LeO (bits_LeadingZeros64.f k a0) (bits_LeadingZeros64.f (k+1) a0):=by
 intro a0 k
 unfold bits_LeadingZeros64.f
 repeat' first|(with_reducible first|apply bits_Len64.mono|exact LeO.refl _|exact LeO.none _|refine LeO.ite ?_ ?_|refine LeO.bind ?_ (fun _=>?_))|refine LeO.ite ?_ ?_|refine LeO.bind ?_ (fun _=>?_)
set_option maxHeartbeats 8000000 in
set_option maxRecDepth 100000 in
theorem bits_LeadingZeros64.calls {k:Nat} {b:Int} {r:Int} {w:World} (h:bits_LeadingZeros64.f k b=some r) :
  Calls Try.prog 69 #[.int .u64 b] w fun e w'=>e=.returned (.int .i64 r)∧Drawn0 w w':=by
 have H:=h
 unfold bits_LeadingZeros64.f at H
 clear h
 obtain⟨a,c,H⟩:=oB H
 obtain rfl:=Option.some.inj H
 go_enter Try.func69,Try.ntmps69
 go_wp2_with (first|((with_reducible refine gate_callee (f:=95) rfl ?_);refine zgo (some 4) Try.func95 #[.int .u64 b] ?_;(with_reducible refine (bits_Len64.calls c.out).mono ?_);rintro e w' ⟨rfl,⟨nd,rfl⟩⟩;refine⟨_,rfl,?_⟩))
 go_ret
 exact⟨by first|rfl|(simp;done)|(simp[*];done),by repeat (first|exact Drawn0.refl _|apply Drawn0.step)⟩

/-! ### bits_Mul64: function 71 -/
def bits_Mul64.f (a0:Int) (a1:Int):Option (Int×Int):=some (IntKind.u64.wrap ((IntKind.u64.wrap ((IntKind.u64.wrap ((a0/4294967296)*(a1/4294967296)))+((IntKind.u64.wrap ((IntKind.u64.wrap ((a0/4294967296)*(Go.bits .and .u64 a1 4294967295)))+((IntKind.u64.wrap ((Go.bits .and .u64 a0 4294967295)*(Go.bits .and .u64 a1 4294967295)))/4294967296)))/4294967296)))+((IntKind.u64.wrap ((Go.bits .and .u64 (IntKind.u64.wrap ((IntKind.u64.wrap ((a0/4294967296)*(Go.bits .and .u64 a1 4294967295)))+((IntKind.u64.wrap ((Go.bits .and .u64 a0 4294967295)*(Go.bits .and .u64 a1 4294967295)))/4294967296))) 4294967295)+(IntKind.u64.wrap ((Go.bits .and .u64 a0 4294967295)*(a1/4294967296)))))/4294967296)),IntKind.u64.wrap (a0*a1))
set_option maxHeartbeats 8000000 in
set_option maxRecDepth 100000 in
theorem bits_Mul64.calls {a:Int} {b:Int} {c:Int} {d:Int} {w:World} (h:bits_Mul64.f a b=some (c,d)) :
  Calls Try.prog 71 #[.int .u64 a,.int .u64 b] w fun e w'=>e=.returned (.tuple #[.int .u64 c,.int .u64 d])∧Drawn0 w w':=by
 have H:=h
 unfold bits_Mul64.f at H
 clear h
 simp only[Option.some.injEq,Prod.mk.injEq] at H
 obtain⟨rfl,rfl⟩:=H
 go_enter Try.func71,Try.ntmps71
 go_wp2
 go_ret2
 exact⟨by first|rfl|(simp;done)|(simp[*];done),by repeat (first|exact Drawn0.refl _|apply Drawn0.step)⟩

end Go.Proofs.Ytmmbgbchimangaa.PQ
