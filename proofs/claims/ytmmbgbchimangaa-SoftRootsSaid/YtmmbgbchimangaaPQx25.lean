-- by a program of this claim
import Derived.Test.YtmmbgbchimangaaPQx0
import Derived.Test.YtmmbgbchimangaaPQx8
import Derived.Test.YtmmbgbchimangaaPQx9
import Derived.Test.YtmmbgbchimangaaPQx10
import Derived.Test.YtmmbgbchimangaaPQx11
import Derived.Test.YtmmbgbchimangaaPQx24
namespace Go.Proofs.Ytmmbgbchimangaa.PQ
open Go.RowKit Go.Proofs.YtmmbgbchimangaaW.PrintWords Go.Proofs.YtmmbgbchimangaaW.PrintLast Go.Proofs.YtmmbgbchimangaaW.PrintMore Go.Proofs.Ytmmbgbchimangaa.Z
attribute [local go_sem] max2_int min2_int max_two min_two max_three min_three max_four min_four   -- for this text's walks alone
set_option linter.unusedVariables false
set_option linter.unusedSimpArgs false

/-! ### grottoref03_Sqrt: function 29 -/
mutual
def grottoref03_Sqrt.j0:Nat→Int→Bool→Int→Int→Int→Bool→Int→Int→Option (Int×Int)
 | 0,_,_,_,_,_,_,_,_=>none
 | k+1,c,d,a,b,e,l,g,h=>if d=true then ((grottoref02_NaN.f k a b).bind fun i=>(some (i,0))) else (if e=2 then ((grottoref02_NatOf.f k h).bind fun j=>(grottoref03_Sqrt.l0 k j g a b)) else (some (c,0)))
def grottoref03_Sqrt.l0:Nat→List Int→Int→Int→Int→Option (Int×Int)
 | 0,_,_,_,_=>none
 | k+1,a,b,c,d=>(grottoref02_Bits.f k a).bind fun e=>(if e<(wrap64 ((wrap64 (2*c))+8)) then ((grottoref02_Up.f k a 1).bind fun g=>(grottoref03_Sqrt.l0 k g (wrap64 (b-1)) c d)) else (if (Int.tmod b 2)=0 then ((grottoref02_Bits.f k a).bind fun h=>(grottoref03_Sqrt.l1 k a b ([]:List Int) (wrap64 ((wrap64 (Int.tdiv h 2))+1)) c d)) else ((grottoref02_Up.f k a 1).bind fun i=>(grottoref03_Sqrt.l0 k i (wrap64 (b-1)) c d))))
def grottoref03_Sqrt.l1:Nat→List Int→Int→List Int→Int→Int→Int→Option (Int×Int)
 | 0,_,_,_,_,_,_=>none
 | k+1,b,c,a,d,e,g=>if d≥0 then ((grottoref03_one.f).bind fun j=>((grottoref02_Up.f k j d).bind fun l=>((grottoref02_Plus.f k a l).bind fun h=>((grottoref02_Times.f k h h).bind fun m=>((grottoref02_Cmp.f k m b).bind fun n=>(if n≤0 then (grottoref03_Sqrt.l1 k b c h (wrap64 (d-1)) e g) else (grottoref03_Sqrt.l1 k b c a (wrap64 (d-1)) e g))))))) else ((grottoref02_Up.f k a 1).bind fun i=>((grottoref02_Times.f k a a).bind fun o=>((grottoref02_Cmp.f k o b).bind fun p=>(if p<0 then ((grottoref03_one.f).bind fun q=>((grottoref02_Plus.f k i q).bind fun r=>((grottoref03_one.f).bind fun s=>((grottoref02_Near.f k e g false r s (wrap64 ((wrap64 (Int.tdiv c 2))-1))).bind fun t=>(some (t,0)))))) else ((grottoref03_one.f).bind fun u=>((grottoref02_Near.f k e g false i u (wrap64 ((wrap64 (Int.tdiv c 2))-1))).bind fun v=>(some (v,0))))))))
end
def grottoref03_Sqrt.f (k:Nat) (a0_0:Int) (a0_1:Int) (a1:Int):Option (Int×Int):=(grottoref02_Open.f k a0_0 a0_1 a1).bind fun a=>(if a.2.2.2.2=0 then (if a.1=4 then (grottoref03_Sqrt.j0 k a1 true a0_0 a0_1 a.1 a.2.1 a.2.2.1 a.2.2.2.1) else (if a.2.1=true then (grottoref03_Sqrt.j0 k a1 (a.1 != 1) a0_0 a0_1 a.1 a.2.1 a.2.2.1 a.2.2.2.1) else (grottoref03_Sqrt.j0 k a1 false a0_0 a0_1 a.1 a.2.1 a.2.2.1 a.2.2.2.1))) else (some (0,a.2.2.2.2)))
theorem grottoref03_Sqrt.mono_l:∀ k,(∀ y0 y1 y2 y3 y4 y5 y6 y7,LeO (grottoref03_Sqrt.j0 k y0 y1 y2 y3 y4 y5 y6 y7) (grottoref03_Sqrt.j0 (k+1) y0 y1 y2 y3 y4 y5 y6 y7))∧(∀ y0 y1 y2 y3,LeO (grottoref03_Sqrt.l0 k y0 y1 y2 y3) (grottoref03_Sqrt.l0 (k+1) y0 y1 y2 y3))∧(∀ y0 y1 y2 y3 y4 y5,LeO (grottoref03_Sqrt.l1 k y0 y1 y2 y3 y4 y5) (grottoref03_Sqrt.l1 (k+1) y0 y1 y2 y3 y4 y5))
 | 0=>⟨fun _ _ _ _ _ _ _ _ r h=>by simp[grottoref03_Sqrt.j0] at h,fun _ _ _ _ r h=>by simp[grottoref03_Sqrt.l0] at h,fun _ _ _ _ _ _ r h=>by simp[grottoref03_Sqrt.l1] at h⟩
 | k+1=>by
  obtain⟨ih0,ih1,ih2⟩:=grottoref03_Sqrt.mono_l k
  refine⟨?_,?_,?_⟩ <;> intros <;> (first|unfold grottoref03_Sqrt.j0|unfold grottoref03_Sqrt.l0|unfold grottoref03_Sqrt.l1) <;> (repeat' first|(with_reducible first|apply ih0|apply ih1|apply ih2|apply grottoref02_Bits.mono|apply grottoref02_Cmp.mono|apply grottoref02_NaN.mono|apply grottoref02_NatOf.mono|apply grottoref02_Near.mono|apply grottoref02_Open.mono|apply grottoref02_Plus.mono|apply grottoref02_Times.mono|apply grottoref02_Up.mono|exact LeO.refl _|exact LeO.none _|refine LeO.ite ?_ ?_|refine LeO.bind ?_ (fun _=>?_))|refine LeO.ite ?_ ?_|refine LeO.bind ?_ (fun _=>?_))
theorem grottoref03_Sqrt.mono:∀ a0 a1 a2 k,LeO (grottoref03_Sqrt.f k a0 a1 a2) (grottoref03_Sqrt.f (k+1) a0 a1 a2):=by
 intro a0 a1 a2 k
 obtain⟨ih0,ih1,ih2⟩:=grottoref03_Sqrt.mono_l k
 unfold grottoref03_Sqrt.f
 repeat' first|(with_reducible first|apply ih0|apply ih1|apply ih2|apply grottoref02_Bits.mono|apply grottoref02_Cmp.mono|apply grottoref02_NaN.mono|apply grottoref02_NatOf.mono|apply grottoref02_Near.mono|apply grottoref02_Open.mono|apply grottoref02_Plus.mono|apply grottoref02_Times.mono|apply grottoref02_Up.mono|exact LeO.refl _|exact LeO.none _|refine LeO.ite ?_ ?_|refine LeO.bind ?_ (fun _=>?_))|refine LeO.ite ?_ ?_|refine LeO.bind ?_ (fun _=>?_)
def grottoref03_Sqrt.T9:Bool×List (List Nat×List Nat):=(true,[([],[]),([0],[0]),([],[]),([2],[2]),([3],[3]),([4],[4]),([1,5],[1,5]),([6,1],[6]),([7],[7]),([8,7],[7,8]),([9,7],[7,9]),([7,10],[7,10])])
def grottoref03_Sqrt.B9:List Nat:=[0,1,0,4,12,28,63,127,255,511,1023,2047]
theorem grottoref03_Sqrt.tab9:rtab .any (opsOf Try.f29 9)=grottoref03_Sqrt.T9:=by kernel_rfl
theorem grottoref03_Sqrt.bits9:waitsOk grottoref03_Sqrt.T9.2 grottoref03_Sqrt.B9=true:=by kernel_rfl
def grottoref03_Sqrt.T22:Bool×List (List Nat×List Nat):=(true,[([],[]),([],[]),([],[]),([],[]),([3],[3]),([4],[4]),([0,1,2,5,2],[0,1,2,5]),([6,6,0,1,2,3,4,5,6],[6]),([7,0,1,2,3,4,5,6,7],[])])
def grottoref03_Sqrt.B22:List Nat:=[0,0,0,0,8,24,63,127,255]
theorem grottoref03_Sqrt.tab22:rtab .any (opsOf Try.f29 22)=grottoref03_Sqrt.T22:=by kernel_rfl
theorem grottoref03_Sqrt.bits22:waitsOk grottoref03_Sqrt.T22.2 grottoref03_Sqrt.B22=true:=by kernel_rfl
set_option maxHeartbeats 8000000 in
set_option maxRecDepth 100000 in
theorem grottoref03_Sqrt.calls {k:Nat} {l:Int} {q:Int} {a1:Int} {r1:Int} {r2:Int} {w:World} (h:grottoref03_Sqrt.f k l q a1=some (r1,r2)) :
  Calls Try.prog 29 #[.agg #[.int .i64 l,.int .i64 q],.int .u64 a1] w fun e w'=>e=.returned (.tuple #[.int .u64 r1,.int .i64 r2])∧Below w.heap.size w w':=by
 have hu23:=Try.underlying23
 have hu34:=Try.underlying34
 have HB:=Aside0.mk (Below.refl w.heap.size w)
 have H:=h
 unfold grottoref03_Sqrt.f at H
 clear h
 obtain⟨⟨D,E,F,G,cD⟩,A3,H⟩:=oB H
 try dsimp only at H
 by_cases c4:cD=0
 rotate_left
 ·rw[if_neg c4] at H
  obtain⟨bd,be⟩:=zf c4
  simp only[Option.some.injEq,Prod.mk.injEq] at H
  obtain⟨rfl,rfl⟩:=H
  go_enter Try.func29,Try.ntmps29
  go_wp2_with (first|((with_reducible refine gate_dst (N:=2) rfl ?_);refine zbox (N:=2) (cs:=#[.int .i64 l,.int .i64 q]) (t:=23) ?_;intro c hg ed hbox hb;have a:=Aside0.mk hbox;have b3:=zge hg HB;have b4:=zge hg HB;replace HB:=zbs HB hb;clear hb hbox hg;obtain⟨cq,cr,ct,cu⟩:=zc2 a)|((with_reducible refine gate_callee (f:=20) rfl ?_);refine zgc (some 17) Try.func20 (grottoref02_Open.calls A3.out) ?_;intro ee hb;obtain⟨a,HB⟩:=zu1 a HB hb;clear hb)|((with_reducible refine gate_dst (N:=6) rfl ?_);refine zbox (N:=6) (cs:=#[.int .i64 0,.bool false,.int .i64 0,.int .u64 0]) (t:=34) ?_;intro d hg ef hbox hb;have b:=Aside0.mk hbox;have b5:=zge hg HB;have b6:=zge hg HB;have T:=znl hg a;have C:=zng hg a;obtain⟨a,HB⟩:=zu1 a HB hb;clear hb hbox hg;obtain⟨dA,dB⟩:=z2 C;obtain⟨cv,cw,cx,cy,cz,cA,cB,cC⟩:=zc4 b))
  go_ret2
  exact zr HB

 rw[if_pos c4] at H
 obtain⟨bd,be⟩:=zt c4
 clear c4
 have b2:=Aside0.mk H
 clear H
 go_enter Try.func29,Try.ntmps29
 go_upto_region 4 with (first|((with_reducible refine gate_dst (N:=2) rfl ?_);refine zbox (N:=2) (cs:=#[.int .i64 l,.int .i64 q]) (t:=23) ?_;intro c hg w6 hbox hb;have a:=Aside0.mk hbox;have b3:=zge hg HB;have b4:=zge hg HB;replace HB:=zbs HB hb;clear hb hbox hg;obtain⟨ak,al,am,an⟩:=zc2 a)|((with_reducible refine gate_callee (f:=20) rfl ?_);refine zgc (some 17) Try.func20 (grottoref02_Open.calls A3.out) ?_;intro w8 hb;obtain⟨a,HB⟩:=zu1 a HB hb;clear hb)|((with_reducible refine gate_dst (N:=6) rfl ?_);refine zbox (N:=6) (cs:=#[.int .i64 0,.bool false,.int .i64 0,.int .u64 0]) (t:=34) ?_;intro d hg w9 hbox hb;have b:=Aside0.mk hbox;have b5:=zge hg HB;have b6:=zge hg HB;have T:=znl hg a;have C:=zng hg a;obtain⟨a,HB⟩:=zu1 a HB hb;clear hb hbox hg;obtain⟨dC,dD⟩:=z2 C;obtain⟨U,W,X,Y,Z,aa,ab,ac⟩:=zc4 b))
 (try simp only[Act.put,List.setIfInBounds_toArray,List.set_cons_zero,List.set_cons_succ])
 go_cut [24] (fun v24 wc=>∃ (kq:Nat) (ao:Bool),v24=.bool ao∧Aside0 (grottoref03_Sqrt.j0 kq a1 ao l q D E F G=some (r1,r2))∧Aside0 (kq≤k)∧Aside0 (wc.heap[c]?=some (.cells #[.int .i64 l,.int .i64 q] 23 (0,0)))∧Aside0 (wc.heap[d]?=some (.cells #[.int .i64 D,.bool E,.int .i64 F,.int .u64 G] 34 (0,0)))∧Aside0 (Below w.heap.size w wc))
 case first =>
  have H:=b2.out
  clear b2
  by_cases a7:D=4
  ·rw[if_pos a7] at H
   obtain⟨R,a8⟩:=zt a7
   clear a7
   (first|rw[R]|(simp only[i64_w,i32_w];rw[R])|skip)
   have H':=Aside0.mk H
   clear H
   obtain⟨dE,dF⟩:=z2 C
   obtain⟨ar,au,av,aw,ax,ay,az,aA⟩:=zc4 b
   go_wp2
   go_meet
   case rel=>exact⟨_,(true),(by first|rfl|(simp[*];done)),H',⟨by omega⟩,⟨zk a⟩,⟨zkp b⟩,⟨zb HB⟩⟩
  rw[if_neg a7] at H
  obtain⟨R,a8⟩:=zf a7
  (first|rw[R]|(simp only[i64_w,i32_w];rw[R])|skip)
  by_cases bj:E=true
  ·subst bj
   rw[if_pos rfl] at H
   have H':=Aside0.mk H
   clear H
   obtain⟨dG,dH⟩:=z2 C
   obtain⟨aB,aC,aD,aE,aF,aG,aH,aI⟩:=zc4 b
   go_wp2
   go_meet
   case rel=>exact⟨_,((D != 1)),(by first|rfl|(simp[*];done)),H',⟨by omega⟩,⟨zk a⟩,⟨zkp b⟩,⟨zb HB⟩⟩
  replace bj:=Bool.eq_false_iff.mpr bj
  subst bj
  rw[if_neg nft] at H
  have H':=Aside0.mk H
  clear H
  obtain⟨dI,dJ⟩:=z2 C
  obtain⟨aJ,aK,aL,aM,aN,aO,aP,aQ⟩:=zc4 b
  go_wp2
  go_meet
  case rel=>exact⟨_,(false),(by first|rfl|(simp[*];done)),H',⟨by omega⟩,⟨zk a⟩,⟨zkp b⟩,⟨zb HB⟩⟩
 case rest =>
  clear b2
  try clear bd be U W X Y ak al Z aa ab ac am an
  obtain⟨kq,ao,rfl,HA,aR,a,b,HB⟩:=hcut
  cases kq with
  | zero=>exact absurd HA.out (by simp[grottoref03_Sqrt.j0])
  | succ cF =>
   have H:=HA.out
   clear HA
   simp only[grottoref03_Sqrt.j0] at H
   by_cases bk:ao=true
   ·subst bk
    rw[if_pos rfl] at H
    obtain⟨d6,dK,H⟩:=oB H
    simp only[Option.some.injEq,Prod.mk.injEq] at H
    obtain⟨rfl,rfl⟩:=H
    obtain⟨dL,dM⟩:=z2 T
    obtain⟨bp,bq,br,bs⟩:=zc2 a
    go_wp2_with (first|((with_reducible refine gate_callee (f:=21) rfl ?_);refine zgc (some 38) Try.func21 (grottoref02_NaN.calls dK.out) ?_;intro eg hb;obtain⟨a,b,HB⟩:=zu2 a b HB hb;clear hb))
    go_ret2
    exact zr HB
   replace bk:=Bool.eq_false_iff.mpr bk
   subst bk
   rw[if_neg nft] at H
   by_cases bt:D=2
   rotate_left
   ·rw[if_neg bt] at H
    obtain⟨a9,ba⟩:=zf bt
    simp only[Option.some.injEq,Prod.mk.injEq] at H
    obtain⟨rfl,rfl⟩:=H
    obtain⟨dy,dz⟩:=z2 C
    obtain⟨ci,cj,ck,cl,cm,cn,co,cp⟩:=zc4 b
    go_wp2
    go_ret2
    exact zr HB
   rw[if_pos bt] at H
   obtain⟨a9,ba⟩:=zt bt
   clear bt
   obtain⟨cG,dN,H⟩:=oB H
   have H':=Aside0.mk H
   clear H
   obtain⟨dO,dP⟩:=z2 C
   obtain⟨aS,aT,aU,aV,aW,aX,aY,aZ⟩:=zc4 b
   try go_wp2
   replace a:=Aside0.mk (blk_drew a.out)
   replace b:=Aside0.mk (blk_drew b.out)
   replace HB:=Aside0.mk (below_drew1 HB.out)
   refine start_ (n:=7) (S:=fun w'=>w'.cell? ⟨d,0,none⟩=some (.int .i64 D)∧w'.cell? ⟨d,1,none⟩=some (.bool E)∧w'.cell? ⟨d,2,none⟩=some (.int .i64 F)∧w'.cell? ⟨d,3,none⟩=some (.int .u64 G)) (ds:=[]) #[false,false,false,false,false,false,false] (by kernel_rfl) rfl rfl ⟨(blk_cell b.out 0).trans rfl,(blk_cell b.out 1).trans rfl,(blk_cell b.out 2).trans rfl,(blk_cell b.out 3).trans rfl⟩ (fun hHeld=>?_)
   generalize wc.drew=eh at a b HB hHeld ⊢
   refine zpure_ (i:=0) (N:=some 44) #[true,false,false,false,false,false,false] (by kernel_rfl) ?_
   refine zpure_ (i:=3) (N:=some 47) #[true,false,false,true,false,false,false] (by kernel_rfl) ?_
   refine ztake_ (i:=1) (N:=some 45) #[true,true,false,true,false,false,false] rfl (by kernel_rfl) hHeld (Or.inl ⟨by rfl,by rintro w' ⟨s0,s1,s2,s3⟩;go_simp;with_reducible rfl⟩) ?_
   refine ztake_ (i:=4) (N:=some 48) #[true,true,false,true,true,false,false] rfl (by kernel_rfl) hHeld (Or.inl ⟨by rfl,by rintro w' ⟨s0,s1,s2,s3⟩;go_simp;with_reducible rfl⟩) ?_
   refine one_ (i:=2) (N:=some 46) #[true,true,true,true,true,false,false] rfl rfl (by kernel_rfl) (by decide) (fun K hK=>?_)
   refine goes_ Try.func72 (by kernel_rfl) rfl #[.int .u64 G] (by rfl) rfl rfl (by (try simp only[List.map_toArray,List.map_cons,List.map_nil]);first|done|rfl|(simp only[List.length_drop,List.length_take];rfl)) ?_
   with_reducible refine (grottoref02_NatOf.calls dN.out).mono ?_
   rintro e ei ⟨v811,rfl,ho0,hb⟩
   refine⟨_,rfl,?_⟩
   have b7:=Aside0.mk (Kd.R_lower ho0 (below_size (zb HB)))
   obtain⟨a,b,HB⟩:=zu2 a b HB hb
   try clear hb
   (try clear ho0)
   refine hK.out _ _ ⟨(blk_cell b.out 0).trans rfl,(blk_cell b.out 1).trans rfl,(blk_cell b.out 2).trans rfl,(blk_cell b.out 3).trans rfl⟩ (fun hHeld=>?_)
   clear hK K
   refine norm_ (a':=?_) ?_ ?_
   rotate_left
   ·show Act.put _ (some 46) _=_
    simp only[Act.put,List.setIfInBounds_toArray,List.set_cons_zero,List.set_cons_succ,i64_w,i32_w]
    rfl
   refine zpure_ (i:=5) (N:=some 8) #[true,true,true,true,true,true,false] (by kernel_rfl) ?_
   refine zpure_ (i:=6) (N:=some 9) #[true,true,true,true,true,true,true] (by kernel_rfl) ?_
   refine done_ (by kernel_rfl) ?_
   try go_wp2
   go_loopg [8,9] cF (fun kq v8 v9 w'=>∃ (y:List Int) (P:Int),v9=.int .i64 P∧Aside0 (grottoref03_Sqrt.l0 kq y P l q=some (r1,r2))∧Aside0 (kq≤cF)∧Aside0 (Kd.V (Kd.int .i64) 3 w' w.heap.size (fun k_=>k_≠c∧k_≠d) v8 y)∧Aside0 (w'.heap[c]?=some (.cells #[.int .i64 l,.int .i64 q] 23 (0,0)))∧Aside0 (w'.heap[d]?=some (.cells #[.int .i64 D,.bool E,.int .i64 F,.int .u64 G] 34 (0,0)))∧Aside0 (Below w.heap.size w w'))
   case atStart=>exact⟨(cG),(F),(by first|rfl|(simp[*];done)),H',⟨Nat.le_refl _⟩,⟨Kd.R_V (by (with_reducible repeat (first|apply Kd.R_alloc|apply Kd.R_drewN|apply Kd.R_drew));exact Kd.R_mono (Kd.R_types (Kd.R_types b7.out a.out (by decide)) b.out (by decide)) (fun _ hk=>⟨hk.1.2,hk.2⟩))⟩,⟨zk a⟩,⟨zk b⟩,⟨zb HB⟩⟩
   case round =>
    clear H'
    try clear c1 c2 p2 bd be dR a7 R a8 dS bj dT dU bk a9 ba U W X Y ar au av aw aB aC aD aE aJ aK aL aM aS aT aU aV ak al Z aa ab ac ax ay az aA aF aG aH aI aN aO aP aQ aW aX aY aZ am an p2
    obtain⟨y,P,rfl,HA,a0,HO_8,a,b,HB⟩:=hrel
    cases gk with
    | zero=>exact absurd HA.out (by simp[grottoref03_Sqrt.l0])
    | succ k2 =>
     have H:=HA.out
     clear HA
     simp only[grottoref03_Sqrt.l0] at H
     obtain⟨af,b8,H⟩:=oB H
     by_cases bl:af<(wrap64 ((wrap64 (2*l))+8))
     ·rw[if_pos bl] at H
      have bu:decide (af<(wrap64 ((wrap64 (2*l))+8)))=true:=decide_eq_true bl
      clear bl
      obtain⟨bO,dV,H⟩:=oB H
      have H':=Aside0.mk H
      clear H
      try go_wp2
      replace HO_8:=Aside0.mk (Kd.V_drew HO_8.out)
      replace a:=Aside0.mk (blk_drew a.out)
      replace b:=Aside0.mk (blk_drew b.out)
      replace HB:=Aside0.mk (below_drew1 HB.out)
      obtain⟨bP,bQ,bR⟩:=Kd.V_slice HO_8.out
      (first|subst bR|(injection bR with f1_ f2_ f3_;have f4_:=f1_.symm;have f5_:=f3_.symm;clear f1_ f2_ f3_;subst f4_;subst f5_))
      refine start_ (n:=12) (S:=fun w'=>w'.cell? ⟨c,0,none⟩=some (.int .i64 l)∧w'.cell? ⟨c,1,none⟩=some (.int .i64 q)) (ds:=[]) #[false,false,false,false,false,false,false,false,false,false,false,false] (by kernel_rfl) rfl rfl ⟨(blk_cell a.out 0).trans rfl,(blk_cell a.out 1).trans rfl⟩ (fun hHeld=>?_);refine with_tabW grottoref03_Sqrt.tab9 grottoref03_Sqrt.bits9 (fun HT_ HW_=>?_)
      generalize wr.drew=el at HO_8 a b HB hHeld ⊢
      refine zpure_ (i:=0) (N:=some 49) #[true,false,false,false,false,false,false,false,false,false,false,false] (any_of HT_.out (by kernel_rfl)) ?_
      refine zpure_ (i:=2) (N:=some 51) #[true,false,true,false,false,false,false,false,false,false,false,false] (any_of HT_.out (by kernel_rfl)) ?_
      refine ztake_ (i:=3) (N:=some 52) #[true,false,true,true,false,false,false,false,false,false,false,false] rfl (take_ofW HT_.out HW_.out (by kernel_rfl)) hHeld (Or.inl ⟨by rfl,by rintro w' ⟨s0,s1⟩;go_simp;with_reducible rfl⟩) ?_
      refine zpure_ (i:=4) (N:=some 53) #[true,false,true,true,true,false,false,false,false,false,false,false] (any_of HT_.out (by kernel_rfl)) ?_
      refine zpure_ (i:=5) (N:=some 54) #[true,false,true,true,true,true,false,false,false,false,false,false] (any_of HT_.out (by kernel_rfl)) ?_
      refine one_ (i:=1) (N:=some 50) #[true,true,true,true,true,true,false,false,false,false,false,false] rfl rfl (one_of HT_.out (by kernel_rfl)) (by decide) (fun K hK=>?_)
      refine goes_ Try.func65 (by kernel_rfl) rfl #[.slice bP y.length bQ] (by rfl) rfl rfl (by (try simp only[List.map_toArray,List.map_cons,List.map_nil]);first|done|rfl|(simp only[List.length_drop,List.length_take];rfl)) ?_
      with_reducible refine (grottoref02_Bits.calls k2 _ _ y af _ ?side1 ?side2 b8.out).mono ?_
      (case side1=>repeat (first|exact (Kd.V_reads' HO_8.out).2.2|(with_reducible refine Kd.C_alloc ?_ _)|(with_reducible refine Kd.C_drewN ?_ _)|(with_reducible refine Kd.C_drew ?_)))
      (case side2=>exact (Kd.V_reads' HO_8.out).2.1)
      rintro e em ⟨rfl,hb⟩
      refine⟨_,rfl,?_⟩
      replace HO_8:=Aside0.mk (Kd.V_below (by (with_reducible repeat (first|apply Kd.V_alloc|apply Kd.V_drewN|apply Kd.V_drew));exact HO_8.out) hb)
      obtain⟨a,b,HB⟩:=zu2 a b HB hb
      try clear hb
      refine hK.out _ _ ⟨(blk_cell a.out 0).trans rfl,(blk_cell a.out 1).trans rfl⟩ (fun hHeld=>?_)
      clear hK K
      refine norm_ (a':=?_) ?_ ?_
      rotate_left
      ·show Act.put _ (some 50) _=_
       simp only[Act.put,List.setIfInBounds_toArray,List.set_cons_zero,List.set_cons_succ,i64_w,i32_w]
       rfl
      refine zpure_ (i:=6) (N:=some 55) #[true,true,true,true,true,true,true,false,false,false,false,false] (any_of HT_.out (by kernel_rfl)) ?_
      refine zpure_ (i:=7) (N:=some 56) #[true,true,true,true,true,true,true,true,false,false,false,false] (any_of HT_.out (by kernel_rfl)) ?_
      refine pure_ (i:=8) (N:=some 57) (v:=undef) (a':=?_) #[true,true,true,true,true,true,true,true,true,false,false,false] rfl rfl (any_of HT_.out (by kernel_rfl)) (fun _ _ _ h=>h) (Or.inr ⟨by rfl,rfl⟩) ?_ ?_
      rotate_left
      ·simp only[Act.put,List.setIfInBounds_toArray,List.set_cons_zero,List.set_cons_succ,i64_w,i32_w]
       rfl
      refine pure_ (i:=9) (N:=some 58) (v:=undef) (a':=?_) #[true,true,true,true,true,true,true,true,true,true,false,false] rfl rfl (any_of HT_.out (by kernel_rfl)) (fun _ _ _ h=>h) (Or.inr ⟨by rfl,rfl⟩) ?_ ?_
      rotate_left
      ·simp only[Act.put,List.setIfInBounds_toArray,List.set_cons_zero,List.set_cons_succ,i64_w,i32_w]
       rfl
      refine pure_ (i:=10) (N:=some 59) (v:=undef) (a':=?_) #[true,true,true,true,true,true,true,true,true,true,true,false] rfl rfl (any_of HT_.out (by kernel_rfl)) (fun _ _ _ h=>h) (Or.inr ⟨by rfl,rfl⟩) ?_ ?_
      rotate_left
      ·simp only[Act.put,List.setIfInBounds_toArray,List.set_cons_zero,List.set_cons_succ,i64_w,i32_w]
       rfl
      refine zpure_ (i:=11) (N:=some 60) #[true,true,true,true,true,true,true,true,true,true,true,true] (any_of HT_.out (by kernel_rfl)) ?_
      refine done_ (done_of HT_.out (by kernel_rfl)) ?_
      try go_wp2_with (first|((with_reducible refine gate_callee (f:=73) rfl ?_);refine zgo (some 62) Try.func73 #[.slice bP y.length bQ,.int .i64 1] ?_;(with_reducible refine (grottoref02_Up.calls k2 _ _ y 1 bO _ ?side1 ?side2 dV.out).mono ?_);(case side1=>repeat (first|exact (Kd.V_reads' HO_8.out).2.2|(with_reducible refine Kd.C_alloc ?_ _)|(with_reducible refine Kd.C_drewN ?_ _)|(with_reducible refine Kd.C_drew ?_)));(case side2=>exact (Kd.V_reads' HO_8.out).2.1);rintro e en ⟨v815,rfl,ho0,hb⟩;refine⟨_,rfl,?_⟩;have b9:=Aside0.mk (Kd.V_lower (Kd.V_mono (ok':=fun k_=>k_≠c∧k_≠d) ho0 (fun k_ hk_=>⟨(Kd.freshB (g:=c) (o:=.cells #[.int .i64 l,.int .i64 q] 23 (0,0)) (zk a) k_ hk_),(Kd.freshB (g:=d) (o:=.cells #[.int .i64 D,.bool E,.int .i64 F,.int .u64 G] 34 (0,0)) (zk b) k_ hk_)⟩)) (below_size (zb HB)));replace HO_8:=Aside0.mk (Kd.V_below (by (with_reducible repeat (first|apply Kd.V_alloc|apply Kd.V_drewN|apply Kd.V_drew));exact HO_8.out) hb);obtain⟨a,b,HB⟩:=zu2 a b HB hb;clear hb;(try clear ho0)))
      go_roundg k2
      case measure=>have:=aR.out;have:=a0.out;omega
      case rel=>exact⟨(bO),(wrap64 (P-1)),(by first|rfl|(simp[*];done)),H',⟨by have:=aR.out;have:=a0.out;omega⟩,⟨by (with_reducible repeat (first|apply Kd.V_alloc|apply Kd.V_drewN|apply Kd.V_drew));exact b9.out⟩,⟨zk a⟩,⟨zk b⟩,⟨zb HB⟩⟩
     rw[if_neg bl] at H
     have bu:decide (af<(wrap64 ((wrap64 (2*l))+8)))=false:=decide_eq_false bl
     clear bl
     by_cases bv:(Int.tmod P 2)=0
     rotate_left
     ·rw[if_neg bv] at H
      obtain⟨bw,bx⟩:=zf bv
      obtain⟨b0,dx,H⟩:=oB H
      have H':=Aside0.mk H
      clear H
      try go_wp2
      replace HO_8:=Aside0.mk (Kd.V_drew HO_8.out)
      replace a:=Aside0.mk (blk_drew a.out)
      replace b:=Aside0.mk (blk_drew b.out)
      replace HB:=Aside0.mk (below_drew1 HB.out)
      obtain⟨bK,bL,bM⟩:=Kd.V_slice HO_8.out
      (first|subst bM|(injection bM with f1_ f2_ f3_;have f4_:=f1_.symm;have f5_:=f3_.symm;clear f1_ f2_ f3_;subst f4_;subst f5_))
      refine start_ (n:=12) (S:=fun w'=>w'.cell? ⟨c,0,none⟩=some (.int .i64 l)∧w'.cell? ⟨c,1,none⟩=some (.int .i64 q)) (ds:=[]) #[false,false,false,false,false,false,false,false,false,false,false,false] (by kernel_rfl) rfl rfl ⟨(blk_cell a.out 0).trans rfl,(blk_cell a.out 1).trans rfl⟩ (fun hHeld=>?_);refine with_tabW grottoref03_Sqrt.tab9 grottoref03_Sqrt.bits9 (fun HT_ HW_=>?_)
      generalize wr.drew=ea at HO_8 a b HB hHeld ⊢
      refine zpure_ (i:=0) (N:=some 49) #[true,false,false,false,false,false,false,false,false,false,false,false] (any_of HT_.out (by kernel_rfl)) ?_
      refine zpure_ (i:=2) (N:=some 51) #[true,false,true,false,false,false,false,false,false,false,false,false] (any_of HT_.out (by kernel_rfl)) ?_
      refine ztake_ (i:=3) (N:=some 52) #[true,false,true,true,false,false,false,false,false,false,false,false] rfl (take_ofW HT_.out HW_.out (by kernel_rfl)) hHeld (Or.inl ⟨by rfl,by rintro w' ⟨s0,s1⟩;go_simp;with_reducible rfl⟩) ?_
      refine zpure_ (i:=4) (N:=some 53) #[true,false,true,true,true,false,false,false,false,false,false,false] (any_of HT_.out (by kernel_rfl)) ?_
      refine zpure_ (i:=5) (N:=some 54) #[true,false,true,true,true,true,false,false,false,false,false,false] (any_of HT_.out (by kernel_rfl)) ?_
      refine one_ (i:=1) (N:=some 50) #[true,true,true,true,true,true,false,false,false,false,false,false] rfl rfl (one_of HT_.out (by kernel_rfl)) (by decide) (fun K hK=>?_)
      refine goes_ Try.func65 (by kernel_rfl) rfl #[.slice bK y.length bL] (by rfl) rfl rfl (by (try simp only[List.map_toArray,List.map_cons,List.map_nil]);first|done|rfl|(simp only[List.length_drop,List.length_take];rfl)) ?_
      with_reducible refine (grottoref02_Bits.calls k2 _ _ y af _ ?side1 ?side2 b8.out).mono ?_
      (case side1=>repeat (first|exact (Kd.V_reads' HO_8.out).2.2|(with_reducible refine Kd.C_alloc ?_ _)|(with_reducible refine Kd.C_drewN ?_ _)|(with_reducible refine Kd.C_drew ?_)))
      (case side2=>exact (Kd.V_reads' HO_8.out).2.1)
      rintro e eb ⟨rfl,hb⟩
      refine⟨_,rfl,?_⟩
      replace HO_8:=Aside0.mk (Kd.V_below (by (with_reducible repeat (first|apply Kd.V_alloc|apply Kd.V_drewN|apply Kd.V_drew));exact HO_8.out) hb)
      obtain⟨a,b,HB⟩:=zu2 a b HB hb
      try clear hb
      refine hK.out _ _ ⟨(blk_cell a.out 0).trans rfl,(blk_cell a.out 1).trans rfl⟩ (fun hHeld=>?_)
      clear hK K
      refine norm_ (a':=?_) ?_ ?_
      rotate_left
      ·show Act.put _ (some 50) _=_
       simp only[Act.put,List.setIfInBounds_toArray,List.set_cons_zero,List.set_cons_succ,i64_w,i32_w]
       rfl
      refine zpure_ (i:=6) (N:=some 55) #[true,true,true,true,true,true,true,false,false,false,false,false] (any_of HT_.out (by kernel_rfl)) ?_
      refine zpure_ (i:=7) (N:=some 56) #[true,true,true,true,true,true,true,true,false,false,false,false] (any_of HT_.out (by kernel_rfl)) ?_
      refine zpure_ (i:=8) (N:=some 57) #[true,true,true,true,true,true,true,true,true,false,false,false] (any_of HT_.out (by kernel_rfl)) ?_
      refine zpure_ (i:=9) (N:=some 58) #[true,true,true,true,true,true,true,true,true,true,false,false] (any_of HT_.out (by kernel_rfl)) ?_
      refine zpure_ (i:=10) (N:=some 59) #[true,true,true,true,true,true,true,true,true,true,true,false] (any_of HT_.out (by kernel_rfl)) ?_
      refine zpure_ (i:=11) (N:=some 60) #[true,true,true,true,true,true,true,true,true,true,true,true] (any_of HT_.out (by kernel_rfl)) ?_
      refine done_ (done_of HT_.out (by kernel_rfl)) ?_
      try go_wp2_with (first|((with_reducible refine gate_callee (f:=73) rfl ?_);refine zgo (some 62) Try.func73 #[.slice bK y.length bL,.int .i64 1] ?_;(with_reducible refine (grottoref02_Up.calls k2 _ _ y 1 b0 _ ?side1 ?side2 dx.out).mono ?_);(case side1=>repeat (first|exact (Kd.V_reads' HO_8.out).2.2|(with_reducible refine Kd.C_alloc ?_ _)|(with_reducible refine Kd.C_drewN ?_ _)|(with_reducible refine Kd.C_drew ?_)));(case side2=>exact (Kd.V_reads' HO_8.out).2.1);rintro e ec ⟨v818,rfl,ho0,hb⟩;refine⟨_,rfl,?_⟩;have cf:=Aside0.mk (Kd.V_lower (Kd.V_mono (ok':=fun k_=>k_≠c∧k_≠d) ho0 (fun k_ hk_=>⟨(Kd.freshB (g:=c) (o:=.cells #[.int .i64 l,.int .i64 q] 23 (0,0)) (zk a) k_ hk_),(Kd.freshB (g:=d) (o:=.cells #[.int .i64 D,.bool E,.int .i64 F,.int .u64 G] 34 (0,0)) (zk b) k_ hk_)⟩)) (below_size (zb HB)));replace HO_8:=Aside0.mk (Kd.V_below (by (with_reducible repeat (first|apply Kd.V_alloc|apply Kd.V_drewN|apply Kd.V_drew));exact HO_8.out) hb);obtain⟨a,b,HB⟩:=zu2 a b HB hb;clear hb;(try clear ho0)))
      go_roundg k2
      case measure=>have:=aR.out;have:=a0.out;omega
      case rel=>exact⟨(b0),(wrap64 (P-1)),(by first|rfl|(simp[*];done)),H',⟨by have:=aR.out;have:=a0.out;omega⟩,⟨by (with_reducible repeat (first|apply Kd.V_alloc|apply Kd.V_drewN|apply Kd.V_drew));exact cf.out⟩,⟨zk a⟩,⟨zk b⟩,⟨zb HB⟩⟩
     rw[if_pos bv] at H
     obtain⟨bw,bx⟩:=zt bv
     clear bv
     obtain⟨bS,dW,H⟩:=oB H
     have H':=Aside0.mk H
     clear H
     try go_wp2
     replace HO_8:=Aside0.mk (Kd.V_drew HO_8.out)
     replace a:=Aside0.mk (blk_drew a.out)
     replace b:=Aside0.mk (blk_drew b.out)
     replace HB:=Aside0.mk (below_drew1 HB.out)
     obtain⟨ad,ae,bT⟩:=Kd.V_slice HO_8.out
     (first|subst bT|(injection bT with f1_ f2_ f3_;have f4_:=f1_.symm;have f5_:=f3_.symm;clear f1_ f2_ f3_;subst f4_;subst f5_))
     refine start_ (n:=12) (S:=fun w'=>w'.cell? ⟨c,0,none⟩=some (.int .i64 l)∧w'.cell? ⟨c,1,none⟩=some (.int .i64 q)) (ds:=[]) #[false,false,false,false,false,false,false,false,false,false,false,false] (by kernel_rfl) rfl rfl ⟨(blk_cell a.out 0).trans rfl,(blk_cell a.out 1).trans rfl⟩ (fun hHeld=>?_);refine with_tabW grottoref03_Sqrt.tab9 grottoref03_Sqrt.bits9 (fun HT_ HW_=>?_)
     generalize wr.drew=eo at HO_8 a b HB hHeld ⊢
     refine zpure_ (i:=0) (N:=some 49) #[true,false,false,false,false,false,false,false,false,false,false,false] (any_of HT_.out (by kernel_rfl)) ?_
     refine zpure_ (i:=2) (N:=some 51) #[true,false,true,false,false,false,false,false,false,false,false,false] (any_of HT_.out (by kernel_rfl)) ?_
     refine ztake_ (i:=3) (N:=some 52) #[true,false,true,true,false,false,false,false,false,false,false,false] rfl (take_ofW HT_.out HW_.out (by kernel_rfl)) hHeld (Or.inl ⟨by rfl,by rintro w' ⟨s0,s1⟩;go_simp;with_reducible rfl⟩) ?_
     refine zpure_ (i:=4) (N:=some 53) #[true,false,true,true,true,false,false,false,false,false,false,false] (any_of HT_.out (by kernel_rfl)) ?_
     refine zpure_ (i:=5) (N:=some 54) #[true,false,true,true,true,true,false,false,false,false,false,false] (any_of HT_.out (by kernel_rfl)) ?_
     refine one_ (i:=1) (N:=some 50) #[true,true,true,true,true,true,false,false,false,false,false,false] rfl rfl (one_of HT_.out (by kernel_rfl)) (by decide) (fun K hK=>?_)
     refine goes_ Try.func65 (by kernel_rfl) rfl #[.slice ad y.length ae] (by rfl) rfl rfl (by (try simp only[List.map_toArray,List.map_cons,List.map_nil]);first|done|rfl|(simp only[List.length_drop,List.length_take];rfl)) ?_
     with_reducible refine (grottoref02_Bits.calls k2 _ _ y af _ ?side1 ?side2 b8.out).mono ?_
     (case side1=>repeat (first|exact (Kd.V_reads' HO_8.out).2.2|(with_reducible refine Kd.C_alloc ?_ _)|(with_reducible refine Kd.C_drewN ?_ _)|(with_reducible refine Kd.C_drew ?_)))
     (case side2=>exact (Kd.V_reads' HO_8.out).2.1)
     rintro e ep ⟨rfl,hb⟩
     refine⟨_,rfl,?_⟩
     replace HO_8:=Aside0.mk (Kd.V_below (by (with_reducible repeat (first|apply Kd.V_alloc|apply Kd.V_drewN|apply Kd.V_drew));exact HO_8.out) hb)
     obtain⟨a,b,HB⟩:=zu2 a b HB hb
     try clear hb
     refine hK.out _ _ ⟨(blk_cell a.out 0).trans rfl,(blk_cell a.out 1).trans rfl⟩ (fun hHeld=>?_)
     clear hK K
     refine norm_ (a':=?_) ?_ ?_
     rotate_left
     ·show Act.put _ (some 50) _=_
      simp only[Act.put,List.setIfInBounds_toArray,List.set_cons_zero,List.set_cons_succ,i64_w,i32_w]
      rfl
     refine zpure_ (i:=6) (N:=some 55) #[true,true,true,true,true,true,true,false,false,false,false,false] (any_of HT_.out (by kernel_rfl)) ?_
     refine zpure_ (i:=7) (N:=some 56) #[true,true,true,true,true,true,true,true,false,false,false,false] (any_of HT_.out (by kernel_rfl)) ?_
     refine zpure_ (i:=8) (N:=some 57) #[true,true,true,true,true,true,true,true,true,false,false,false] (any_of HT_.out (by kernel_rfl)) ?_
     refine zpure_ (i:=9) (N:=some 58) #[true,true,true,true,true,true,true,true,true,true,false,false] (any_of HT_.out (by kernel_rfl)) ?_
     refine zpure_ (i:=10) (N:=some 59) #[true,true,true,true,true,true,true,true,true,true,true,false] (any_of HT_.out (by kernel_rfl)) ?_
     refine zpure_ (i:=11) (N:=some 60) #[true,true,true,true,true,true,true,true,true,true,true,true] (any_of HT_.out (by kernel_rfl)) ?_
     refine done_ (done_of HT_.out (by kernel_rfl)) ?_
     try go_wp2_with (first|((with_reducible refine gate_callee (f:=65) rfl ?_);refine zgo (some 66) Try.func65 #[.slice ad y.length ae] ?_;(with_reducible refine (grottoref02_Bits.calls k2 _ _ y bS _ ?side1 ?side2 dW.out).mono ?_);(case side1=>repeat (first|exact (Kd.V_reads' HO_8.out).2.2|(with_reducible refine Kd.C_alloc ?_ _)|(with_reducible refine Kd.C_drewN ?_ _)|(with_reducible refine Kd.C_drew ?_)));(case side2=>exact (Kd.V_reads' HO_8.out).2.1);rintro e eq ⟨rfl,hb⟩;refine⟨_,rfl,?_⟩;replace HO_8:=Aside0.mk (Kd.V_below (by (with_reducible repeat (first|apply Kd.V_alloc|apply Kd.V_drewN|apply Kd.V_drew));exact HO_8.out) hb);obtain⟨a,b,HB⟩:=zu2 a b HB hb;clear hb))
     go_loopg [10,11] k2 (fun kq v10 v11 w'=>∃ (s:List Int) (J:Int),v11=.int .i64 J∧Aside0 (grottoref03_Sqrt.l1 kq y P s J l q=some (r1,r2))∧Aside0 (kq≤k2)∧Aside0 (Kd.V (Kd.int .i64) 3 w' w.heap.size (fun k_=>k_≠c∧k_≠d) (.slice ad y.length ae) y)∧Aside0 (Kd.V (Kd.int .i64) 3 w' w.heap.size (fun k_=>k_≠c∧k_≠d) v10 s)∧Aside0 (w'.heap[c]?=some (.cells #[.int .i64 l,.int .i64 q] 23 (0,0)))∧Aside0 (w'.heap[d]?=some (.cells #[.int .i64 D,.bool E,.int .i64 F,.int .u64 G] 34 (0,0)))∧Aside0 (Below w.heap.size w w'))
     case atStart=>exact⟨(([]:List Int)),(wrap64 ((wrap64 (Int.tdiv bS 2))+1)),(by first|rfl|(simp[*];done)),H',⟨Nat.le_refl _⟩,⟨by (with_reducible repeat (first|apply Kd.V_alloc|apply Kd.V_drewN|apply Kd.V_drew));exact HO_8.out⟩,⟨Kd.V_nil _ _ _ _ _⟩,⟨zk a⟩,⟨zk b⟩,⟨zb HB⟩⟩
     case round =>
      clear H'
      try clear c1 c2 p2 bd be c7 dR a7 R a8 dS bj dT dU bk er es a9 ba et eu bu bw bx U W X Y ar au av aw aB aC aD aE aJ aK aL aM bp bq aS aT aU aV ak al Z aa ab ac ax ay az aA aF aG aH aI aN aO aP aQ br bs aW aX aY aZ am an p2
      obtain⟨s,J,rfl,HA,bN,HO_8,HO_10,a,b,HB⟩:=hrel
      cases gk with
      | zero=>exact absurd HA.out (by simp[grottoref03_Sqrt.l1])
      | succ k3 =>
       have H:=HA.out
       clear HA
       simp only[grottoref03_Sqrt.l1] at H
       by_cases bm:J≥0
       ·rw[if_pos bm] at H
        have ca:decide (0≤J)=true:=decide_eq_true bm
        clear bm
        obtain⟨O,cH,H⟩:=oB H
        obtain⟨ag,cI,H⟩:=oB H
        obtain⟨Q,cJ,H⟩:=oB H
        obtain⟨ah,cK,H⟩:=oB H
        obtain⟨a2,cL,H⟩:=oB H
        by_cases bn:a2≤0
        ·rw[if_pos bn] at H
         have cb:decide (a2≤0)=true:=decide_eq_true bn
         clear bn
         have H':=Aside0.mk H
         clear H
         go_wp2_with (first|((with_reducible refine gate_callee (f:=58) rfl ?_);refine zgo (some 74) Try.func58 #[] ?_;(with_reducible refine (grottoref03_one.calls  O _ cH.out).mono ?_);rintro e ev ⟨v822,rfl,ho0,hb⟩;refine⟨_,rfl,?_⟩;have m:=Aside0.mk (Kd.R_lower ho0 (below_size (zb HB)));replace HO_8:=Aside0.mk (Kd.V_elder' (by (with_reducible repeat (first|apply Kd.V_alloc|apply Kd.V_drewN|apply Kd.V_drew));exact HO_8.out) (Kd.R_base ho0) hb);replace HO_10:=Aside0.mk (Kd.V_elder' (by (with_reducible repeat (first|apply Kd.V_alloc|apply Kd.V_drewN|apply Kd.V_drew));exact HO_10.out) (Kd.R_base ho0) hb);obtain⟨a,b,HB⟩:=zu2 a b HB hb;clear hb;(try clear ho0);obtain⟨bf,bg,cM⟩:=Kd.R_slice m.out;subst cM)|((with_reducible refine gate_callee (f:=73) rfl ?_);refine zgo (some 76) Try.func73 #[.slice bf O.length bg,.int .i64 J] ?_;(with_reducible refine (grottoref02_Up.calls k3 _ _ O J ag _ ?side1 ?side2 cI.out).mono ?_);(case side1=>repeat (first|exact (Kd.R_reads' m.out).2.2|(with_reducible refine Kd.C_alloc ?_ _)|(with_reducible refine Kd.C_drewN ?_ _)|(with_reducible refine Kd.C_drew ?_)));(case side2=>exact (Kd.R_reads' m.out).2.1);rintro e ew ⟨v825,rfl,ho0,hb⟩;refine⟨_,rfl,?_⟩;have z:=Aside0.mk (Kd.V_lower (Kd.V_mono (ok':=fun k_=>some k_≠(.slice bf O.length bg:Value).ownBlock∧k_≠c∧k_≠d) ho0 (fun k_ hk_=>⟨(Kd.fresh' (Kd.R_lt (by (with_reducible repeat (first|apply Kd.R_alloc|apply Kd.R_drewN|apply Kd.R_drew));exact m.out)) k_ hk_),(Kd.freshB (g:=c) (o:=.cells #[.int .i64 l,.int .i64 q] 23 (0,0)) (zk a) k_ hk_),(Kd.freshB (g:=d) (o:=.cells #[.int .i64 D,.bool E,.int .i64 F,.int .u64 G] 34 (0,0)) (zk b) k_ hk_)⟩)) (below_size (zb HB)));replace HO_8:=Aside0.mk (Kd.V_below (by (with_reducible repeat (first|apply Kd.V_alloc|apply Kd.V_drewN|apply Kd.V_drew));exact HO_8.out) hb);replace HO_10:=Aside0.mk (Kd.V_below (by (with_reducible repeat (first|apply Kd.V_alloc|apply Kd.V_drewN|apply Kd.V_drew));exact HO_10.out) hb);replace m:=Aside0.mk (Kd.R_below (by (with_reducible repeat (first|apply Kd.R_alloc|apply Kd.R_drewN|apply Kd.R_drew));exact m.out) hb);obtain⟨a,b,HB⟩:=zu2 a b HB hb;clear hb;(try clear ho0);obtain⟨cN,cO,cP⟩:=Kd.V_slice HO_10.out;subst cP;obtain⟨cQ,cR,cS⟩:=Kd.V_slice z.out;subst cS)|((with_reducible refine gate_callee (f:=74) rfl ?_);refine zgo (some 77) Try.func74 #[.slice cN s.length cO,.slice cQ ag.length cR] ?_;(with_reducible refine (grottoref02_Plus.calls k3 _ _ s _ _ ag Q _ ?side1 ?side2 ?side3 ?side4 cJ.out).mono ?_);(case side1=>repeat (first|exact (Kd.V_reads' HO_10.out).2.2|(with_reducible refine Kd.C_alloc ?_ _)|(with_reducible refine Kd.C_drewN ?_ _)|(with_reducible refine Kd.C_drew ?_)));(case side2=>exact (Kd.V_reads' HO_10.out).2.1);(case side3=>repeat (first|exact (Kd.V_reads' z.out).2.2|(with_reducible refine Kd.C_alloc ?_ _)|(with_reducible refine Kd.C_drewN ?_ _)|(with_reducible refine Kd.C_drew ?_)));(case side4=>exact (Kd.V_reads' z.out).2.1);rintro e ex ⟨v828,rfl,ho0,hb⟩;refine⟨_,rfl,?_⟩;have u:=Aside0.mk (Kd.V_lower (Kd.V_mono (ok':=fun k_=>some k_≠(.slice bf O.length bg:Value).ownBlock∧k_≠c∧k_≠d) ho0 (fun k_ hk_=>⟨(Kd.fresh' (Kd.R_lt (by (with_reducible repeat (first|apply Kd.R_alloc|apply Kd.R_drewN|apply Kd.R_drew));exact m.out)) k_ hk_),(Kd.freshB (g:=c) (o:=.cells #[.int .i64 l,.int .i64 q] 23 (0,0)) (zk a) k_ hk_),(Kd.freshB (g:=d) (o:=.cells #[.int .i64 D,.bool E,.int .i64 F,.int .u64 G] 34 (0,0)) (zk b) k_ hk_)⟩)) (below_size (zb HB)));replace HO_8:=Aside0.mk (Kd.V_below (by (with_reducible repeat (first|apply Kd.V_alloc|apply Kd.V_drewN|apply Kd.V_drew));exact HO_8.out) hb);replace HO_10:=Aside0.mk (Kd.V_below (by (with_reducible repeat (first|apply Kd.V_alloc|apply Kd.V_drewN|apply Kd.V_drew));exact HO_10.out) hb);replace m:=Aside0.mk (Kd.R_below (by (with_reducible repeat (first|apply Kd.R_alloc|apply Kd.R_drewN|apply Kd.R_drew));exact m.out) hb);replace z:=Aside0.mk (Kd.V_below (by (with_reducible repeat (first|apply Kd.V_alloc|apply Kd.V_drewN|apply Kd.V_drew));exact z.out) hb);obtain⟨a,b,HB⟩:=zu2 a b HB hb;clear hb;(try clear ho0);obtain⟨bU,bV,cT⟩:=Kd.V_slice u.out;subst cT)|((with_reducible refine gate_callee (f:=76) rfl ?_);refine zgo (some 80) Try.func76 #[.slice bU Q.length bV,.slice bU Q.length bV] ?_;(with_reducible refine (grottoref02_Times.calls k3 _ _ Q _ _ Q ah _ ?side1 ?side2 ?side3 ?side4 cK.out).mono ?_);(case side1=>repeat (first|exact (Kd.V_reads' u.out).2.2|(with_reducible refine Kd.C_alloc ?_ _)|(with_reducible refine Kd.C_drewN ?_ _)|(with_reducible refine Kd.C_drew ?_)));(case side2=>exact (Kd.V_reads' u.out).2.1);(case side3=>repeat (first|exact (Kd.V_reads' u.out).2.2|(with_reducible refine Kd.C_alloc ?_ _)|(with_reducible refine Kd.C_drewN ?_ _)|(with_reducible refine Kd.C_drew ?_)));(case side4=>exact (Kd.V_reads' u.out).2.1);rintro e ey ⟨v831,rfl,ho0,hb⟩;refine⟨_,rfl,?_⟩;have L:=Aside0.mk (Kd.V_lower (Kd.V_mono (ok':=fun k_=>some k_≠(.slice bf O.length bg:Value).ownBlock∧k_≠c∧k_≠d) ho0 (fun k_ hk_=>⟨(Kd.fresh' (Kd.R_lt (by (with_reducible repeat (first|apply Kd.R_alloc|apply Kd.R_drewN|apply Kd.R_drew));exact m.out)) k_ hk_),(Kd.freshB (g:=c) (o:=.cells #[.int .i64 l,.int .i64 q] 23 (0,0)) (zk a) k_ hk_),(Kd.freshB (g:=d) (o:=.cells #[.int .i64 D,.bool E,.int .i64 F,.int .u64 G] 34 (0,0)) (zk b) k_ hk_)⟩)) (below_size (zb HB)));replace HO_8:=Aside0.mk (Kd.V_below (by (with_reducible repeat (first|apply Kd.V_alloc|apply Kd.V_drewN|apply Kd.V_drew));exact HO_8.out) hb);replace HO_10:=Aside0.mk (Kd.V_below (by (with_reducible repeat (first|apply Kd.V_alloc|apply Kd.V_drewN|apply Kd.V_drew));exact HO_10.out) hb);replace m:=Aside0.mk (Kd.R_below (by (with_reducible repeat (first|apply Kd.R_alloc|apply Kd.R_drewN|apply Kd.R_drew));exact m.out) hb);replace z:=Aside0.mk (Kd.V_below (by (with_reducible repeat (first|apply Kd.V_alloc|apply Kd.V_drewN|apply Kd.V_drew));exact z.out) hb);replace u:=Aside0.mk (Kd.V_below (by (with_reducible repeat (first|apply Kd.V_alloc|apply Kd.V_drewN|apply Kd.V_drew));exact u.out) hb);obtain⟨a,b,HB⟩:=zu2 a b HB hb;clear hb;(try clear ho0);obtain⟨cU,cV,cW⟩:=Kd.V_slice L.out;subst cW)|((with_reducible refine gate_callee (f:=75) rfl ?_);refine zgo (some 82) Try.func75 #[.slice cU ah.length cV,.slice ad y.length ae] ?_;(with_reducible refine (grottoref02_Cmp.calls k3 _ _ ah _ _ y a2 _ ?side1 ?side2 ?side3 ?side4 cL.out).mono ?_);(case side1=>repeat (first|exact (Kd.V_reads' L.out).2.2|(with_reducible refine Kd.C_alloc ?_ _)|(with_reducible refine Kd.C_drewN ?_ _)|(with_reducible refine Kd.C_drew ?_)));(case side2=>exact (Kd.V_reads' L.out).2.1);(case side3=>repeat (first|exact (Kd.V_reads' HO_8.out).2.2|(with_reducible refine Kd.C_alloc ?_ _)|(with_reducible refine Kd.C_drewN ?_ _)|(with_reducible refine Kd.C_drew ?_)));(case side4=>exact (Kd.V_reads' HO_8.out).2.1);rintro e ez ⟨rfl,hb⟩;refine⟨_,rfl,?_⟩;replace HO_8:=Aside0.mk (Kd.V_below (by (with_reducible repeat (first|apply Kd.V_alloc|apply Kd.V_drewN|apply Kd.V_drew));exact HO_8.out) hb);replace HO_10:=Aside0.mk (Kd.V_below (by (with_reducible repeat (first|apply Kd.V_alloc|apply Kd.V_drewN|apply Kd.V_drew));exact HO_10.out) hb);replace m:=Aside0.mk (Kd.R_below (by (with_reducible repeat (first|apply Kd.R_alloc|apply Kd.R_drewN|apply Kd.R_drew));exact m.out) hb);replace z:=Aside0.mk (Kd.V_below (by (with_reducible repeat (first|apply Kd.V_alloc|apply Kd.V_drewN|apply Kd.V_drew));exact z.out) hb);replace u:=Aside0.mk (Kd.V_below (by (with_reducible repeat (first|apply Kd.V_alloc|apply Kd.V_drewN|apply Kd.V_drew));exact u.out) hb);replace L:=Aside0.mk (Kd.V_below (by (with_reducible repeat (first|apply Kd.V_alloc|apply Kd.V_drewN|apply Kd.V_drew));exact L.out) hb);obtain⟨a,b,HB⟩:=zu2 a b HB hb;clear hb))
         go_roundg k3
         case measure=>have:=aR.out;have:=a0.out;have:=bN.out;omega
         case rel=>exact⟨(Q),(wrap64 (J-1)),(by first|rfl|(simp[*];done)),H',⟨by have:=aR.out;have:=a0.out;have:=bN.out;omega⟩,⟨by (with_reducible repeat (first|apply Kd.V_alloc|apply Kd.V_drewN|apply Kd.V_drew));exact Kd.V_mono HO_8.out (fun _ hk=>⟨hk.1.1,hk.1.2⟩)⟩,⟨by (with_reducible repeat (first|apply Kd.V_alloc|apply Kd.V_drewN|apply Kd.V_drew));exact Kd.V_mono u.out (fun _ hk=>⟨hk.2.1,hk.2.2⟩)⟩,⟨zk a⟩,⟨zk b⟩,⟨zb HB⟩⟩
        rw[if_neg bn] at H
        have cb:decide (a2≤0)=false:=decide_eq_false bn
        clear bn
        have H':=Aside0.mk H
        clear H
        go_wp2_with (first|((with_reducible refine gate_callee (f:=58) rfl ?_);refine zgo (some 74) Try.func58 #[] ?_;(with_reducible refine (grottoref03_one.calls  O _ cH.out).mono ?_);rintro e eA ⟨v822,rfl,ho0,hb⟩;refine⟨_,rfl,?_⟩;have m:=Aside0.mk (Kd.R_lower ho0 (below_size (zb HB)));replace HO_8:=Aside0.mk (Kd.V_elder' (by (with_reducible repeat (first|apply Kd.V_alloc|apply Kd.V_drewN|apply Kd.V_drew));exact HO_8.out) (Kd.R_base ho0) hb);replace HO_10:=Aside0.mk (Kd.V_elder' (by (with_reducible repeat (first|apply Kd.V_alloc|apply Kd.V_drewN|apply Kd.V_drew));exact HO_10.out) (Kd.R_base ho0) hb);obtain⟨a,b,HB⟩:=zu2 a b HB hb;clear hb;(try clear ho0);obtain⟨bh,bi,cX⟩:=Kd.R_slice m.out;subst cX)|((with_reducible refine gate_callee (f:=73) rfl ?_);refine zgo (some 76) Try.func73 #[.slice bh O.length bi,.int .i64 J] ?_;(with_reducible refine (grottoref02_Up.calls k3 _ _ O J ag _ ?side1 ?side2 cI.out).mono ?_);(case side1=>repeat (first|exact (Kd.R_reads' m.out).2.2|(with_reducible refine Kd.C_alloc ?_ _)|(with_reducible refine Kd.C_drewN ?_ _)|(with_reducible refine Kd.C_drew ?_)));(case side2=>exact (Kd.R_reads' m.out).2.1);rintro e eB ⟨v825,rfl,ho0,hb⟩;refine⟨_,rfl,?_⟩;have z:=Aside0.mk (Kd.V_lower (Kd.V_mono (ok':=fun k_=>some k_≠(.slice bh O.length bi:Value).ownBlock∧k_≠c∧k_≠d) ho0 (fun k_ hk_=>⟨(Kd.fresh' (Kd.R_lt (by (with_reducible repeat (first|apply Kd.R_alloc|apply Kd.R_drewN|apply Kd.R_drew));exact m.out)) k_ hk_),(Kd.freshB (g:=c) (o:=.cells #[.int .i64 l,.int .i64 q] 23 (0,0)) (zk a) k_ hk_),(Kd.freshB (g:=d) (o:=.cells #[.int .i64 D,.bool E,.int .i64 F,.int .u64 G] 34 (0,0)) (zk b) k_ hk_)⟩)) (below_size (zb HB)));replace HO_8:=Aside0.mk (Kd.V_below (by (with_reducible repeat (first|apply Kd.V_alloc|apply Kd.V_drewN|apply Kd.V_drew));exact HO_8.out) hb);replace HO_10:=Aside0.mk (Kd.V_below (by (with_reducible repeat (first|apply Kd.V_alloc|apply Kd.V_drewN|apply Kd.V_drew));exact HO_10.out) hb);replace m:=Aside0.mk (Kd.R_below (by (with_reducible repeat (first|apply Kd.R_alloc|apply Kd.R_drewN|apply Kd.R_drew));exact m.out) hb);obtain⟨a,b,HB⟩:=zu2 a b HB hb;clear hb;(try clear ho0);obtain⟨cY,cZ,c0⟩:=Kd.V_slice HO_10.out;subst c0;obtain⟨c3,c5,c6⟩:=Kd.V_slice z.out;subst c6)|((with_reducible refine gate_callee (f:=74) rfl ?_);refine zgo (some 77) Try.func74 #[.slice cY s.length cZ,.slice c3 ag.length c5] ?_;(with_reducible refine (grottoref02_Plus.calls k3 _ _ s _ _ ag Q _ ?side1 ?side2 ?side3 ?side4 cJ.out).mono ?_);(case side1=>repeat (first|exact (Kd.V_reads' HO_10.out).2.2|(with_reducible refine Kd.C_alloc ?_ _)|(with_reducible refine Kd.C_drewN ?_ _)|(with_reducible refine Kd.C_drew ?_)));(case side2=>exact (Kd.V_reads' HO_10.out).2.1);(case side3=>repeat (first|exact (Kd.V_reads' z.out).2.2|(with_reducible refine Kd.C_alloc ?_ _)|(with_reducible refine Kd.C_drewN ?_ _)|(with_reducible refine Kd.C_drew ?_)));(case side4=>exact (Kd.V_reads' z.out).2.1);rintro e eC ⟨v828,rfl,ho0,hb⟩;refine⟨_,rfl,?_⟩;have u:=Aside0.mk (Kd.V_lower (Kd.V_mono (ok':=fun k_=>some k_≠(.slice bh O.length bi:Value).ownBlock∧k_≠c∧k_≠d) ho0 (fun k_ hk_=>⟨(Kd.fresh' (Kd.R_lt (by (with_reducible repeat (first|apply Kd.R_alloc|apply Kd.R_drewN|apply Kd.R_drew));exact m.out)) k_ hk_),(Kd.freshB (g:=c) (o:=.cells #[.int .i64 l,.int .i64 q] 23 (0,0)) (zk a) k_ hk_),(Kd.freshB (g:=d) (o:=.cells #[.int .i64 D,.bool E,.int .i64 F,.int .u64 G] 34 (0,0)) (zk b) k_ hk_)⟩)) (below_size (zb HB)));replace HO_8:=Aside0.mk (Kd.V_below (by (with_reducible repeat (first|apply Kd.V_alloc|apply Kd.V_drewN|apply Kd.V_drew));exact HO_8.out) hb);replace HO_10:=Aside0.mk (Kd.V_below (by (with_reducible repeat (first|apply Kd.V_alloc|apply Kd.V_drewN|apply Kd.V_drew));exact HO_10.out) hb);replace m:=Aside0.mk (Kd.R_below (by (with_reducible repeat (first|apply Kd.R_alloc|apply Kd.R_drewN|apply Kd.R_drew));exact m.out) hb);replace z:=Aside0.mk (Kd.V_below (by (with_reducible repeat (first|apply Kd.V_alloc|apply Kd.V_drewN|apply Kd.V_drew));exact z.out) hb);obtain⟨a,b,HB⟩:=zu2 a b HB hb;clear hb;(try clear ho0);obtain⟨bW,bX,c8⟩:=Kd.V_slice u.out;subst c8)|((with_reducible refine gate_callee (f:=76) rfl ?_);refine zgo (some 80) Try.func76 #[.slice bW Q.length bX,.slice bW Q.length bX] ?_;(with_reducible refine (grottoref02_Times.calls k3 _ _ Q _ _ Q ah _ ?side1 ?side2 ?side3 ?side4 cK.out).mono ?_);(case side1=>repeat (first|exact (Kd.V_reads' u.out).2.2|(with_reducible refine Kd.C_alloc ?_ _)|(with_reducible refine Kd.C_drewN ?_ _)|(with_reducible refine Kd.C_drew ?_)));(case side2=>exact (Kd.V_reads' u.out).2.1);(case side3=>repeat (first|exact (Kd.V_reads' u.out).2.2|(with_reducible refine Kd.C_alloc ?_ _)|(with_reducible refine Kd.C_drewN ?_ _)|(with_reducible refine Kd.C_drew ?_)));(case side4=>exact (Kd.V_reads' u.out).2.1);rintro e eD ⟨v831,rfl,ho0,hb⟩;refine⟨_,rfl,?_⟩;have L:=Aside0.mk (Kd.V_lower (Kd.V_mono (ok':=fun k_=>some k_≠(.slice bh O.length bi:Value).ownBlock∧k_≠c∧k_≠d) ho0 (fun k_ hk_=>⟨(Kd.fresh' (Kd.R_lt (by (with_reducible repeat (first|apply Kd.R_alloc|apply Kd.R_drewN|apply Kd.R_drew));exact m.out)) k_ hk_),(Kd.freshB (g:=c) (o:=.cells #[.int .i64 l,.int .i64 q] 23 (0,0)) (zk a) k_ hk_),(Kd.freshB (g:=d) (o:=.cells #[.int .i64 D,.bool E,.int .i64 F,.int .u64 G] 34 (0,0)) (zk b) k_ hk_)⟩)) (below_size (zb HB)));replace HO_8:=Aside0.mk (Kd.V_below (by (with_reducible repeat (first|apply Kd.V_alloc|apply Kd.V_drewN|apply Kd.V_drew));exact HO_8.out) hb);replace HO_10:=Aside0.mk (Kd.V_below (by (with_reducible repeat (first|apply Kd.V_alloc|apply Kd.V_drewN|apply Kd.V_drew));exact HO_10.out) hb);replace m:=Aside0.mk (Kd.R_below (by (with_reducible repeat (first|apply Kd.R_alloc|apply Kd.R_drewN|apply Kd.R_drew));exact m.out) hb);replace z:=Aside0.mk (Kd.V_below (by (with_reducible repeat (first|apply Kd.V_alloc|apply Kd.V_drewN|apply Kd.V_drew));exact z.out) hb);replace u:=Aside0.mk (Kd.V_below (by (with_reducible repeat (first|apply Kd.V_alloc|apply Kd.V_drewN|apply Kd.V_drew));exact u.out) hb);obtain⟨a,b,HB⟩:=zu2 a b HB hb;clear hb;(try clear ho0);obtain⟨c9,da,db⟩:=Kd.V_slice L.out;subst db)|((with_reducible refine gate_callee (f:=75) rfl ?_);refine zgo (some 82) Try.func75 #[.slice c9 ah.length da,.slice ad y.length ae] ?_;(with_reducible refine (grottoref02_Cmp.calls k3 _ _ ah _ _ y a2 _ ?side1 ?side2 ?side3 ?side4 cL.out).mono ?_);(case side1=>repeat (first|exact (Kd.V_reads' L.out).2.2|(with_reducible refine Kd.C_alloc ?_ _)|(with_reducible refine Kd.C_drewN ?_ _)|(with_reducible refine Kd.C_drew ?_)));(case side2=>exact (Kd.V_reads' L.out).2.1);(case side3=>repeat (first|exact (Kd.V_reads' HO_8.out).2.2|(with_reducible refine Kd.C_alloc ?_ _)|(with_reducible refine Kd.C_drewN ?_ _)|(with_reducible refine Kd.C_drew ?_)));(case side4=>exact (Kd.V_reads' HO_8.out).2.1);rintro e eE ⟨rfl,hb⟩;refine⟨_,rfl,?_⟩;replace HO_8:=Aside0.mk (Kd.V_below (by (with_reducible repeat (first|apply Kd.V_alloc|apply Kd.V_drewN|apply Kd.V_drew));exact HO_8.out) hb);replace HO_10:=Aside0.mk (Kd.V_below (by (with_reducible repeat (first|apply Kd.V_alloc|apply Kd.V_drewN|apply Kd.V_drew));exact HO_10.out) hb);replace m:=Aside0.mk (Kd.R_below (by (with_reducible repeat (first|apply Kd.R_alloc|apply Kd.R_drewN|apply Kd.R_drew));exact m.out) hb);replace z:=Aside0.mk (Kd.V_below (by (with_reducible repeat (first|apply Kd.V_alloc|apply Kd.V_drewN|apply Kd.V_drew));exact z.out) hb);replace u:=Aside0.mk (Kd.V_below (by (with_reducible repeat (first|apply Kd.V_alloc|apply Kd.V_drewN|apply Kd.V_drew));exact u.out) hb);replace L:=Aside0.mk (Kd.V_below (by (with_reducible repeat (first|apply Kd.V_alloc|apply Kd.V_drewN|apply Kd.V_drew));exact L.out) hb);obtain⟨a,b,HB⟩:=zu2 a b HB hb;clear hb))
        go_roundg k3
        case measure=>have:=aR.out;have:=a0.out;have:=bN.out;omega
        case rel=>exact⟨(s),(wrap64 (J-1)),(by first|rfl|(simp[*];done)),H',⟨by have:=aR.out;have:=a0.out;have:=bN.out;omega⟩,⟨by (with_reducible repeat (first|apply Kd.V_alloc|apply Kd.V_drewN|apply Kd.V_drew));exact Kd.V_mono HO_8.out (fun _ hk=>⟨hk.1.1,hk.1.2⟩)⟩,⟨by (with_reducible repeat (first|apply Kd.V_alloc|apply Kd.V_drewN|apply Kd.V_drew));exact Kd.V_mono HO_10.out (fun _ hk=>⟨hk.1.1,hk.1.2⟩)⟩,⟨zk a⟩,⟨zk b⟩,⟨zb HB⟩⟩
       rw[if_neg bm] at H
       have ca:decide (0≤J)=false:=decide_eq_false bm
       clear bm
       obtain⟨ai,dc,H⟩:=oB H
       obtain⟨aj,dd,H⟩:=oB H
       obtain⟨a3,de,H⟩:=oB H
       by_cases bo:a3<0
       ·rw[if_pos bo] at H
        have cc:decide (a3<0)=true:=decide_eq_true bo
        clear bo
        obtain⟨a4,dX,H⟩:=oB H
        obtain⟨bz,dY,H⟩:=oB H
        obtain⟨a5,dZ,H⟩:=oB H
        obtain⟨df,d0,H⟩:=oB H
        simp only[Option.some.injEq,Prod.mk.injEq] at H
        obtain⟨rfl,rfl⟩:=H
        obtain⟨bA,bB,dg⟩:=Kd.V_slice HO_10.out
        subst dg
        try go_wp2_with (first|((with_reducible refine gate_callee (f:=73) rfl ?_);refine zgo (some 86) Try.func73 #[.slice bA s.length bB,.int .i64 1] ?_;(with_reducible refine (grottoref02_Up.calls k3 _ _ s 1 ai _ ?side1 ?side2 dc.out).mono ?_);(case side1=>repeat (first|exact (Kd.V_reads' HO_10.out).2.2|(with_reducible refine Kd.C_alloc ?_ _)|(with_reducible refine Kd.C_drewN ?_ _)|(with_reducible refine Kd.C_drew ?_)));(case side2=>exact (Kd.V_reads' HO_10.out).2.1);rintro e eF ⟨v835,rfl,ho0,hb⟩;refine⟨_,rfl,?_⟩;have j:=Aside0.mk (Kd.V_lower (Kd.V_mono (ok':=fun k_=>k_≠c∧k_≠d) ho0 (fun k_ hk_=>⟨(Kd.freshB (g:=c) (o:=.cells #[.int .i64 l,.int .i64 q] 23 (0,0)) (zk a) k_ hk_),(Kd.freshB (g:=d) (o:=.cells #[.int .i64 D,.bool E,.int .i64 F,.int .u64 G] 34 (0,0)) (zk b) k_ hk_)⟩)) (below_size (zb HB)));replace HO_8:=Aside0.mk (Kd.V_below (by (with_reducible repeat (first|apply Kd.V_alloc|apply Kd.V_drewN|apply Kd.V_drew));exact HO_8.out) hb);replace HO_10:=Aside0.mk (Kd.V_below (by (with_reducible repeat (first|apply Kd.V_alloc|apply Kd.V_drewN|apply Kd.V_drew));exact HO_10.out) hb);obtain⟨a,b,HB⟩:=zu2 a b HB hb;clear hb;(try clear ho0))|((with_reducible refine gate_callee (f:=76) rfl ?_);refine zgo (some 89) Try.func76 #[.slice bA s.length bB,.slice bA s.length bB] ?_;(with_reducible refine (grottoref02_Times.calls k3 _ _ s _ _ s aj _ ?side1 ?side2 ?side3 ?side4 dd.out).mono ?_);(case side1=>repeat (first|exact (Kd.V_reads' HO_10.out).2.2|(with_reducible refine Kd.C_alloc ?_ _)|(with_reducible refine Kd.C_drewN ?_ _)|(with_reducible refine Kd.C_drew ?_)));(case side2=>exact (Kd.V_reads' HO_10.out).2.1);(case side3=>repeat (first|exact (Kd.V_reads' HO_10.out).2.2|(with_reducible refine Kd.C_alloc ?_ _)|(with_reducible refine Kd.C_drewN ?_ _)|(with_reducible refine Kd.C_drew ?_)));(case side4=>exact (Kd.V_reads' HO_10.out).2.1);rintro e eG ⟨v838,rfl,ho0,hb⟩;refine⟨_,rfl,?_⟩;have p:=Aside0.mk (Kd.V_lower (Kd.V_mono (ok':=fun k_=>k_≠c∧k_≠d) ho0 (fun k_ hk_=>⟨(Kd.freshB (g:=c) (o:=.cells #[.int .i64 l,.int .i64 q] 23 (0,0)) (zk a) k_ hk_),(Kd.freshB (g:=d) (o:=.cells #[.int .i64 D,.bool E,.int .i64 F,.int .u64 G] 34 (0,0)) (zk b) k_ hk_)⟩)) (below_size (zb HB)));replace HO_8:=Aside0.mk (Kd.V_below (by (with_reducible repeat (first|apply Kd.V_alloc|apply Kd.V_drewN|apply Kd.V_drew));exact HO_8.out) hb);replace HO_10:=Aside0.mk (Kd.V_below (by (with_reducible repeat (first|apply Kd.V_alloc|apply Kd.V_drewN|apply Kd.V_drew));exact HO_10.out) hb);replace j:=Aside0.mk (Kd.V_below (by (with_reducible repeat (first|apply Kd.V_alloc|apply Kd.V_drewN|apply Kd.V_drew));exact j.out) hb);obtain⟨a,b,HB⟩:=zu2 a b HB hb;clear hb;(try clear ho0);obtain⟨dh,di,dj⟩:=Kd.V_slice p.out;subst dj)|((with_reducible refine gate_callee (f:=75) rfl ?_);refine zgo (some 91) Try.func75 #[.slice dh aj.length di,.slice ad y.length ae] ?_;(with_reducible refine (grottoref02_Cmp.calls k3 _ _ aj _ _ y a3 _ ?side1 ?side2 ?side3 ?side4 de.out).mono ?_);(case side1=>repeat (first|exact (Kd.V_reads' p.out).2.2|(with_reducible refine Kd.C_alloc ?_ _)|(with_reducible refine Kd.C_drewN ?_ _)|(with_reducible refine Kd.C_drew ?_)));(case side2=>exact (Kd.V_reads' p.out).2.1);(case side3=>repeat (first|exact (Kd.V_reads' HO_8.out).2.2|(with_reducible refine Kd.C_alloc ?_ _)|(with_reducible refine Kd.C_drewN ?_ _)|(with_reducible refine Kd.C_drew ?_)));(case side4=>exact (Kd.V_reads' HO_8.out).2.1);rintro e eH ⟨rfl,hb⟩;refine⟨_,rfl,?_⟩;replace HO_8:=Aside0.mk (Kd.V_below (by (with_reducible repeat (first|apply Kd.V_alloc|apply Kd.V_drewN|apply Kd.V_drew));exact HO_8.out) hb);replace HO_10:=Aside0.mk (Kd.V_below (by (with_reducible repeat (first|apply Kd.V_alloc|apply Kd.V_drewN|apply Kd.V_drew));exact HO_10.out) hb);replace j:=Aside0.mk (Kd.V_below (by (with_reducible repeat (first|apply Kd.V_alloc|apply Kd.V_drewN|apply Kd.V_drew));exact j.out) hb);replace p:=Aside0.mk (Kd.V_below (by (with_reducible repeat (first|apply Kd.V_alloc|apply Kd.V_drewN|apply Kd.V_drew));exact p.out) hb);obtain⟨a,b,HB⟩:=zu2 a b HB hb;clear hb)|((with_reducible refine gate_callee (f:=58) rfl ?_);refine zgo (some 94) Try.func58 #[] ?_;(with_reducible refine (grottoref03_one.calls  a4 _ dX.out).mono ?_);rintro e eI ⟨v842,rfl,ho0,hb⟩;refine⟨_,rfl,?_⟩;have I:=Aside0.mk (Kd.R_lower ho0 (below_size (zb HB)));replace HO_8:=Aside0.mk (Kd.V_elder' (by (with_reducible repeat (first|apply Kd.V_alloc|apply Kd.V_drewN|apply Kd.V_drew));exact HO_8.out) (Kd.R_base ho0) hb);replace HO_10:=Aside0.mk (Kd.V_elder' (by (with_reducible repeat (first|apply Kd.V_alloc|apply Kd.V_drewN|apply Kd.V_drew));exact HO_10.out) (Kd.R_base ho0) hb);replace j:=Aside0.mk (Kd.V_elder' (by (with_reducible repeat (first|apply Kd.V_alloc|apply Kd.V_drewN|apply Kd.V_drew));exact j.out) (Kd.R_base ho0) hb);replace p:=Aside0.mk (Kd.V_elder' (by (with_reducible repeat (first|apply Kd.V_alloc|apply Kd.V_drewN|apply Kd.V_drew));exact p.out) (Kd.R_base ho0) hb);obtain⟨a,b,HB⟩:=zu2 a b HB hb;clear hb;(try clear ho0);obtain⟨dk,dl,dm⟩:=Kd.V_slice j.out;subst dm;obtain⟨bC,bD,dn⟩:=Kd.R_slice I.out;subst dn)|((with_reducible refine gate_callee (f:=74) rfl ?_);refine zgo (some 95) Try.func74 #[.slice dk ai.length dl,.slice bC a4.length bD] ?_;(with_reducible refine (grottoref02_Plus.calls k3 _ _ ai _ _ a4 bz _ ?side1 ?side2 ?side3 ?side4 dY.out).mono ?_);(case side1=>repeat (first|exact (Kd.V_reads' j.out).2.2|(with_reducible refine Kd.C_alloc ?_ _)|(with_reducible refine Kd.C_drewN ?_ _)|(with_reducible refine Kd.C_drew ?_)));(case side2=>exact (Kd.V_reads' j.out).2.1);(case side3=>repeat (first|exact (Kd.R_reads' I.out).2.2|(with_reducible refine Kd.C_alloc ?_ _)|(with_reducible refine Kd.C_drewN ?_ _)|(with_reducible refine Kd.C_drew ?_)));(case side4=>exact (Kd.R_reads' I.out).2.1);rintro e d1 ⟨v845,rfl,ho0,hb⟩;refine⟨_,rfl,?_⟩;have M:=Aside0.mk (Kd.V_lower (Kd.V_mono (ok':=fun k_=>some k_≠(.slice bC a4.length bD:Value).ownBlock∧k_≠c∧k_≠d) ho0 (fun k_ hk_=>⟨(Kd.fresh' (Kd.R_lt (by (with_reducible repeat (first|apply Kd.R_alloc|apply Kd.R_drewN|apply Kd.R_drew));exact I.out)) k_ hk_),(Kd.freshB (g:=c) (o:=.cells #[.int .i64 l,.int .i64 q] 23 (0,0)) (zk a) k_ hk_),(Kd.freshB (g:=d) (o:=.cells #[.int .i64 D,.bool E,.int .i64 F,.int .u64 G] 34 (0,0)) (zk b) k_ hk_)⟩)) (below_size (zb HB)));replace HO_8:=Aside0.mk (Kd.V_below (by (with_reducible repeat (first|apply Kd.V_alloc|apply Kd.V_drewN|apply Kd.V_drew));exact HO_8.out) hb);replace HO_10:=Aside0.mk (Kd.V_below (by (with_reducible repeat (first|apply Kd.V_alloc|apply Kd.V_drewN|apply Kd.V_drew));exact HO_10.out) hb);replace j:=Aside0.mk (Kd.V_below (by (with_reducible repeat (first|apply Kd.V_alloc|apply Kd.V_drewN|apply Kd.V_drew));exact j.out) hb);replace p:=Aside0.mk (Kd.V_below (by (with_reducible repeat (first|apply Kd.V_alloc|apply Kd.V_drewN|apply Kd.V_drew));exact p.out) hb);replace I:=Aside0.mk (Kd.R_below (by (with_reducible repeat (first|apply Kd.R_alloc|apply Kd.R_drewN|apply Kd.R_drew));exact I.out) hb);obtain⟨a,b,HB⟩:=zu2 a b HB hb;clear hb;(try clear ho0)))
        replace HO_8:=Aside0.mk (Kd.V_drew HO_8.out)
        replace HO_10:=Aside0.mk (Kd.V_drew HO_10.out)
        replace j:=Aside0.mk (Kd.V_drew j.out)
        replace p:=Aside0.mk (Kd.V_drew p.out)
        replace I:=Aside0.mk (Kd.R_drew I.out)
        replace M:=Aside0.mk (Kd.V_drew M.out)
        replace a:=Aside0.mk (blk_drew a.out)
        replace b:=Aside0.mk (blk_drew b.out)
        replace HB:=Aside0.mk (below_drew1 HB.out)
        refine start_ (n:=9) (S:=fun w'=>w'.cell? ⟨c,0,none⟩=some (.int .i64 l)∧w'.cell? ⟨c,1,none⟩=some (.int .i64 q)) (ds:=[]) #[false,false,false,false,false,false,false,false,false] (by kernel_rfl) rfl rfl ⟨(blk_cell a.out 0).trans rfl,(blk_cell a.out 1).trans rfl⟩ (fun hHeld=>?_);refine with_tabW grottoref03_Sqrt.tab22 grottoref03_Sqrt.bits22 (fun HT_ HW_=>?_)
        generalize d1.drew=eJ at HO_8 HO_10 j p I M a b HB hHeld ⊢
        refine zpure_ (i:=1) (N:=some 97) #[false,true,false,false,false,false,false,false,false] (any_of HT_.out (by kernel_rfl)) ?_
        refine zpure_ (i:=3) (N:=some 99) #[false,true,false,true,false,false,false,false,false] (any_of HT_.out (by kernel_rfl)) ?_
        refine zpure_ (i:=4) (N:=some 100) #[false,true,false,true,true,false,false,false,false] (any_of HT_.out (by kernel_rfl)) ?_
        refine zpure_ (i:=5) (N:=some 101) #[false,true,false,true,true,true,false,false,false] (any_of HT_.out (by kernel_rfl)) ?_
        refine ztake_ (i:=0) (N:=some 96) #[true,true,false,true,true,true,false,false,false] rfl (take_ofW HT_.out HW_.out (by kernel_rfl)) hHeld (Or.inl ⟨by rfl,by rintro w' ⟨s0,s1⟩;go_simp;with_reducible rfl⟩) ?_
        refine one_ (i:=2) (N:=some 98) #[true,true,true,true,true,true,false,false,false] rfl rfl (one_of HT_.out (by kernel_rfl)) (by decide) (fun K hK=>?_)
        refine goes_ Try.func58 (by kernel_rfl) rfl #[] (by rfl) rfl rfl (by (try simp only[List.map_toArray,List.map_cons,List.map_nil]);first|done|rfl|(simp only[List.length_drop,List.length_take];rfl)) ?_
        with_reducible refine (grottoref03_one.calls  a5 _ dZ.out).mono ?_
        rintro e eK ⟨v848,rfl,ho0,hb⟩
        refine⟨_,rfl,?_⟩
        have ap:=Aside0.mk (Kd.R_lower (Kd.R_new' ho0 (Kd.R_lt (by (with_reducible repeat (first|apply Kd.R_alloc|apply Kd.R_drewN|apply Kd.R_drew));exact I.out))) (below_size (zb HB)))
        replace HO_8:=Aside0.mk (Kd.V_elder' (by (with_reducible repeat (first|apply Kd.V_alloc|apply Kd.V_drewN|apply Kd.V_drew));exact HO_8.out) (Kd.R_base ho0) hb)
        replace HO_10:=Aside0.mk (Kd.V_elder' (by (with_reducible repeat (first|apply Kd.V_alloc|apply Kd.V_drewN|apply Kd.V_drew));exact HO_10.out) (Kd.R_base ho0) hb)
        replace j:=Aside0.mk (Kd.V_elder' (by (with_reducible repeat (first|apply Kd.V_alloc|apply Kd.V_drewN|apply Kd.V_drew));exact j.out) (Kd.R_base ho0) hb)
        replace p:=Aside0.mk (Kd.V_elder' (by (with_reducible repeat (first|apply Kd.V_alloc|apply Kd.V_drewN|apply Kd.V_drew));exact p.out) (Kd.R_base ho0) hb)
        replace I:=Aside0.mk (Kd.R_elder' (by (with_reducible repeat (first|apply Kd.R_alloc|apply Kd.R_drewN|apply Kd.R_drew));exact I.out) (Kd.R_base ho0) hb)
        replace M:=Aside0.mk (Kd.V_elder' (by (with_reducible repeat (first|apply Kd.V_alloc|apply Kd.V_drewN|apply Kd.V_drew));exact M.out) (Kd.R_base ho0) hb)
        obtain⟨a,b,HB⟩:=zu2 a b HB hb
        try clear hb
        (try clear ho0)
        obtain⟨dp,dq,bY⟩:=Kd.V_slice M.out
        (first|subst bY|(injection bY with f1_ f2_ f3_;have f4_:=f1_.symm;have f5_:=f3_.symm;clear f1_ f2_ f3_;subst f4_;subst f5_))
        obtain⟨bE,bF,bZ⟩:=Kd.R_slice ap.out
        (first|subst bZ|(injection bZ with f1_ f2_ f3_;have f4_:=f1_.symm;have f5_:=f3_.symm;clear f1_ f2_ f3_;subst f4_;subst f5_))
        refine hK.out _ _ ⟨(blk_cell a.out 0).trans rfl,(blk_cell a.out 1).trans rfl⟩ (fun hHeld=>?_)
        clear hK K
        refine norm_ (a':=?_) ?_ ?_
        rotate_left
        ·show Act.put _ (some 98) _=_
         simp only[Act.put,List.setIfInBounds_toArray,List.set_cons_zero,List.set_cons_succ,i64_w,i32_w]
         rfl
        refine one_ (i:=6) (N:=some 102) #[true,true,true,true,true,true,true,false,false] rfl rfl (one_of HT_.out (by kernel_rfl)) (by decide) (fun K hK=>?_)
        refine goes_ Try.func57 (by kernel_rfl) rfl #[.agg #[.int .i64 l,.int .i64 q],.bool false,.slice dp bz.length dq,.slice bE a5.length bF,.int .i64 (wrap64 ((wrap64 (Int.tdiv P 2))-1))] (by rfl) rfl rfl (by (try simp only[List.map_toArray,List.map_cons,List.map_nil]);first|done|rfl|(simp only[List.length_drop,List.length_take];rfl)) ?_
        with_reducible refine (grottoref02_Near.calls k3 l q false (fun k_=>((some k_≠(.slice bC a4.length bD:Value).ownBlock∧(k_≠c∧k_≠d))∧some k_≠(.slice bE a5.length bF:Value).ownBlock)) _ _ bz (fun k_=>some k_=(.slice bE a5.length bF:Value).ownBlock) _ _ a5 (wrap64 ((wrap64 (Int.tdiv P 2))-1)) df _ ?side1 ?side2 d0.out).mono ?_
        (case side1=>exact M.out)
        (case side2=>exact Kd.R_V (Kd.R_tight rfl (Kd.R_types (Kd.R_types (ap.out) a.out (by decide)) b.out (by decide))))
        rintro e eL ⟨rfl,hb⟩
        refine⟨_,rfl,?_⟩
        replace HO_8:=Aside0.mk (Kd.V_below (by (with_reducible repeat (first|apply Kd.V_alloc|apply Kd.V_drewN|apply Kd.V_drew));exact HO_8.out) hb)
        replace HO_10:=Aside0.mk (Kd.V_below (by (with_reducible repeat (first|apply Kd.V_alloc|apply Kd.V_drewN|apply Kd.V_drew));exact HO_10.out) hb)
        replace j:=Aside0.mk (Kd.V_below (by (with_reducible repeat (first|apply Kd.V_alloc|apply Kd.V_drewN|apply Kd.V_drew));exact j.out) hb)
        replace p:=Aside0.mk (Kd.V_below (by (with_reducible repeat (first|apply Kd.V_alloc|apply Kd.V_drewN|apply Kd.V_drew));exact p.out) hb)
        replace I:=Aside0.mk (Kd.R_below (by (with_reducible repeat (first|apply Kd.R_alloc|apply Kd.R_drewN|apply Kd.R_drew));exact I.out) hb)
        replace M:=Aside0.mk (Kd.V_below (by (with_reducible repeat (first|apply Kd.V_alloc|apply Kd.V_drewN|apply Kd.V_drew));exact M.out) hb)
        replace ap:=Aside0.mk (Kd.R_below (by (with_reducible repeat (first|apply Kd.R_alloc|apply Kd.R_drewN|apply Kd.R_drew));exact ap.out) hb)
        obtain⟨a,b,HB⟩:=zu2 a b HB hb
        try clear hb
        refine hK.out _ _ ⟨(blk_cell a.out 0).trans rfl,(blk_cell a.out 1).trans rfl⟩ (fun hHeld=>?_)
        clear hK K
        refine norm_ (a':=?_) ?_ ?_
        rotate_left
        ·show Act.put _ (some 102) _=_
         simp only[Act.put,List.setIfInBounds_toArray,List.set_cons_zero,List.set_cons_succ,i64_w,i32_w]
         rfl
        refine zpure_ (i:=7) (N:=some 4) #[true,true,true,true,true,true,true,true,false] (any_of HT_.out (by kernel_rfl)) ?_
        refine zpure_ (i:=8) (N:=some 5) #[true,true,true,true,true,true,true,true,true] (any_of HT_.out (by kernel_rfl)) ?_
        refine done_ (done_of HT_.out (by kernel_rfl)) ?_
        try go_wp2
        go_ret2
        exact zr HB
       rw[if_neg bo] at H
       have cc:decide (a3<0)=false:=decide_eq_false bo
       clear bo
       obtain⟨a6,d2,H⟩:=oB H
       obtain⟨dr,d3,H⟩:=oB H
       simp only[Option.some.injEq,Prod.mk.injEq] at H
       obtain⟨rfl,rfl⟩:=H
       obtain⟨bG,bH,dt⟩:=Kd.V_slice HO_10.out
       subst dt
       try go_wp2_with (first|((with_reducible refine gate_callee (f:=73) rfl ?_);refine zgo (some 86) Try.func73 #[.slice bG s.length bH,.int .i64 1] ?_;(with_reducible refine (grottoref02_Up.calls k3 _ _ s 1 ai _ ?side1 ?side2 dc.out).mono ?_);(case side1=>repeat (first|exact (Kd.V_reads' HO_10.out).2.2|(with_reducible refine Kd.C_alloc ?_ _)|(with_reducible refine Kd.C_drewN ?_ _)|(with_reducible refine Kd.C_drew ?_)));(case side2=>exact (Kd.V_reads' HO_10.out).2.1);rintro e eM ⟨v835,rfl,ho0,hb⟩;refine⟨_,rfl,?_⟩;have j:=Aside0.mk (Kd.V_lower (Kd.V_mono (ok':=fun k_=>k_≠c∧k_≠d) ho0 (fun k_ hk_=>⟨(Kd.freshB (g:=c) (o:=.cells #[.int .i64 l,.int .i64 q] 23 (0,0)) (zk a) k_ hk_),(Kd.freshB (g:=d) (o:=.cells #[.int .i64 D,.bool E,.int .i64 F,.int .u64 G] 34 (0,0)) (zk b) k_ hk_)⟩)) (below_size (zb HB)));replace HO_8:=Aside0.mk (Kd.V_below (by (with_reducible repeat (first|apply Kd.V_alloc|apply Kd.V_drewN|apply Kd.V_drew));exact HO_8.out) hb);replace HO_10:=Aside0.mk (Kd.V_below (by (with_reducible repeat (first|apply Kd.V_alloc|apply Kd.V_drewN|apply Kd.V_drew));exact HO_10.out) hb);obtain⟨a,b,HB⟩:=zu2 a b HB hb;clear hb;(try clear ho0))|((with_reducible refine gate_callee (f:=76) rfl ?_);refine zgo (some 89) Try.func76 #[.slice bG s.length bH,.slice bG s.length bH] ?_;(with_reducible refine (grottoref02_Times.calls k3 _ _ s _ _ s aj _ ?side1 ?side2 ?side3 ?side4 dd.out).mono ?_);(case side1=>repeat (first|exact (Kd.V_reads' HO_10.out).2.2|(with_reducible refine Kd.C_alloc ?_ _)|(with_reducible refine Kd.C_drewN ?_ _)|(with_reducible refine Kd.C_drew ?_)));(case side2=>exact (Kd.V_reads' HO_10.out).2.1);(case side3=>repeat (first|exact (Kd.V_reads' HO_10.out).2.2|(with_reducible refine Kd.C_alloc ?_ _)|(with_reducible refine Kd.C_drewN ?_ _)|(with_reducible refine Kd.C_drew ?_)));(case side4=>exact (Kd.V_reads' HO_10.out).2.1);rintro e eN ⟨v838,rfl,ho0,hb⟩;refine⟨_,rfl,?_⟩;have p:=Aside0.mk (Kd.V_lower (Kd.V_mono (ok':=fun k_=>k_≠c∧k_≠d) ho0 (fun k_ hk_=>⟨(Kd.freshB (g:=c) (o:=.cells #[.int .i64 l,.int .i64 q] 23 (0,0)) (zk a) k_ hk_),(Kd.freshB (g:=d) (o:=.cells #[.int .i64 D,.bool E,.int .i64 F,.int .u64 G] 34 (0,0)) (zk b) k_ hk_)⟩)) (below_size (zb HB)));replace HO_8:=Aside0.mk (Kd.V_below (by (with_reducible repeat (first|apply Kd.V_alloc|apply Kd.V_drewN|apply Kd.V_drew));exact HO_8.out) hb);replace HO_10:=Aside0.mk (Kd.V_below (by (with_reducible repeat (first|apply Kd.V_alloc|apply Kd.V_drewN|apply Kd.V_drew));exact HO_10.out) hb);replace j:=Aside0.mk (Kd.V_below (by (with_reducible repeat (first|apply Kd.V_alloc|apply Kd.V_drewN|apply Kd.V_drew));exact j.out) hb);obtain⟨a,b,HB⟩:=zu2 a b HB hb;clear hb;(try clear ho0);obtain⟨du,dv,dw⟩:=Kd.V_slice p.out;subst dw)|((with_reducible refine gate_callee (f:=75) rfl ?_);refine zgo (some 91) Try.func75 #[.slice du aj.length dv,.slice ad y.length ae] ?_;(with_reducible refine (grottoref02_Cmp.calls k3 _ _ aj _ _ y a3 _ ?side1 ?side2 ?side3 ?side4 de.out).mono ?_);(case side1=>repeat (first|exact (Kd.V_reads' p.out).2.2|(with_reducible refine Kd.C_alloc ?_ _)|(with_reducible refine Kd.C_drewN ?_ _)|(with_reducible refine Kd.C_drew ?_)));(case side2=>exact (Kd.V_reads' p.out).2.1);(case side3=>repeat (first|exact (Kd.V_reads' HO_8.out).2.2|(with_reducible refine Kd.C_alloc ?_ _)|(with_reducible refine Kd.C_drewN ?_ _)|(with_reducible refine Kd.C_drew ?_)));(case side4=>exact (Kd.V_reads' HO_8.out).2.1);rintro e d4 ⟨rfl,hb⟩;refine⟨_,rfl,?_⟩;replace HO_8:=Aside0.mk (Kd.V_below (by (with_reducible repeat (first|apply Kd.V_alloc|apply Kd.V_drewN|apply Kd.V_drew));exact HO_8.out) hb);replace HO_10:=Aside0.mk (Kd.V_below (by (with_reducible repeat (first|apply Kd.V_alloc|apply Kd.V_drewN|apply Kd.V_drew));exact HO_10.out) hb);replace j:=Aside0.mk (Kd.V_below (by (with_reducible repeat (first|apply Kd.V_alloc|apply Kd.V_drewN|apply Kd.V_drew));exact j.out) hb);replace p:=Aside0.mk (Kd.V_below (by (with_reducible repeat (first|apply Kd.V_alloc|apply Kd.V_drewN|apply Kd.V_drew));exact p.out) hb);obtain⟨a,b,HB⟩:=zu2 a b HB hb;clear hb))
       replace HO_8:=Aside0.mk (Kd.V_drew HO_8.out)
       replace HO_10:=Aside0.mk (Kd.V_drew HO_10.out)
       replace j:=Aside0.mk (Kd.V_drew j.out)
       replace p:=Aside0.mk (Kd.V_drew p.out)
       replace a:=Aside0.mk (blk_drew a.out)
       replace b:=Aside0.mk (blk_drew b.out)
       replace HB:=Aside0.mk (below_drew1 HB.out)
       refine start_ (n:=9) (S:=fun w'=>w'.cell? ⟨c,0,none⟩=some (.int .i64 l)∧w'.cell? ⟨c,1,none⟩=some (.int .i64 q)) (ds:=[]) #[false,false,false,false,false,false,false,false,false] (by kernel_rfl) rfl rfl ⟨(blk_cell a.out 0).trans rfl,(blk_cell a.out 1).trans rfl⟩ (fun hHeld=>?_);refine with_tabW grottoref03_Sqrt.tab22 grottoref03_Sqrt.bits22 (fun HT_ HW_=>?_)
       generalize d4.drew=d7 at HO_8 HO_10 j p a b HB hHeld ⊢
       refine zpure_ (i:=1) (N:=some 97) #[false,true,false,false,false,false,false,false,false] (any_of HT_.out (by kernel_rfl)) ?_
       refine zpure_ (i:=3) (N:=some 99) #[false,true,false,true,false,false,false,false,false] (any_of HT_.out (by kernel_rfl)) ?_
       refine zpure_ (i:=4) (N:=some 100) #[false,true,false,true,true,false,false,false,false] (any_of HT_.out (by kernel_rfl)) ?_
       refine zpure_ (i:=5) (N:=some 101) #[false,true,false,true,true,true,false,false,false] (any_of HT_.out (by kernel_rfl)) ?_
       refine ztake_ (i:=0) (N:=some 96) #[true,true,false,true,true,true,false,false,false] rfl (take_ofW HT_.out HW_.out (by kernel_rfl)) hHeld (Or.inl ⟨by rfl,by rintro w' ⟨s0,s1⟩;go_simp;with_reducible rfl⟩) ?_
       refine one_ (i:=2) (N:=some 98) #[true,true,true,true,true,true,false,false,false] rfl rfl (one_of HT_.out (by kernel_rfl)) (by decide) (fun K hK=>?_)
       refine goes_ Try.func58 (by kernel_rfl) rfl #[] (by rfl) rfl rfl (by (try simp only[List.map_toArray,List.map_cons,List.map_nil]);first|done|rfl|(simp only[List.length_drop,List.length_take];rfl)) ?_
       with_reducible refine (grottoref03_one.calls  a6 _ d2.out).mono ?_
       rintro e d8 ⟨v852,rfl,ho0,hb⟩
       refine⟨_,rfl,?_⟩
       have aq:=Aside0.mk (Kd.R_lower ho0 (below_size (zb HB)))
       replace HO_8:=Aside0.mk (Kd.V_elder' (by (with_reducible repeat (first|apply Kd.V_alloc|apply Kd.V_drewN|apply Kd.V_drew));exact HO_8.out) (Kd.R_base ho0) hb)
       replace HO_10:=Aside0.mk (Kd.V_elder' (by (with_reducible repeat (first|apply Kd.V_alloc|apply Kd.V_drewN|apply Kd.V_drew));exact HO_10.out) (Kd.R_base ho0) hb)
       replace j:=Aside0.mk (Kd.V_elder' (by (with_reducible repeat (first|apply Kd.V_alloc|apply Kd.V_drewN|apply Kd.V_drew));exact j.out) (Kd.R_base ho0) hb)
       replace p:=Aside0.mk (Kd.V_elder' (by (with_reducible repeat (first|apply Kd.V_alloc|apply Kd.V_drewN|apply Kd.V_drew));exact p.out) (Kd.R_base ho0) hb)
       obtain⟨a,b,HB⟩:=zu2 a b HB hb
       try clear hb
       (try clear ho0)
       obtain⟨cd,ce,bI⟩:=Kd.V_slice j.out
       (first|subst bI|(injection bI with f1_ f2_ f3_;have f4_:=f1_.symm;have f5_:=f3_.symm;clear f1_ f2_ f3_;subst f4_;subst f5_))
       obtain⟨bb,bc,bJ⟩:=Kd.R_slice aq.out
       (first|subst bJ|(injection bJ with f1_ f2_ f3_;have f4_:=f1_.symm;have f5_:=f3_.symm;clear f1_ f2_ f3_;subst f4_;subst f5_))
       refine hK.out _ _ ⟨(blk_cell a.out 0).trans rfl,(blk_cell a.out 1).trans rfl⟩ (fun hHeld=>?_)
       clear hK K
       refine norm_ (a':=?_) ?_ ?_
       rotate_left
       ·show Act.put _ (some 98) _=_
        simp only[Act.put,List.setIfInBounds_toArray,List.set_cons_zero,List.set_cons_succ,i64_w,i32_w]
        rfl
       refine one_ (i:=6) (N:=some 102) #[true,true,true,true,true,true,true,false,false] rfl rfl (one_of HT_.out (by kernel_rfl)) (by decide) (fun K hK=>?_)
       refine goes_ Try.func57 (by kernel_rfl) rfl #[.agg #[.int .i64 l,.int .i64 q],.bool false,.slice cd ai.length ce,.slice bb a6.length bc,.int .i64 (wrap64 ((wrap64 (Int.tdiv P 2))-1))] (by rfl) rfl rfl (by (try simp only[List.map_toArray,List.map_cons,List.map_nil]);first|done|rfl|(simp only[List.length_drop,List.length_take];rfl)) ?_
       with_reducible refine (grottoref02_Near.calls k3 l q false (fun k_=>((k_≠c∧k_≠d)∧some k_≠(.slice bb a6.length bc:Value).ownBlock)) _ _ ai (fun k_=>some k_=(.slice bb a6.length bc:Value).ownBlock) _ _ a6 (wrap64 ((wrap64 (Int.tdiv P 2))-1)) dr _ ?side1 ?side2 d3.out).mono ?_
       (case side1=>exact j.out)
       (case side2=>exact Kd.R_V (Kd.R_tight rfl (Kd.R_types (Kd.R_types (aq.out) a.out (by decide)) b.out (by decide))))
       rintro e d9 ⟨rfl,hb⟩
       refine⟨_,rfl,?_⟩
       replace HO_8:=Aside0.mk (Kd.V_below (by (with_reducible repeat (first|apply Kd.V_alloc|apply Kd.V_drewN|apply Kd.V_drew));exact HO_8.out) hb)
       replace HO_10:=Aside0.mk (Kd.V_below (by (with_reducible repeat (first|apply Kd.V_alloc|apply Kd.V_drewN|apply Kd.V_drew));exact HO_10.out) hb)
       replace j:=Aside0.mk (Kd.V_below (by (with_reducible repeat (first|apply Kd.V_alloc|apply Kd.V_drewN|apply Kd.V_drew));exact j.out) hb)
       replace p:=Aside0.mk (Kd.V_below (by (with_reducible repeat (first|apply Kd.V_alloc|apply Kd.V_drewN|apply Kd.V_drew));exact p.out) hb)
       replace aq:=Aside0.mk (Kd.R_below (by (with_reducible repeat (first|apply Kd.R_alloc|apply Kd.R_drewN|apply Kd.R_drew));exact aq.out) hb)
       obtain⟨a,b,HB⟩:=zu2 a b HB hb
       try clear hb
       refine hK.out _ _ ⟨(blk_cell a.out 0).trans rfl,(blk_cell a.out 1).trans rfl⟩ (fun hHeld=>?_)
       clear hK K
       refine norm_ (a':=?_) ?_ ?_
       rotate_left
       ·show Act.put _ (some 102) _=_
        simp only[Act.put,List.setIfInBounds_toArray,List.set_cons_zero,List.set_cons_succ,i64_w,i32_w]
        rfl
       refine zpure_ (i:=7) (N:=some 4) #[true,true,true,true,true,true,true,true,false] (any_of HT_.out (by kernel_rfl)) ?_
       refine zpure_ (i:=8) (N:=some 5) #[true,true,true,true,true,true,true,true,true] (any_of HT_.out (by kernel_rfl)) ?_
       refine done_ (done_of HT_.out (by kernel_rfl)) ?_
       try go_wp2
       go_ret2
       exact zr HB
end Go.Proofs.Ytmmbgbchimangaa.PQ
