-- by a program of this claim
import Derived.Test.YtmmbgbchimangaaPQx0
import Derived.Test.YtmmbgbchimangaaPQx10
namespace Go.Proofs.Ytmmbgbchimangaa.PQ
open Go.RowKit Go.Proofs.YtmmbgbchimangaaW.PrintWords Go.Proofs.YtmmbgbchimangaaW.PrintLast Go.Proofs.YtmmbgbchimangaaW.PrintMore Go.Proofs.Ytmmbgbchimangaa.Z
attribute [local go_sem] max2_int min2_int max_two min_two max_three min_three max_four min_four   -- for this text's walks alone
set_option linter.unusedVariables false
set_option linter.unusedSimpArgs false

/-! ### grottoref02_Times: function 76 -/
mutual
def grottoref02_Times.l0:Nat→List Int→List Int→List Int→Int→Option (List Int)
 | 0,_,_,_,_=>none
 | k+1,a,d,b,c=>if c<(a.length:Int) then (grottoref02_Times.l1 k a d b c 0 0) else ((grottoref02_trim.f k b).bind fun e=>(some e))
def grottoref02_Times.l1:Nat→List Int→List Int→List Int→Int→Int→Int→Option (List Int)
 | 0,_,_,_,_,_,_=>none
 | k+1,d,a,e,f,b,c=>if c<(a.length:Int) then (grottoref02_Times.j2 k d a e f b c true) else (grottoref02_Times.j2 k d a e f b c (decide (b>0)))
def grottoref02_Times.j2:Nat→List Int→List Int→List Int→Int→Int→Int→Bool→Option (List Int)
 | 0,_,_,_,_,_,_,_=>none
 | k+1,d,e,c,a,f,b,g=>if g=true then (if 0≤(wrap64 (a+b)) then (if (wrap64 (a+b))<(c.length:Int) then (if b<(e.length:Int) then (if 0≤a then (if a<(d.length:Int) then (if 0≤b then (grottoref02_Times.l1 k d e (c.set ((wrap64 (a+b)):Int).toNat (Int.tmod (wrap64 ((wrap64 ((rd c (wrap64 (a+b)))+f))+(wrap64 ((rd d a)*(rd e b))))) 65536)) a (wrap64 (Int.tdiv (wrap64 ((wrap64 ((rd c (wrap64 (a+b)))+f))+(wrap64 ((rd d a)*(rd e b))))) 65536)) (wrap64 (b+1))) else (none)) else (none)) else (none)) else (grottoref02_Times.l1 k d e (c.set ((wrap64 (a+b)):Int).toNat (Int.tmod (wrap64 ((rd c (wrap64 (a+b)))+f)) 65536)) a (wrap64 (Int.tdiv (wrap64 ((rd c (wrap64 (a+b)))+f)) 65536)) (wrap64 (b+1)))) else (none)) else (none)) else (grottoref02_Times.l0 k d e c (wrap64 (a+1)))
end
def grottoref02_Times.f (k:Nat) (l0:List Int) (l1:List Int):Option (List Int):=if 0≤(wrap64 ((wrap64 ((l0.length:Int)+(l1.length:Int)))+1)) then (if (wrap64 ((wrap64 ((l0.length:Int)+(l1.length:Int)))+1):Int).toNat≤35184372088832 then (grottoref02_Times.l0 k l0 l1 (List.replicate (wrap64 ((wrap64 ((l0.length:Int)+(l1.length:Int)))+1):Int).toNat 0) 0) else (none)) else (none)
theorem grottoref02_Times.mono_l:∀ k,(∀ y0 y1 y2 y3,LeO (grottoref02_Times.l0 k y0 y1 y2 y3) (grottoref02_Times.l0 (k+1) y0 y1 y2 y3))∧(∀ y0 y1 y2 y3 y4 y5,LeO (grottoref02_Times.l1 k y0 y1 y2 y3 y4 y5) (grottoref02_Times.l1 (k+1) y0 y1 y2 y3 y4 y5))∧(∀ y0 y1 y2 y3 y4 y5 y6,LeO (grottoref02_Times.j2 k y0 y1 y2 y3 y4 y5 y6) (grottoref02_Times.j2 (k+1) y0 y1 y2 y3 y4 y5 y6))
 | 0=>⟨fun _ _ _ _ r h=>by simp[grottoref02_Times.l0] at h,fun _ _ _ _ _ _ r h=>by simp[grottoref02_Times.l1] at h,fun _ _ _ _ _ _ _ r h=>by simp[grottoref02_Times.j2] at h⟩
 | k+1=>by
  obtain⟨ih0,ih1,ih2⟩:=grottoref02_Times.mono_l k
  refine⟨?_,?_,?_⟩ <;> intros <;> (first|unfold grottoref02_Times.l0|unfold grottoref02_Times.l1|unfold grottoref02_Times.j2) <;> (repeat' first|(with_reducible first|apply ih0|apply ih1|apply ih2|apply grottoref02_trim.mono|exact LeO.refl _|exact LeO.none _|refine LeO.ite ?_ ?_|refine LeO.bind ?_ (fun _=>?_))|refine LeO.ite ?_ ?_|refine LeO.bind ?_ (fun _=>?_))
theorem grottoref02_Times.mono:∀ a0 a1 k,LeO (grottoref02_Times.f k a0 a1) (grottoref02_Times.f (k+1) a0 a1):=by
 intro a0 a1 k
 obtain⟨ih0,ih1,ih2⟩:=grottoref02_Times.mono_l k
 unfold grottoref02_Times.f
 repeat' first|(with_reducible first|apply ih0|apply ih1|apply ih2|apply grottoref02_trim.mono|exact LeO.refl _|exact LeO.none _|refine LeO.ite ?_ ?_|refine LeO.bind ?_ (fun _=>?_))|refine LeO.ite ?_ ?_|refine LeO.bind ?_ (fun _=>?_)
set_option maxHeartbeats 8000000 in
set_option maxRecDepth 100000 in
theorem grottoref02_Times.calls (k:Nat) (A0:Option Addr) (c0:Nat) (l0:List Int) (A1:Option Addr) (c1:Nat) (l1:List Int) (r:List Int) (w:World) (hr0:Kd.C (Kd.int .i64) w A0 l0.length l0) (hc0:l0.length≤c0) (hr1:Kd.C (Kd.int .i64) w A1 l1.length l1) (hc1:l1.length≤c1) (h:grottoref02_Times.f k l0 l1=some r) :
  Calls Try.prog 76 #[.slice A0 l0.length c0,.slice A1 l1.length c1] w fun e w'=>∃ v0_:Value,e=.returned (v0_)∧Kd.V (Kd.int .i64) 3 w' w.heap.size (fun k_=>(w.heap.size≤k_)) v0_ r∧Below w.heap.size w w':=by
 have aI:=Aside0.mk hr0
 have a2:=Aside0.mk hc0
 clear hr0 hc0
 have aJ:=Aside0.mk hr1
 have a3:=Aside0.mk hc1
 clear hr1 hc1
 have HB:=Aside0.mk (Below.refl w.heap.size w)
 have H:=h
 unfold grottoref02_Times.f at H
 clear h
 obtain⟨j,J⟩:∃ j_:Int,(wrap64 ((wrap64 ((l0.length:Int)+(l1.length:Int)))+1))=j_:=⟨_,rfl⟩
 first|rw[J] at H|simp only[J] at H
 have aK:(IntKind.i64.wrap ((wrap64 ((l0.length:Int)+(l1.length:Int)))+1))=j:=(i64_w _).trans J
 by_cases c4:0≤(j)
 rotate_left
 ·rw[if_neg c4] at H
  exact absurd H (by simp)

 rw[if_pos c4] at H
 have P:=eq_true c4
 have Q:decide (0≤(j))=true:=decide_eq_true c4
 clear c4
 by_cases c5:(j:Int).toNat≤35184372088832
 rotate_left
 ·rw[if_neg c5] at H
  exact absurd H (by simp)
 rw[if_pos c5] at H
 have S:=eq_true c5
 have T:decide ((j:Int).toNat≤35184372088832)=true:=decide_eq_true c5
 clear c5
 obtain⟨y791,hy791⟩:∃ y_:List Int,y_=(List.replicate (j:Int).toNat 0):=⟨_,rfl⟩
 replace H:(grottoref02_Times.l0 k l0 l1 y791 0)=some r:=by first|(rw[hy791];with_reducible exact H)|(have H2_:=(Option.bind_some _ _).symm.trans H;rw[hy791];with_reducible exact H2_)|(have H2_:=(Option.bind_some _ _).symm.trans H;with_reducible exact H2_)|with_reducible exact H|(rw[hy791];exact H)|exact H
 have l:=Aside0.mk hy791
 clear hy791
 have H':=Aside0.mk H
 clear H
 go_enter Try.func76,Try.ntmps76
 go_wp2_with (first|((with_reducible refine gate_dst (N:=16) rfl ?_);refine Kd.R_make (Kd.int .i64) _ 3 rfl (N:=16) rfl 71 _ _ rfl j rfl rfl Try.underlying71 (.int .i64 0) 8 info3 rfl (by decide) (by omega) 0 (ok:=fun _=>True) (okp:=fun _=>True) rfl (fun _ hk=>hk) trivial (of_decide_eq_true (by first|(with_reducible assumption)|assumption)) (Nat.le_trans (Nat.mul_le_mul_right _ (of_decide_eq_true (by first|(with_reducible assumption)|assumption):j.toNat≤35184372088832)) (by omega)) (Below.refl _ _) (Nat.le_refl _) ?_;intro v792 w6 ho7 hb hg_ hnew_;clear hg_ hnew_;(first|rw[←l.out] at ho7|(simp only[Int.reduceToNat] at ho7;rw[←l.out] at ho7));have F:=Aside0.mk (Kd.R_lower (Kd.R_newM (M:=fun k_=>(w.heap.size≤k_)) ho7 (below_size (zb HB)) (fun k_ h_=>h_)) (below_size (zb HB)));replace HB:=zbs HB hb;clear hb ho7))
 repeat (go_quiet (first|((with_reducible refine gate_dst (N:=16) rfl ?_);refine Kd.R_make (Kd.int .i64) _ 3 rfl (N:=16) rfl 71 _ _ rfl j rfl rfl Try.underlying71 (.int .i64 0) 8 info3 rfl (by decide) (by omega) 0 (ok:=fun _=>True) (okp:=fun _=>True) rfl (fun _ hk=>hk) trivial (of_decide_eq_true (by first|(with_reducible assumption)|assumption)) (Nat.le_trans (Nat.mul_le_mul_right _ (of_decide_eq_true (by first|(with_reducible assumption)|assumption):j.toNat≤35184372088832)) (by omega)) (Below.refl _ _) (Nat.le_refl _) ?_;intro v792 w6 ho7 hb hg_ hnew_;clear hg_ hnew_;(first|rw[←l.out] at ho7|(simp only[Int.reduceToNat] at ho7;rw[←l.out] at ho7));have F:=Aside0.mk (Kd.R_lower (Kd.R_newM (M:=fun k_=>(w.heap.size≤k_)) ho7 (below_size (zb HB)) (fun k_ h_=>h_)) (below_size (zb HB)));replace HB:=zbs HB hb;clear hb ho7));try go_wp2_with (first|((with_reducible refine gate_dst (N:=16) rfl ?_);refine Kd.R_make (Kd.int .i64) _ 3 rfl (N:=16) rfl 71 _ _ rfl j rfl rfl Try.underlying71 (.int .i64 0) 8 info3 rfl (by decide) (by omega) 0 (ok:=fun _=>True) (okp:=fun _=>True) rfl (fun _ hk=>hk) trivial (of_decide_eq_true (by first|(with_reducible assumption)|assumption)) (Nat.le_trans (Nat.mul_le_mul_right _ (of_decide_eq_true (by first|(with_reducible assumption)|assumption):j.toNat≤35184372088832)) (by omega)) (Below.refl _ _) (Nat.le_refl _) ?_;intro v792 w6 ho7 hb hg_ hnew_;clear hg_ hnew_;(first|rw[←l.out] at ho7|(simp only[Int.reduceToNat] at ho7;rw[←l.out] at ho7));have F:=Aside0.mk (Kd.R_lower (Kd.R_newM (M:=fun k_=>(w.heap.size≤k_)) ho7 (below_size (zb HB)) (fun k_ h_=>h_)) (below_size (zb HB)));replace HB:=zbs HB hb;clear hb ho7)))
 go_loopg [6] k (fun kq v6 w'=>∃ (i:List Int) (d:Int),v6=.int .i64 d∧Aside0 (grottoref02_Times.l0 kq l0 l1 i d=some r)∧Aside0 (kq≤k)∧Aside0 (Kd.R (Kd.int .i64) 3 w' w.heap.size (fun k_=>(w.heap.size≤k_)) v792 i)∧Aside0 (Below w.heap.size w w'))
 case atStart=>exact⟨(y791),(0),(by first|rfl|(simp[*];done)),H',⟨Nat.le_refl _⟩,⟨by (with_reducible repeat (first|apply Kd.R_alloc|apply Kd.R_drewN|apply Kd.R_drew));exact Kd.R_mono F.out (fun _ hk=>hk.1)⟩,⟨zb HB⟩⟩
 case round =>
  clear H'
  try clear c1 P Q S T
  obtain⟨i,d,rfl,HA,D,HO_5,HB⟩:=hrel
  cases gk with
  | zero=>exact absurd HA.out (by simp[grottoref02_Times.l0])
  | succ k1 =>
   have H:=HA.out
   clear HA
   simp only[grottoref02_Times.l0] at H
   by_cases c8:d<(l0.length:Int)
   rotate_left
   ·rw[if_neg c8] at H
    have U:decide (d<(l0.length:Int))=false:=decide_eq_false c8
    clear c8
    obtain⟨ac,ay,H⟩:=oB H
    obtain rfl:=Option.some.inj H
    obtain⟨ad,ae,aF⟩:=Kd.R_slice HO_5.out
    subst aF
    go_wp2_with (first|(go_at_call 91;(with_reducible refine (grottoref02_trim.calls k1 (fun k_=>some k_=(.slice ad i.length ae:Value).ownBlock) _ _ i ac _ ?side1 ay.out).mono ?_);(case side1=>exact Kd.R_V (Kd.R_tight rfl (HO_5.out)));rintro e aG ⟨v795,rfl,ho0,hb⟩;have I:=Aside0.mk (Kd.V_lower (Kd.V_mono (ok':=fun k_=>(w.heap.size≤k_)) ho0 (fun k_ hk_=>Or.elim hk_ (fun hs_=>((HO_5.out).1 k_ hs_.symm)) (fun hn_=>(Nat.le_trans (below_size (zb HB)) hn_)))) (below_size (zb HB)));replace HO_5:=Aside0.mk (Kd.R_below (by (with_reducible repeat (first|apply Kd.R_alloc|apply Kd.R_drewN|apply Kd.R_drew));exact HO_5.out) hb);replace HB:=zbs HB hb;clear hb;(try clear ho0)))
    repeat (go_quiet (first|(go_at_call 91;(with_reducible refine (grottoref02_trim.calls k1 (fun k_=>some k_=(.slice ad i.length ae:Value).ownBlock) _ _ i ac _ ?side1 ay.out).mono ?_);(case side1=>exact Kd.R_V (Kd.R_tight rfl (HO_5.out)));rintro e aG ⟨v795,rfl,ho0,hb⟩;have I:=Aside0.mk (Kd.V_lower (Kd.V_mono (ok':=fun k_=>(w.heap.size≤k_)) ho0 (fun k_ hk_=>Or.elim hk_ (fun hs_=>((HO_5.out).1 k_ hs_.symm)) (fun hn_=>(Nat.le_trans (below_size (zb HB)) hn_)))) (below_size (zb HB)));replace HO_5:=Aside0.mk (Kd.R_below (by (with_reducible repeat (first|apply Kd.R_alloc|apply Kd.R_drewN|apply Kd.R_drew));exact HO_5.out) hb);replace HB:=zbs HB hb;clear hb;(try clear ho0)));try go_wp2_with (first|(go_at_call 91;(with_reducible refine (grottoref02_trim.calls k1 (fun k_=>some k_=(.slice ad i.length ae:Value).ownBlock) _ _ i ac _ ?side1 ay.out).mono ?_);(case side1=>exact Kd.R_V (Kd.R_tight rfl (HO_5.out)));rintro e aG ⟨v795,rfl,ho0,hb⟩;have I:=Aside0.mk (Kd.V_lower (Kd.V_mono (ok':=fun k_=>(w.heap.size≤k_)) ho0 (fun k_ hk_=>Or.elim hk_ (fun hs_=>((HO_5.out).1 k_ hs_.symm)) (fun hn_=>(Nat.le_trans (below_size (zb HB)) hn_)))) (below_size (zb HB)));replace HO_5:=Aside0.mk (Kd.R_below (by (with_reducible repeat (first|apply Kd.R_alloc|apply Kd.R_drewN|apply Kd.R_drew));exact HO_5.out) hb);replace HB:=zbs HB hb;clear hb;(try clear ho0))))
    go_ret
    exact⟨_,by first|rfl|(simp[errW_none,errW_some] <;> rfl)|(simp only[←J];first|rfl|(simp[errW_none,errW_some] <;> rfl))|(simp[*,errW_none,errW_some] <;> rfl),by (with_reducible repeat (first|apply Kd.V_alloc|apply Kd.V_drewN|apply Kd.V_drew));exact I.out,zb HB⟩
   rw[if_pos c8] at H
   have U:decide (d<(l0.length:Int))=true:=decide_eq_true c8
   clear c8
   have H':=Aside0.mk H
   clear H
   go_wp2
   repeat (go_quiet (fail);try go_wp2)
   go_loopg [7,8] k1 (fun kq v7 v8 w'=>∃ (b:List Int) (g:Int) (c:Int),v7=.int .i64 g∧v8=.int .i64 c∧Aside0 (grottoref02_Times.l1 kq l0 l1 b d g c=some r)∧Aside0 (kq≤k1)∧Aside0 (Kd.R (Kd.int .i64) 3 w' w.heap.size (fun k_=>(w.heap.size≤k_)) v792 b)∧Aside0 (Below w.heap.size w w'))
   case atStart=>exact⟨(i),(0),(0),(by first|rfl|(simp[*];done)),(by first|rfl|(simp[*];done)),H',⟨Nat.le_refl _⟩,⟨by (with_reducible repeat (first|apply Kd.R_alloc|apply Kd.R_drewN|apply Kd.R_drew));exact HO_5.out⟩,⟨zb HB⟩⟩
   case round =>
    clear H'
    try clear c1 p2 P Q S T p6 c7 U p2 p6
    obtain⟨b,g,c,rfl,rfl,HA,E,HO_5,HB⟩:=hrel
    cases gk with
    | zero=>exact absurd HA.out (by simp[grottoref02_Times.l1])
    | succ k2 =>
     have H:=HA.out
     clear HA
     simp only[grottoref02_Times.l1] at H
     have ap:=Aside0.mk H
     clear H
     go_upto_region 7 with (fail)
     repeat (go_quiet (fail);go_upto_region 7 with (fail))
     go_cut [30] (fun v30 wc=>∃ (kq:Nat) (y:Bool),v30=.bool y∧Aside0 (grottoref02_Times.j2 kq l0 l1 b d g c y=some r)∧Aside0 (kq≤k2)∧Aside0 (Kd.R (Kd.int .i64) 3 wc w.heap.size (fun k_=>(w.heap.size≤k_)) v792 b)∧Aside0 (Below w.heap.size w wc))
     case first =>
      have H:=ap.out
      clear ap
      by_cases K:c<(l1.length:Int)
      ·rw[if_pos K] at H
       have m:decide (c<(l1.length:Int))=true:=decide_eq_true K
       clear K
       (first|rw[m]|(simp only[i64_w,i32_w];rw[m])|skip)
       have H':=Aside0.mk H
       clear H
       go_wp2
       repeat (go_quiet (fail);try go_wp2)
       go_meet
       case rel=>exact⟨_,(true),(by first|rfl|(simp[*];done)),H',⟨by have:=D.out;have:=E.out;first|omega|exact Nat.le_refl _⟩,⟨by (with_reducible repeat (first|apply Kd.R_alloc|apply Kd.R_drewN|apply Kd.R_drew));exact HO_5.out⟩,⟨zb HB⟩⟩
      rw[if_neg K] at H
      have m:decide (c<(l1.length:Int))=false:=decide_eq_false K
      clear K
      (first|rw[m]|(simp only[i64_w,i32_w];rw[m])|skip)
      have H':=Aside0.mk H
      clear H
      go_wp2
      repeat (go_quiet (fail);try go_wp2)
      go_meet
      case rel=>exact⟨_,(decide (g>0)),(by first|rfl|(simp[*];done)),H',⟨by have:=D.out;have:=E.out;first|omega|exact Nat.le_refl _⟩,⟨by (with_reducible repeat (first|apply Kd.R_alloc|apply Kd.R_drewN|apply Kd.R_drew));exact HO_5.out⟩,⟨zb HB⟩⟩
     case rest =>
      clear ap
      try clear c1 p2 P Q S T p6 c7 U p2 p6
      obtain⟨kq,y,rfl,HA,L,HO_5,HB⟩:=hcut
      cases kq with
      | zero=>exact absurd HA.out (by simp[grottoref02_Times.j2])
      | succ G =>
       have H:=HA.out
       clear HA
       simp only[grottoref02_Times.j2] at H
       by_cases af:y=true
       rotate_left
       ·replace af:=Bool.eq_false_iff.mpr af
        subst af
        rw[if_neg nft] at H
        have H':=Aside0.mk H
        clear H
        go_wp2
        repeat (go_quiet (fail);try go_wp2)
        go_roundg G
        case measure=>have:=D.out;have:=E.out;have:=L.out;omega
        case rel=>exact⟨(b),(wrap64 (d+1)),(by first|rfl|(simp[*];done)),H',⟨by have:=D.out;have:=E.out;have:=L.out;omega⟩,⟨by (with_reducible repeat (first|apply Kd.R_alloc|apply Kd.R_drewN|apply Kd.R_drew));exact HO_5.out⟩,⟨zb HB⟩⟩
       subst af
       rw[if_pos rfl] at H
       obtain⟨a,n⟩:∃ j_:Int,(wrap64 (d+c))=j_:=⟨_,rfl⟩
       first|rw[n] at H|simp only[n] at H
       have aH:(IntKind.i64.wrap (d+c))=a:=(i64_w _).trans n
       by_cases ag:0≤(a)
       rotate_left
       ·rw[if_neg ag] at H
        exact absurd H (by simp)
       rw[if_pos ag] at H
       have aN:decide (0≤(a))=true:=decide_eq_true ag
       clear ag
       by_cases ah:(a)<(b.length:Int)
       rotate_left
       ·rw[if_neg ah] at H
        exact absurd H (by simp)
       rw[if_pos ah] at H
       have aO:decide ((a)<(b.length:Int))=true:=decide_eq_true ah
       clear ah
       by_cases O:c<(l1.length:Int)
       rotate_left
       ·rw[if_neg O] at H
        have aq:decide (c<(l1.length:Int))=false:=decide_eq_false O
        clear O
        obtain⟨y801,hy801⟩:∃ y_:List Int,y_=(b.set ((a):Int).toNat (Int.tmod (wrap64 ((rd b (a))+g)) 65536)):=⟨_,rfl⟩
        replace H:(grottoref02_Times.l1 G l0 l1 y801 d (wrap64 (Int.tdiv (wrap64 ((rd b (a))+g)) 65536)) (wrap64 (c+1)))=some r:=by first|(rw[hy801];with_reducible exact H)|(have H2_:=(Option.bind_some _ _).symm.trans H;rw[hy801];with_reducible exact H2_)|(have H2_:=(Option.bind_some _ _).symm.trans H;with_reducible exact H2_)|with_reducible exact H|(rw[hy801];exact H)|exact H
        have B:=Aside0.mk hy801
        clear hy801
        have H':=Aside0.mk H
        clear H
        obtain⟨a0,ab,aE⟩:=Kd.R_slice HO_5.out
        subst aE
        have o:0≤((a):Int):=of_decide_eq_true (by first|(with_reducible assumption)|assumption)
        have q:(a)<(b.length:Int):=of_decide_eq_true (by first|(with_reducible assumption)|assumption)
        obtain⟨ar,e797,hx797_0⟩:=Kd.at_int (Kd.R_reads' HO_5.out).2.2 (a) o q
        cases e797
        replace o:=eq_true o
        replace q:=eq_true q
        have aw:0≤((a):Int):=of_decide_eq_true (by first|(with_reducible assumption)|assumption)
        have ax:((a):Int)<((b.length:Int):Int):=of_decide_eq_true (by first|(with_reducible assumption)|assumption)
        obtain⟨go23,a1,an,ao,gl23,cl23,HG23⟩:=Kd.R_form HO_5.out (by omega)
        (first|cases an|(injection an with ea_ en_ ec_;(first|subst ea_|(injection ea_ with ea_;subst ea_));subst ec_;clear en_))
        have GB23:=Aside0.mk ao
        have GG23:=Aside0.mk HG23
        clear ao gl23 HG23
        (first|simp only[add_plain] at hx797_0|skip)
        obtain⟨hx23_0,hf23_0⟩:=Kd.R_celln 0 HO_5.out ((a):Int) aw ax
        replace aw:=eq_true aw
        replace ax:=eq_true ax
        have HP25:=Kd.R_putg HO_5.out ((a):Int) (Int.tmod (wrap64 ((rd b (a))+g)) 65536)
        go_wp2_with (first|((with_reducible refine gate_store (t:=3) (p:=62) rfl ?_);(try (rw[drewN_self wc];generalize hq_:World.drewN wc _=wc;have n0_:=Aside0.mk (Kd.R_at hq_ HO_5.out);have n1_:=Aside0.mk (below_at hq_ HB.out);clear hq_ HO_5 HB;have HO_5:=n0_;have HB:=n1_;clear n0_ n1_;(try (have HP25:=Kd.R_putg HO_5.out ((a):Int) (Int.tmod (wrap64 ((rd b (a))+g)) 65536)))));refine store_event (t:=3) (p:=62) (v:=?vo_w26) (w1:=(wc.setCell ⟨go23,((a):Int).toNat,none⟩ (.int .i64 (Int.tmod (wrap64 ((rd b (a))+g)) 65536)))) ?hg ?ho ?hn ?hr ?_;(case ho=>rfl);(case hg=>rfl);(case hn=>rfl);(case hr=>first|(go_simp;done)|(go_simp;rfl));intro u hw;have hg:wc.grownBy u (some go23):=(by rw[hw];exact HP25.2);have hp_:Kd.R (Kd.int .i64) 3 u w.heap.size (fun k_=>(w.heap.size≤k_)) (.slice (some ⟨go23,0,none⟩) b.length ab) y801:=(by rw[hw,B.out];exact HP25.1);clear HP25;replace HO_5:=Aside0.mk (hp_);replace HB:=Aside0.mk ((by rw[hw];exact below_set (HB.out) GB23.out:Below w.heap.size w u));clear hg hw hp_))
        repeat (go_quiet (first|((with_reducible refine gate_store (t:=3) (p:=62) rfl ?_);(try (rw[drewN_self wc];generalize hq_:World.drewN wc _=wc;have n0_:=Aside0.mk (Kd.R_at hq_ HO_5.out);have n1_:=Aside0.mk (below_at hq_ HB.out);clear hq_ HO_5 HB;have HO_5:=n0_;have HB:=n1_;clear n0_ n1_;(try (have HP25:=Kd.R_putg HO_5.out ((a):Int) (Int.tmod (wrap64 ((rd b (a))+g)) 65536)))));refine store_event (t:=3) (p:=62) (v:=?vo_w26) (w1:=(wc.setCell ⟨go23,((a):Int).toNat,none⟩ (.int .i64 (Int.tmod (wrap64 ((rd b (a))+g)) 65536)))) ?hg ?ho ?hn ?hr ?_;(case ho=>rfl);(case hg=>rfl);(case hn=>rfl);(case hr=>first|(go_simp;done)|(go_simp;rfl));intro u hw;have hg:wc.grownBy u (some go23):=(by rw[hw];exact HP25.2);have hp_:Kd.R (Kd.int .i64) 3 u w.heap.size (fun k_=>(w.heap.size≤k_)) (.slice (some ⟨go23,0,none⟩) b.length ab) y801:=(by rw[hw,B.out];exact HP25.1);clear HP25;replace HO_5:=Aside0.mk (hp_);replace HB:=Aside0.mk ((by rw[hw];exact below_set (HB.out) GB23.out:Below w.heap.size w u));clear hg hw hp_));try go_wp2_with (first|((with_reducible refine gate_store (t:=3) (p:=62) rfl ?_);(try (rw[drewN_self wc];generalize hq_:World.drewN wc _=wc;have n0_:=Aside0.mk (Kd.R_at hq_ HO_5.out);have n1_:=Aside0.mk (below_at hq_ HB.out);clear hq_ HO_5 HB;have HO_5:=n0_;have HB:=n1_;clear n0_ n1_;(try (have HP25:=Kd.R_putg HO_5.out ((a):Int) (Int.tmod (wrap64 ((rd b (a))+g)) 65536)))));refine store_event (t:=3) (p:=62) (v:=?vo_w26) (w1:=(wc.setCell ⟨go23,((a):Int).toNat,none⟩ (.int .i64 (Int.tmod (wrap64 ((rd b (a))+g)) 65536)))) ?hg ?ho ?hn ?hr ?_;(case ho=>rfl);(case hg=>rfl);(case hn=>rfl);(case hr=>first|(go_simp;done)|(go_simp;rfl));intro u hw;have hg:wc.grownBy u (some go23):=(by rw[hw];exact HP25.2);have hp_:Kd.R (Kd.int .i64) 3 u w.heap.size (fun k_=>(w.heap.size≤k_)) (.slice (some ⟨go23,0,none⟩) b.length ab) y801:=(by rw[hw,B.out];exact HP25.1);clear HP25;replace HO_5:=Aside0.mk (hp_);replace HB:=Aside0.mk ((by rw[hw];exact below_set (HB.out) GB23.out:Below w.heap.size w u));clear hg hw hp_)))
        go_roundg G
        case measure=>have:=D.out;have:=E.out;have:=L.out;omega
        case rel=>exact⟨(y801),(wrap64 (Int.tdiv (wrap64 ((rd b (a))+g)) 65536)),(wrap64 (c+1)),(by first|rfl|(simp;done)|(simp only[←n] <;> (first|rfl|simp))|(simp[*];done)),(by first|rfl|(simp[*];done)),H',⟨by have:=D.out;have:=E.out;have:=L.out;omega⟩,⟨by first|((with_reducible repeat (first|apply Kd.R_alloc|apply Kd.R_drewN|apply Kd.R_drew));exact HO_5.out)|(rw[B.out];exact Kd.R_drewN HP25.1 _)⟩,⟨zb HB⟩⟩
       rw[if_pos O] at H
       have aq:decide (c<(l1.length:Int))=true:=decide_eq_true O
       clear O
       by_cases ai:0≤d
       rotate_left
       ·rw[if_neg ai] at H
        exact absurd H (by simp)
       rw[if_pos ai] at H
       have aP:decide (0≤d)=true:=decide_eq_true ai
       clear ai
       by_cases aj:d<(l0.length:Int)
       rotate_left
       ·rw[if_neg aj] at H
        exact absurd H (by simp)
       rw[if_pos aj] at H
       have aQ:decide (d<(l0.length:Int))=true:=decide_eq_true aj
       clear aj
       by_cases ak:0≤c
       rotate_left
       ·rw[if_neg ak] at H
        exact absurd H (by simp)
       rw[if_pos ak] at H
       have aR:decide (0≤c)=true:=decide_eq_true ak
       clear ak
       obtain⟨y800,hy800⟩:∃ y_:List Int,y_=(b.set ((a):Int).toNat (Int.tmod (wrap64 ((wrap64 ((rd b (a))+g))+(wrap64 ((rd l0 d)*(rd l1 c))))) 65536)):=⟨_,rfl⟩
       replace H:(grottoref02_Times.l1 G l0 l1 y800 d (wrap64 (Int.tdiv (wrap64 ((wrap64 ((rd b (a))+g))+(wrap64 ((rd l0 d)*(rd l1 c))))) 65536)) (wrap64 (c+1)))=some r:=by first|(rw[hy800];with_reducible exact H)|(have H2_:=(Option.bind_some _ _).symm.trans H;rw[hy800];with_reducible exact H2_)|(have H2_:=(Option.bind_some _ _).symm.trans H;with_reducible exact H2_)|with_reducible exact H|(rw[hy800];exact H)|exact H
       have z:=Aside0.mk hy800
       clear hy800
       have H':=Aside0.mk H
       clear H
       obtain⟨aY,W,aD⟩:=Kd.R_slice HO_5.out
       subst aD
       have o:0≤((a):Int):=of_decide_eq_true (by first|(with_reducible assumption)|assumption)
       have q:(a)<(b.length:Int):=of_decide_eq_true (by first|(with_reducible assumption)|assumption)
       obtain⟨ar,e797,hx797_0⟩:=Kd.at_int (Kd.R_reads' HO_5.out).2.2 (a) o q
       cases e797
       replace o:=eq_true o
       replace q:=eq_true q
       have X:0≤(d:Int):=of_decide_eq_true (by first|(with_reducible assumption)|assumption)
       have Y:d<(l0.length:Int):=of_decide_eq_true (by first|(with_reducible assumption)|assumption)
       obtain⟨aS,e798,hx798_0⟩:=Kd.at_int aI.out d X Y
       cases e798
       replace hx798_0:=(HB.out.cell (World.block_lt_of_cell? w _ hx798_0)).trans hx798_0
       replace X:=eq_true X
       replace Y:=eq_true Y
       have Z:0≤(c:Int):=of_decide_eq_true (by first|(with_reducible assumption)|assumption)
       have aa:c<(l1.length:Int):=of_decide_eq_true (by first|(with_reducible assumption)|assumption)
       obtain⟨aT,e799,hx799_0⟩:=Kd.at_int aJ.out c Z aa
       cases e799
       replace hx799_0:=(HB.out.cell (World.block_lt_of_cell? w _ hx799_0)).trans hx799_0
       replace Z:=eq_true Z
       replace aa:=eq_true aa
       have au:0≤((a):Int):=of_decide_eq_true (by first|(with_reducible assumption)|assumption)
       have av:((a):Int)<((b.length:Int):Int):=of_decide_eq_true (by first|(with_reducible assumption)|assumption)
       obtain⟨go19,aZ,al,am,gl19,cl19,HG19⟩:=Kd.R_form HO_5.out (by omega)
       (first|cases al|(injection al with ea_ en_ ec_;(first|subst ea_|(injection ea_ with ea_;subst ea_));subst ec_;clear en_))
       have GB19:=Aside0.mk am
       have GG19:=Aside0.mk HG19
       clear am gl19 HG19
       (first|simp only[add_plain] at hx797_0|skip)
       obtain⟨hx19_0,hf19_0⟩:=Kd.R_celln 0 HO_5.out ((a):Int) au av
       replace au:=eq_true au
       replace av:=eq_true av
       have HP21:=Kd.R_putg HO_5.out ((a):Int) (Int.tmod (wrap64 ((wrap64 ((rd b (a))+g))+(wrap64 ((rd l0 d)*(rd l1 c))))) 65536)
       go_wp2_with (first|((with_reducible refine gate_store (t:=3) (p:=62) rfl ?_);(try (rw[drewN_self wc];generalize hq_:World.drewN wc _=wc;have n0_:=Aside0.mk (Kd.R_at hq_ HO_5.out);have n1_:=Aside0.mk (below_at hq_ HB.out);clear hq_ HO_5 HB;have HO_5:=n0_;have HB:=n1_;clear n0_ n1_;(try (have HP21:=Kd.R_putg HO_5.out ((a):Int) (Int.tmod (wrap64 ((wrap64 ((rd b (a))+g))+(wrap64 ((rd l0 d)*(rd l1 c))))) 65536)))));refine store_event (t:=3) (p:=62) (v:=?vo_w22) (w1:=(wc.setCell ⟨go19,((a):Int).toNat,none⟩ (.int .i64 (Int.tmod (wrap64 ((wrap64 ((rd b (a))+g))+(wrap64 ((rd l0 d)*(rd l1 c))))) 65536)))) ?hg ?ho ?hn ?hr ?_;(case ho=>rfl);(case hg=>rfl);(case hn=>rfl);(case hr=>first|(go_simp;done)|(go_simp;rfl));intro s hw;have hg:wc.grownBy s (some go19):=(by rw[hw];exact HP21.2);have hp_:Kd.R (Kd.int .i64) 3 s w.heap.size (fun k_=>(w.heap.size≤k_)) (.slice (some ⟨go19,0,none⟩) b.length W) y800:=(by rw[hw,z.out];exact HP21.1);clear HP21;replace HO_5:=Aside0.mk (hp_);replace HB:=Aside0.mk ((by rw[hw];exact below_set (HB.out) GB19.out:Below w.heap.size w s));clear hg hw hp_))
       repeat (go_quiet (first|((with_reducible refine gate_store (t:=3) (p:=62) rfl ?_);(try (rw[drewN_self wc];generalize hq_:World.drewN wc _=wc;have n0_:=Aside0.mk (Kd.R_at hq_ HO_5.out);have n1_:=Aside0.mk (below_at hq_ HB.out);clear hq_ HO_5 HB;have HO_5:=n0_;have HB:=n1_;clear n0_ n1_;(try (have HP21:=Kd.R_putg HO_5.out ((a):Int) (Int.tmod (wrap64 ((wrap64 ((rd b (a))+g))+(wrap64 ((rd l0 d)*(rd l1 c))))) 65536)))));refine store_event (t:=3) (p:=62) (v:=?vo_w22) (w1:=(wc.setCell ⟨go19,((a):Int).toNat,none⟩ (.int .i64 (Int.tmod (wrap64 ((wrap64 ((rd b (a))+g))+(wrap64 ((rd l0 d)*(rd l1 c))))) 65536)))) ?hg ?ho ?hn ?hr ?_;(case ho=>rfl);(case hg=>rfl);(case hn=>rfl);(case hr=>first|(go_simp;done)|(go_simp;rfl));intro s hw;have hg:wc.grownBy s (some go19):=(by rw[hw];exact HP21.2);have hp_:Kd.R (Kd.int .i64) 3 s w.heap.size (fun k_=>(w.heap.size≤k_)) (.slice (some ⟨go19,0,none⟩) b.length W) y800:=(by rw[hw,z.out];exact HP21.1);clear HP21;replace HO_5:=Aside0.mk (hp_);replace HB:=Aside0.mk ((by rw[hw];exact below_set (HB.out) GB19.out:Below w.heap.size w s));clear hg hw hp_));try go_wp2_with (first|((with_reducible refine gate_store (t:=3) (p:=62) rfl ?_);(try (rw[drewN_self wc];generalize hq_:World.drewN wc _=wc;have n0_:=Aside0.mk (Kd.R_at hq_ HO_5.out);have n1_:=Aside0.mk (below_at hq_ HB.out);clear hq_ HO_5 HB;have HO_5:=n0_;have HB:=n1_;clear n0_ n1_;(try (have HP21:=Kd.R_putg HO_5.out ((a):Int) (Int.tmod (wrap64 ((wrap64 ((rd b (a))+g))+(wrap64 ((rd l0 d)*(rd l1 c))))) 65536)))));refine store_event (t:=3) (p:=62) (v:=?vo_w22) (w1:=(wc.setCell ⟨go19,((a):Int).toNat,none⟩ (.int .i64 (Int.tmod (wrap64 ((wrap64 ((rd b (a))+g))+(wrap64 ((rd l0 d)*(rd l1 c))))) 65536)))) ?hg ?ho ?hn ?hr ?_;(case ho=>rfl);(case hg=>rfl);(case hn=>rfl);(case hr=>first|(go_simp;done)|(go_simp;rfl));intro s hw;have hg:wc.grownBy s (some go19):=(by rw[hw];exact HP21.2);have hp_:Kd.R (Kd.int .i64) 3 s w.heap.size (fun k_=>(w.heap.size≤k_)) (.slice (some ⟨go19,0,none⟩) b.length W) y800:=(by rw[hw,z.out];exact HP21.1);clear HP21;replace HO_5:=Aside0.mk (hp_);replace HB:=Aside0.mk ((by rw[hw];exact below_set (HB.out) GB19.out:Below w.heap.size w s));clear hg hw hp_)))
       go_roundg G
       case measure=>have:=D.out;have:=E.out;have:=L.out;omega
       case rel=>exact⟨(y800),(wrap64 (Int.tdiv (wrap64 ((wrap64 ((rd b (a))+g))+(wrap64 ((rd l0 d)*(rd l1 c))))) 65536)),(wrap64 (c+1)),(by first|rfl|(simp;done)|(simp only[←n] <;> (first|rfl|simp))|(simp[*];done)),(by first|rfl|(simp[*];done)),H',⟨by have:=D.out;have:=E.out;have:=L.out;omega⟩,⟨by first|((with_reducible repeat (first|apply Kd.R_alloc|apply Kd.R_drewN|apply Kd.R_drew));exact HO_5.out)|(rw[z.out];exact Kd.R_drewN HP21.1 _)⟩,⟨zb HB⟩⟩
end Go.Proofs.Ytmmbgbchimangaa.PQ
