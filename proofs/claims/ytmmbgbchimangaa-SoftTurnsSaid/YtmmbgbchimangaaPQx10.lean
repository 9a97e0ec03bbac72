-- by a program of this claim
import Derived.Test.YtmmbgbchimangaaPQx0
import Derived.Test.YtmmbgbchimangaaPQx8
namespace Go.Proofs.Ytmmbgbchimangaa.PQ
open Go.RowKit Go.Proofs.YtmmbgbchimangaaW.PrintWords Go.Proofs.YtmmbgbchimangaaW.PrintLast Go.Proofs.YtmmbgbchimangaaW.PrintMore Go.Proofs.Ytmmbgbchimangaa.Z
attribute [local go_sem] max2_int min2_int max_two min_two max_three min_three max_four min_four   -- for this text's walks alone
set_option linter.unusedVariables false
set_option linter.unusedSimpArgs false

/-! ### grottoref02_trim: function 91 -/
def grottoref02_trim.l0:Nat→List Int→Int→Option (List Int)
 | 0,_,_=>none
 | k+1,b,a=>if a>0 then (if 0≤(wrap64 (a-1)) then (if (wrap64 (a-1))<(b.length:Int) then (if (rd b (wrap64 (a-1)))=0 then (grottoref02_trim.l0 k b (wrap64 (a-1))) else (if 0≤a then (if a≤(b.length:Int) then (some (b.take (a:Int).toNat)) else (none)) else (none))) else (none)) else (none)) else (if 0≤a then (if a≤(b.length:Int) then (some (b.take (a:Int).toNat)) else (none)) else (none))
def grottoref02_trim.f (k:Nat) (l0:List Int):Option (List Int):=grottoref02_trim.l0 k l0 (l0.length:Int)
theorem grottoref02_trim.mono_l:∀ k,(∀ y0 y1,LeO (grottoref02_trim.l0 k y0 y1) (grottoref02_trim.l0 (k+1) y0 y1))
 | 0=>fun _ _ r h=>by simp[grottoref02_trim.l0] at h
 | k+1=>by
  have ih0:=grottoref02_trim.mono_l k
  intros;unfold grottoref02_trim.l0;repeat' first|(with_reducible first|apply ih0|exact LeO.refl _|exact LeO.none _|refine LeO.ite ?_ ?_|refine LeO.bind ?_ (fun _=>?_))|refine LeO.ite ?_ ?_|refine LeO.bind ?_ (fun _=>?_)
theorem grottoref02_trim.mono:∀ a0 k,LeO (grottoref02_trim.f k a0) (grottoref02_trim.f (k+1) a0):=by
 intro a0 k
 have ih0:=grottoref02_trim.mono_l k
 unfold grottoref02_trim.f
 repeat' first|(with_reducible first|apply ih0|exact LeO.refl _|exact LeO.none _|refine LeO.ite ?_ ?_|refine LeO.bind ?_ (fun _=>?_))|refine LeO.ite ?_ ?_|refine LeO.bind ?_ (fun _=>?_)
set_option maxHeartbeats 8000000 in
set_option maxRecDepth 100000 in
theorem grottoref02_trim.calls (k:Nat) (P0_:Nat→Prop) (q:Option Addr) (j:Nat) (l0:List Int) (r:List Int) (w:World) (hs0:Kd.V (Kd.int .i64) 3 w w.heap.size (fun k_=>P0_ k_) (.slice q l0.length j) l0) (h:grottoref02_trim.f k l0=some r) :
  Calls Try.prog 91 #[.slice q l0.length j] w fun e w'=>∃ v0_:Value,e=.returned (v0_)∧Kd.V (Kd.int .i64) 3 w' w.heap.size (fun k_=>(P0_ k_∨w.heap.size≤k_)) v0_ r∧Below w.heap.size w w':=by
 have L:=Aside0.mk (show Kd.V (Kd.int .i64) 3 w w.heap.size (fun k_=>(P0_ k_∨w.heap.size≤k_)) (.slice q l0.length j) l0 from Kd.V_mono hs0 (fun k_ hk=>.inl hk))
 have HB:=Aside0.mk (Below.refl w.heap.size w)
 have H:=h
 unfold grottoref02_trim.f at H
 clear h
 have H':=Aside0.mk H
 clear H
 go_enter Try.func91,Try.ntmps91
 go_wp2
 go_loopg [3] k (fun kq v3 w'=>∃ (a:Int),v3=.int .i64 a∧Aside0 (grottoref02_trim.l0 kq l0 a=some r)∧Aside0 (kq≤k)∧Aside0 (Kd.V (Kd.int .i64) 3 w' w.heap.size (fun k_=>(P0_ k_∨w.heap.size≤k_)) (.slice q l0.length j) l0)∧Aside0 (Below w.heap.size w w'))
 case atStart=>exact⟨((l0.length:Int)),(by first|rfl|(simp[*];done)),H',⟨Nat.le_refl _⟩,⟨by (with_reducible repeat (first|apply Kd.V_alloc|apply Kd.V_drewN|apply Kd.V_drew));exact L.out⟩,⟨zb HB⟩⟩
 case round =>
  clear H'
  obtain⟨a,rfl,HA,z,HO_0,HB⟩:=hrel
  cases gk with
  | zero=>exact absurd HA.out (by simp[grottoref02_trim.l0])
  | succ k1 =>
   have H:=HA.out
   clear HA
   simp only[grottoref02_trim.l0] at H
   by_cases y:a>0
   rotate_left
   ·rw[if_neg y] at H
    have B:decide (0<a)=false:=decide_eq_false y
    clear y
    by_cases n:0≤a
    rotate_left
    ·rw[if_neg n] at H
     exact absurd H (by simp)

    rw[if_pos n] at H
    have Q:=eq_true n
    have R:decide (0≤a)=true:=decide_eq_true n
    clear n
    by_cases o:a≤(l0.length:Int)
    ·rw[if_pos o] at H
     have S:=eq_true o
     have T:decide (a≤(l0.length:Int))=true:=decide_eq_true o
     clear o
     obtain⟨y237,hy237⟩:∃ y_:List Int,y_=(l0.take (a:Int).toNat):=⟨_,rfl⟩
     replace H:(some y237)=some r:=by first|(rw[hy237];with_reducible exact H)|(have H2_:=(Option.bind_some _ _).symm.trans H;rw[hy237];with_reducible exact H2_)|(have H2_:=(Option.bind_some _ _).symm.trans H;with_reducible exact H2_)|with_reducible exact H|(rw[hy237];exact H)|exact H
     have p:=Aside0.mk hy237
     clear hy237
     obtain rfl:=Option.some.inj H
     have u:(a:Int)≤((l0.length:Int):Int):=of_decide_eq_true (by first|(with_reducible assumption)|assumption)
     obtain⟨i012,hi012,_,hsz12,_⟩:=info_parts info3
     have hroom12:l0.length≤j:=(Kd.V_reads' HO_0.out).2.1
     have hC12:Kd.F (Kd.int .i64) _ _ q l0.length l0:=(Kd.V_at (base:=w.heap.size) HO_0.out).2.2
     have hcut12:=cut_to (P:=Try.prog) 71 3 .i64 Try.underlying71 hi012 q l0.length j a (of_decide_eq_true (by first|(with_reducible assumption)|assumption)) u hroom12
     have hr12:=Kd.F_take (m:=(a:Int).toNat) hC12 (by omega)
     have hy12:y237.length=(a:Int).toNat:=(by rw[p.out,List.length_take];omega)
     rw[←p.out] at hr12
     rw[←hy12] at hcut12
     have v:=Aside0.mk (show Kd.V (Kd.int .i64) 3 _ w.heap.size _ (.slice q y237.length j) y237 from Kd.V_mk (by omega) hr12)
     have U:=Aside0.mk (show y237.length≤j from by omega)
     clear hr12 hC12 hroom12 hi012 hsz12
     have KY12:=Aside0.mk hy12
     clear hy12
     replace u:=eq_true u
     go_wp2
     go_ret
     exact⟨_,by first|rfl|(simp[errW_none,errW_some] <;> rfl)|(simp[*,errW_none,errW_some] <;> rfl),by (with_reducible repeat (first|apply Kd.V_alloc|apply Kd.V_drewN|apply Kd.V_drew));exact v.out,zb HB⟩
    rw[if_neg o] at H
    exact absurd H (by simp)
   rw[if_pos y] at H
   have B:decide (0<a)=true:=decide_eq_true y
   clear y
   obtain⟨b,i⟩:∃ j_:Int,(wrap64 (a-1))=j_:=⟨_,rfl⟩
   first|rw[i] at H|simp only[i] at H
   have M:(IntKind.i64.wrap (a-1))=b:=(i64_w _).trans i
   by_cases J:0≤(b)
   rotate_left
   ·rw[if_neg J] at H
    exact absurd H (by simp)
   rw[if_pos J] at H
   have W:decide (0≤(b))=true:=decide_eq_true J
   clear J
   by_cases K:(b)<(l0.length:Int)
   rotate_left
   ·rw[if_neg K] at H
    exact absurd H (by simp)
   rw[if_pos K] at H
   have X:decide ((b)<(l0.length:Int))=true:=decide_eq_true K
   clear K
   by_cases C:(rd l0 (b))=0
   ·rw[if_pos C] at H
    obtain⟨D,E⟩:=zt C
    clear C
    have H':=Aside0.mk H
    clear H
    have c:0≤((b):Int):=of_decide_eq_true (by first|(with_reducible assumption)|assumption)
    have d:(b)<(l0.length:Int):=of_decide_eq_true (by first|(with_reducible assumption)|assumption)
    obtain⟨g,e231,hx231_0⟩:=Kd.at_int (Kd.V_reads' HO_0.out).2.2 (b) c d
    cases e231
    replace c:=eq_true c
    replace d:=eq_true d
    go_wp2
    go_roundg k1
    case measure=>have:=z.out;omega
    case rel=>exact⟨(b),(by first|rfl|(simp;done)|(simp only[←i] <;> (first|rfl|simp))|(simp[*];done)),H',⟨by have:=z.out;omega⟩,⟨by (with_reducible repeat (first|apply Kd.V_alloc|apply Kd.V_drewN|apply Kd.V_drew));exact HO_0.out⟩,⟨zb HB⟩⟩
   rw[if_neg C] at H
   obtain⟨D,E⟩:=zf C
   by_cases G:0≤a
   rotate_left
   ·rw[if_neg G] at H
    exact absurd H (by simp)
   rw[if_pos G] at H
   have Y:=eq_true G
   have Z:decide (0≤a)=true:=decide_eq_true G
   clear G
   by_cases I:a≤(l0.length:Int)
   rotate_left
   ·rw[if_neg I] at H
    exact absurd H (by simp)
   rw[if_pos I] at H
   have aa:=eq_true I
   have ab:decide (a≤(l0.length:Int))=true:=decide_eq_true I
   clear I
   obtain⟨y232,hy232⟩:∃ y_:List Int,y_=(l0.take (a:Int).toNat):=⟨_,rfl⟩
   replace H:(some y232)=some r:=by first|(rw[hy232];with_reducible exact H)|(have H2_:=(Option.bind_some _ _).symm.trans H;rw[hy232];with_reducible exact H2_)|(have H2_:=(Option.bind_some _ _).symm.trans H;with_reducible exact H2_)|with_reducible exact H|(rw[hy232];exact H)|exact H
   have l:=Aside0.mk hy232
   clear hy232
   obtain rfl:=Option.some.inj H
   have c:0≤((b):Int):=of_decide_eq_true (by first|(with_reducible assumption)|assumption)
   have d:(b)<(l0.length:Int):=of_decide_eq_true (by first|(with_reducible assumption)|assumption)
   obtain⟨g,e231,hx231_0⟩:=Kd.at_int (Kd.V_reads' HO_0.out).2.2 (b) c d
   cases e231
   replace c:=eq_true c
   replace d:=eq_true d
   have N:(a:Int)≤((l0.length:Int):Int):=of_decide_eq_true (by first|(with_reducible assumption)|assumption)
   obtain⟨i09,hi09,_,hsz9,_⟩:=info_parts info3
   have hroom9:l0.length≤j:=(Kd.V_reads' HO_0.out).2.1
   have hC9:Kd.F (Kd.int .i64) _ _ (some g) l0.length l0:=(Kd.V_at (base:=w.heap.size) HO_0.out).2.2
   have hcut9:=cut_to (P:=Try.prog) 71 3 .i64 Try.underlying71 hi09 (some g) l0.length j a (of_decide_eq_true (by first|(with_reducible assumption)|assumption)) N hroom9
   have hr9:=Kd.F_take (m:=(a:Int).toNat) hC9 (by omega)
   have hy9:y232.length=(a:Int).toNat:=(by rw[l.out,List.length_take];omega)
   rw[←l.out] at hr9
   rw[←hy9] at hcut9
   have s:=Aside0.mk (show Kd.V (Kd.int .i64) 3 _ w.heap.size _ (.slice (some g) y232.length j) y232 from Kd.V_mk (by omega) hr9)
   have O:=Aside0.mk (show y232.length≤j from by omega)
   clear hr9 hC9 hroom9 hi09 hsz9
   have KY9:=Aside0.mk hy9
   clear hy9
   replace N:=eq_true N
   go_wp2
   go_ret
   exact⟨_,by first|rfl|(simp[errW_none,errW_some] <;> rfl)|(simp only[←i];first|rfl|(simp[errW_none,errW_some] <;> rfl))|(simp[*,errW_none,errW_some] <;> rfl),by (with_reducible repeat (first|apply Kd.V_alloc|apply Kd.V_drewN|apply Kd.V_drew));exact s.out,zb HB⟩
/-! ### grottoref02_Up: function 73 -/
mutual
def grottoref02_Up.l0:Nat→List Int→Int→List Int→Int→Int→Option (List Int)
 | 0,_,_,_,_,_=>none
 | k+1,a,b,c,d,e=>if e<(Int.tmod b 16) then (grottoref02_Up.l0 k a b c (wrap64 (2*d)) (wrap64 (e+1))) else (grottoref02_Up.l1 k a c d 0 0)
def grottoref02_Up.l1:Nat→List Int→List Int→Int→Int→Int→Option (List Int)
 | 0,_,_,_,_,_=>none
 | k+1,b,c,d,e,a=>if a<(b.length:Int) then (if 0≤a then (if c.length<17592186044416 then (grottoref02_Up.l1 k b (c++[Int.tmod (wrap64 ((wrap64 ((rd b a)*d))+e)) 65536]) d (wrap64 (Int.tdiv (wrap64 ((wrap64 ((rd b a)*d))+e)) 65536)) (wrap64 (a+1))) else (none)) else (none)) else (if c.length<17592186044416 then ((grottoref02_trim.f k (c++[e])).bind fun g=>(some g)) else (none))
end
def grottoref02_Up.f (k:Nat) (l0:List Int) (a1:Int):Option (List Int):=if 0≤(wrap64 (Int.tdiv a1 16)) then (if (wrap64 (Int.tdiv a1 16):Int).toNat≤35184372088832 then (grottoref02_Up.l0 k l0 a1 (List.replicate (wrap64 (Int.tdiv a1 16):Int).toNat 0) 1 0) else (none)) else (none)
theorem grottoref02_Up.mono_l:∀ k,(∀ y0 y1 y2 y3 y4,LeO (grottoref02_Up.l0 k y0 y1 y2 y3 y4) (grottoref02_Up.l0 (k+1) y0 y1 y2 y3 y4))∧(∀ y0 y1 y2 y3 y4,LeO (grottoref02_Up.l1 k y0 y1 y2 y3 y4) (grottoref02_Up.l1 (k+1) y0 y1 y2 y3 y4))
 | 0=>⟨fun _ _ _ _ _ r h=>by simp[grottoref02_Up.l0] at h,fun _ _ _ _ _ r h=>by simp[grottoref02_Up.l1] at h⟩
 | k+1=>by
  obtain⟨ih0,ih1⟩:=grottoref02_Up.mono_l k
  refine⟨?_,?_⟩ <;> intros <;> (first|unfold grottoref02_Up.l0|unfold grottoref02_Up.l1) <;> (repeat' first|(with_reducible first|apply ih0|apply ih1|apply grottoref02_trim.mono|exact LeO.refl _|exact LeO.none _|refine LeO.ite ?_ ?_|refine LeO.bind ?_ (fun _=>?_))|refine LeO.ite ?_ ?_|refine LeO.bind ?_ (fun _=>?_))
theorem grottoref02_Up.mono:∀ a0 a1 k,LeO (grottoref02_Up.f k a0 a1) (grottoref02_Up.f (k+1) a0 a1):=by
 intro a0 a1 k
 obtain⟨ih0,ih1⟩:=grottoref02_Up.mono_l k
 unfold grottoref02_Up.f
 repeat' first|(with_reducible first|apply ih0|apply ih1|apply grottoref02_trim.mono|exact LeO.refl _|exact LeO.none _|refine LeO.ite ?_ ?_|refine LeO.bind ?_ (fun _=>?_))|refine LeO.ite ?_ ?_|refine LeO.bind ?_ (fun _=>?_)
set_option maxHeartbeats 8000000 in
set_option maxRecDepth 100000 in
theorem grottoref02_Up.calls (k:Nat) (A0:Option Addr) (c0:Nat) (l0:List Int) (m:Int) (r:List Int) (w:World) (hr0:Kd.C (Kd.int .i64) w A0 l0.length l0) (hc0:l0.length≤c0) (h:grottoref02_Up.f k l0 m=some r) :
  Calls Try.prog 73 #[.slice A0 l0.length c0,.int .i64 m] w fun e w'=>∃ v0_:Value,e=.returned (v0_)∧Kd.V (Kd.int .i64) 3 w' w.heap.size (fun k_=>(w.heap.size≤k_)) v0_ r∧Below w.heap.size w w':=by
 have aa:=Aside0.mk hr0
 have ah:=Aside0.mk hc0
 clear hr0 hc0
 have HB:=Aside0.mk (Below.refl w.heap.size w)
 have H:=h
 unfold grottoref02_Up.f at H
 clear h
 obtain⟨i,n⟩:∃ j_:Int,(wrap64 (Int.tdiv m 16))=j_:=⟨_,rfl⟩
 first|rw[n] at H|simp only[n] at H
 have ab:(IntKind.i64.wrap (Int.tdiv m 16))=i:=(i64_w _).trans n
 by_cases U:0≤(i)
 rotate_left
 ·rw[if_neg U] at H
  exact absurd H (by simp)

 rw[if_pos U] at H
 have B:=eq_true U
 have D:decide (0≤(i))=true:=decide_eq_true U
 clear U
 by_cases W:(i:Int).toNat≤35184372088832
 rotate_left
 ·rw[if_neg W] at H
  exact absurd H (by simp)
 rw[if_pos W] at H
 have E:=eq_true W
 have F:decide ((i:Int).toNat≤35184372088832)=true:=decide_eq_true W
 clear W
 obtain⟨y242,hy242⟩:∃ y_:List Int,y_=(List.replicate (i:Int).toNat 0):=⟨_,rfl⟩
 replace H:(grottoref02_Up.l0 k l0 m y242 1 0)=some r:=by first|(rw[hy242];with_reducible exact H)|(have H2_:=(Option.bind_some _ _).symm.trans H;rw[hy242];with_reducible exact H2_)|(have H2_:=(Option.bind_some _ _).symm.trans H;with_reducible exact H2_)|with_reducible exact H|(rw[hy242];exact H)|exact H
 have o:=Aside0.mk hy242
 clear hy242
 have H':=Aside0.mk H
 clear H
 go_enter Try.func73,Try.ntmps73
 go_wp2_with (first|((with_reducible refine gate_dst (N:=13) rfl ?_);refine Kd.R_make (Kd.int .i64) _ 3 rfl (N:=13) rfl 71 _ _ rfl i rfl rfl Try.underlying71 (.int .i64 0) 8 info3 rfl (by decide) (by omega) 0 (ok:=fun _=>True) (okp:=fun _=>True) rfl (fun _ hk=>hk) trivial (of_decide_eq_true (by first|(with_reducible assumption)|assumption)) (Nat.le_trans (Nat.mul_le_mul_right _ (of_decide_eq_true (by first|(with_reducible assumption)|assumption):i.toNat≤35184372088832)) (by omega)) (Below.refl _ _) (Nat.le_refl _) ?_;intro v243 w6 ho7 hb hg_ hnew_;clear hg_ hnew_;(first|rw[←o.out] at ho7|(simp only[Int.reduceToNat] at ho7;rw[←o.out] at ho7));have K:=Aside0.mk (Kd.R_lower (Kd.R_newM (M:=fun k_=>(w.heap.size≤k_)) ho7 (below_size (zb HB)) (fun k_ h_=>h_)) (below_size (zb HB)));replace HB:=zbs HB hb;clear hb ho7))
 go_loopg [6,7] k (fun kq v6 v7 w'=>∃ (c:Int) (j:Int),v6=.int .i64 c∧v7=.int .i64 j∧Aside0 (grottoref02_Up.l0 kq l0 m y242 c j=some r)∧Aside0 (kq≤k)∧Aside0 (Kd.R (Kd.int .i64) 3 w' w.heap.size (fun k_=>(w.heap.size≤k_)) v243 y242)∧Aside0 (Below w.heap.size w w'))
 case atStart=>exact⟨(1),(0),(by first|rfl|(simp[*];done)),(by first|rfl|(simp[*];done)),H',⟨Nat.le_refl _⟩,⟨by (with_reducible repeat (first|apply Kd.R_alloc|apply Kd.R_drewN|apply Kd.R_drew));exact Kd.R_mono K.out (fun _ hk=>hk.1)⟩,⟨zb HB⟩⟩
 case round =>
  clear H'
  try clear B D E F
  obtain⟨c,j,rfl,rfl,HA,u,HO_5,HB⟩:=hrel
  cases gk with
  | zero=>exact absurd HA.out (by simp[grottoref02_Up.l0])
  | succ k1 =>
   have H:=HA.out
   clear HA
   simp only[grottoref02_Up.l0] at H
   by_cases S:j<(Int.tmod m 16)
   ·rw[if_pos S] at H
    have G:decide (j<(Int.tmod m 16))=true:=decide_eq_true S
    clear S
    have H':=Aside0.mk H
    clear H
    go_wp2
    go_roundg k1
    case measure=>have:=u.out;omega
    case rel=>exact⟨(wrap64 (2*c)),(wrap64 (j+1)),(by first|rfl|(simp[*];done)),(by first|rfl|(simp[*];done)),H',⟨by have:=u.out;omega⟩,⟨by (with_reducible repeat (first|apply Kd.R_alloc|apply Kd.R_drewN|apply Kd.R_drew));exact HO_5.out⟩,⟨zb HB⟩⟩
   rw[if_neg S] at H
   have G:decide (j<(Int.tmod m 16))=false:=decide_eq_false S
   clear S
   have H':=Aside0.mk H
   clear H
   go_wp2
   go_loopg [5,8,9] k1 (fun kq v5 v8 v9 w'=>∃ (g:List Int) (d:Int) (a:Int),v8=.int .i64 d∧v9=.int .i64 a∧Aside0 (grottoref02_Up.l1 kq l0 g c d a=some r)∧Aside0 (kq≤k1)∧Aside0 (Kd.R (Kd.int .i64) 3 w' w.heap.size (fun k_=>(w.heap.size≤k_)) v5 g)∧Aside0 (Below w.heap.size w w'))
   case atStart=>exact⟨(y242),(0),(0),(by first|rfl|(simp[*];done)),(by first|rfl|(simp[*];done)),H',⟨Nat.le_refl _⟩,⟨by (with_reducible repeat (first|apply Kd.R_alloc|apply Kd.R_drewN|apply Kd.R_drew));exact HO_5.out⟩,⟨zb HB⟩⟩
   case round =>
    clear H'
    try clear p2 B D E F p6 c7 G p2 p6
    obtain⟨g,d,a,rfl,rfl,HA,X,HO_5,HB⟩:=hrel
    cases gk with
    | zero=>exact absurd HA.out (by simp[grottoref02_Up.l1])
    | succ k2 =>
     have H:=HA.out
     clear HA
     simp only[grottoref02_Up.l1] at H
     by_cases T:a<(l0.length:Int)
     ·rw[if_pos T] at H
      have Y:decide (a<(l0.length:Int))=true:=decide_eq_true T
      clear T
      by_cases v:0≤a
      ·rw[if_pos v] at H
       have ac:decide (0≤a)=true:=decide_eq_true v
       clear v
       by_cases y:g.length<17592186044416
       ·rw[if_pos y] at H
        have LMc11:=Aside0.mk y
        clear y
        obtain⟨y246,hy246⟩:∃ y_:List Int,y_=(g++[Int.tmod (wrap64 ((wrap64 ((rd l0 a)*c))+d)) 65536]):=⟨_,rfl⟩
        replace H:(grottoref02_Up.l1 k2 l0 y246 c (wrap64 (Int.tdiv (wrap64 ((wrap64 ((rd l0 a)*c))+d)) 65536)) (wrap64 (a+1)))=some r:=by first|(rw[hy246];with_reducible exact H)|(have H2_:=(Option.bind_some _ _).symm.trans H;rw[hy246];with_reducible exact H2_)|(have H2_:=(Option.bind_some _ _).symm.trans H;with_reducible exact H2_)|with_reducible exact H|(rw[hy246];exact H)|exact H
        have L:=Aside0.mk hy246
        clear hy246
        have H':=Aside0.mk H
        clear H
        have p:0≤(a:Int):=of_decide_eq_true (by first|(with_reducible assumption)|assumption)
        have q:a<(l0.length:Int):=of_decide_eq_true (by first|(with_reducible assumption)|assumption)
        obtain⟨ad,e245,hx245_0⟩:=Kd.at_int aa.out a p q
        cases e245
        replace hx245_0:=(HB.out.cell (World.block_lt_of_cell? w _ hx245_0)).trans hx245_0
        replace p:=eq_true p
        replace q:=eq_true q
        go_wp2_with (first|((with_reducible refine gate_builtin (b:=.append) (xs:=#[.tmp 36,.tmp 39]) rfl ?_);at_builtin;refine Kd.R_append (Kd.int .i64) (w0:=w) w.heap.size rfl (.tmp 36) (.tmp 39) 71 3 (.int .i64 0) 8 rfl Try.underlying71 info3 rfl (by decide) (by omega) u5 g (Int.tmod (wrap64 ((wrap64 ((rd l0 a)*c))+d)) 65536) [.int .i64 (Int.tmod (wrap64 ((wrap64 ((rd l0 a)*c))+d)) 65536)] (fun k_=>(w.heap.size≤k_)) (fun _=>False) rfl rfl ?aP (fun _ hk=>hk.elim) ?aF ?aO ?aB ?aS ?aL ?_;(case aP=>exact rfl);(case aB=>exact (zb HB));(case aF=>exact (fun k_ hk=>(Nat.le_trans (below_size (zb HB)) hk)));(case aO=>exact (by (with_reducible repeat (first|apply Kd.R_alloc|apply Kd.R_drewN|apply Kd.R_drew));exact HO_5.out));(case aS=>exact (below_size (zb HB)));(case aL=>have:=LMc11.out;omega);intro v247 ak ho hb hg hat;rw[←L.out] at ho;have O:=Aside0.mk (ho);replace HB:=Aside0.mk (hb);clear HO_5;clear ho hb hg hat))
        go_roundg k2
        case measure=>have:=u.out;have:=X.out;omega
        case rel=>exact⟨(y246),(wrap64 (Int.tdiv (wrap64 ((wrap64 ((rd l0 a)*c))+d)) 65536)),(wrap64 (a+1)),(by first|rfl|(simp[*];done)),(by first|rfl|(simp[*];done)),H',⟨by have:=u.out;have:=X.out;omega⟩,⟨by (with_reducible repeat (first|apply Kd.R_alloc|apply Kd.R_drewN|apply Kd.R_drew));exact O.out⟩,⟨zb HB⟩⟩
       rw[if_neg y] at H
       exact absurd H (by simp)
      rw[if_neg v] at H
      exact absurd H (by simp)
     rw[if_neg T] at H
     have Y:decide (a<(l0.length:Int))=false:=decide_eq_false T
     clear T
     by_cases z:g.length<17592186044416
     ·rw[if_pos z] at H
      have LMc13:=Aside0.mk z
      clear z
      obtain⟨y249,hy249⟩:∃ y_:List Int,y_=(g++[d]):=⟨_,rfl⟩
      replace H:((grottoref02_trim.f k2 y249).bind fun s=>(some s))=some r:=by first|(rw[hy249];with_reducible exact H)|(have H2_:=(Option.bind_some _ _).symm.trans H;rw[hy249];with_reducible exact H2_)|(have H2_:=(Option.bind_some _ _).symm.trans H;with_reducible exact H2_)|with_reducible exact H|(rw[hy249];exact H)|exact H
      have P:=Aside0.mk hy249
      clear hy249
      obtain⟨s,ae,H⟩:=oB H
      obtain rfl:=Option.some.inj H
      go_wp2_with (first|((with_reducible refine gate_builtin (b:=.append) (xs:=#[.tmp 43,.tmp 45]) rfl ?_);at_builtin;refine Kd.R_append (Kd.int .i64) (w0:=w) w.heap.size rfl (.tmp 43) (.tmp 45) 71 3 (.int .i64 0) 8 rfl Try.underlying71 info3 rfl (by decide) (by omega) u5 g d [.int .i64 d] (fun k_=>(w.heap.size≤k_)) (fun _=>False) rfl rfl ?aP (fun _ hk=>hk.elim) ?aF ?aO ?aB ?aS ?aL ?_;(case aP=>exact rfl);(case aB=>exact (zb HB));(case aF=>exact (fun k_ hk=>(Nat.le_trans (below_size (zb HB)) hk)));(case aO=>exact (by (with_reducible repeat (first|apply Kd.R_alloc|apply Kd.R_drewN|apply Kd.R_drew));exact HO_5.out));(case aS=>exact (below_size (zb HB)));(case aL=>have:=LMc13.out;omega);intro v250 al ho hb hg hat;rw[←P.out] at ho;have l:=Aside0.mk (ho);replace HB:=Aside0.mk (hb);clear HO_5;clear ho hb hg hat;obtain⟨I,J,Z⟩:=Kd.R_slice l.out;subst Z)|((with_reducible refine gate_callee (f:=91) rfl ?_);refine zgo (some 47) Try.func91 #[.slice I y249.length J] ?_;(with_reducible refine (grottoref02_trim.calls k2 (fun k_=>some k_=(.slice I y249.length J:Value).ownBlock) _ _ y249 s _ ?side1 ae.out).mono ?_);(case side1=>exact Kd.R_V (Kd.R_tight rfl (l.out)));rintro e am ⟨v253,rfl,ho0,hb⟩;refine⟨_,rfl,?_⟩;have Q:=Aside0.mk (Kd.V_lower (Kd.V_mono (ok':=fun k_=>(w.heap.size≤k_)) ho0 (fun k_ hk_=>Or.elim hk_ (fun hs_=>((l.out).1 k_ hs_.symm)) (fun hn_=>(Nat.le_trans (below_size (zb HB)) hn_)))) (below_size (zb HB)));replace l:=Aside0.mk (Kd.R_below (by (with_reducible repeat (first|apply Kd.R_alloc|apply Kd.R_drewN|apply Kd.R_drew));exact l.out) hb);replace HB:=zbs HB hb;clear hb;(try clear ho0)))
      go_ret
      exact⟨_,by first|rfl|(simp[errW_none,errW_some] <;> rfl)|(simp only[←n];first|rfl|(simp[errW_none,errW_some] <;> rfl))|(simp[*,errW_none,errW_some] <;> rfl),by (with_reducible repeat (first|apply Kd.V_alloc|apply Kd.V_drewN|apply Kd.V_drew));exact Q.out,zb HB⟩
     rw[if_neg z] at H
     exact absurd H (by simp)
/-! ### grottoref02_NatOf: function 72 -/
def grottoref02_NatOf.l0:Nat→Int→List Int→Option (List Int)
 | 0,_,_=>none
 | k+1,a,b=>if a>0 then (if b.length<17592186044416 then (grottoref02_NatOf.l0 k (IntKind.u64.wrap (Int.tdiv a 65536)) (b++[wrap64 (Int.tmod a 65536)])) else (none)) else (some b)
def grottoref02_NatOf.f (k:Nat) (a0:Int):Option (List Int):=grottoref02_NatOf.l0 k a0 ([]:List Int)
theorem grottoref02_NatOf.mono_l:∀ k,(∀ y0 y1,LeO (grottoref02_NatOf.l0 k y0 y1) (grottoref02_NatOf.l0 (k+1) y0 y1))
 | 0=>fun _ _ r h=>by simp[grottoref02_NatOf.l0] at h
 | k+1=>by
  have ih0:=grottoref02_NatOf.mono_l k
  intros;unfold grottoref02_NatOf.l0;repeat' first|(with_reducible first|apply ih0|exact LeO.refl _|exact LeO.none _|refine LeO.ite ?_ ?_|refine LeO.bind ?_ (fun _=>?_))|refine LeO.ite ?_ ?_|refine LeO.bind ?_ (fun _=>?_)
theorem grottoref02_NatOf.mono:∀ a0 k,LeO (grottoref02_NatOf.f k a0) (grottoref02_NatOf.f (k+1) a0):=by
 intro a0 k
 have ih0:=grottoref02_NatOf.mono_l k
 unfold grottoref02_NatOf.f
 repeat' first|(with_reducible first|apply ih0|exact LeO.refl _|exact LeO.none _|refine LeO.ite ?_ ?_|refine LeO.bind ?_ (fun _=>?_))|refine LeO.ite ?_ ?_|refine LeO.bind ?_ (fun _=>?_)
set_option maxHeartbeats 8000000 in
set_option maxRecDepth 100000 in
theorem grottoref02_NatOf.calls {k:Nat} {m:Int} {r:List Int} {w:World} (h:grottoref02_NatOf.f k m=some r) :
  Calls Try.prog 72 #[.int .u64 m] w fun e w'=>∃ v0_:Value,e=.returned (v0_)∧Kd.R (Kd.int .i64) 3 w' w.heap.size (fun _=>True) v0_ r∧Below w.heap.size w w':=by
 have HB:=Aside0.mk (Below.refl w.heap.size w)
 have H:=h
 unfold grottoref02_NatOf.f at H
 clear h
 have H':=Aside0.mk H
 clear H
 go_enter Try.func72,Try.ntmps72
 go_wp2
 go_loopg [0,3] k (fun kq v0 v3 w'=>∃ (a:Int) (c:List Int),v0=.int .u64 a∧Aside0 (grottoref02_NatOf.l0 kq a c=some r)∧Aside0 (kq≤k)∧Aside0 (Kd.R (Kd.int .i64) 3 w' w.heap.size (fun _=>True) v3 c)∧Aside0 (Below w.heap.size w w'))
 case atStart=>exact⟨(m),(([]:List Int)),(by first|rfl|(simp[*];done)),H',⟨Nat.le_refl _⟩,⟨by first|exact Kd.R_nil _ _ _ _ _|exact Kd.N_nil _ _ _ _ _|exact Kd.V_nil _ _ _ _ _|exact Kd.Q_nil _ _ _ _ _|exact Kd.S_nil _ _ _ _ _⟩,⟨zb HB⟩⟩
 case round =>
  clear H'
  obtain⟨a,c,rfl,HA,j,HO_3,HB⟩:=hrel
  cases gk with
  | zero=>exact absurd HA.out (by simp[grottoref02_NatOf.l0])
  | succ k1 =>
   have H:=HA.out
   clear HA
   simp only[grottoref02_NatOf.l0] at H
   by_cases i:a>0
   ·rw[if_pos i] at H
    have l:decide (0<a)=true:=decide_eq_true i
    clear i
    by_cases n:c.length<17592186044416
    ·rw[if_pos n] at H
     have LMc3:=Aside0.mk n
     clear n
     obtain⟨y265,hy265⟩:∃ y_:List Int,y_=(c++[wrap64 (Int.tmod a 65536)]):=⟨_,rfl⟩
     replace H:(grottoref02_NatOf.l0 k1 (IntKind.u64.wrap (Int.tdiv a 65536)) y265)=some r:=by first|(rw[hy265];with_reducible exact H)|(have H2_:=(Option.bind_some _ _).symm.trans H;rw[hy265];with_reducible exact H2_)|(have H2_:=(Option.bind_some _ _).symm.trans H;with_reducible exact H2_)|with_reducible exact H|(rw[hy265];exact H)|exact H
     have d:=Aside0.mk hy265
     clear hy265
     have H':=Aside0.mk H
     clear H
     go_wp2_with (first|((with_reducible refine gate_builtin (b:=.append) (xs:=#[.tmp 6,.tmp 10]) rfl ?_);at_builtin;refine Kd.R_append (Kd.int .i64) (w0:=w) w.heap.size rfl (.tmp 6) (.tmp 10) 71 3 (.int .i64 0) 8 rfl Try.underlying71 info3 rfl (by decide) (by omega) u3 c (wrap64 (Int.tmod a 65536)) [.int .i64 (wrap64 (Int.tmod a 65536))] (fun _=>True) (fun _=>False) rfl rfl ?aP (fun _ hk=>hk.elim) ?aF ?aO ?aB ?aS ?aL ?_;(case aP=>exact rfl);(case aB=>exact (zb HB));(case aF=>exact (fun _ _=>trivial));(case aO=>exact (by (with_reducible repeat (first|apply Kd.R_alloc|apply Kd.R_drewN|apply Kd.R_drew));exact HO_3.out));(case aS=>exact (below_size (zb HB)));(case aL=>have:=LMc3.out;omega);intro v266 o ho hb hg hat;rw[←d.out] at ho;have g:=Aside0.mk (ho);replace HB:=Aside0.mk (hb);clear HO_3;clear ho hb hg hat))
     go_roundg k1
     case measure=>have:=j.out;omega
     case rel=>exact⟨(IntKind.u64.wrap (Int.tdiv a 65536)),(y265),(by first|rfl|(simp[*];done)),H',⟨by have:=j.out;omega⟩,⟨by (with_reducible repeat (first|apply Kd.R_alloc|apply Kd.R_drewN|apply Kd.R_drew));exact g.out⟩,⟨zb HB⟩⟩
    rw[if_neg n] at H
    exact absurd H (by simp)
   rw[if_neg i] at H
   have l:decide (0<a)=false:=decide_eq_false i
   clear i
   obtain rfl:=Option.some.inj H
   go_wp2
   go_ret
   exact⟨_,by first|rfl|(simp[errW_none,errW_some] <;> rfl)|(simp[*,errW_none,errW_some] <;> rfl),by (with_reducible repeat (first|apply Kd.R_alloc|apply Kd.R_drewN|apply Kd.R_drew));exact HO_3.out,zb HB⟩

/-! ### grottoref02_Bits: function 65 -/
def grottoref02_Bits.l0:Nat→Int→Int→Option (Int)
 | 0,_,_=>none
 | k+1,a,b=>if b>0 then (grottoref02_Bits.l0 k (wrap64 (a+1)) (wrap64 (Int.tdiv b 2))) else (some a)
def grottoref02_Bits.f (k:Nat) (l0:List Int):Option (Int):=(grottoref02_trim.f k l0).bind fun a=>(if (a.length:Int)=0 then (some 0) else (if 0≤(wrap64 ((a.length:Int)-1)) then (if (wrap64 ((a.length:Int)-1))<(a.length:Int) then (grottoref02_Bits.l0 k (wrap64 (16*(wrap64 ((a.length:Int)-1)))) (rd a (wrap64 ((a.length:Int)-1)))) else (none)) else (none)))
theorem grottoref02_Bits.mono_l:∀ k,(∀ y0 y1,LeO (grottoref02_Bits.l0 k y0 y1) (grottoref02_Bits.l0 (k+1) y0 y1))
 | 0=>fun _ _ r h=>by simp[grottoref02_Bits.l0] at h
 | k+1=>by
  have ih0:=grottoref02_Bits.mono_l k
  intros;unfold grottoref02_Bits.l0;repeat' first|(with_reducible first|apply ih0|apply grottoref02_trim.mono|exact LeO.refl _|exact LeO.none _|refine LeO.ite ?_ ?_|refine LeO.bind ?_ (fun _=>?_))|refine LeO.ite ?_ ?_|refine LeO.bind ?_ (fun _=>?_)
theorem grottoref02_Bits.mono:∀ a0 k,LeO (grottoref02_Bits.f k a0) (grottoref02_Bits.f (k+1) a0):=by
 intro a0 k
 have ih0:=grottoref02_Bits.mono_l k
 unfold grottoref02_Bits.f
 repeat' first|(with_reducible first|apply ih0|apply grottoref02_trim.mono|exact LeO.refl _|exact LeO.none _|refine LeO.ite ?_ ?_|refine LeO.bind ?_ (fun _=>?_))|refine LeO.ite ?_ ?_|refine LeO.bind ?_ (fun _=>?_)
set_option maxHeartbeats 8000000 in
set_option maxRecDepth 100000 in
theorem grottoref02_Bits.calls (k:Nat) (E:Option Addr) (F:Nat) (l0:List Int) (r:Int) (w:World) (hr0:Kd.C (Kd.int .i64) w E l0.length l0) (hc0:l0.length≤F) (h:grottoref02_Bits.f k l0=some r) :
  Calls Try.prog 65 #[.slice E l0.length F] w fun e w'=>e=.returned (.int .i64 r)∧Below w.heap.size w w':=by
 have s:=Aside0.mk hr0
 have u:=Aside0.mk hc0
 clear hr0 hc0
 have HB:=Aside0.mk (Below.refl w.heap.size w)
 have H:=h
 unfold grottoref02_Bits.f at H
 clear h
 obtain⟨a,J,H⟩:=oB H
 by_cases p:(a.length:Int)=0
 ·rw[if_pos p] at H
  obtain⟨n,o⟩:=zt p
  clear p
  obtain rfl:=Option.some.inj H
  go_enter Try.func65,Try.ntmps65
  go_wp2_with (first|((with_reducible refine gate_callee (f:=91) rfl ?_);refine zgo (some 6) Try.func91 #[.slice E l0.length F] ?_;(with_reducible refine (grottoref02_trim.calls k (fun k_=>k_<w.heap.size) _ _ l0 a _ ?side1 J.out).mono ?_);(case side1=>exact Kd.V_mk u.out (Kd.F_below (Kd.C_F (Kd.heap_int .i64) s.out) (zb HB)));rintro e R ⟨v277,rfl,ho0,hb⟩;refine⟨_,rfl,?_⟩;have g:=Aside0.mk (Kd.V_lower (Kd.V_mono (ok':=fun k_=>True) ho0 (fun k_ hk_=>trivial)) (below_size (zb HB)));replace HB:=zbs HB hb;clear hb;(try clear ho0);obtain⟨P,Q,K⟩:=Kd.V_slice g.out;subst K))
  go_ret
  exact zr HB
 rw[if_neg p] at H
 obtain⟨n,o⟩:=zf p
 have v:¬ (a=[]):=fun h_=>p (by rw[h_];rfl)
 obtain⟨b,c⟩:∃ j_:Int,(wrap64 ((a.length:Int)-1))=j_:=⟨_,rfl⟩
 first|rw[c] at H|simp only[c] at H
 (try rw[c] at J)
 have L:(IntKind.i64.wrap ((a.length:Int)-1))=b:=(i64_w _).trans c
 by_cases G:0≤(b)
 rotate_left
 ·rw[if_neg G] at H
  exact absurd H (by simp)

 rw[if_pos G] at H
 have y:decide (0≤(b))=true:=decide_eq_true G
 clear G
 by_cases I:(b)<(a.length:Int)
 rotate_left
 ·rw[if_neg I] at H
  exact absurd H (by simp)
 rw[if_pos I] at H
 have z:decide ((b)<(a.length:Int))=true:=decide_eq_true I
 clear I
 have H':=Aside0.mk H
 clear H
 go_enter Try.func65,Try.ntmps65
 go_wp2_with (first|((with_reducible refine gate_callee (f:=91) rfl ?_);refine zgo (some 6) Try.func91 #[.slice E l0.length F] ?_;(with_reducible refine (grottoref02_trim.calls k (fun k_=>k_<w.heap.size) _ _ l0 a _ ?side1 J.out).mono ?_);(case side1=>exact Kd.V_mk u.out (Kd.F_below (Kd.C_F (Kd.heap_int .i64) s.out) (zb HB)));rintro e S ⟨v277,rfl,ho0,hb⟩;refine⟨_,rfl,?_⟩;have g:=Aside0.mk (Kd.V_lower (Kd.V_mono (ok':=fun k_=>True) ho0 (fun k_ hk_=>trivial)) (below_size (zb HB)));replace HB:=zbs HB hb;clear hb;(try clear ho0);obtain⟨N,O,B⟩:=Kd.V_slice g.out;subst B;have i:0≤((b):Int):=of_decide_eq_true (by first|(with_reducible assumption)|assumption);have j:(b)<(a.length:Int):=of_decide_eq_true (by first|(with_reducible assumption)|assumption);obtain⟨M,e279,hx279_0⟩:=Kd.at_int (Kd.V_reads' g.out).2.2 (b) i j;cases e279;replace i:=eq_true i;replace j:=eq_true j))
 go_loopg [3,4] k (fun kq v3 v4 w'=>∃ (l:Int) (d:Int),v3=.int .i64 l∧v4=.int .i64 d∧Aside0 (grottoref02_Bits.l0 kq l d=some r)∧Aside0 (kq≤k)∧Aside0 (Below w.heap.size w w'))
 case atStart=>exact⟨(wrap64 (16*(b))),(rd a (b)),(by first|rfl|(simp;done)|(simp only[←c] <;> (first|rfl|simp))|(simp[*];done)),(by first|rfl|(simp;done)|(simp only[←c] <;> (first|rfl|simp))|(simp[*];done)),H',⟨Nat.le_refl _⟩,⟨zb HB⟩⟩
 case round =>
  clear H'
  try clear p n o v y z hx279_0 i j
  obtain⟨l,d,rfl,rfl,HA,D,HB⟩:=hrel
  cases gk with
  | zero=>exact absurd HA.out (by simp[grottoref02_Bits.l0])
  | succ k1 =>
   have H:=HA.out
   clear HA
   simp only[grottoref02_Bits.l0] at H
   by_cases m:d>0
   ·rw[if_pos m] at H
    have q:decide (0<d)=true:=decide_eq_true m
    clear m
    have H':=Aside0.mk H
    clear H
    go_wp2
    go_roundg k1
    case measure=>have:=D.out;omega
    case rel=>exact⟨(wrap64 (l+1)),(wrap64 (Int.tdiv d 2)),(by first|rfl|(simp[*];done)),(by first|rfl|(simp[*];done)),H',⟨by have:=D.out;omega⟩,⟨zb HB⟩⟩
   rw[if_neg m] at H
   have q:decide (0<d)=false:=decide_eq_false m
   clear m
   obtain rfl:=Option.some.inj H
   go_wp2
   go_ret
   exact⟨by first|rfl|(simp[errW_none,errW_some] <;> rfl)|(simp only[←c];first|rfl|(simp[errW_none,errW_some] <;> rfl))|(simp[*,errW_none,errW_some] <;> rfl),zb HB⟩
/-! ### grottoref02_Plus: function 74 -/
mutual
def grottoref02_Plus.l0:Nat→List Int→List Int→List Int→Int→Int→Option (List Int)
 | 0,_,_,_,_,_=>none
 | k+1,b,c,d,e,a=>if a<(b.length:Int) then (grottoref02_Plus.j1 k b c d e a true) else (grottoref02_Plus.j1 k b c d e a (decide (a<(c.length:Int))))
def grottoref02_Plus.j1:Nat→List Int→List Int→List Int→Int→Int→Bool→Option (List Int)
 | 0,_,_,_,_,_,_=>none
 | k+1,d,b,c,e,a,g=>if g=true then (if a<(d.length:Int) then (if 0≤a then (if a<(b.length:Int) then (if c.length<17592186044416 then (grottoref02_Plus.l0 k d b (c++[Int.tmod (wrap64 ((wrap64 (e+(rd d a)))+(rd b a))) 65536]) (wrap64 (Int.tdiv (wrap64 ((wrap64 (e+(rd d a)))+(rd b a))) 65536)) (wrap64 (a+1))) else (none)) else (if c.length<17592186044416 then (grottoref02_Plus.l0 k d b (c++[Int.tmod (wrap64 (e+(rd d a))) 65536]) (wrap64 (Int.tdiv (wrap64 (e+(rd d a))) 65536)) (wrap64 (a+1))) else (none))) else (none)) else (if a<(b.length:Int) then (if 0≤a then (if c.length<17592186044416 then (grottoref02_Plus.l0 k d b (c++[Int.tmod (wrap64 (e+(rd b a))) 65536]) (wrap64 (Int.tdiv (wrap64 (e+(rd b a))) 65536)) (wrap64 (a+1))) else (none)) else (none)) else (if c.length<17592186044416 then (grottoref02_Plus.l0 k d b (c++[Int.tmod e 65536]) (wrap64 (Int.tdiv e 65536)) (wrap64 (a+1))) else (none)))) else (if c.length<17592186044416 then ((grottoref02_trim.f k (c++[e])).bind fun h=>(some h)) else (none))
end
def grottoref02_Plus.f (k:Nat) (l0:List Int) (l1:List Int):Option (List Int):=grottoref02_Plus.l0 k l0 l1 ([]:List Int) 0 0
theorem grottoref02_Plus.mono_l:∀ k,(∀ y0 y1 y2 y3 y4,LeO (grottoref02_Plus.l0 k y0 y1 y2 y3 y4) (grottoref02_Plus.l0 (k+1) y0 y1 y2 y3 y4))∧(∀ y0 y1 y2 y3 y4 y5,LeO (grottoref02_Plus.j1 k y0 y1 y2 y3 y4 y5) (grottoref02_Plus.j1 (k+1) y0 y1 y2 y3 y4 y5))
 | 0=>⟨fun _ _ _ _ _ r h=>by simp[grottoref02_Plus.l0] at h,fun _ _ _ _ _ _ r h=>by simp[grottoref02_Plus.j1] at h⟩
 | k+1=>by
  obtain⟨ih0,ih1⟩:=grottoref02_Plus.mono_l k
  refine⟨?_,?_⟩ <;> intros <;> (first|unfold grottoref02_Plus.l0|unfold grottoref02_Plus.j1) <;> (repeat' first|(with_reducible first|apply ih0|apply ih1|apply grottoref02_trim.mono|exact LeO.refl _|exact LeO.none _|refine LeO.ite ?_ ?_|refine LeO.bind ?_ (fun _=>?_))|refine LeO.ite ?_ ?_|refine LeO.bind ?_ (fun _=>?_))
theorem grottoref02_Plus.mono:∀ a0 a1 k,LeO (grottoref02_Plus.f k a0 a1) (grottoref02_Plus.f (k+1) a0 a1):=by
 intro a0 a1 k
 obtain⟨ih0,ih1⟩:=grottoref02_Plus.mono_l k
 unfold grottoref02_Plus.f
 repeat' first|(with_reducible first|apply ih0|apply ih1|apply grottoref02_trim.mono|exact LeO.refl _|exact LeO.none _|refine LeO.ite ?_ ?_|refine LeO.bind ?_ (fun _=>?_))|refine LeO.ite ?_ ?_|refine LeO.bind ?_ (fun _=>?_)
set_option maxHeartbeats 8000000 in
set_option maxRecDepth 100000 in
theorem grottoref02_Plus.calls (k:Nat) (A0:Option Addr) (c0:Nat) (l0:List Int) (A1:Option Addr) (c1:Nat) (l1:List Int) (r:List Int) (w:World) (hr0:Kd.C (Kd.int .i64) w A0 l0.length l0) (hc0:l0.length≤c0) (hr1:Kd.C (Kd.int .i64) w A1 l1.length l1) (hc1:l1.length≤c1) (h:grottoref02_Plus.f k l0 l1=some r) :
  Calls Try.prog 74 #[.slice A0 l0.length c0,.slice A1 l1.length c1] w fun e w'=>∃ v0_:Value,e=.returned (v0_)∧Kd.V (Kd.int .i64) 3 w' w.heap.size (fun k_=>(w.heap.size≤k_)) v0_ r∧Below w.heap.size w w':=by
 have ac:=Aside0.mk hr0
 have av:=Aside0.mk hc0
 clear hr0 hc0
 have ad:=Aside0.mk hr1
 have aw:=Aside0.mk hc1
 clear hr1 hc1
 have HB:=Aside0.mk (Below.refl w.heap.size w)
 have H:=h
 unfold grottoref02_Plus.f at H
 clear h
 have H':=Aside0.mk H
 clear H
 go_enter Try.func74,Try.ntmps74
 go_wp2
 go_loopg [5,6,7] k (fun kq v5 v6 v7 w'=>∃ (d:List Int) (c:Int) (a:Int),v6=.int .i64 c∧v7=.int .i64 a∧Aside0 (grottoref02_Plus.l0 kq l0 l1 d c a=some r)∧Aside0 (kq≤k)∧Aside0 (Kd.R (Kd.int .i64) 3 w' w.heap.size (fun k_=>(w.heap.size≤k_)) v5 d)∧Aside0 (Below w.heap.size w w'))
 case atStart=>exact⟨(([]:List Int)),(0),(0),(by first|rfl|(simp[*];done)),(by first|rfl|(simp[*];done)),H',⟨Nat.le_refl _⟩,⟨by first|exact Kd.R_nil _ _ _ _ _|exact Kd.N_nil _ _ _ _ _|exact Kd.V_nil _ _ _ _ _|exact Kd.Q_nil _ _ _ _ _|exact Kd.S_nil _ _ _ _ _⟩,⟨zb HB⟩⟩
 case round =>
  clear H'
  try clear c1
  obtain⟨d,c,a,rfl,rfl,HA,l,HO_5,HB⟩:=hrel
  cases gk with
  | zero=>exact absurd HA.out (by simp[grottoref02_Plus.l0])
  | succ k1 =>
   have H:=HA.out
   clear HA
   simp only[grottoref02_Plus.l0] at H
   have K:=Aside0.mk H
   clear H
   go_upto_region 4 with (fail)
   go_cut [18] (fun v18 wc=>∃ (kq:Nat) (n:Bool),v18=.bool n∧Aside0 (grottoref02_Plus.j1 kq l0 l1 d c a n=some r)∧Aside0 (kq≤k1)∧Aside0 (Kd.R (Kd.int .i64) 3 wc w.heap.size (fun k_=>(w.heap.size≤k_)) u5 d)∧Aside0 (Below w.heap.size w wc))
   case first =>
    have H:=K.out
    clear K
    by_cases Z:a<(l0.length:Int)
    ·rw[if_pos Z] at H
     have o:decide (a<(l0.length:Int))=true:=decide_eq_true Z
     clear Z
     (first|rw[o]|(simp only[i64_w,i32_w];rw[o])|skip)
     have H':=Aside0.mk H
     clear H
     go_wp2
     go_meet
     case rel=>exact⟨_,(true),(by first|rfl|(simp[*];done)),H',⟨by have:=l.out;first|omega|exact Nat.le_refl _⟩,⟨by (with_reducible repeat (first|apply Kd.R_alloc|apply Kd.R_drewN|apply Kd.R_drew));exact HO_5.out⟩,⟨zb HB⟩⟩
    rw[if_neg Z] at H
    have o:decide (a<(l0.length:Int))=false:=decide_eq_false Z
    clear Z
    (first|rw[o]|(simp only[i64_w,i32_w];rw[o])|skip)
    have H':=Aside0.mk H
    clear H
    go_wp2
    go_meet
    case rel=>exact⟨_,(decide (a<(l1.length:Int))),(by first|rfl|(simp[*];done)),H',⟨by have:=l.out;first|omega|exact Nat.le_refl _⟩,⟨by (with_reducible repeat (first|apply Kd.R_alloc|apply Kd.R_drewN|apply Kd.R_drew));exact HO_5.out⟩,⟨zb HB⟩⟩
   case rest =>
    clear K
    try clear c1 p2 p2
    obtain⟨kq,n,rfl,HA,p,HO_5,HB⟩:=hcut
    cases kq with
    | zero=>exact absurd HA.out (by simp[grottoref02_Plus.j1])
    | succ m =>
     have H:=HA.out
     clear HA
     simp only[grottoref02_Plus.j1] at H
     by_cases c5:n=true
     rotate_left
     ·replace c5:=Bool.eq_false_iff.mpr c5
      subst c5
      rw[if_neg nft] at H
      by_cases G:d.length<17592186044416
      ·rw[if_pos G] at H
       have LMc19:=Aside0.mk G
       clear G
       obtain⟨y280,hy280⟩:∃ y_:List Int,y_=(d++[c]):=⟨_,rfl⟩
       replace H:((grottoref02_trim.f m y280).bind fun z=>(some z))=some r:=by first|(rw[hy280];with_reducible exact H)|(have H2_:=(Option.bind_some _ _).symm.trans H;rw[hy280];with_reducible exact H2_)|(have H2_:=(Option.bind_some _ _).symm.trans H;with_reducible exact H2_)|with_reducible exact H|(rw[hy280];exact H)|exact H
       have X:=Aside0.mk hy280
       clear hy280
       obtain⟨z,ao,H⟩:=oB H
       obtain rfl:=Option.some.inj H
       go_wp2_with (first|((with_reducible refine gate_builtin (b:=.append) (xs:=#[.tmp 49,.tmp 51]) rfl ?_);(try (refine gate_guard (by rfl) ?_;dsimp only));at_builtin;refine Kd.R_append (Kd.int .i64) (w0:=w) w.heap.size rfl (.tmp 49) (.tmp 51) 71 3 (.int .i64 0) 8 rfl Try.underlying71 info3 rfl (by decide) (by omega) u5 d c [.int .i64 c] (fun k_=>(w.heap.size≤k_)) (fun _=>False) rfl rfl ?aP (fun _ hk=>hk.elim) ?aF ?aO ?aB ?aS ?aL ?_;(case aP=>exact rfl);(case aB=>exact (zb HB));(case aF=>exact (fun k_ hk=>(Nat.le_trans (below_size (zb HB)) hk)));(case aO=>exact (by (with_reducible repeat (first|apply Kd.R_alloc|apply Kd.R_drewN|apply Kd.R_drew));exact HO_5.out));(case aS=>exact (below_size (zb HB)));(case aL=>have:=LMc19.out;omega);intro v281 aD ho hb hg hat;rw[←X.out] at ho;have j:=Aside0.mk (ho);replace HB:=Aside0.mk (hb);clear HO_5;clear ho hb hg hat;obtain⟨I,J,ag⟩:=Kd.R_slice j.out;subst ag)|((with_reducible refine gate_callee (f:=91) rfl ?_);refine zgo (some 53) Try.func91 #[.slice I y280.length J] ?_;(with_reducible refine (grottoref02_trim.calls m (fun k_=>some k_=(.slice I y280.length J:Value).ownBlock) _ _ y280 z _ ?side1 ao.out).mono ?_);(case side1=>exact Kd.R_V (Kd.R_tight rfl (j.out)));rintro e aE ⟨v284,rfl,ho0,hb⟩;refine⟨_,rfl,?_⟩;have Y:=Aside0.mk (Kd.V_lower (Kd.V_mono (ok':=fun k_=>(w.heap.size≤k_)) ho0 (fun k_ hk_=>Or.elim hk_ (fun hs_=>((j.out).1 k_ hs_.symm)) (fun hn_=>(Nat.le_trans (below_size (zb HB)) hn_)))) (below_size (zb HB)));replace j:=Aside0.mk (Kd.R_below (by (with_reducible repeat (first|apply Kd.R_alloc|apply Kd.R_drewN|apply Kd.R_drew));exact j.out) hb);replace HB:=zbs HB hb;clear hb;(try clear ho0)))
       go_ret
       exact⟨_,by first|rfl|(simp[errW_none,errW_some] <;> rfl)|(simp[*,errW_none,errW_some] <;> rfl),by (with_reducible repeat (first|apply Kd.V_alloc|apply Kd.V_drewN|apply Kd.V_drew));exact Y.out,zb HB⟩
      rw[if_neg G] at H
      exact absurd H (by simp)

     subst c5
     rw[if_pos rfl] at H
     by_cases c6:a<(l0.length:Int)
     ·rw[if_pos c6] at H
      have ae:decide (a<(l0.length:Int))=true:=decide_eq_true c6
      clear c6
      by_cases c7:0≤a
      rotate_left
      ·rw[if_neg c7] at H
       exact absurd H (by simp)
      rw[if_pos c7] at H
      have au:decide (0≤a)=true:=decide_eq_true c7
      clear c7
      by_cases c8:a<(l1.length:Int)
      ·rw[if_pos c8] at H
       have af:decide (a<(l1.length:Int))=true:=decide_eq_true c8
       clear c8
       by_cases c9:d.length<17592186044416
       ·rw[if_pos c9] at H
        have LMc9:=Aside0.mk c9
        clear c9
        obtain⟨y288,hy288⟩:∃ y_:List Int,y_=(d++[Int.tmod (wrap64 ((wrap64 (c+(rd l0 a)))+(rd l1 a))) 65536]):=⟨_,rfl⟩
        replace H:(grottoref02_Plus.l0 m l0 l1 y288 (wrap64 (Int.tdiv (wrap64 ((wrap64 (c+(rd l0 a)))+(rd l1 a))) 65536)) (wrap64 (a+1)))=some r:=by first|(rw[hy288];with_reducible exact H)|(have H2_:=(Option.bind_some _ _).symm.trans H;rw[hy288];with_reducible exact H2_)|(have H2_:=(Option.bind_some _ _).symm.trans H;with_reducible exact H2_)|with_reducible exact H|(rw[hy288];exact H)|exact H
        have L:=Aside0.mk hy288
        clear hy288
        have H':=Aside0.mk H
        clear H
        have g:0≤(a:Int):=of_decide_eq_true (by first|(with_reducible assumption)|assumption)
        have i:a<(l0.length:Int):=of_decide_eq_true (by first|(with_reducible assumption)|assumption)
        obtain⟨M,e286,hx286_0⟩:=Kd.at_int ac.out a g i
        cases e286
        replace hx286_0:=(HB.out.cell (World.block_lt_of_cell? w _ hx286_0)).trans hx286_0
        replace g:=eq_true g
        replace i:=eq_true i
        have s:0≤(a:Int):=of_decide_eq_true (by first|(with_reducible assumption)|assumption)
        have u:a<(l1.length:Int):=of_decide_eq_true (by first|(with_reducible assumption)|assumption)
        obtain⟨al,e287,hx287_0⟩:=Kd.at_int ad.out a s u
        cases e287
        replace hx287_0:=(HB.out.cell (World.block_lt_of_cell? w _ hx287_0)).trans hx287_0
        replace s:=eq_true s
        replace u:=eq_true u
        go_wp2_with (first|((with_reducible refine gate_builtin (b:=.append) (xs:=#[.tmp 42,.tmp 45]) rfl ?_);(try (refine gate_guard (by rfl) ?_;dsimp only));at_builtin;refine Kd.R_append (Kd.int .i64) (w0:=w) w.heap.size rfl (.tmp 42) (.tmp 45) 71 3 (.int .i64 0) 8 rfl Try.underlying71 info3 rfl (by decide) (by omega) u5 d (Int.tmod (wrap64 ((wrap64 (c+(rd l0 a)))+(rd l1 a))) 65536) [.int .i64 (Int.tmod (wrap64 ((wrap64 (c+(rd l0 a)))+(rd l1 a))) 65536)] (fun k_=>(w.heap.size≤k_)) (fun _=>False) rfl rfl ?aP (fun _ hk=>hk.elim) ?aF ?aO ?aB ?aS ?aL ?_;(case aP=>exact rfl);(case aB=>exact (zb HB));(case aF=>exact (fun k_ hk=>(Nat.le_trans (below_size (zb HB)) hk)));(case aO=>exact (by (with_reducible repeat (first|apply Kd.R_alloc|apply Kd.R_drewN|apply Kd.R_drew));exact HO_5.out));(case aS=>exact (below_size (zb HB)));(case aL=>have:=LMc9.out;omega);intro v289 ay ho hb hg hat;rw[←L.out] at ho;have N:=Aside0.mk (ho);replace HB:=Aside0.mk (hb);clear HO_5;clear ho hb hg hat))
        go_roundg m
        case measure=>have:=l.out;have:=p.out;omega
        case rel=>exact⟨(y288),(wrap64 (Int.tdiv (wrap64 ((wrap64 (c+(rd l0 a)))+(rd l1 a))) 65536)),(wrap64 (a+1)),(by first|rfl|(simp[*];done)),(by first|rfl|(simp[*];done)),H',⟨by have:=l.out;have:=p.out;omega⟩,⟨by (with_reducible repeat (first|apply Kd.R_alloc|apply Kd.R_drewN|apply Kd.R_drew));exact N.out⟩,⟨zb HB⟩⟩
       rw[if_neg c9] at H
       exact absurd H (by simp)
      rw[if_neg c8] at H
      have af:decide (a<(l1.length:Int))=false:=decide_eq_false c8
      clear c8
      by_cases B:d.length<17592186044416
      ·rw[if_pos B] at H
       have LMc11:=Aside0.mk B
       clear B
       obtain⟨y291,hy291⟩:∃ y_:List Int,y_=(d++[Int.tmod (wrap64 (c+(rd l0 a))) 65536]):=⟨_,rfl⟩
       replace H:(grottoref02_Plus.l0 m l0 l1 y291 (wrap64 (Int.tdiv (wrap64 (c+(rd l0 a))) 65536)) (wrap64 (a+1)))=some r:=by first|(rw[hy291];with_reducible exact H)|(have H2_:=(Option.bind_some _ _).symm.trans H;rw[hy291];with_reducible exact H2_)|(have H2_:=(Option.bind_some _ _).symm.trans H;with_reducible exact H2_)|with_reducible exact H|(rw[hy291];exact H)|exact H
       have O:=Aside0.mk hy291
       clear hy291
       have H':=Aside0.mk H
       clear H
       have g:0≤(a:Int):=of_decide_eq_true (by first|(with_reducible assumption)|assumption)
       have i:a<(l0.length:Int):=of_decide_eq_true (by first|(with_reducible assumption)|assumption)
       obtain⟨M,e286,hx286_0⟩:=Kd.at_int ac.out a g i
       cases e286
       replace hx286_0:=(HB.out.cell (World.block_lt_of_cell? w _ hx286_0)).trans hx286_0
       replace g:=eq_true g
       replace i:=eq_true i
       go_wp2_with (first|((with_reducible refine gate_builtin (b:=.append) (xs:=#[.tmp 42,.tmp 45]) rfl ?_);(try (refine gate_guard (by rfl) ?_;dsimp only));at_builtin;refine Kd.R_append (Kd.int .i64) (w0:=w) w.heap.size rfl (.tmp 42) (.tmp 45) 71 3 (.int .i64 0) 8 rfl Try.underlying71 info3 rfl (by decide) (by omega) u5 d (Int.tmod (wrap64 (c+(rd l0 a))) 65536) [.int .i64 (Int.tmod (wrap64 (c+(rd l0 a))) 65536)] (fun k_=>(w.heap.size≤k_)) (fun _=>False) rfl rfl ?aP (fun _ hk=>hk.elim) ?aF ?aO ?aB ?aS ?aL ?_;(case aP=>exact rfl);(case aB=>exact (zb HB));(case aF=>exact (fun k_ hk=>(Nat.le_trans (below_size (zb HB)) hk)));(case aO=>exact (by (with_reducible repeat (first|apply Kd.R_alloc|apply Kd.R_drewN|apply Kd.R_drew));exact HO_5.out));(case aS=>exact (below_size (zb HB)));(case aL=>have:=LMc11.out;omega);intro v292 az ho hb hg hat;rw[←O.out] at ho;have P:=Aside0.mk (ho);replace HB:=Aside0.mk (hb);clear HO_5;clear ho hb hg hat))
       go_roundg m
       case measure=>have:=l.out;have:=p.out;omega
       case rel=>exact⟨(y291),(wrap64 (Int.tdiv (wrap64 (c+(rd l0 a))) 65536)),(wrap64 (a+1)),(by first|rfl|(simp[*];done)),(by first|rfl|(simp[*];done)),H',⟨by have:=l.out;have:=p.out;omega⟩,⟨by (with_reducible repeat (first|apply Kd.R_alloc|apply Kd.R_drewN|apply Kd.R_drew));exact P.out⟩,⟨zb HB⟩⟩
      rw[if_neg B] at H
      exact absurd H (by simp)
     rw[if_neg c6] at H
     have ae:decide (a<(l0.length:Int))=false:=decide_eq_false c6
     clear c6
     by_cases q:a<(l1.length:Int)
     ·rw[if_pos q] at H
      have Q:decide (a<(l1.length:Int))=true:=decide_eq_true q
      clear q
      by_cases D:0≤a
      ·rw[if_pos D] at H
       have am:decide (0≤a)=true:=decide_eq_true D
       clear D
       by_cases E:d.length<17592186044416
       ·rw[if_pos E] at H
        have LMc15:=Aside0.mk E
        clear E
        obtain⟨y295,hy295⟩:∃ y_:List Int,y_=(d++[Int.tmod (wrap64 (c+(rd l1 a))) 65536]):=⟨_,rfl⟩
        replace H:(grottoref02_Plus.l0 m l0 l1 y295 (wrap64 (Int.tdiv (wrap64 (c+(rd l1 a))) 65536)) (wrap64 (a+1)))=some r:=by first|(rw[hy295];with_reducible exact H)|(have H2_:=(Option.bind_some _ _).symm.trans H;rw[hy295];with_reducible exact H2_)|(have H2_:=(Option.bind_some _ _).symm.trans H;with_reducible exact H2_)|with_reducible exact H|(rw[hy295];exact H)|exact H
        have S:=Aside0.mk hy295
        clear hy295
        have H':=Aside0.mk H
        clear H
        have v:0≤(a:Int):=of_decide_eq_true (by first|(with_reducible assumption)|assumption)
        have y:a<(l1.length:Int):=of_decide_eq_true (by first|(with_reducible assumption)|assumption)
        obtain⟨an,e294,hx294_0⟩:=Kd.at_int ad.out a v y
        cases e294
        replace hx294_0:=(HB.out.cell (World.block_lt_of_cell? w _ hx294_0)).trans hx294_0
        replace v:=eq_true v
        replace y:=eq_true y
        go_wp2_with (first|((with_reducible refine gate_builtin (b:=.append) (xs:=#[.tmp 42,.tmp 45]) rfl ?_);(try (refine gate_guard (by rfl) ?_;dsimp only));at_builtin;refine Kd.R_append (Kd.int .i64) (w0:=w) w.heap.size rfl (.tmp 42) (.tmp 45) 71 3 (.int .i64 0) 8 rfl Try.underlying71 info3 rfl (by decide) (by omega) u5 d (Int.tmod (wrap64 (c+(rd l1 a))) 65536) [.int .i64 (Int.tmod (wrap64 (c+(rd l1 a))) 65536)] (fun k_=>(w.heap.size≤k_)) (fun _=>False) rfl rfl ?aP (fun _ hk=>hk.elim) ?aF ?aO ?aB ?aS ?aL ?_;(case aP=>exact rfl);(case aB=>exact (zb HB));(case aF=>exact (fun k_ hk=>(Nat.le_trans (below_size (zb HB)) hk)));(case aO=>exact (by (with_reducible repeat (first|apply Kd.R_alloc|apply Kd.R_drewN|apply Kd.R_drew));exact HO_5.out));(case aS=>exact (below_size (zb HB)));(case aL=>have:=LMc15.out;omega);intro v296 aA ho hb hg hat;rw[←S.out] at ho;have T:=Aside0.mk (ho);replace HB:=Aside0.mk (hb);clear HO_5;clear ho hb hg hat))
        go_roundg m
        case measure=>have:=l.out;have:=p.out;omega
        case rel=>exact⟨(y295),(wrap64 (Int.tdiv (wrap64 (c+(rd l1 a))) 65536)),(wrap64 (a+1)),(by first|rfl|(simp[*];done)),(by first|rfl|(simp[*];done)),H',⟨by have:=l.out;have:=p.out;omega⟩,⟨by (with_reducible repeat (first|apply Kd.R_alloc|apply Kd.R_drewN|apply Kd.R_drew));exact T.out⟩,⟨zb HB⟩⟩
       rw[if_neg E] at H
       exact absurd H (by simp)
      rw[if_neg D] at H
      exact absurd H (by simp)
     rw[if_neg q] at H
     have Q:decide (a<(l1.length:Int))=false:=decide_eq_false q
     clear q
     by_cases F:d.length<17592186044416
     ·rw[if_pos F] at H
      have LMc17:=Aside0.mk F
      clear F
      obtain⟨y298,hy298⟩:∃ y_:List Int,y_=(d++[Int.tmod c 65536]):=⟨_,rfl⟩
      replace H:(grottoref02_Plus.l0 m l0 l1 y298 (wrap64 (Int.tdiv c 65536)) (wrap64 (a+1)))=some r:=by first|(rw[hy298];with_reducible exact H)|(have H2_:=(Option.bind_some _ _).symm.trans H;rw[hy298];with_reducible exact H2_)|(have H2_:=(Option.bind_some _ _).symm.trans H;with_reducible exact H2_)|with_reducible exact H|(rw[hy298];exact H)|exact H
      have U:=Aside0.mk hy298
      clear hy298
      have H':=Aside0.mk H
      clear H
      go_wp2_with (first|((with_reducible refine gate_builtin (b:=.append) (xs:=#[.tmp 42,.tmp 45]) rfl ?_);(try (refine gate_guard (by rfl) ?_;dsimp only));at_builtin;refine Kd.R_append (Kd.int .i64) (w0:=w) w.heap.size rfl (.tmp 42) (.tmp 45) 71 3 (.int .i64 0) 8 rfl Try.underlying71 info3 rfl (by decide) (by omega) u5 d (Int.tmod c 65536) [.int .i64 (Int.tmod c 65536)] (fun k_=>(w.heap.size≤k_)) (fun _=>False) rfl rfl ?aP (fun _ hk=>hk.elim) ?aF ?aO ?aB ?aS ?aL ?_;(case aP=>exact rfl);(case aB=>exact (zb HB));(case aF=>exact (fun k_ hk=>(Nat.le_trans (below_size (zb HB)) hk)));(case aO=>exact (by (with_reducible repeat (first|apply Kd.R_alloc|apply Kd.R_drewN|apply Kd.R_drew));exact HO_5.out));(case aS=>exact (below_size (zb HB)));(case aL=>have:=LMc17.out;omega);intro v299 aC ho hb hg hat;rw[←U.out] at ho;have W:=Aside0.mk (ho);replace HB:=Aside0.mk (hb);clear HO_5;clear ho hb hg hat))
      go_roundg m
      case measure=>have:=l.out;have:=p.out;omega
      case rel=>exact⟨(y298),(wrap64 (Int.tdiv c 65536)),(wrap64 (a+1)),(by first|rfl|(simp[*];done)),(by first|rfl|(simp[*];done)),H',⟨by have:=l.out;have:=p.out;omega⟩,⟨by (with_reducible repeat (first|apply Kd.R_alloc|apply Kd.R_drewN|apply Kd.R_drew));exact W.out⟩,⟨zb HB⟩⟩
     rw[if_neg F] at H
     exact absurd H (by simp)
/-! ### grottoref02_Cmp: function 75 -/
def grottoref02_Cmp.l0:Nat→List Int→List Int→Int→Option (Int)
 | 0,_,_,_=>none
 | k+1,b,c,a=>if a≥0 then (if 0≤a then (if a<(b.length:Int) then (if a<(c.length:Int) then (if (rd b a)<(rd c a) then (some (-1)) else (if (rd b a)>(rd c a) then (some 1) else (grottoref02_Cmp.l0 k b c (wrap64 (a-1))))) else (none)) else (none)) else (none)) else (some 0)
def grottoref02_Cmp.f (k:Nat) (l0:List Int) (l1:List Int):Option (Int):=(grottoref02_trim.f k l0).bind fun a=>((grottoref02_trim.f k l1).bind fun b=>(if (a.length:Int)=(b.length:Int) then (grottoref02_Cmp.l0 k a b (wrap64 ((a.length:Int)-1))) else (if (a.length:Int)<(b.length:Int) then (some (-1)) else (some 1))))
theorem grottoref02_Cmp.mono_l:∀ k,(∀ y0 y1 y2,LeO (grottoref02_Cmp.l0 k y0 y1 y2) (grottoref02_Cmp.l0 (k+1) y0 y1 y2))
 | 0=>fun _ _ _ r h=>by simp[grottoref02_Cmp.l0] at h
 | k+1=>by
  have ih0:=grottoref02_Cmp.mono_l k
  intros;unfold grottoref02_Cmp.l0;repeat' first|(with_reducible first|apply ih0|apply grottoref02_trim.mono|exact LeO.refl _|exact LeO.none _|refine LeO.ite ?_ ?_|refine LeO.bind ?_ (fun _=>?_))|refine LeO.ite ?_ ?_|refine LeO.bind ?_ (fun _=>?_)
theorem grottoref02_Cmp.mono:∀ a0 a1 k,LeO (grottoref02_Cmp.f k a0 a1) (grottoref02_Cmp.f (k+1) a0 a1):=by
 intro a0 a1 k
 have ih0:=grottoref02_Cmp.mono_l k
 unfold grottoref02_Cmp.f
 repeat' first|(with_reducible first|apply ih0|apply grottoref02_trim.mono|exact LeO.refl _|exact LeO.none _|refine LeO.ite ?_ ?_|refine LeO.bind ?_ (fun _=>?_))|refine LeO.ite ?_ ?_|refine LeO.bind ?_ (fun _=>?_)
set_option maxHeartbeats 8000000 in
set_option maxRecDepth 100000 in
theorem grottoref02_Cmp.calls (k:Nat) (A0:Option Addr) (c0:Nat) (l0:List Int) (A1:Option Addr) (c1:Nat) (l1:List Int) (r:Int) (w:World) (hr0:Kd.C (Kd.int .i64) w A0 l0.length l0) (hc0:l0.length≤c0) (hr1:Kd.C (Kd.int .i64) w A1 l1.length l1) (hc1:l1.length≤c1) (h:grottoref02_Cmp.f k l0 l1=some r) :
  Calls Try.prog 75 #[.slice A0 l0.length c0,.slice A1 l1.length c1] w fun e w'=>e=.returned (.int .i64 r)∧Below w.heap.size w w':=by
 have s:=Aside0.mk hr0
 have u:=Aside0.mk hc0
 clear hr0 hc0
 have v:=Aside0.mk hr1
 have y:=Aside0.mk hc1
 clear hr1 hc1
 have HB:=Aside0.mk (Below.refl w.heap.size w)
 have H:=h
 unfold grottoref02_Cmp.f at H
 clear h
 obtain⟨c,Q,H⟩:=oB H
 obtain⟨d,R,H⟩:=oB H
 by_cases S:(c.length:Int)=(d.length:Int)
 rotate_left
 ·rw[if_neg S] at H
  obtain⟨X,Y⟩:=zf S
  have Z:(c.length==d.length)=false:=by first|simpa using S|(simp at S ⊢;omega)
  by_cases D:(c.length:Int)<(d.length:Int)
  ·rw[if_pos D] at H
   have ap:decide ((c.length:Int)<(d.length:Int))=true:=decide_eq_true D
   have aq:decide (c.length<d.length)=true:=decide_eq_true (Int.ofNat_lt.mp D)
   clear D
   obtain rfl:=Option.some.inj H
   go_enter Try.func75,Try.ntmps75
   go_wp2_with (first|(go_at_call 91;(with_reducible refine (grottoref02_trim.calls k (fun k_=>k_<w.heap.size) _ _ l0 c _ ?side1 Q.out).mono ?_);(case side1=>exact Kd.V_mk u.out (Kd.F_below (Kd.C_F (Kd.heap_int .i64) s.out) (zb HB)));rintro e au ⟨v302,rfl,ho0,hb⟩;have b:=Aside0.mk (Kd.V_lower (Kd.V_mono (ok':=fun k_=>True) ho0 (fun k_ hk_=>trivial)) (below_size (zb HB)));replace HB:=zbs HB hb;clear hb;(try clear ho0))|(go_at_call 91;(with_reducible refine (grottoref02_trim.calls k (fun k_=>k_<w.heap.size) _ _ l1 d _ ?side1 R.out).mono ?_);(case side1=>exact Kd.V_mk y.out (Kd.F_below (Kd.C_F (Kd.heap_int .i64) v.out) (zb HB)));rintro e av ⟨v305,rfl,ho0,hb⟩;have g:=Aside0.mk (Kd.V_lower (Kd.V_mono (ok':=fun k_=>True) ho0 (fun k_ hk_=>trivial)) (below_size (zb HB)));replace b:=Aside0.mk (Kd.V_below (by (with_reducible repeat (first|apply Kd.V_alloc|apply Kd.V_drewN|apply Kd.V_drew));exact b.out) hb);replace HB:=zbs HB hb;clear hb;(try clear ho0);obtain⟨aa,ab,E⟩:=Kd.V_slice b.out;subst E;obtain⟨ac,ad,F⟩:=Kd.V_slice g.out;subst F))
   repeat (go_quiet (first|(go_at_call 91;(with_reducible refine (grottoref02_trim.calls k (fun k_=>k_<w.heap.size) _ _ l0 c _ ?side1 Q.out).mono ?_);(case side1=>exact Kd.V_mk u.out (Kd.F_below (Kd.C_F (Kd.heap_int .i64) s.out) (zb HB)));rintro e au ⟨v302,rfl,ho0,hb⟩;have b:=Aside0.mk (Kd.V_lower (Kd.V_mono (ok':=fun k_=>True) ho0 (fun k_ hk_=>trivial)) (below_size (zb HB)));replace HB:=zbs HB hb;clear hb;(try clear ho0))|(go_at_call 91;(with_reducible refine (grottoref02_trim.calls k (fun k_=>k_<w.heap.size) _ _ l1 d _ ?side1 R.out).mono ?_);(case side1=>exact Kd.V_mk y.out (Kd.F_below (Kd.C_F (Kd.heap_int .i64) v.out) (zb HB)));rintro e av ⟨v305,rfl,ho0,hb⟩;have g:=Aside0.mk (Kd.V_lower (Kd.V_mono (ok':=fun k_=>True) ho0 (fun k_ hk_=>trivial)) (below_size (zb HB)));replace b:=Aside0.mk (Kd.V_below (by (with_reducible repeat (first|apply Kd.V_alloc|apply Kd.V_drewN|apply Kd.V_drew));exact b.out) hb);replace HB:=zbs HB hb;clear hb;(try clear ho0);obtain⟨aa,ab,E⟩:=Kd.V_slice b.out;subst E;obtain⟨ac,ad,F⟩:=Kd.V_slice g.out;subst F));try go_wp2_with (first|(go_at_call 91;(with_reducible refine (grottoref02_trim.calls k (fun k_=>k_<w.heap.size) _ _ l0 c _ ?side1 Q.out).mono ?_);(case side1=>exact Kd.V_mk u.out (Kd.F_below (Kd.C_F (Kd.heap_int .i64) s.out) (zb HB)));rintro e au ⟨v302,rfl,ho0,hb⟩;have b:=Aside0.mk (Kd.V_lower (Kd.V_mono (ok':=fun k_=>True) ho0 (fun k_ hk_=>trivial)) (below_size (zb HB)));replace HB:=zbs HB hb;clear hb;(try clear ho0))|(go_at_call 91;(with_reducible refine (grottoref02_trim.calls k (fun k_=>k_<w.heap.size) _ _ l1 d _ ?side1 R.out).mono ?_);(case side1=>exact Kd.V_mk y.out (Kd.F_below (Kd.C_F (Kd.heap_int .i64) v.out) (zb HB)));rintro e av ⟨v305,rfl,ho0,hb⟩;have g:=Aside0.mk (Kd.V_lower (Kd.V_mono (ok':=fun k_=>True) ho0 (fun k_ hk_=>trivial)) (below_size (zb HB)));replace b:=Aside0.mk (Kd.V_below (by (with_reducible repeat (first|apply Kd.V_alloc|apply Kd.V_drewN|apply Kd.V_drew));exact b.out) hb);replace HB:=zbs HB hb;clear hb;(try clear ho0);obtain⟨aa,ab,E⟩:=Kd.V_slice b.out;subst E;obtain⟨ac,ad,F⟩:=Kd.V_slice g.out;subst F)))
   go_ret
   exact zr HB
  rw[if_neg D] at H
  have ap:decide ((c.length:Int)<(d.length:Int))=false:=decide_eq_false D
  have aq:decide (c.length<d.length)=false:=decide_eq_false (fun h=>D (Int.ofNat_lt.mpr h))
  clear D
  obtain rfl:=Option.some.inj H
  go_enter Try.func75,Try.ntmps75
  go_wp2_with (first|(go_at_call 91;(with_reducible refine (grottoref02_trim.calls k (fun k_=>k_<w.heap.size) _ _ l0 c _ ?side1 Q.out).mono ?_);(case side1=>exact Kd.V_mk u.out (Kd.F_below (Kd.C_F (Kd.heap_int .i64) s.out) (zb HB)));rintro e aw ⟨v302,rfl,ho0,hb⟩;have b:=Aside0.mk (Kd.V_lower (Kd.V_mono (ok':=fun k_=>True) ho0 (fun k_ hk_=>trivial)) (below_size (zb HB)));replace HB:=zbs HB hb;clear hb;(try clear ho0))|(go_at_call 91;(with_reducible refine (grottoref02_trim.calls k (fun k_=>k_<w.heap.size) _ _ l1 d _ ?side1 R.out).mono ?_);(case side1=>exact Kd.V_mk y.out (Kd.F_below (Kd.C_F (Kd.heap_int .i64) v.out) (zb HB)));rintro e ax ⟨v305,rfl,ho0,hb⟩;have g:=Aside0.mk (Kd.V_lower (Kd.V_mono (ok':=fun k_=>True) ho0 (fun k_ hk_=>trivial)) (below_size (zb HB)));replace b:=Aside0.mk (Kd.V_below (by (with_reducible repeat (first|apply Kd.V_alloc|apply Kd.V_drewN|apply Kd.V_drew));exact b.out) hb);replace HB:=zbs HB hb;clear hb;(try clear ho0);obtain⟨ae,af,G⟩:=Kd.V_slice b.out;subst G;obtain⟨ag,ah,I⟩:=Kd.V_slice g.out;subst I))
  repeat (go_quiet (first|(go_at_call 91;(with_reducible refine (grottoref02_trim.calls k (fun k_=>k_<w.heap.size) _ _ l0 c _ ?side1 Q.out).mono ?_);(case side1=>exact Kd.V_mk u.out (Kd.F_below (Kd.C_F (Kd.heap_int .i64) s.out) (zb HB)));rintro e aw ⟨v302,rfl,ho0,hb⟩;have b:=Aside0.mk (Kd.V_lower (Kd.V_mono (ok':=fun k_=>True) ho0 (fun k_ hk_=>trivial)) (below_size (zb HB)));replace HB:=zbs HB hb;clear hb;(try clear ho0))|(go_at_call 91;(with_reducible refine (grottoref02_trim.calls k (fun k_=>k_<w.heap.size) _ _ l1 d _ ?side1 R.out).mono ?_);(case side1=>exact Kd.V_mk y.out (Kd.F_below (Kd.C_F (Kd.heap_int .i64) v.out) (zb HB)));rintro e ax ⟨v305,rfl,ho0,hb⟩;have g:=Aside0.mk (Kd.V_lower (Kd.V_mono (ok':=fun k_=>True) ho0 (fun k_ hk_=>trivial)) (below_size (zb HB)));replace b:=Aside0.mk (Kd.V_below (by (with_reducible repeat (first|apply Kd.V_alloc|apply Kd.V_drewN|apply Kd.V_drew));exact b.out) hb);replace HB:=zbs HB hb;clear hb;(try clear ho0);obtain⟨ae,af,G⟩:=Kd.V_slice b.out;subst G;obtain⟨ag,ah,I⟩:=Kd.V_slice g.out;subst I));try go_wp2_with (first|(go_at_call 91;(with_reducible refine (grottoref02_trim.calls k (fun k_=>k_<w.heap.size) _ _ l0 c _ ?side1 Q.out).mono ?_);(case side1=>exact Kd.V_mk u.out (Kd.F_below (Kd.C_F (Kd.heap_int .i64) s.out) (zb HB)));rintro e aw ⟨v302,rfl,ho0,hb⟩;have b:=Aside0.mk (Kd.V_lower (Kd.V_mono (ok':=fun k_=>True) ho0 (fun k_ hk_=>trivial)) (below_size (zb HB)));replace HB:=zbs HB hb;clear hb;(try clear ho0))|(go_at_call 91;(with_reducible refine (grottoref02_trim.calls k (fun k_=>k_<w.heap.size) _ _ l1 d _ ?side1 R.out).mono ?_);(case side1=>exact Kd.V_mk y.out (Kd.F_below (Kd.C_F (Kd.heap_int .i64) v.out) (zb HB)));rintro e ax ⟨v305,rfl,ho0,hb⟩;have g:=Aside0.mk (Kd.V_lower (Kd.V_mono (ok':=fun k_=>True) ho0 (fun k_ hk_=>trivial)) (below_size (zb HB)));replace b:=Aside0.mk (Kd.V_below (by (with_reducible repeat (first|apply Kd.V_alloc|apply Kd.V_drewN|apply Kd.V_drew));exact b.out) hb);replace HB:=zbs HB hb;clear hb;(try clear ho0);obtain⟨ae,af,G⟩:=Kd.V_slice b.out;subst G;obtain⟨ag,ah,I⟩:=Kd.V_slice g.out;subst I)))
  go_ret
  exact zr HB

 rw[if_pos S] at H
 obtain⟨X,Y⟩:=zt S
 have Z:(c.length==d.length)=true:=by first|simpa using S|(simp at S ⊢;omega)
 clear S
 have H':=Aside0.mk H
 clear H
 go_enter Try.func75,Try.ntmps75
 go_wp2_with (first|(go_at_call 91;(with_reducible refine (grottoref02_trim.calls k (fun k_=>k_<w.heap.size) _ _ l0 c _ ?side1 Q.out).mono ?_);(case side1=>exact Kd.V_mk u.out (Kd.F_below (Kd.C_F (Kd.heap_int .i64) s.out) (zb HB)));rintro e w6 ⟨v302,rfl,ho0,hb⟩;have b:=Aside0.mk (Kd.V_lower (Kd.V_mono (ok':=fun k_=>True) ho0 (fun k_ hk_=>trivial)) (below_size (zb HB)));replace HB:=zbs HB hb;clear hb;(try clear ho0))|(go_at_call 91;(with_reducible refine (grottoref02_trim.calls k (fun k_=>k_<w.heap.size) _ _ l1 d _ ?side1 R.out).mono ?_);(case side1=>exact Kd.V_mk y.out (Kd.F_below (Kd.C_F (Kd.heap_int .i64) v.out) (zb HB)));rintro e w7 ⟨v305,rfl,ho0,hb⟩;have g:=Aside0.mk (Kd.V_lower (Kd.V_mono (ok':=fun k_=>True) ho0 (fun k_ hk_=>trivial)) (below_size (zb HB)));replace b:=Aside0.mk (Kd.V_below (by (with_reducible repeat (first|apply Kd.V_alloc|apply Kd.V_drewN|apply Kd.V_drew));exact b.out) hb);replace HB:=zbs HB hb;clear hb;(try clear ho0);obtain⟨ai,aj,O⟩:=Kd.V_slice b.out;subst O;obtain⟨ak,al,P⟩:=Kd.V_slice g.out;subst P))
 repeat (go_quiet (first|(go_at_call 91;(with_reducible refine (grottoref02_trim.calls k (fun k_=>k_<w.heap.size) _ _ l0 c _ ?side1 Q.out).mono ?_);(case side1=>exact Kd.V_mk u.out (Kd.F_below (Kd.C_F (Kd.heap_int .i64) s.out) (zb HB)));rintro e w6 ⟨v302,rfl,ho0,hb⟩;have b:=Aside0.mk (Kd.V_lower (Kd.V_mono (ok':=fun k_=>True) ho0 (fun k_ hk_=>trivial)) (below_size (zb HB)));replace HB:=zbs HB hb;clear hb;(try clear ho0))|(go_at_call 91;(with_reducible refine (grottoref02_trim.calls k (fun k_=>k_<w.heap.size) _ _ l1 d _ ?side1 R.out).mono ?_);(case side1=>exact Kd.V_mk y.out (Kd.F_below (Kd.C_F (Kd.heap_int .i64) v.out) (zb HB)));rintro e w7 ⟨v305,rfl,ho0,hb⟩;have g:=Aside0.mk (Kd.V_lower (Kd.V_mono (ok':=fun k_=>True) ho0 (fun k_ hk_=>trivial)) (below_size (zb HB)));replace b:=Aside0.mk (Kd.V_below (by (with_reducible repeat (first|apply Kd.V_alloc|apply Kd.V_drewN|apply Kd.V_drew));exact b.out) hb);replace HB:=zbs HB hb;clear hb;(try clear ho0);obtain⟨ai,aj,O⟩:=Kd.V_slice b.out;subst O;obtain⟨ak,al,P⟩:=Kd.V_slice g.out;subst P));try go_wp2_with (first|(go_at_call 91;(with_reducible refine (grottoref02_trim.calls k (fun k_=>k_<w.heap.size) _ _ l0 c _ ?side1 Q.out).mono ?_);(case side1=>exact Kd.V_mk u.out (Kd.F_below (Kd.C_F (Kd.heap_int .i64) s.out) (zb HB)));rintro e w6 ⟨v302,rfl,ho0,hb⟩;have b:=Aside0.mk (Kd.V_lower (Kd.V_mono (ok':=fun k_=>True) ho0 (fun k_ hk_=>trivial)) (below_size (zb HB)));replace HB:=zbs HB hb;clear hb;(try clear ho0))|(go_at_call 91;(with_reducible refine (grottoref02_trim.calls k (fun k_=>k_<w.heap.size) _ _ l1 d _ ?side1 R.out).mono ?_);(case side1=>exact Kd.V_mk y.out (Kd.F_below (Kd.C_F (Kd.heap_int .i64) v.out) (zb HB)));rintro e w7 ⟨v305,rfl,ho0,hb⟩;have g:=Aside0.mk (Kd.V_lower (Kd.V_mono (ok':=fun k_=>True) ho0 (fun k_ hk_=>trivial)) (below_size (zb HB)));replace b:=Aside0.mk (Kd.V_below (by (with_reducible repeat (first|apply Kd.V_alloc|apply Kd.V_drewN|apply Kd.V_drew));exact b.out) hb);replace HB:=zbs HB hb;clear hb;(try clear ho0);obtain⟨ai,aj,O⟩:=Kd.V_slice b.out;subst O;obtain⟨ak,al,P⟩:=Kd.V_slice g.out;subst P)))
 go_loopg [5] k (fun kq v5 w'=>∃ (a:Int),v5=.int .i64 a∧Aside0 (grottoref02_Cmp.l0 kq c d a=some r)∧Aside0 (kq≤k)∧Aside0 (Kd.V (Kd.int .i64) 3 w' w.heap.size (fun _=>True) (.slice ai c.length aj) c)∧Aside0 (Kd.V (Kd.int .i64) 3 w' w.heap.size (fun _=>True) (.slice ak d.length al) d)∧Aside0 (Below w.heap.size w w'))
 case atStart=>exact⟨(wrap64 ((c.length:Int)-1)),(by first|rfl|(simp[*];done)),H',⟨Nat.le_refl _⟩,⟨by (with_reducible repeat (first|apply Kd.V_alloc|apply Kd.V_drewN|apply Kd.V_drew));exact b.out⟩,⟨by (with_reducible repeat (first|apply Kd.V_alloc|apply Kd.V_drewN|apply Kd.V_drew));exact g.out⟩,⟨zb HB⟩⟩
 case round =>
  clear H'
  try clear c1 X Y Z
  obtain⟨a,rfl,HA,ar,HO_0,HO_1,HB⟩:=hrel
  cases gk with
  | zero=>exact absurd HA.out (by simp[grottoref02_Cmp.l0])
  | succ k1 =>
   have H:=HA.out
   clear HA
   simp only[grottoref02_Cmp.l0] at H
   by_cases L:a≥0
   rotate_left
   ·rw[if_neg L] at H
    have am:decide (0≤a)=false:=decide_eq_false L
    clear L
    obtain rfl:=Option.some.inj H
    go_wp2
    repeat (go_quiet (fail);try go_wp2)
    go_ret
    exact zr HB
   rw[if_pos L] at H
   have am:decide (0≤a)=true:=decide_eq_true L
   clear L
   by_cases T:0≤a
   rotate_left
   ·rw[if_neg T] at H
    exact absurd H (by simp)
   rw[if_pos T] at H
   have az:decide (0≤a)=true:=decide_eq_true T
   clear T
   by_cases U:a<(c.length:Int)
   rotate_left
   ·rw[if_neg U] at H
    exact absurd H (by simp)
   rw[if_pos U] at H
   have aA:decide (a<(c.length:Int))=true:=decide_eq_true U
   clear U
   by_cases W:a<(d.length:Int)
   rotate_left
   ·rw[if_neg W] at H
    exact absurd H (by simp)
   rw[if_pos W] at H
   have aB:decide (a<(d.length:Int))=true:=decide_eq_true W
   clear W
   by_cases M:(rd c a)<(rd d a)
   ·rw[if_pos M] at H
    have an:decide ((rd c a)<(rd d a))=true:=decide_eq_true M
    clear M
    obtain rfl:=Option.some.inj H
    have i:0≤(a:Int):=of_decide_eq_true (by first|(with_reducible assumption)|assumption)
    have j:a<(c.length:Int):=of_decide_eq_true (by first|(with_reducible assumption)|assumption)
    obtain⟨z,e307,hx307_0⟩:=Kd.at_int (Kd.V_reads' HO_0.out).2.2 a i j
    cases e307
    replace i:=eq_true i
    replace j:=eq_true j
    have l:0≤(a:Int):=of_decide_eq_true (by first|(with_reducible assumption)|assumption)
    have m:a<(d.length:Int):=of_decide_eq_true (by first|(with_reducible assumption)|assumption)
    obtain⟨B,e308,hx308_0⟩:=Kd.at_int (Kd.V_reads' HO_1.out).2.2 a l m
    cases e308
    replace l:=eq_true l
    replace m:=eq_true m
    go_wp2
    repeat (go_quiet (fail);try go_wp2)
    go_ret
    exact zr HB
   rw[if_neg M] at H
   have an:decide ((rd c a)<(rd d a))=false:=decide_eq_false M
   clear M
   by_cases N:(rd c a)>(rd d a)
   ·rw[if_pos N] at H
    have ao:decide ((rd d a)<(rd c a))=true:=decide_eq_true N
    clear N
    obtain rfl:=Option.some.inj H
    have i:0≤(a:Int):=of_decide_eq_true (by first|(with_reducible assumption)|assumption)
    have j:a<(c.length:Int):=of_decide_eq_true (by first|(with_reducible assumption)|assumption)
    obtain⟨z,e307,hx307_0⟩:=Kd.at_int (Kd.V_reads' HO_0.out).2.2 a i j
    cases e307
    replace i:=eq_true i
    replace j:=eq_true j
    have l:0≤(a:Int):=of_decide_eq_true (by first|(with_reducible assumption)|assumption)
    have m:a<(d.length:Int):=of_decide_eq_true (by first|(with_reducible assumption)|assumption)
    obtain⟨B,e308,hx308_0⟩:=Kd.at_int (Kd.V_reads' HO_1.out).2.2 a l m
    cases e308
    replace l:=eq_true l
    replace m:=eq_true m
    have n:0≤(a:Int):=of_decide_eq_true (by first|(with_reducible assumption)|assumption)
    have o:a<(c.length:Int):=of_decide_eq_true (by first|(with_reducible assumption)|assumption)
    obtain⟨J,e309,hx309_0⟩:=Kd.at_int (Kd.V_reads' HO_0.out).2.2 a n o
    obtain rfl:z=J:=(by injection e309)
    replace n:=eq_true n
    replace o:=eq_true o
    have p:0≤(a:Int):=of_decide_eq_true (by first|(with_reducible assumption)|assumption)
    have q:a<(d.length:Int):=of_decide_eq_true (by first|(with_reducible assumption)|assumption)
    obtain⟨K,e310,hx310_0⟩:=Kd.at_int (Kd.V_reads' HO_1.out).2.2 a p q
    obtain rfl:B=K:=(by injection e310)
    replace p:=eq_true p
    replace q:=eq_true q
    go_wp2
    repeat (go_quiet (fail);try go_wp2)
    go_ret
    exact zr HB
   rw[if_neg N] at H
   have ao:decide ((rd d a)<(rd c a))=false:=decide_eq_false N
   clear N
   have H':=Aside0.mk H
   clear H
   have i:0≤(a:Int):=of_decide_eq_true (by first|(with_reducible assumption)|assumption)
   have j:a<(c.length:Int):=of_decide_eq_true (by first|(with_reducible assumption)|assumption)
   obtain⟨z,e307,hx307_0⟩:=Kd.at_int (Kd.V_reads' HO_0.out).2.2 a i j
   cases e307
   replace i:=eq_true i
   replace j:=eq_true j
   have l:0≤(a:Int):=of_decide_eq_true (by first|(with_reducible assumption)|assumption)
   have m:a<(d.length:Int):=of_decide_eq_true (by first|(with_reducible assumption)|assumption)
   obtain⟨B,e308,hx308_0⟩:=Kd.at_int (Kd.V_reads' HO_1.out).2.2 a l m
   cases e308
   replace l:=eq_true l
   replace m:=eq_true m
   have n:0≤(a:Int):=of_decide_eq_true (by first|(with_reducible assumption)|assumption)
   have o:a<(c.length:Int):=of_decide_eq_true (by first|(with_reducible assumption)|assumption)
   obtain⟨J,e309,hx309_0⟩:=Kd.at_int (Kd.V_reads' HO_0.out).2.2 a n o
   obtain rfl:z=J:=(by injection e309)
   replace n:=eq_true n
   replace o:=eq_true o
   have p:0≤(a:Int):=of_decide_eq_true (by first|(with_reducible assumption)|assumption)
   have q:a<(d.length:Int):=of_decide_eq_true (by first|(with_reducible assumption)|assumption)
   obtain⟨K,e310,hx310_0⟩:=Kd.at_int (Kd.V_reads' HO_1.out).2.2 a p q
   obtain rfl:B=K:=(by injection e310)
   replace p:=eq_true p
   replace q:=eq_true q
   go_wp2
   repeat (go_quiet (fail);try go_wp2)
   go_roundg k1
   case measure=>have:=ar.out;omega
   case rel=>exact⟨(wrap64 (a-1)),(by first|rfl|(simp[*];done)),H',⟨by have:=ar.out;omega⟩,⟨by (with_reducible repeat (first|apply Kd.V_alloc|apply Kd.V_drewN|apply Kd.V_drew));exact HO_0.out⟩,⟨by (with_reducible repeat (first|apply Kd.V_alloc|apply Kd.V_drewN|apply Kd.V_drew));exact HO_1.out⟩,⟨zb HB⟩⟩
/-! ### grottoref02_Minus: function 92 -/
def grottoref02_Minus.l0:Nat→List Int→List Int→List Int→Int→Int→Option (List Int)
 | 0,_,_,_,_,_=>none
 | k+1,b,d,c,e,a=>if a<(b.length:Int) then (if 0≤a then (if a<(d.length:Int) then (if (wrap64 ((wrap64 ((rd b a)-e))-(rd d a)))<0 then (if c.length<17592186044416 then (grottoref02_Minus.l0 k b d (c++[wrap64 ((wrap64 ((wrap64 ((rd b a)-e))-(rd d a)))+65536)]) 1 (wrap64 (a+1))) else (none)) else (if c.length<17592186044416 then (grottoref02_Minus.l0 k b d (c++[wrap64 ((wrap64 ((rd b a)-e))-(rd d a))]) 0 (wrap64 (a+1))) else (none))) else (if (wrap64 ((rd b a)-e))<0 then (if c.length<17592186044416 then (grottoref02_Minus.l0 k b d (c++[wrap64 ((wrap64 ((rd b a)-e))+65536)]) 1 (wrap64 (a+1))) else (none)) else (if c.length<17592186044416 then (grottoref02_Minus.l0 k b d (c++[wrap64 ((rd b a)-e)]) 0 (wrap64 (a+1))) else (none)))) else (none)) else ((grottoref02_trim.f k c).bind fun g=>(some g))
def grottoref02_Minus.f (k:Nat) (l0:List Int) (l1:List Int):Option (List Int):=grottoref02_Minus.l0 k l0 l1 ([]:List Int) 0 0
theorem grottoref02_Minus.mono_l:∀ k,(∀ y0 y1 y2 y3 y4,LeO (grottoref02_Minus.l0 k y0 y1 y2 y3 y4) (grottoref02_Minus.l0 (k+1) y0 y1 y2 y3 y4))
 | 0=>fun _ _ _ _ _ r h=>by simp[grottoref02_Minus.l0] at h
 | k+1=>by
  have ih0:=grottoref02_Minus.mono_l k
  intros;unfold grottoref02_Minus.l0;repeat' first|(with_reducible first|apply ih0|apply grottoref02_trim.mono|exact LeO.refl _|exact LeO.none _|refine LeO.ite ?_ ?_|refine LeO.bind ?_ (fun _=>?_))|refine LeO.ite ?_ ?_|refine LeO.bind ?_ (fun _=>?_)
theorem grottoref02_Minus.mono:∀ a0 a1 k,LeO (grottoref02_Minus.f k a0 a1) (grottoref02_Minus.f (k+1) a0 a1):=by
 intro a0 a1 k
 have ih0:=grottoref02_Minus.mono_l k
 unfold grottoref02_Minus.f
 repeat' first|(with_reducible first|apply ih0|apply grottoref02_trim.mono|exact LeO.refl _|exact LeO.none _|refine LeO.ite ?_ ?_|refine LeO.bind ?_ (fun _=>?_))|refine LeO.ite ?_ ?_|refine LeO.bind ?_ (fun _=>?_)
set_option maxHeartbeats 8000000 in
set_option maxRecDepth 100000 in
theorem grottoref02_Minus.calls (k:Nat) (A0:Option Addr) (c0:Nat) (l0:List Int) (A1:Option Addr) (c1:Nat) (l1:List Int) (r:List Int) (w:World) (hr0:Kd.C (Kd.int .i64) w A0 l0.length l0) (hc0:l0.length≤c0) (hr1:Kd.C (Kd.int .i64) w A1 l1.length l1) (hc1:l1.length≤c1) (h:grottoref02_Minus.f k l0 l1=some r) :
  Calls Try.prog 92 #[.slice A0 l0.length c0,.slice A1 l1.length c1] w fun e w'=>∃ v0_:Value,e=.returned (v0_)∧Kd.V (Kd.int .i64) 3 w' w.heap.size (fun k_=>(w.heap.size≤k_)) v0_ r∧Below w.heap.size w w':=by
 have p:=Aside0.mk hr0
 have ag:=Aside0.mk hc0
 clear hr0 hc0
 have P:=Aside0.mk hr1
 have ah:=Aside0.mk hc1
 clear hr1 hc1
 have HB:=Aside0.mk (Below.refl w.heap.size w)
 have H:=h
 unfold grottoref02_Minus.f at H
 clear h
 have H':=Aside0.mk H
 clear H
 go_enter Try.func92,Try.ntmps92
 go_wp2
 go_loopg [5,6,7] k (fun kq v5 v6 v7 w'=>∃ (d:List Int) (c:Int) (a:Int),v6=.int .i64 c∧v7=.int .i64 a∧Aside0 (grottoref02_Minus.l0 kq l0 l1 d c a=some r)∧Aside0 (kq≤k)∧Aside0 (Kd.R (Kd.int .i64) 3 w' w.heap.size (fun k_=>(w.heap.size≤k_)) v5 d)∧Aside0 (Below w.heap.size w w'))
 case atStart=>exact⟨(([]:List Int)),(0),(0),(by first|rfl|(simp[*];done)),(by first|rfl|(simp[*];done)),H',⟨Nat.le_refl _⟩,⟨by first|exact Kd.R_nil _ _ _ _ _|exact Kd.N_nil _ _ _ _ _|exact Kd.V_nil _ _ _ _ _|exact Kd.Q_nil _ _ _ _ _|exact Kd.S_nil _ _ _ _ _⟩,⟨zb HB⟩⟩
 case round =>
  clear H'
  try clear c1
  obtain⟨d,c,a,rfl,rfl,HA,m,HO_5,HB⟩:=hrel
  cases gk with
  | zero=>exact absurd HA.out (by simp[grottoref02_Minus.l0])
  | succ k1 =>
   have H:=HA.out
   clear HA
   simp only[grottoref02_Minus.l0] at H
   by_cases M:a<(l0.length:Int)
   rotate_left
   ·rw[if_neg M] at H
    have Q:decide (a<(l0.length:Int))=false:=decide_eq_false M
    clear M
    obtain⟨U,ab,H⟩:=oB H
    obtain rfl:=Option.some.inj H
    obtain⟨u,v,W⟩:=Kd.R_slice HO_5.out
    subst W
    go_wp2_with (first|((with_reducible refine gate_callee (f:=91) rfl ?_);refine zgo (some 40) Try.func91 #[.slice u d.length v] ?_;(with_reducible refine (grottoref02_trim.calls k1 (fun k_=>some k_=(.slice u d.length v:Value).ownBlock) _ _ d U _ ?side1 ab.out).mono ?_);(case side1=>exact Kd.R_V (Kd.R_tight rfl (HO_5.out)));rintro e al ⟨v312,rfl,ho0,hb⟩;refine⟨_,rfl,?_⟩;have L:=Aside0.mk (Kd.V_lower (Kd.V_mono (ok':=fun k_=>(w.heap.size≤k_)) ho0 (fun k_ hk_=>Or.elim hk_ (fun hs_=>((HO_5.out).1 k_ hs_.symm)) (fun hn_=>(Nat.le_trans (below_size (zb HB)) hn_)))) (below_size (zb HB)));replace HO_5:=Aside0.mk (Kd.R_below (by (with_reducible repeat (first|apply Kd.R_alloc|apply Kd.R_drewN|apply Kd.R_drew));exact HO_5.out) hb);replace HB:=zbs HB hb;clear hb;(try clear ho0)))
    go_ret
    exact⟨_,by first|rfl|(simp[errW_none,errW_some] <;> rfl)|(simp[*,errW_none,errW_some] <;> rfl),by (with_reducible repeat (first|apply Kd.V_alloc|apply Kd.V_drewN|apply Kd.V_drew));exact L.out,zb HB⟩

   rw[if_pos M] at H
   have Q:decide (a<(l0.length:Int))=true:=decide_eq_true M
   clear M
   by_cases X:0≤a
   rotate_left
   ·rw[if_neg X] at H
    exact absurd H (by simp)
   rw[if_pos X] at H
   have af:decide (0≤a)=true:=decide_eq_true X
   clear X
   by_cases N:a<(l1.length:Int)
   ·rw[if_pos N] at H
    have S:decide (a<(l1.length:Int))=true:=decide_eq_true N
    clear N
    by_cases O:(wrap64 ((wrap64 ((rd l0 a)-c))-(rd l1 a)))<0
    ·rw[if_pos O] at H
     have T:decide ((wrap64 ((wrap64 ((rd l0 a)-c))-(rd l1 a)))<0)=true:=decide_eq_true O
     clear O
     by_cases Y:d.length<17592186044416
     ·rw[if_pos Y] at H
      have LMc7:=Aside0.mk Y
      clear Y
      obtain⟨y316,hy316⟩:∃ y_:List Int,y_=(d++[wrap64 ((wrap64 ((wrap64 ((rd l0 a)-c))-(rd l1 a)))+65536)]):=⟨_,rfl⟩
      replace H:(grottoref02_Minus.l0 k1 l0 l1 y316 1 (wrap64 (a+1)))=some r:=by first|(rw[hy316];with_reducible exact H)|(have H2_:=(Option.bind_some _ _).symm.trans H;rw[hy316];with_reducible exact H2_)|(have H2_:=(Option.bind_some _ _).symm.trans H;with_reducible exact H2_)|with_reducible exact H|(rw[hy316];exact H)|exact H
      have y:=Aside0.mk hy316
      clear hy316
      have H':=Aside0.mk H
      clear H
      have g:0≤(a:Int):=of_decide_eq_true (by first|(with_reducible assumption)|assumption)
      have i:a<(l0.length:Int):=of_decide_eq_true (by first|(with_reducible assumption)|assumption)
      obtain⟨n,e314,hx314_0⟩:=Kd.at_int p.out a g i
      cases e314
      replace hx314_0:=(HB.out.cell (World.block_lt_of_cell? w _ hx314_0)).trans hx314_0
      replace g:=eq_true g
      replace i:=eq_true i
      have j:0≤(a:Int):=of_decide_eq_true (by first|(with_reducible assumption)|assumption)
      have l:a<(l1.length:Int):=of_decide_eq_true (by first|(with_reducible assumption)|assumption)
      obtain⟨z,e315,hx315_0⟩:=Kd.at_int P.out a j l
      cases e315
      replace hx315_0:=(HB.out.cell (World.block_lt_of_cell? w _ hx315_0)).trans hx315_0
      replace j:=eq_true j
      replace l:=eq_true l
      go_wp2_with (first|((with_reducible refine gate_builtin (b:=.append) (xs:=#[.tmp 35,.tmp 37]) rfl ?_);at_builtin;refine Kd.R_append (Kd.int .i64) (w0:=w) w.heap.size rfl (.tmp 35) (.tmp 37) 71 3 (.int .i64 0) 8 rfl Try.underlying71 info3 rfl (by decide) (by omega) u5 d (wrap64 ((wrap64 ((wrap64 ((rd l0 a)-c))-(rd l1 a)))+65536)) [.int .i64 (wrap64 ((wrap64 ((wrap64 ((rd l0 a)-c))-(rd l1 a)))+65536))] (fun k_=>(w.heap.size≤k_)) (fun _=>False) rfl rfl ?aP (fun _ hk=>hk.elim) ?aF ?aO ?aB ?aS ?aL ?_;(case aP=>exact rfl);(case aB=>exact (zb HB));(case aF=>exact (fun k_ hk=>(Nat.le_trans (below_size (zb HB)) hk)));(case aO=>exact (by (with_reducible repeat (first|apply Kd.R_alloc|apply Kd.R_drewN|apply Kd.R_drew));exact HO_5.out));(case aS=>exact (below_size (zb HB)));(case aL=>have:=LMc7.out;omega);intro v317 w8 ho hb hg hat;rw[←y.out] at ho;have B:=Aside0.mk (ho);replace HB:=Aside0.mk (hb);clear HO_5;clear ho hb hg hat))
      go_roundg k1
      case measure=>have:=m.out;omega
      case rel=>exact⟨(y316),(1),(wrap64 (a+1)),(by first|rfl|(simp[*];done)),(by first|rfl|(simp[*];done)),H',⟨by have:=m.out;omega⟩,⟨by (with_reducible repeat (first|apply Kd.R_alloc|apply Kd.R_drewN|apply Kd.R_drew));exact B.out⟩,⟨zb HB⟩⟩
     rw[if_neg Y] at H
     exact absurd H (by simp)
    rw[if_neg O] at H
    have T:decide ((wrap64 ((wrap64 ((rd l0 a)-c))-(rd l1 a)))<0)=false:=decide_eq_false O
    clear O
    by_cases Z:d.length<17592186044416
    ·rw[if_pos Z] at H
     have LMc9:=Aside0.mk Z
     clear Z
     obtain⟨y319,hy319⟩:∃ y_:List Int,y_=(d++[wrap64 ((wrap64 ((rd l0 a)-c))-(rd l1 a))]):=⟨_,rfl⟩
     replace H:(grottoref02_Minus.l0 k1 l0 l1 y319 0 (wrap64 (a+1)))=some r:=by first|(rw[hy319];with_reducible exact H)|(have H2_:=(Option.bind_some _ _).symm.trans H;rw[hy319];with_reducible exact H2_)|(have H2_:=(Option.bind_some _ _).symm.trans H;with_reducible exact H2_)|with_reducible exact H|(rw[hy319];exact H)|exact H
     have D:=Aside0.mk hy319
     clear hy319
     have H':=Aside0.mk H
     clear H
     have g:0≤(a:Int):=of_decide_eq_true (by first|(with_reducible assumption)|assumption)
     have i:a<(l0.length:Int):=of_decide_eq_true (by first|(with_reducible assumption)|assumption)
     obtain⟨n,e314,hx314_0⟩:=Kd.at_int p.out a g i
     cases e314
     replace hx314_0:=(HB.out.cell (World.block_lt_of_cell? w _ hx314_0)).trans hx314_0
     replace g:=eq_true g
     replace i:=eq_true i
     have j:0≤(a:Int):=of_decide_eq_true (by first|(with_reducible assumption)|assumption)
     have l:a<(l1.length:Int):=of_decide_eq_true (by first|(with_reducible assumption)|assumption)
     obtain⟨z,e315,hx315_0⟩:=Kd.at_int P.out a j l
     cases e315
     replace hx315_0:=(HB.out.cell (World.block_lt_of_cell? w _ hx315_0)).trans hx315_0
     replace j:=eq_true j
     replace l:=eq_true l
     go_wp2_with (first|((with_reducible refine gate_builtin (b:=.append) (xs:=#[.tmp 35,.tmp 37]) rfl ?_);at_builtin;refine Kd.R_append (Kd.int .i64) (w0:=w) w.heap.size rfl (.tmp 35) (.tmp 37) 71 3 (.int .i64 0) 8 rfl Try.underlying71 info3 rfl (by decide) (by omega) u5 d (wrap64 ((wrap64 ((rd l0 a)-c))-(rd l1 a))) [.int .i64 (wrap64 ((wrap64 ((rd l0 a)-c))-(rd l1 a)))] (fun k_=>(w.heap.size≤k_)) (fun _=>False) rfl rfl ?aP (fun _ hk=>hk.elim) ?aF ?aO ?aB ?aS ?aL ?_;(case aP=>exact rfl);(case aB=>exact (zb HB));(case aF=>exact (fun k_ hk=>(Nat.le_trans (below_size (zb HB)) hk)));(case aO=>exact (by (with_reducible repeat (first|apply Kd.R_alloc|apply Kd.R_drewN|apply Kd.R_drew));exact HO_5.out));(case aS=>exact (below_size (zb HB)));(case aL=>have:=LMc9.out;omega);intro v320 ai ho hb hg hat;rw[←D.out] at ho;have E:=Aside0.mk (ho);replace HB:=Aside0.mk (hb);clear HO_5;clear ho hb hg hat))
     go_roundg k1
     case measure=>have:=m.out;omega
     case rel=>exact⟨(y319),(0),(wrap64 (a+1)),(by first|rfl|(simp[*];done)),(by first|rfl|(simp[*];done)),H',⟨by have:=m.out;omega⟩,⟨by (with_reducible repeat (first|apply Kd.R_alloc|apply Kd.R_drewN|apply Kd.R_drew));exact E.out⟩,⟨zb HB⟩⟩
    rw[if_neg Z] at H
    exact absurd H (by simp)
   rw[if_neg N] at H
   have S:decide (a<(l1.length:Int))=false:=decide_eq_false N
   clear N
   by_cases o:(wrap64 ((rd l0 a)-c))<0
   ·rw[if_pos o] at H
    have F:decide ((wrap64 ((rd l0 a)-c))<0)=true:=decide_eq_true o
    clear o
    by_cases q:d.length<17592186044416
    ·rw[if_pos q] at H
     have LMc12:=Aside0.mk q
     clear q
     obtain⟨y322,hy322⟩:∃ y_:List Int,y_=(d++[wrap64 ((wrap64 ((rd l0 a)-c))+65536)]):=⟨_,rfl⟩
     replace H:(grottoref02_Minus.l0 k1 l0 l1 y322 1 (wrap64 (a+1)))=some r:=by first|(rw[hy322];with_reducible exact H)|(have H2_:=(Option.bind_some _ _).symm.trans H;rw[hy322];with_reducible exact H2_)|(have H2_:=(Option.bind_some _ _).symm.trans H;with_reducible exact H2_)|with_reducible exact H|(rw[hy322];exact H)|exact H
     have G:=Aside0.mk hy322
     clear hy322
     have H':=Aside0.mk H
     clear H
     have g:0≤(a:Int):=of_decide_eq_true (by first|(with_reducible assumption)|assumption)
     have i:a<(l0.length:Int):=of_decide_eq_true (by first|(with_reducible assumption)|assumption)
     obtain⟨n,e314,hx314_0⟩:=Kd.at_int p.out a g i
     cases e314
     replace hx314_0:=(HB.out.cell (World.block_lt_of_cell? w _ hx314_0)).trans hx314_0
     replace g:=eq_true g
     replace i:=eq_true i
     go_wp2_with (first|((with_reducible refine gate_builtin (b:=.append) (xs:=#[.tmp 35,.tmp 37]) rfl ?_);at_builtin;refine Kd.R_append (Kd.int .i64) (w0:=w) w.heap.size rfl (.tmp 35) (.tmp 37) 71 3 (.int .i64 0) 8 rfl Try.underlying71 info3 rfl (by decide) (by omega) u5 d (wrap64 ((wrap64 ((rd l0 a)-c))+65536)) [.int .i64 (wrap64 ((wrap64 ((rd l0 a)-c))+65536))] (fun k_=>(w.heap.size≤k_)) (fun _=>False) rfl rfl ?aP (fun _ hk=>hk.elim) ?aF ?aO ?aB ?aS ?aL ?_;(case aP=>exact rfl);(case aB=>exact (zb HB));(case aF=>exact (fun k_ hk=>(Nat.le_trans (below_size (zb HB)) hk)));(case aO=>exact (by (with_reducible repeat (first|apply Kd.R_alloc|apply Kd.R_drewN|apply Kd.R_drew));exact HO_5.out));(case aS=>exact (below_size (zb HB)));(case aL=>have:=LMc12.out;omega);intro v323 aj ho hb hg hat;rw[←G.out] at ho;have I:=Aside0.mk (ho);replace HB:=Aside0.mk (hb);clear HO_5;clear ho hb hg hat))
     go_roundg k1
     case measure=>have:=m.out;omega
     case rel=>exact⟨(y322),(1),(wrap64 (a+1)),(by first|rfl|(simp[*];done)),(by first|rfl|(simp[*];done)),H',⟨by have:=m.out;omega⟩,⟨by (with_reducible repeat (first|apply Kd.R_alloc|apply Kd.R_drewN|apply Kd.R_drew));exact I.out⟩,⟨zb HB⟩⟩
    rw[if_neg q] at H
    exact absurd H (by simp)
   rw[if_neg o] at H
   have F:decide ((wrap64 ((rd l0 a)-c))<0)=false:=decide_eq_false o
   clear o
   by_cases s:d.length<17592186044416
   ·rw[if_pos s] at H
    have LMc14:=Aside0.mk s
    clear s
    obtain⟨y325,hy325⟩:∃ y_:List Int,y_=(d++[wrap64 ((rd l0 a)-c)]):=⟨_,rfl⟩
    replace H:(grottoref02_Minus.l0 k1 l0 l1 y325 0 (wrap64 (a+1)))=some r:=by first|(rw[hy325];with_reducible exact H)|(have H2_:=(Option.bind_some _ _).symm.trans H;rw[hy325];with_reducible exact H2_)|(have H2_:=(Option.bind_some _ _).symm.trans H;with_reducible exact H2_)|with_reducible exact H|(rw[hy325];exact H)|exact H
    have J:=Aside0.mk hy325
    clear hy325
    have H':=Aside0.mk H
    clear H
    have g:0≤(a:Int):=of_decide_eq_true (by first|(with_reducible assumption)|assumption)
    have i:a<(l0.length:Int):=of_decide_eq_true (by first|(with_reducible assumption)|assumption)
    obtain⟨n,e314,hx314_0⟩:=Kd.at_int p.out a g i
    cases e314
    replace hx314_0:=(HB.out.cell (World.block_lt_of_cell? w _ hx314_0)).trans hx314_0
    replace g:=eq_true g
    replace i:=eq_true i
    go_wp2_with (first|((with_reducible refine gate_builtin (b:=.append) (xs:=#[.tmp 35,.tmp 37]) rfl ?_);at_builtin;refine Kd.R_append (Kd.int .i64) (w0:=w) w.heap.size rfl (.tmp 35) (.tmp 37) 71 3 (.int .i64 0) 8 rfl Try.underlying71 info3 rfl (by decide) (by omega) u5 d (wrap64 ((rd l0 a)-c)) [.int .i64 (wrap64 ((rd l0 a)-c))] (fun k_=>(w.heap.size≤k_)) (fun _=>False) rfl rfl ?aP (fun _ hk=>hk.elim) ?aF ?aO ?aB ?aS ?aL ?_;(case aP=>exact rfl);(case aB=>exact (zb HB));(case aF=>exact (fun k_ hk=>(Nat.le_trans (below_size (zb HB)) hk)));(case aO=>exact (by (with_reducible repeat (first|apply Kd.R_alloc|apply Kd.R_drewN|apply Kd.R_drew));exact HO_5.out));(case aS=>exact (below_size (zb HB)));(case aL=>have:=LMc14.out;omega);intro v326 ak ho hb hg hat;rw[←J.out] at ho;have K:=Aside0.mk (ho);replace HB:=Aside0.mk (hb);clear HO_5;clear ho hb hg hat))
    go_roundg k1
    case measure=>have:=m.out;omega
    case rel=>exact⟨(y325),(0),(wrap64 (a+1)),(by first|rfl|(simp[*];done)),(by first|rfl|(simp[*];done)),H',⟨by have:=m.out;omega⟩,⟨by (with_reducible repeat (first|apply Kd.R_alloc|apply Kd.R_drewN|apply Kd.R_drew));exact K.out⟩,⟨zb HB⟩⟩
   rw[if_neg s] at H
   exact absurd H (by simp)
/-! ### grottoref02_Quo: function 56 -/
def grottoref02_Quo.l0:Nat→List Int→List Int→List Int→Int→Option (List Int×List Int)
 | 0,_,_,_,_=>none
 | k+1,c,d,b,a=>if a≥0 then ((grottoref02_Up.f k c a).bind fun e=>((grottoref02_Cmp.f k e b).bind fun g=>(if g≤0 then ((grottoref02_Minus.f k b e).bind fun h=>((grottoref02_Up.f k (([1]:List Int)) a).bind fun i=>((grottoref02_Plus.f k d i).bind fun j=>(grottoref02_Quo.l0 k c j h (wrap64 (a-1)))))) else (grottoref02_Quo.l0 k c d b (wrap64 (a-1)))))) else (some (d,b))
def grottoref02_Quo.f (k:Nat) (l0:List Int) (l1:List Int):Option (List Int×List Int):=(grottoref02_trim.f k l0).bind fun a=>((grottoref02_Bits.f k l0).bind fun b=>((grottoref02_Bits.f k l1).bind fun c=>(grottoref02_Quo.l0 k l1 ([]:List Int) a (wrap64 (b-c)))))
theorem grottoref02_Quo.mono_l:∀ k,(∀ y0 y1 y2 y3,LeO (grottoref02_Quo.l0 k y0 y1 y2 y3) (grottoref02_Quo.l0 (k+1) y0 y1 y2 y3))
 | 0=>fun _ _ _ _ r h=>by simp[grottoref02_Quo.l0] at h
 | k+1=>by
  have ih0:=grottoref02_Quo.mono_l k
  intros;unfold grottoref02_Quo.l0;repeat' first|(with_reducible first|apply ih0|apply grottoref02_Bits.mono|apply grottoref02_Cmp.mono|apply grottoref02_Minus.mono|apply grottoref02_Plus.mono|apply grottoref02_Up.mono|apply grottoref02_trim.mono|exact LeO.refl _|exact LeO.none _|refine LeO.ite ?_ ?_|refine LeO.bind ?_ (fun _=>?_))|refine LeO.ite ?_ ?_|refine LeO.bind ?_ (fun _=>?_)
theorem grottoref02_Quo.mono:∀ a0 a1 k,LeO (grottoref02_Quo.f k a0 a1) (grottoref02_Quo.f (k+1) a0 a1):=by
 intro a0 a1 k
 have ih0:=grottoref02_Quo.mono_l k
 unfold grottoref02_Quo.f
 repeat' first|(with_reducible first|apply ih0|apply grottoref02_Bits.mono|apply grottoref02_Cmp.mono|apply grottoref02_Minus.mono|apply grottoref02_Plus.mono|apply grottoref02_Up.mono|apply grottoref02_trim.mono|exact LeO.refl _|exact LeO.none _|refine LeO.ite ?_ ?_|refine LeO.bind ?_ (fun _=>?_))|refine LeO.ite ?_ ?_|refine LeO.bind ?_ (fun _=>?_)
set_option maxHeartbeats 8000000 in
set_option maxRecDepth 100000 in
theorem grottoref02_Quo.calls (k:Nat) (P0_:Nat→Prop) (T:Option Addr) (U:Nat) (l0:List Int) (W:Option Addr) (R:Nat) (l1:List Int) (X:List Int) (Y:List Int) (w:World) (hs0:Kd.V (Kd.int .i64) 3 w w.heap.size (fun k_=>P0_ k_) (.slice T l0.length U) l0) (hr1:Kd.C (Kd.int .i64) w W l1.length l1) (hc1:l1.length≤R) (h:grottoref02_Quo.f k l0 l1=some (X,Y)) :
  Calls Try.prog 56 #[.slice T l0.length U,.slice W l1.length R] w fun e w'=>∃ v0_ v1_:Value,e=.returned (.tuple #[v0_,v1_])∧Kd.V (Kd.int .i64) 3 w' w.heap.size (fun k_=>(P0_ k_∨w.heap.size≤k_)) v0_ X∧Kd.V (Kd.int .i64) 3 w' w.heap.size (fun k_=>(P0_ k_∨w.heap.size≤k_)) v1_ Y∧Below w.heap.size w w':=by
 have n:=Aside0.mk (show Kd.V (Kd.int .i64) 3 w w.heap.size (fun k_=>(P0_ k_∨w.heap.size≤k_)) (.slice T l0.length U) l0 from Kd.V_mono hs0 (fun k_ hk=>.inl hk))
 have L:=Aside0.mk hr1
 have O:=Aside0.mk hc1
 clear hr1 hc1
 have HB:=Aside0.mk (Below.refl w.heap.size w)
 have H:=h
 unfold grottoref02_Quo.f at H
 clear h
 obtain⟨q,A3,H⟩:=oB H
 obtain⟨s,A4,H⟩:=oB H
 obtain⟨u,A5,H⟩:=oB H
 have H':=Aside0.mk H
 clear H
 go_enter Try.func56,Try.ntmps56
 go_wp2_with (first|((with_reducible refine gate_callee (f:=91) rfl ?_);refine zgo (some 11) Try.func91 #[.slice T l0.length U] ?_;(with_reducible refine (grottoref02_trim.calls k (fun k_=>(P0_ k_∨w.heap.size≤k_)) _ _ l0 q _ ?side1 A3.out).mono ?_);(case side1=>exact n.out);rintro e w6 ⟨v329,rfl,ho0,hb⟩;refine⟨_,rfl,?_⟩;have j:=Aside0.mk (Kd.V_lower (Kd.V_mono (ok':=fun k_=>(P0_ k_∨w.heap.size≤k_)) ho0 (fun k_ hk_=>Or.elim hk_ (fun hs_=>hs_) (fun hn_=>(.inr (Nat.le_trans (below_size (zb HB)) hn_))))) (below_size (zb HB)));replace n:=Aside0.mk (Kd.V_below (by (with_reducible repeat (first|apply Kd.V_alloc|apply Kd.V_drewN|apply Kd.V_drew));exact n.out) hb);replace HB:=zbs HB hb;clear hb;(try clear ho0))|((with_reducible refine gate_callee (f:=65) rfl ?_);refine zgo (some 13) Try.func65 #[.slice T l0.length U] ?_;(with_reducible refine (grottoref02_Bits.calls k _ _ l0 s _ ?side1 ?side2 A4.out).mono ?_);(case side1=>repeat (first|exact (Kd.V_reads' n.out).2.2|(with_reducible refine Kd.C_alloc ?_ _)|(with_reducible refine Kd.C_drewN ?_ _)|(with_reducible refine Kd.C_drew ?_)));(case side2=>exact (Kd.V_reads' n.out).2.1);rintro e w7 ⟨rfl,hb⟩;refine⟨_,rfl,?_⟩;replace n:=Aside0.mk (Kd.V_below (by (with_reducible repeat (first|apply Kd.V_alloc|apply Kd.V_drewN|apply Kd.V_drew));exact n.out) hb);replace j:=Aside0.mk (Kd.V_below (by (with_reducible repeat (first|apply Kd.V_alloc|apply Kd.V_drewN|apply Kd.V_drew));exact j.out) hb);replace HB:=zbs HB hb;clear hb)|((with_reducible refine gate_callee (f:=65) rfl ?_);refine zgo (some 15) Try.func65 #[.slice W l1.length R] ?_;(with_reducible refine (grottoref02_Bits.calls k _ _ l1 u _ ?side1 ?side2 A5.out).mono ?_);(case side1=>repeat (first|exact (Kd.C_below L.out HB.out)|(with_reducible refine Kd.C_alloc ?_ _)|(with_reducible refine Kd.C_drewN ?_ _)|(with_reducible refine Kd.C_drew ?_)));(case side2=>exact O.out);rintro e w8 ⟨rfl,hb⟩;refine⟨_,rfl,?_⟩;replace n:=Aside0.mk (Kd.V_below (by (with_reducible repeat (first|apply Kd.V_alloc|apply Kd.V_drewN|apply Kd.V_drew));exact n.out) hb);replace j:=Aside0.mk (Kd.V_below (by (with_reducible repeat (first|apply Kd.V_alloc|apply Kd.V_drewN|apply Kd.V_drew));exact j.out) hb);replace HB:=zbs HB hb;clear hb))
 go_loopg [6,7,8] k (fun kq v6 v7 v8 w'=>∃ (l:List Int) (d:List Int) (b:Int),v8=.int .i64 b∧Aside0 (grottoref02_Quo.l0 kq l1 l d b=some (X,Y))∧Aside0 (kq≤k)∧Aside0 (Kd.V (Kd.int .i64) 3 w' w.heap.size (fun k_=>(P0_ k_∨w.heap.size≤k_)) v6 l)∧Aside0 (Kd.V (Kd.int .i64) 3 w' w.heap.size (fun k_=>(P0_ k_∨w.heap.size≤k_)) v7 d)∧Aside0 (Below w.heap.size w w'))
 case atStart=>exact⟨(([]:List Int)),(q),(wrap64 (s-u)),(by first|rfl|(simp[*];done)),H',⟨Nat.le_refl _⟩,⟨Kd.V_nil _ _ _ _ _⟩,⟨by (with_reducible repeat (first|apply Kd.V_alloc|apply Kd.V_drewN|apply Kd.V_drew));exact j.out⟩,⟨zb HB⟩⟩
 case round =>
  clear H'
  try clear R
  obtain⟨l,d,b,rfl,HA,F,HO_6,HO_7,HB⟩:=hrel
  cases gk with
  | zero=>exact absurd HA.out (by simp[grottoref02_Quo.l0])
  | succ k1 =>
   have H:=HA.out
   clear HA
   simp only[grottoref02_Quo.l0] at H
   by_cases S:b≥0
   ·rw[if_pos S] at H
    have Z:decide (0≤b)=true:=decide_eq_true S
    clear S
    obtain⟨i,aa,H⟩:=oB H
    obtain⟨o,ab,H⟩:=oB H
    by_cases y:o≤0
    ·rw[if_pos y] at H
     have P:decide (o≤0)=true:=decide_eq_true y
     clear y
     obtain⟨z,ar,H⟩:=oB H
     obtain⟨y340,hy340⟩:∃ y_:List Int,y_=(([1]:List Int)):=⟨_,rfl⟩
     replace H:((grottoref02_Up.f k1 y340 b).bind fun p=>((grottoref02_Plus.f k1 l p).bind fun v=>(grottoref02_Quo.l0 k1 l1 v z (wrap64 (b-1)))))=some (X,Y):=by first|(rw[hy340];with_reducible exact H)|(have H2_:=(Option.bind_some _ _).symm.trans H;rw[hy340];with_reducible exact H2_)|(have H2_:=(Option.bind_some _ _).symm.trans H;with_reducible exact H2_)|with_reducible exact H|(rw[hy340];exact H)|exact H
     have B:=Aside0.mk hy340
     clear hy340
     obtain⟨p,au,H⟩:=oB H
     obtain⟨v,av,H⟩:=oB H
     have H':=Aside0.mk H
     clear H
     go_wp2_with (first|((with_reducible refine gate_callee (f:=73) rfl ?_);refine zgo (some 23) Try.func73 #[.slice W l1.length R,.int .i64 b] ?_;(with_reducible refine (grottoref02_Up.calls k1 _ _ l1 b i _ ?side1 ?side2 aa.out).mono ?_);(case side1=>repeat (first|exact (Kd.C_below L.out HB.out)|(with_reducible refine Kd.C_alloc ?_ _)|(with_reducible refine Kd.C_drewN ?_ _)|(with_reducible refine Kd.C_drew ?_)));(case side2=>exact O.out);rintro e az ⟨v334,rfl,ho0,hb⟩;refine⟨_,rfl,?_⟩;have a:=Aside0.mk (Kd.V_lower (Kd.V_mono (ok':=fun k_=>(P0_ k_∨w.heap.size≤k_)) ho0 (fun k_ hk_=>(.inr (Nat.le_trans (below_size (zb HB)) hk_)))) (below_size (zb HB)));replace HO_6:=Aside0.mk (Kd.V_below (by (with_reducible repeat (first|apply Kd.V_alloc|apply Kd.V_drewN|apply Kd.V_drew));exact HO_6.out) hb);replace HO_7:=Aside0.mk (Kd.V_below (by (with_reducible repeat (first|apply Kd.V_alloc|apply Kd.V_drewN|apply Kd.V_drew));exact HO_7.out) hb);replace HB:=zbs HB hb;clear hb;(try clear ho0);obtain⟨G,I,ac⟩:=Kd.V_slice a.out;subst ac;obtain⟨J,K,ad⟩:=Kd.V_slice HO_7.out;subst ad)|((with_reducible refine gate_callee (f:=75) rfl ?_);refine zgo (some 26) Try.func75 #[.slice G i.length I,.slice J d.length K] ?_;(with_reducible refine (grottoref02_Cmp.calls k1 _ _ i _ _ d o _ ?side1 ?side2 ?side3 ?side4 ab.out).mono ?_);(case side1=>repeat (first|exact (Kd.V_reads' a.out).2.2|(with_reducible refine Kd.C_alloc ?_ _)|(with_reducible refine Kd.C_drewN ?_ _)|(with_reducible refine Kd.C_drew ?_)));(case side2=>exact (Kd.V_reads' a.out).2.1);(case side3=>repeat (first|exact (Kd.V_reads' HO_7.out).2.2|(with_reducible refine Kd.C_alloc ?_ _)|(with_reducible refine Kd.C_drewN ?_ _)|(with_reducible refine Kd.C_drew ?_)));(case side4=>exact (Kd.V_reads' HO_7.out).2.1);rintro e aA ⟨rfl,hb⟩;refine⟨_,rfl,?_⟩;replace HO_6:=Aside0.mk (Kd.V_below (by (with_reducible repeat (first|apply Kd.V_alloc|apply Kd.V_drewN|apply Kd.V_drew));exact HO_6.out) hb);replace HO_7:=Aside0.mk (Kd.V_below (by (with_reducible repeat (first|apply Kd.V_alloc|apply Kd.V_drewN|apply Kd.V_drew));exact HO_7.out) hb);replace a:=Aside0.mk (Kd.V_below (by (with_reducible repeat (first|apply Kd.V_alloc|apply Kd.V_drewN|apply Kd.V_drew));exact a.out) hb);replace HB:=zbs HB hb;clear hb)|((with_reducible refine gate_callee (f:=92) rfl ?_);refine zgo (some 30) Try.func92 #[.slice J d.length K,.slice G i.length I] ?_;(with_reducible refine (grottoref02_Minus.calls k1 _ _ d _ _ i z _ ?side1 ?side2 ?side3 ?side4 ar.out).mono ?_);(case side1=>repeat (first|exact (Kd.V_reads' HO_7.out).2.2|(with_reducible refine Kd.C_alloc ?_ _)|(with_reducible refine Kd.C_drewN ?_ _)|(with_reducible refine Kd.C_drew ?_)));(case side2=>exact (Kd.V_reads' HO_7.out).2.1);(case side3=>repeat (first|exact (Kd.V_reads' a.out).2.2|(with_reducible refine Kd.C_alloc ?_ _)|(with_reducible refine Kd.C_drewN ?_ _)|(with_reducible refine Kd.C_drew ?_)));(case side4=>exact (Kd.V_reads' a.out).2.1);rintro e aB ⟨v338,rfl,ho0,hb⟩;refine⟨_,rfl,?_⟩;have g:=Aside0.mk (Kd.V_lower (Kd.V_mono (ok':=fun k_=>(P0_ k_∨w.heap.size≤k_)) ho0 (fun k_ hk_=>(.inr (Nat.le_trans (below_size (zb HB)) hk_)))) (below_size (zb HB)));replace HO_6:=Aside0.mk (Kd.V_below (by (with_reducible repeat (first|apply Kd.V_alloc|apply Kd.V_drewN|apply Kd.V_drew));exact HO_6.out) hb);replace HO_7:=Aside0.mk (Kd.V_below (by (with_reducible repeat (first|apply Kd.V_alloc|apply Kd.V_drewN|apply Kd.V_drew));exact HO_7.out) hb);replace a:=Aside0.mk (Kd.V_below (by (with_reducible repeat (first|apply Kd.V_alloc|apply Kd.V_drewN|apply Kd.V_drew));exact a.out) hb);replace HB:=zbs HB hb;clear hb;(try clear ho0))|((with_reducible refine gate_dst (N:=32) rfl ?_);refine Kd.R_lit (Kd.int .i64) _ 3 ?hg (N:=32) ?hd (xs:=([1]:List Int)) (inner:=[.int .i64 1]) (ok:=fun _=>True) (okp:=fun _=>True) ?hr ?hp (fun _ hk=>hk) trivial (Below.refl _ _) (Nat.le_refl _) (by simp) ?_;(case hd=>rfl);(case hg=>rfl);(case hr=>first|(go_simp;done)|(go_simp;rfl));(case hp=>exact (Reps.one (show Kd.M (Kd.int .i64) _ _ _ 1 [.int .i64 1] from rfl) (Reps.none _ _)));intro v341 aC ho22 hb hg_ hnew_;clear hg_ hnew_;(first|rw[←B.out] at ho22|(simp only[Int.reduceToNat] at ho22;rw[←B.out] at ho22));have c:=Aside0.mk (Kd.R_lower (Kd.R_newM (M:=fun k_=>(w.heap.size≤k_)) ho22 (below_size (zb HB)) (fun k_ h_=>h_)) (below_size (zb HB)));replace HO_6:=Aside0.mk (Kd.V_elder' (by (with_reducible repeat (first|apply Kd.V_alloc|apply Kd.V_drewN|apply Kd.V_drew));exact HO_6.out) (Kd.R_base ho22) hb);replace HO_7:=Aside0.mk (Kd.V_elder' (by (with_reducible repeat (first|apply Kd.V_alloc|apply Kd.V_drewN|apply Kd.V_drew));exact HO_7.out) (Kd.R_base ho22) hb);replace a:=Aside0.mk (Kd.V_elder' (by (with_reducible repeat (first|apply Kd.V_alloc|apply Kd.V_drewN|apply Kd.V_drew));exact a.out) (Kd.R_base ho22) hb);replace g:=Aside0.mk (Kd.V_elder' (by (with_reducible repeat (first|apply Kd.V_alloc|apply Kd.V_drewN|apply Kd.V_drew));exact g.out) (Kd.R_base ho22) hb);replace HB:=zbs HB hb;clear hb ho22;obtain⟨D,E,ae⟩:=Kd.R_slice c.out;subst ae)|((with_reducible refine gate_callee (f:=73) rfl ?_);refine zgo (some 34) Try.func73 #[.slice D y340.length E,.int .i64 b] ?_;(with_reducible refine (grottoref02_Up.calls k1 _ _ y340 b p _ ?side1 ?side2 au.out).mono ?_);(case side1=>repeat (first|exact (Kd.R_reads' c.out).2.2|(with_reducible refine Kd.C_alloc ?_ _)|(with_reducible refine Kd.C_drewN ?_ _)|(with_reducible refine Kd.C_drew ?_)));(case side2=>exact (Kd.R_reads' c.out).2.1);rintro e aD ⟨v344,rfl,ho0,hb⟩;refine⟨_,rfl,?_⟩;have m:=Aside0.mk (Kd.V_lower (Kd.V_mono (ok':=fun k_=>(P0_ k_∨w.heap.size≤k_)∧some k_≠(.slice D y340.length E:Value).ownBlock) ho0 (fun k_ hk_=>⟨(.inr (Nat.le_trans (below_size (zb HB)) hk_)),(Kd.fresh' (Kd.R_lt (by (with_reducible repeat (first|apply Kd.R_alloc|apply Kd.R_drewN|apply Kd.R_drew));exact c.out)) k_ hk_)⟩)) (below_size (zb HB)));replace HO_6:=Aside0.mk (Kd.V_below (by (with_reducible repeat (first|apply Kd.V_alloc|apply Kd.V_drewN|apply Kd.V_drew));exact HO_6.out) hb);replace HO_7:=Aside0.mk (Kd.V_below (by (with_reducible repeat (first|apply Kd.V_alloc|apply Kd.V_drewN|apply Kd.V_drew));exact HO_7.out) hb);replace a:=Aside0.mk (Kd.V_below (by (with_reducible repeat (first|apply Kd.V_alloc|apply Kd.V_drewN|apply Kd.V_drew));exact a.out) hb);replace g:=Aside0.mk (Kd.V_below (by (with_reducible repeat (first|apply Kd.V_alloc|apply Kd.V_drewN|apply Kd.V_drew));exact g.out) hb);replace c:=Aside0.mk (Kd.R_below (by (with_reducible repeat (first|apply Kd.R_alloc|apply Kd.R_drewN|apply Kd.R_drew));exact c.out) hb);replace HB:=zbs HB hb;clear hb;(try clear ho0);obtain⟨af,ag,ah⟩:=Kd.V_slice HO_6.out;subst ah;obtain⟨ai,aj,ak⟩:=Kd.V_slice m.out;subst ak)|((with_reducible refine gate_callee (f:=74) rfl ?_);refine zgo (some 35) Try.func74 #[.slice af l.length ag,.slice ai p.length aj] ?_;(with_reducible refine (grottoref02_Plus.calls k1 _ _ l _ _ p v _ ?side1 ?side2 ?side3 ?side4 av.out).mono ?_);(case side1=>repeat (first|exact (Kd.V_reads' HO_6.out).2.2|(with_reducible refine Kd.C_alloc ?_ _)|(with_reducible refine Kd.C_drewN ?_ _)|(with_reducible refine Kd.C_drew ?_)));(case side2=>exact (Kd.V_reads' HO_6.out).2.1);(case side3=>repeat (first|exact (Kd.V_reads' m.out).2.2|(with_reducible refine Kd.C_alloc ?_ _)|(with_reducible refine Kd.C_drewN ?_ _)|(with_reducible refine Kd.C_drew ?_)));(case side4=>exact (Kd.V_reads' m.out).2.1);rintro e aE ⟨v347,rfl,ho0,hb⟩;refine⟨_,rfl,?_⟩;have Q:=Aside0.mk (Kd.V_lower (Kd.V_mono (ok':=fun k_=>(P0_ k_∨w.heap.size≤k_)∧some k_≠(.slice D y340.length E:Value).ownBlock) ho0 (fun k_ hk_=>⟨(.inr (Nat.le_trans (below_size (zb HB)) hk_)),(Kd.fresh' (Kd.R_lt (by (with_reducible repeat (first|apply Kd.R_alloc|apply Kd.R_drewN|apply Kd.R_drew));exact c.out)) k_ hk_)⟩)) (below_size (zb HB)));replace HO_6:=Aside0.mk (Kd.V_below (by (with_reducible repeat (first|apply Kd.V_alloc|apply Kd.V_drewN|apply Kd.V_drew));exact HO_6.out) hb);replace HO_7:=Aside0.mk (Kd.V_below (by (with_reducible repeat (first|apply Kd.V_alloc|apply Kd.V_drewN|apply Kd.V_drew));exact HO_7.out) hb);replace a:=Aside0.mk (Kd.V_below (by (with_reducible repeat (first|apply Kd.V_alloc|apply Kd.V_drewN|apply Kd.V_drew));exact a.out) hb);replace g:=Aside0.mk (Kd.V_below (by (with_reducible repeat (first|apply Kd.V_alloc|apply Kd.V_drewN|apply Kd.V_drew));exact g.out) hb);replace c:=Aside0.mk (Kd.R_below (by (with_reducible repeat (first|apply Kd.R_alloc|apply Kd.R_drewN|apply Kd.R_drew));exact c.out) hb);replace m:=Aside0.mk (Kd.V_below (by (with_reducible repeat (first|apply Kd.V_alloc|apply Kd.V_drewN|apply Kd.V_drew));exact m.out) hb);replace HB:=zbs HB hb;clear hb;(try clear ho0)))
     go_roundg k1
     case measure=>have:=F.out;omega
     case rel=>exact⟨(v),(z),(wrap64 (b-1)),(by first|rfl|(simp[*];done)),H',⟨by have:=F.out;omega⟩,⟨by (with_reducible repeat (first|apply Kd.V_alloc|apply Kd.V_drewN|apply Kd.V_drew));exact Kd.V_mono Q.out (fun _ hk=>hk.1)⟩,⟨by (with_reducible repeat (first|apply Kd.V_alloc|apply Kd.V_drewN|apply Kd.V_drew));exact Kd.V_mono g.out (fun _ hk=>hk.1)⟩,⟨zb HB⟩⟩
    rw[if_neg y] at H
    have P:decide (o≤0)=false:=decide_eq_false y
    clear y
    have H':=Aside0.mk H
    clear H
    go_wp2_with (first|((with_reducible refine gate_callee (f:=73) rfl ?_);refine zgo (some 23) Try.func73 #[.slice W l1.length R,.int .i64 b] ?_;(with_reducible refine (grottoref02_Up.calls k1 _ _ l1 b i _ ?side1 ?side2 aa.out).mono ?_);(case side1=>repeat (first|exact (Kd.C_below L.out HB.out)|(with_reducible refine Kd.C_alloc ?_ _)|(with_reducible refine Kd.C_drewN ?_ _)|(with_reducible refine Kd.C_drew ?_)));(case side2=>exact O.out);rintro e aF ⟨v334,rfl,ho0,hb⟩;refine⟨_,rfl,?_⟩;have a:=Aside0.mk (Kd.V_lower (Kd.V_mono (ok':=fun k_=>(P0_ k_∨w.heap.size≤k_)) ho0 (fun k_ hk_=>(.inr (Nat.le_trans (below_size (zb HB)) hk_)))) (below_size (zb HB)));replace HO_6:=Aside0.mk (Kd.V_below (by (with_reducible repeat (first|apply Kd.V_alloc|apply Kd.V_drewN|apply Kd.V_drew));exact HO_6.out) hb);replace HO_7:=Aside0.mk (Kd.V_below (by (with_reducible repeat (first|apply Kd.V_alloc|apply Kd.V_drewN|apply Kd.V_drew));exact HO_7.out) hb);replace HB:=zbs HB hb;clear hb;(try clear ho0);obtain⟨al,am,an⟩:=Kd.V_slice a.out;subst an;obtain⟨ao,ap,aq⟩:=Kd.V_slice HO_7.out;subst aq)|((with_reducible refine gate_callee (f:=75) rfl ?_);refine zgo (some 26) Try.func75 #[.slice al i.length am,.slice ao d.length ap] ?_;(with_reducible refine (grottoref02_Cmp.calls k1 _ _ i _ _ d o _ ?side1 ?side2 ?side3 ?side4 ab.out).mono ?_);(case side1=>repeat (first|exact (Kd.V_reads' a.out).2.2|(with_reducible refine Kd.C_alloc ?_ _)|(with_reducible refine Kd.C_drewN ?_ _)|(with_reducible refine Kd.C_drew ?_)));(case side2=>exact (Kd.V_reads' a.out).2.1);(case side3=>repeat (first|exact (Kd.V_reads' HO_7.out).2.2|(with_reducible refine Kd.C_alloc ?_ _)|(with_reducible refine Kd.C_drewN ?_ _)|(with_reducible refine Kd.C_drew ?_)));(case side4=>exact (Kd.V_reads' HO_7.out).2.1);rintro e aG ⟨rfl,hb⟩;refine⟨_,rfl,?_⟩;replace HO_6:=Aside0.mk (Kd.V_below (by (with_reducible repeat (first|apply Kd.V_alloc|apply Kd.V_drewN|apply Kd.V_drew));exact HO_6.out) hb);replace HO_7:=Aside0.mk (Kd.V_below (by (with_reducible repeat (first|apply Kd.V_alloc|apply Kd.V_drewN|apply Kd.V_drew));exact HO_7.out) hb);replace a:=Aside0.mk (Kd.V_below (by (with_reducible repeat (first|apply Kd.V_alloc|apply Kd.V_drewN|apply Kd.V_drew));exact a.out) hb);replace HB:=zbs HB hb;clear hb))
    go_roundg k1
    case measure=>have:=F.out;omega
    case rel=>exact⟨(l),(d),(wrap64 (b-1)),(by first|rfl|(simp[*];done)),H',⟨by have:=F.out;omega⟩,⟨by (with_reducible repeat (first|apply Kd.V_alloc|apply Kd.V_drewN|apply Kd.V_drew));exact HO_6.out⟩,⟨by (with_reducible repeat (first|apply Kd.V_alloc|apply Kd.V_drewN|apply Kd.V_drew));exact HO_7.out⟩,⟨zb HB⟩⟩
   rw[if_neg S] at H
   have Z:decide (0≤b)=false:=decide_eq_false S
   clear S
   simp only[Option.some.injEq,Prod.mk.injEq] at H
   obtain⟨rfl,rfl⟩:=H
   go_wp2
   go_ret2
   exact⟨_,_,by first|rfl|(simp[errW_none,errW_some] <;> rfl)|(simp[*,errW_none,errW_some] <;> rfl),by (with_reducible repeat (first|apply Kd.V_alloc|apply Kd.V_drewN|apply Kd.V_drew));exact HO_6.out,by (with_reducible repeat (first|apply Kd.V_alloc|apply Kd.V_drewN|apply Kd.V_drew));exact HO_7.out,zb HB⟩

/-! ### grottoref02_Inf: function 67 -/
def grottoref02_Inf.f (k:Nat) (a0_0:Int) (a0_1:Int) (a1:Bool):Option (Int):=(grottoref02_power.f k a0_1).bind fun a=>((grottoref02_Whole.f k a0_0 a0_1 a1 (IntKind.u64.wrap (a-1)) 0).bind fun b=>(some b))
theorem grottoref02_Inf.mono:∀ a0 a1 a2 k,LeO (grottoref02_Inf.f k a0 a1 a2) (grottoref02_Inf.f (k+1) a0 a1 a2):=by
 intro a0 a1 a2 k
 unfold grottoref02_Inf.f
 repeat' first|(with_reducible first|apply grottoref02_Whole.mono|apply grottoref02_power.mono|exact LeO.refl _|exact LeO.none _|refine LeO.ite ?_ ?_|refine LeO.bind ?_ (fun _=>?_))|refine LeO.ite ?_ ?_|refine LeO.bind ?_ (fun _=>?_)
def grottoref02_Inf.T1:Bool×List (List Nat×List Nat):=(true,[([],[]),([],[]),([],[]),([2],[2]),([3],[3]),([4],[4]),([0,1,5,4],[0,1,5]),([6,6,0,1,2,3,4,5,6],[6])])
def grottoref02_Inf.B1:List Nat:=[0,0,0,4,12,28,63,127]
theorem grottoref02_Inf.tab1:rtab .any (opsOf Try.f67 1)=grottoref02_Inf.T1:=by kernel_rfl
theorem grottoref02_Inf.bits1:waitsOk grottoref02_Inf.T1.2 grottoref02_Inf.B1=true:=by kernel_rfl
set_option maxHeartbeats 8000000 in
set_option maxRecDepth 100000 in
theorem grottoref02_Inf.calls {k:Nat} {c:Int} {b:Int} {l:Bool} {r:Int} {w:World} (h:grottoref02_Inf.f k c b l=some r) :
  Calls Try.prog 67 #[.agg #[.int .i64 c,.int .i64 b],.bool l] w fun e w'=>e=.returned (.int .u64 r)∧Below w.heap.size w w':=by
 have hu23:=Try.underlying23
 have HB:=Aside0.mk (Below.refl w.heap.size w)
 have H:=h
 unfold grottoref02_Inf.f at H
 clear h
 obtain⟨d,p,H⟩:=oB H
 obtain⟨j,q,H⟩:=oB H
 obtain rfl:=Option.some.inj H
 go_enter Try.func67,Try.ntmps67
 try go_wp2_with (first|((with_reducible refine gate_dst (N:=2) rfl ?_);refine zbox (N:=2) (cs:=#[.int .i64 c,.int .i64 b]) (t:=23) ?_;intro g hg s hbox hb;have a:=Aside0.mk hbox;have m:=zge hg HB;have o:=zge hg HB;replace HB:=zbs HB hb;clear hb hbox hg))
 replace a:=Aside0.mk (blk_drew a.out)
 replace HB:=Aside0.mk (below_drew1 HB.out)
 refine start_ (n:=8) (S:=fun w'=>w'.cell? ⟨g,0,none⟩=some (.int .i64 c)∧w'.cell? ⟨g,1,none⟩=some (.int .i64 b)) (ds:=[]) #[false,false,false,false,false,false,false,false] (by kernel_rfl) rfl rfl ⟨(blk_cell a.out 0).trans rfl,(blk_cell a.out 1).trans rfl⟩ (fun hHeld=>?_);refine with_tabW grottoref02_Inf.tab1 grottoref02_Inf.bits1 (fun HT_ HW_=>?_)
 generalize s.drew=u at a HB hHeld ⊢
 refine zpure_ (i:=1) (N:=some 6) #[false,true,false,false,false,false,false,false] (any_of HT_.out (by kernel_rfl)) ?_
 refine zpure_ (i:=2) (N:=some 7) #[false,true,true,false,false,false,false,false] (any_of HT_.out (by kernel_rfl)) ?_
 refine ztake_ (i:=0) (N:=some 5) #[true,true,true,false,false,false,false,false] rfl (take_ofW HT_.out HW_.out (by kernel_rfl)) hHeld (Or.inl ⟨by rfl,by rintro w' ⟨s0,s1⟩;go_simp;with_reducible rfl⟩) ?_
 refine ztake_ (i:=3) (N:=some 8) #[true,true,true,true,false,false,false,false] rfl (take_ofW HT_.out HW_.out (by kernel_rfl)) hHeld (Or.inl ⟨by rfl,by rintro w' ⟨s0,s1⟩;go_simp;with_reducible rfl⟩) ?_
 refine one_ (i:=4) (N:=some 9) #[true,true,true,true,true,false,false,false] rfl rfl (one_of HT_.out (by kernel_rfl)) (by decide) (fun K hK=>?_)
 refine goes_ Try.func60 (by kernel_rfl) rfl #[.int .i64 b] (by rfl) rfl rfl (by (try simp only[List.map_toArray,List.map_cons,List.map_nil]);first|done|rfl|(simp only[List.length_drop,List.length_take];rfl)) ?_
 with_reducible refine (grottoref02_power.calls p.out).mono ?_
 rintro e w' ⟨rfl,⟨nd,rfl⟩⟩
 refine⟨_,rfl,?_⟩
 refine hK.out _ _ ⟨(blk_cell a.out 0).trans rfl,(blk_cell a.out 1).trans rfl⟩ (fun hHeld=>?_)
 clear hK K
 refine norm_ (a':=?_) ?_ ?_
 rotate_left
 ·show Act.put _ (some 9) _=_
  simp only[Act.put,List.setIfInBounds_toArray,List.set_cons_zero,List.set_cons_succ,i64_w,i32_w]
  rfl
 refine zpure_ (i:=5) (N:=some 10) #[true,true,true,true,true,true,false,false] (any_of HT_.out (by kernel_rfl)) ?_
 refine one_ (i:=6) (N:=some 11) #[true,true,true,true,true,true,true,false] rfl rfl (one_of HT_.out (by kernel_rfl)) (by decide) (fun K hK=>?_)
 refine goes_ Try.func62 (by kernel_rfl) rfl #[.agg #[.int .i64 c,.int .i64 b],.bool l,.int .u64 (IntKind.u64.wrap (d-1)),.int .u64 0] (by rfl) rfl rfl (by (try simp only[List.map_toArray,List.map_cons,List.map_nil]);first|done|rfl|(simp only[List.length_drop,List.length_take];rfl)) ?_
 with_reducible refine (grottoref02_Whole.calls q.out).mono ?_
 rintro e v ⟨rfl,hb⟩
 refine⟨_,rfl,?_⟩
 obtain⟨a,HB⟩:=zu1 a HB hb
 try clear hb
 refine hK.out _ _ ⟨(blk_cell a.out 0).trans rfl,(blk_cell a.out 1).trans rfl⟩ (fun hHeld=>?_)
 clear hK K
 refine norm_ (a':=?_) ?_ ?_
 rotate_left
 ·show Act.put _ (some 11) _=_
  simp only[Act.put,List.setIfInBounds_toArray,List.set_cons_zero,List.set_cons_succ,i64_w,i32_w]
  rfl
 refine zpure_ (i:=7) (N:=some 4) #[true,true,true,true,true,true,true,true] (any_of HT_.out (by kernel_rfl)) ?_
 refine done_ (done_of HT_.out (by kernel_rfl)) ?_
 try go_wp2
 go_ret
 exact zr HB

/-! ### grottoref02_Small: function 84 -/
def grottoref02_Small.l0:Nat→List Int→Int→Int→Option (Int)
 | 0,_,_,_=>none
 | k+1,b,c,a=>if a≥0 then (if 0≤a then (if a<(b.length:Int) then (grottoref02_Small.l0 k b (IntKind.u64.wrap ((IntKind.u64.wrap (c*65536))+(IntKind.u64.wrap (rd b a)))) (wrap64 (a-1))) else (none)) else (none)) else (some c)
def grottoref02_Small.f (k:Nat) (l0:List Int):Option (Int):=grottoref02_Small.l0 k l0 0 (wrap64 ((l0.length:Int)-1))
theorem grottoref02_Small.mono_l:∀ k,(∀ y0 y1 y2,LeO (grottoref02_Small.l0 k y0 y1 y2) (grottoref02_Small.l0 (k+1) y0 y1 y2))
 | 0=>fun _ _ _ r h=>by simp[grottoref02_Small.l0] at h
 | k+1=>by
  have ih0:=grottoref02_Small.mono_l k
  intros;unfold grottoref02_Small.l0;repeat' first|(with_reducible first|apply ih0|exact LeO.refl _|exact LeO.none _|refine LeO.ite ?_ ?_|refine LeO.bind ?_ (fun _=>?_))|refine LeO.ite ?_ ?_|refine LeO.bind ?_ (fun _=>?_)
theorem grottoref02_Small.mono:∀ a0 k,LeO (grottoref02_Small.f k a0) (grottoref02_Small.f (k+1) a0):=by
 intro a0 k
 have ih0:=grottoref02_Small.mono_l k
 unfold grottoref02_Small.f
 repeat' first|(with_reducible first|apply ih0|exact LeO.refl _|exact LeO.none _|refine LeO.ite ?_ ?_|refine LeO.bind ?_ (fun _=>?_))|refine LeO.ite ?_ ?_|refine LeO.bind ?_ (fun _=>?_)
set_option maxHeartbeats 8000000 in
set_option maxRecDepth 100000 in
theorem grottoref02_Small.calls (k:Nat) (p:Option Addr) (q:Nat) (l0:List Int) (r:Int) (w:World) (hr0:Kd.C (Kd.int .i64) w p l0.length l0) (hc0:l0.length≤q) (h:grottoref02_Small.f k l0=some r) :
  Calls Try.prog 84 #[.slice p l0.length q] w fun e w'=>e=.returned (.int .u64 r)∧Drawn0 w w':=by
 have n:=Aside0.mk hr0
 have v:=Aside0.mk hc0
 clear hr0 hc0
 have H:=h
 unfold grottoref02_Small.f at H
 clear h
 have H':=Aside0.mk H
 clear H
 go_enter Try.func84,Try.ntmps84
 go_wp2
 go_loopg [3,4] k (fun kq v3 v4 w'=>∃ (b:Int) (a:Int),v3=.int .u64 b∧v4=.int .i64 a∧Aside0 (grottoref02_Small.l0 kq l0 b a=some r)∧Aside0 (kq≤k)∧Drawn0 w w')
 case atStart=>exact⟨(0),(wrap64 ((l0.length:Int)-1)),(by first|rfl|(simp[*];done)),(by first|rfl|(simp[*];done)),H',⟨Nat.le_refl _⟩,by repeat (first|exact Drawn0.refl _|apply Drawn0.step)⟩
 case round =>
  clear H'
  obtain⟨b,a,rfl,rfl,HA,i,⟨m1,rfl⟩⟩:=hrel
  cases gk with
  | zero=>exact absurd HA.out (by simp[grottoref02_Small.l0])
  | succ k1 =>
   have H:=HA.out
   clear HA
   simp only[grottoref02_Small.l0] at H
   by_cases g:a≥0
   ·rw[if_pos g] at H
    have j:decide (0≤a)=true:=decide_eq_true g
    clear g
    by_cases l:0≤a
    ·rw[if_pos l] at H
     have s:decide (0≤a)=true:=decide_eq_true l
     clear l
     by_cases m:a<(l0.length:Int)
     ·rw[if_pos m] at H
      have u:decide (a<(l0.length:Int))=true:=decide_eq_true m
      clear m
      have H':=Aside0.mk H
      clear H
      have c:0≤(a:Int):=of_decide_eq_true (by first|(with_reducible assumption)|assumption)
      have d:a<(l0.length:Int):=of_decide_eq_true (by first|(with_reducible assumption)|assumption)
      obtain⟨o,e352,hx352_0⟩:=Kd.at_int n.out a c d
      cases e352
      replace c:=eq_true c
      replace d:=eq_true d
      go_wp2
      go_roundg k1
      case measure=>have:=i.out;omega
      case rel=>exact⟨(IntKind.u64.wrap ((IntKind.u64.wrap (b*65536))+(IntKind.u64.wrap (rd l0 a)))),(wrap64 (a-1)),(by first|rfl|(simp[*];done)),(by first|rfl|(simp[*];done)),H',⟨by have:=i.out;omega⟩,by repeat (first|exact Drawn0.refl _|apply Drawn0.step)⟩
     rw[if_neg m] at H
     exact absurd H (by simp)
    rw[if_neg l] at H
    exact absurd H (by simp)
   rw[if_neg g] at H
   have j:decide (0≤a)=false:=decide_eq_false g
   clear g
   obtain rfl:=Option.some.inj H
   go_wp2
   go_ret
   exact⟨by first|rfl|(simp;done)|(simp[*];done),by repeat (first|exact Drawn0.refl _|apply Drawn0.step)⟩

end Go.Proofs.Ytmmbgbchimangaa.PQ
