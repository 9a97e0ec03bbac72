-- by a program of this claim
import Derived.Test.YtmmbgbchimangaaPQx0
import Derived.Test.YtmmbgbchimangaaPQx2
namespace Go.Proofs.Ytmmbgbchimangaa.PQ
open Go.RowKit Go.Proofs.YtmmbgbchimangaaW.PrintWords Go.Proofs.YtmmbgbchimangaaW.PrintLast Go.Proofs.YtmmbgbchimangaaW.PrintMore Go.Proofs.Ytmmbgbchimangaa.Z
attribute [local go_sem] max2_int min2_int max_two min_two max_three min_three max_four min_four   -- for this text's walks alone
set_option linter.unusedVariables false
set_option linter.unusedSimpArgs false

/-! ### soft_divided: function 52 -/
def soft_divided.l0:Nat→Int→Int→Int→Int→Bool→Int→Option (Int×Int×Bool×Int)
 | 0,_,_,_,_,_,_=>none
 | k+1,a,d,b,e,f,c=>if d>0 then (if (IntKind.u64.wrap (c*2))≥a then (if (b/4611686018427387904)=0 then (soft_divided.l0 k a (wrap64 (d-1)) (Go.bits .or .u64 (IntKind.u64.wrap (b*2)) 1) e f (IntKind.u64.wrap ((IntKind.u64.wrap (c*2))-a))) else (if f=true then (soft_divided.l0 k a (wrap64 (d-1)) b (wrap64 (e+1)) true (IntKind.u64.wrap ((IntKind.u64.wrap (c*2))-a))) else (soft_divided.l0 k a (wrap64 (d-1)) b (wrap64 (e+1)) (1==1) (IntKind.u64.wrap ((IntKind.u64.wrap (c*2))-a))))) else (if (b/4611686018427387904)=0 then (soft_divided.l0 k a (wrap64 (d-1)) (Go.bits .or .u64 (IntKind.u64.wrap (b*2)) 0) e f (IntKind.u64.wrap (c*2))) else (if f=true then (soft_divided.l0 k a (wrap64 (d-1)) b (wrap64 (e+1)) true (IntKind.u64.wrap (c*2))) else (soft_divided.l0 k a (wrap64 (d-1)) b (wrap64 (e+1)) (0==1) (IntKind.u64.wrap (c*2)))))) else (some (b,e,f,c))
def soft_divided.f (k:Nat) (a0:Int) (a1:Int) (a2:Int):Option (Int×Int×Bool×Int):=if a1=0 then (none) else (soft_divided.l0 k a1 a2 (IntKind.u64.wrap (Int.tdiv a0 a1)) 0 false (Int.tmod a0 a1))
theorem soft_divided.mono_l:∀ k,(∀ y0 y1 y2 y3 y4 y5,LeO (soft_divided.l0 k y0 y1 y2 y3 y4 y5) (soft_divided.l0 (k+1) y0 y1 y2 y3 y4 y5))
 | 0=>fun _ _ _ _ _ _ r h=>by simp[soft_divided.l0] at h
 | k+1=>by
  have ih0:=soft_divided.mono_l k
  intros;unfold soft_divided.l0;repeat' first|(with_reducible first|apply ih0|exact LeO.refl _|exact LeO.none _|refine LeO.ite ?_ ?_|refine LeO.bind ?_ (fun _=>?_))|refine LeO.ite ?_ ?_|refine LeO.bind ?_ (fun _=>?_)
theorem soft_divided.mono:∀ a0 a1 a2 k,LeO (soft_divided.f k a0 a1 a2) (soft_divided.f (k+1) a0 a1 a2):=by
 intro a0 a1 a2 k
 have ih0:=soft_divided.mono_l k
 unfold soft_divided.f
 repeat' first|(with_reducible first|apply ih0|exact LeO.refl _|exact LeO.none _|refine LeO.ite ?_ ?_|refine LeO.bind ?_ (fun _=>?_))|refine LeO.ite ?_ ?_|refine LeO.bind ?_ (fun _=>?_)
set_option maxHeartbeats 8000000 in
set_option maxRecDepth 100000 in
theorem soft_divided.calls {k:Nat} {m:Int} {j:Int} {E:Int} {F:Int} {G:Int} {I:Bool} {J:Int} {w:World} (h:soft_divided.f k m j E=some (F,G,I,J)) :
  Calls Try.prog 52 #[.int .u64 m,.int .u64 j,.int .i64 E] w fun e w'=>e=.returned (.tuple #[.int .u64 F,.int .i64 G,.bool I,.int .u64 J])∧Drawn0 w w':=by
 have H:=h
 unfold soft_divided.f at H
 clear h
 by_cases K:j=0
 ·rw[if_pos K] at H
  exact absurd H (by simp)
 rw[if_neg K] at H
 obtain⟨p,q⟩:=zf K
 have H':=Aside0.mk H
 clear H
 go_enter Try.func52,Try.ntmps52
 go_wp2
 repeat (go_quiet (fail);try go_wp2)
 go_loopg [2,6,7,8,9] k (fun kq v2 v6 v7 v8 v9 w'=>∃ (a:Int) (c:Int) (d:Int) (i:Bool) (b:Int),v2=.int .i64 a∧v6=.int .u64 c∧v7=.int .i64 d∧v8=.bool i∧v9=.int .u64 b∧Aside0 (soft_divided.l0 kq j a c d i b=some (F,G,I,J))∧Aside0 (kq≤k)∧Drawn0 w w')
 case atStart=>exact⟨(E),(IntKind.u64.wrap (Int.tdiv m j)),(0),(false),(Int.tmod m j),(by first|rfl|(simp[*];done)),(by first|rfl|(simp[*];done)),(by first|rfl|(simp[*];done)),(by first|rfl|(simp[*];done)),(by first|rfl|(simp[*];done)),H',⟨Nat.le_refl _⟩,by repeat (first|exact Drawn0.refl _|apply Drawn0.step)⟩
 case round =>
  clear H'
  try clear K p q
  obtain⟨a,c,d,i,b,rfl,rfl,rfl,rfl,rfl,HA,g,⟨m1,rfl⟩⟩:=hrel
  cases gk with
  | zero=>exact absurd HA.out (by simp[soft_divided.l0])
  | succ k1 =>
   have H:=HA.out
   clear HA
   simp only[soft_divided.l0] at H
   by_cases n:a>0
   rotate_left
   ·rw[if_neg n] at H
    have s:decide (0<a)=false:=decide_eq_false n
    clear n
    simp only[Option.some.injEq,Prod.mk.injEq] at H
    obtain⟨rfl,rfl,rfl,rfl⟩:=H
    go_wp2
    repeat (go_quiet (fail);try go_wp2)
    refine bodyPost_ret (results_list (rs:=[.tmp 6,.tmp 7,.tmp 8,.tmp 9]) rfl (by simp) (.tmp (.tmp (.tmp (.tmp .nil))))) rfl ?_
    exact⟨by first|rfl|(simp;done)|(simp[*];done),by repeat (first|exact Drawn0.refl _|apply Drawn0.step)⟩

   rw[if_pos n] at H
   have s:decide (0<a)=true:=decide_eq_true n
   clear n
   by_cases o:(IntKind.u64.wrap (b*2))≥j
   ·rw[if_pos o] at H
    have u:decide (j≤(IntKind.u64.wrap (b*2)))=true:=decide_eq_true o
    clear o
    by_cases v:(c/4611686018427387904)=0
    ·rw[if_pos v] at H
     obtain⟨y,z⟩:=zt v
     clear v
     have H':=Aside0.mk H
     clear H
     go_wp2
     repeat (go_quiet (fail);try go_wp2)
     go_roundg k1
     case measure=>have:=g.out;omega
     case rel=>exact⟨(wrap64 (a-1)),(Go.bits .or .u64 (IntKind.u64.wrap (c*2)) 1),(d),(i),(IntKind.u64.wrap ((IntKind.u64.wrap (b*2))-j)),(by first|rfl|(simp[*];done)),(by first|rfl|(simp[*];done)),(by first|rfl|(simp[*];done)),(by first|rfl|(simp[*];done)),(by first|rfl|(simp[*];done)),H',⟨by have:=g.out;omega⟩,by repeat (first|exact Drawn0.refl _|apply Drawn0.step)⟩
    rw[if_neg v] at H
    obtain⟨y,z⟩:=zf v
    by_cases L:i=true
    ·subst L
     rw[if_pos rfl] at H
     have H':=Aside0.mk H
     clear H
     go_wp2
     repeat (go_quiet (fail);try go_wp2)
     go_roundg k1
     case measure=>have:=g.out;omega
     case rel=>exact⟨(wrap64 (a-1)),(c),(wrap64 (d+1)),(true),(IntKind.u64.wrap ((IntKind.u64.wrap (b*2))-j)),(by first|rfl|(simp[*];done)),(by first|rfl|(simp[*];done)),(by first|rfl|(simp[*];done)),(by first|rfl|(simp[*];done)),(by first|rfl|(simp[*];done)),H',⟨by have:=g.out;omega⟩,by repeat (first|exact Drawn0.refl _|apply Drawn0.step)⟩
    replace L:=Bool.eq_false_iff.mpr L
    subst L
    rw[if_neg nft] at H
    have H':=Aside0.mk H
    clear H
    go_wp2
    repeat (go_quiet (fail);try go_wp2)
    go_roundg k1
    case measure=>have:=g.out;omega
    case rel=>exact⟨(wrap64 (a-1)),(c),(wrap64 (d+1)),((1==1)),(IntKind.u64.wrap ((IntKind.u64.wrap (b*2))-j)),(by first|rfl|(simp[*];done)),(by first|rfl|(simp[*];done)),(by first|rfl|(simp[*];done)),(by first|rfl|(simp[*];done)),(by first|rfl|(simp[*];done)),H',⟨by have:=g.out;omega⟩,by repeat (first|exact Drawn0.refl _|apply Drawn0.step)⟩
   rw[if_neg o] at H
   have u:decide (j≤(IntKind.u64.wrap (b*2)))=false:=decide_eq_false o
   clear o
   by_cases B:(c/4611686018427387904)=0
   ·rw[if_pos B] at H
    obtain⟨C,D⟩:=zt B
    clear B
    have H':=Aside0.mk H
    clear H
    go_wp2
    repeat (go_quiet (fail);try go_wp2)
    go_roundg k1
    case measure=>have:=g.out;omega
    case rel=>exact⟨(wrap64 (a-1)),(Go.bits .or .u64 (IntKind.u64.wrap (c*2)) 0),(d),(i),(IntKind.u64.wrap (b*2)),(by first|rfl|(simp[*];done)),(by first|rfl|(simp[*];done)),(by first|rfl|(simp[*];done)),(by first|rfl|(simp[*];done)),(by first|rfl|(simp[*];done)),H',⟨by have:=g.out;omega⟩,by repeat (first|exact Drawn0.refl _|apply Drawn0.step)⟩
   rw[if_neg B] at H
   obtain⟨C,D⟩:=zf B
   by_cases l:i=true
   ·subst l
    rw[if_pos rfl] at H
    have H':=Aside0.mk H
    clear H
    go_wp2
    repeat (go_quiet (fail);try go_wp2)
    go_roundg k1
    case measure=>have:=g.out;omega
    case rel=>exact⟨(wrap64 (a-1)),(c),(wrap64 (d+1)),(true),(IntKind.u64.wrap (b*2)),(by first|rfl|(simp[*];done)),(by first|rfl|(simp[*];done)),(by first|rfl|(simp[*];done)),(by first|rfl|(simp[*];done)),(by first|rfl|(simp[*];done)),H',⟨by have:=g.out;omega⟩,by repeat (first|exact Drawn0.refl _|apply Drawn0.step)⟩
   replace l:=Bool.eq_false_iff.mpr l
   subst l
   rw[if_neg nft] at H
   have H':=Aside0.mk H
   clear H
   go_wp2
   repeat (go_quiet (fail);try go_wp2)
   go_roundg k1
   case measure=>have:=g.out;omega
   case rel=>exact⟨(wrap64 (a-1)),(c),(wrap64 (d+1)),((0==1)),(IntKind.u64.wrap (b*2)),(by first|rfl|(simp[*];done)),(by first|rfl|(simp[*];done)),(by first|rfl|(simp[*];done)),(by first|rfl|(simp[*];done)),(by first|rfl|(simp[*];done)),H',⟨by have:=g.out;omega⟩,by repeat (first|exact Drawn0.refl _|apply Drawn0.step)⟩
/-! ### soft_Mod: function 16 -/
mutual
def soft_Mod.j0:Nat→Int→Bool→Bool→Int→Int→Int→Bool→Int→Int→Int→Bool→Int→Int→Option (Int×Int×Int)
 | 0,_,_,_,_,_,_,_,_,_,_,_,_,_=>none
 | k+1,g,e,p,c,d,l,m,b,h,n,o,a,i=>if p=true then ((round_NaN.f c d).bind fun q=>((round_NaN.f c d).bind fun r=>(some (q,r,0)))) else (if l=1 then ((round_Zero.f c d e).bind fun s=>(some (g,s,0))) else (if n=3 then ((round_Zero.f c d e).bind fun t=>(some (g,t,0))) else (if b<a then (if (wrap64 (a-b))>63 then (soft_Mod.j1 k g e (wrap64 (a-b)) true c d l m b h n o a i) else (if 0≤(wrap64 (a-b)) then (soft_Mod.j1 k g e (wrap64 (a-b)) (decide ((shr .u64 h (wrap64 (a-b)))<i)) c d l m b h n o a i) else (none))) else ((soft_divided.f k h i (wrap64 (b-a))).bind fun j=>((round_Pack.f k c d e 0 j.1 j.2.1 j.2.2.1).bind fun u=>((round_Pack.f k c d m 0 j.2.2.2 a false).bind fun v=>(some (v.1,u.1,0))))))))
def soft_Mod.j1:Nat→Int→Bool→Int→Bool→Int→Int→Int→Bool→Int→Int→Int→Bool→Int→Int→Option (Int×Int×Int)
 | 0,_,_,_,_,_,_,_,_,_,_,_,_,_,_=>none
 | k+1,h,e,a,i,b,c,p,j,l,g,q,r,s,d=>if i=true then ((round_Zero.f b c e).bind fun m=>(some (h,m,0))) else (if 0≤a then (if (shl .u64 d a)=0 then (none) else ((round_Pack.f k b c e 0 (IntKind.u64.wrap (Int.tdiv g (shl .u64 d a))) 0 false).bind fun n=>((round_Pack.f k b c j 0 (Int.tmod g (shl .u64 d a)) l false).bind fun o=>(some (o.1,n.1,0))))) else (none))
end
def soft_Mod.f (k:Nat) (a0_0:Int) (a0_1:Int) (a1:Int) (a2:Int):Option (Int×Int×Int):=(soft_two.f k a0_0 a0_1 a1 a2).bind fun a=>(if a.2.2.2.2.2.2.2.2=0 then ((soft_odd.f a.1 a.2.1 a.2.2.1 a.2.2.2.1 a.2.2.2.2.1 a.2.2.2.2.2.1 a.2.2.2.2.2.2.1 a.2.2.2.2.2.2.2.1).bind fun b=>(if b=true then (soft_Mod.j0 k a1 (a.2.1 != a.2.2.2.2.2.1) true a0_0 a0_1 a.1 a.2.1 a.2.2.1 a.2.2.2.1 a.2.2.2.2.1 a.2.2.2.2.2.1 a.2.2.2.2.2.2.1 a.2.2.2.2.2.2.2.1) else (if a.1=3 then (soft_Mod.j0 k a1 (a.2.1 != a.2.2.2.2.2.1) true a0_0 a0_1 a.1 a.2.1 a.2.2.1 a.2.2.2.1 a.2.2.2.2.1 a.2.2.2.2.2.1 a.2.2.2.2.2.2.1 a.2.2.2.2.2.2.2.1) else (soft_Mod.j0 k a1 (a.2.1 != a.2.2.2.2.2.1) (a.2.2.2.2.1==1) a0_0 a0_1 a.1 a.2.1 a.2.2.1 a.2.2.2.1 a.2.2.2.2.1 a.2.2.2.2.2.1 a.2.2.2.2.2.2.1 a.2.2.2.2.2.2.2.1)))) else (some (0,0,a.2.2.2.2.2.2.2.2)))
theorem soft_Mod.mono_l:∀ k,(∀ y0 y1 y2 y3 y4 y5 y6 y7 y8 y9 y10 y11 y12,LeO (soft_Mod.j0 k y0 y1 y2 y3 y4 y5 y6 y7 y8 y9 y10 y11 y12) (soft_Mod.j0 (k+1) y0 y1 y2 y3 y4 y5 y6 y7 y8 y9 y10 y11 y12))∧(∀ y0 y1 y2 y3 y4 y5 y6 y7 y8 y9 y10 y11 y12 y13,LeO (soft_Mod.j1 k y0 y1 y2 y3 y4 y5 y6 y7 y8 y9 y10 y11 y12 y13) (soft_Mod.j1 (k+1) y0 y1 y2 y3 y4 y5 y6 y7 y8 y9 y10 y11 y12 y13))
 | 0=>⟨fun _ _ _ _ _ _ _ _ _ _ _ _ _ r h=>by simp[soft_Mod.j0] at h,fun _ _ _ _ _ _ _ _ _ _ _ _ _ _ r h=>by simp[soft_Mod.j1] at h⟩
 | k+1=>by
  obtain⟨ih0,ih1⟩:=soft_Mod.mono_l k
  refine⟨?_,?_⟩ <;> intros <;> (first|unfold soft_Mod.j0|unfold soft_Mod.j1) <;> (repeat' first|(with_reducible first|apply ih0|apply ih1|apply round_Pack.mono|apply soft_divided.mono|apply soft_two.mono|exact LeO.refl _|exact LeO.none _|refine LeO.ite ?_ ?_|refine LeO.bind ?_ (fun _=>?_))|refine LeO.ite ?_ ?_|refine LeO.bind ?_ (fun _=>?_))
theorem soft_Mod.mono:∀ a0 a1 a2 a3 k,LeO (soft_Mod.f k a0 a1 a2 a3) (soft_Mod.f (k+1) a0 a1 a2 a3):=by
 intro a0 a1 a2 a3 k
 obtain⟨ih0,ih1⟩:=soft_Mod.mono_l k
 unfold soft_Mod.f
 repeat' first|(with_reducible first|apply ih0|apply ih1|apply round_Pack.mono|apply soft_divided.mono|apply soft_two.mono|exact LeO.refl _|exact LeO.none _|refine LeO.ite ?_ ?_|refine LeO.bind ?_ (fun _=>?_))|refine LeO.ite ?_ ?_|refine LeO.bind ?_ (fun _=>?_)
def soft_Mod.T11:Bool×List (List Nat×List Nat):=(true,[([],[]),([0],[0]),([1],[1]),([2],[2]),([3,2],[2,3]),([2],[2]),([4,5,2],[2,4,5]),([2],[2]),([7,2],[2,7]),([6,8,2],[2,6,8]),([2,9],[2,9])])
def soft_Mod.B11:List Nat:=[0,1,3,7,15,7,63,7,135,511,1023]
theorem soft_Mod.tab11:rtab .any (opsOf Try.f16 11)=soft_Mod.T11:=by kernel_rfl
theorem soft_Mod.bits11:waitsOk soft_Mod.T11.2 soft_Mod.B11=true:=by kernel_rfl
def soft_Mod.T14:Bool×List (List Nat×List Nat):=(true,[([],[]),([],[]),([],[]),([2],[2]),([],[]),([3,4],[3,4]),([0,1,5],[0,1,5]),([6],[6]),([7],[7]),([7],[7]),([8,6,0,1,2,3,4,5,6,7,8],[8])])
def soft_Mod.B14:List Nat:=[0,0,0,4,0,28,63,127,255,255,511]
theorem soft_Mod.tab14:rtab .any (opsOf Try.f16 14)=soft_Mod.T14:=by kernel_rfl
theorem soft_Mod.bits14:waitsOk soft_Mod.T14.2 soft_Mod.B14=true:=by kernel_rfl
def soft_Mod.T15:Bool×List (List Nat×List Nat):=(true,[([],[]),([],[]),([1],[1]),([],[]),([3],[3]),([],[]),([4,5],[4,5]),([],[]),([7],[7]),([0,2,6,8],[0,2,6,8]),([9],[9]),([10],[10]),([10],[10]),([11,9,0,1,2,3,4,5,6,7,8,9,10,11],[11])])
def soft_Mod.B15:List Nat:=[0,0,2,0,8,0,56,0,128,511,1023,2047,2047,4095]
theorem soft_Mod.tab15:rtab .any (opsOf Try.f16 15)=soft_Mod.T15:=by kernel_rfl
theorem soft_Mod.bits15:waitsOk soft_Mod.T15.2 soft_Mod.B15=true:=by kernel_rfl
set_option maxHeartbeats 8000000 in
set_option maxRecDepth 100000 in
theorem soft_Mod.calls {k:Nat} {p:Int} {q:Int} {a1:Int} {a2:Int} {r1:Int} {r2:Int} {r3:Int} {w:World} (h:soft_Mod.f k p q a1 a2=some (r1,r2,r3)) :
  Calls Try.prog 16 #[.agg #[.int .i64 p,.int .i64 q],.int .u64 a1,.int .u64 a2] w fun e w'=>e=.returned (.tuple #[.int .u64 r1,.int .u64 r2,.int .i64 r3])∧Below w.heap.size w w':=by
 have hu23:=Try.underlying23
 have hu34:=Try.underlying34
 have HB:=Aside0.mk (Below.refl w.heap.size w)
 have H:=h
 unfold soft_Mod.f at H
 clear h
 obtain⟨⟨D,u,m,s,F,C,y,B,dG⟩,A4,H⟩:=oB H
 try dsimp only at H
 by_cases c5:dG=0
 rotate_left
 ·rw[if_neg c5] at H
  obtain⟨aF,aG⟩:=zf c5
  simp only[Option.some.injEq,Prod.mk.injEq] at H
  obtain⟨rfl,rfl,rfl⟩:=H
  go_enter Try.func16,Try.ntmps16
  go_wp2_with (first|((with_reducible refine gate_dst (N:=3) rfl ?_);refine zbox (N:=3) (cs:=#[.int .i64 p,.int .i64 q]) (t:=23) ?_;intro E hg ga hbox hb;have a:=Aside0.mk hbox;have cr:=zge hg HB;have ct:=zge hg HB;replace HB:=zbs HB hb;clear hb hbox hg;obtain⟨dk,dl,dm,dn⟩:=zc2 a)|((with_reducible refine gate_callee (f:=47) rfl ?_);refine zgc (some 22) Try.func47 (soft_two.calls A4.out) ?_;intro gb hb;obtain⟨a,HB⟩:=zu1 a HB hb;clear hb)|((with_reducible refine gate_dst (N:=9) rfl ?_);refine zbox (N:=9) (cs:=#[.int .i64 0,.bool false,.int .i64 0,.int .u64 0]) (t:=34) ?_;intro z hg gc hbox hb;have b:=Aside0.mk hbox;have cu:=zge hg HB;have cv:=zge hg HB;have U:=znl hg a;have g:=zng hg a;obtain⟨a,HB⟩:=zu1 a HB hb;clear hb hbox hg)|((with_reducible refine gate_dst (N:=10) rfl ?_);refine zbox (N:=10) (cs:=#[.int .i64 0,.bool false,.int .i64 0,.int .u64 0]) (t:=34) ?_;intro J hg gd hbox hb;have c:=Aside0.mk hbox;have cw:=zge hg HB;have cx:=zge hg HB;have L:=znl hg a;have j:=zng hg a;have l:=znl hg b;have V:=zng hg b;obtain⟨a,b,HB⟩:=zu2 a b HB hb;clear hb hbox hg;obtain⟨eB,eC⟩:=z2 g;obtain⟨eD,eE⟩:=z2 l;obtain⟨dp,dq,dr,dt,du,dv,dw,dx⟩:=zc4 b;obtain⟨eF,eG⟩:=z2 j;obtain⟨dy,dz,dA,dB,dC,dD,dE,dF⟩:=zc4 c))
  go_ret3
  exact zr HB

 rw[if_pos c5] at H
 obtain⟨aF,aG⟩:=zt c5
 clear c5
 have cq:=Aside0.mk H
 clear H
 go_enter Try.func16,Try.ntmps16
 go_upto_region 5 with (first|((with_reducible refine gate_dst (N:=3) rfl ?_);refine zbox (N:=3) (cs:=#[.int .i64 p,.int .i64 q]) (t:=23) ?_;intro E hg w7 hbox hb;have a:=Aside0.mk hbox;have cr:=zge hg HB;have ct:=zge hg HB;replace HB:=zbs HB hb;clear hb hbox hg;obtain⟨ar,au,av,aw⟩:=zc2 a)|((with_reducible refine gate_callee (f:=47) rfl ?_);refine zgc (some 22) Try.func47 (soft_two.calls A4.out) ?_;intro w9 hb;obtain⟨a,HB⟩:=zu1 a HB hb;clear hb)|((with_reducible refine gate_dst (N:=9) rfl ?_);refine zbox (N:=9) (cs:=#[.int .i64 0,.bool false,.int .i64 0,.int .u64 0]) (t:=34) ?_;intro z hg ge hbox hb;have b:=Aside0.mk hbox;have cu:=zge hg HB;have cv:=zge hg HB;have U:=znl hg a;have g:=zng hg a;obtain⟨a,HB⟩:=zu1 a HB hb;clear hb hbox hg)|((with_reducible refine gate_dst (N:=10) rfl ?_);refine zbox (N:=10) (cs:=#[.int .i64 0,.bool false,.int .i64 0,.int .u64 0]) (t:=34) ?_;intro J hg gf hbox hb;have c:=Aside0.mk hbox;have cw:=zge hg HB;have cx:=zge hg HB;have L:=znl hg a;have j:=zng hg a;have l:=znl hg b;have V:=zng hg b;obtain⟨a,b,HB⟩:=zu2 a b HB hb;clear hb hbox hg;obtain⟨eI,eJ⟩:=z2 g;obtain⟨eK,eL⟩:=z2 l;obtain⟨Z,aa,ab,ac,ad,ae,af,ag⟩:=zc4 b;obtain⟨eM,eN⟩:=z2 j;obtain⟨ah,ai,aj,ak,al,am,an,ao⟩:=zc4 c))
 (try simp only[Act.put,List.setIfInBounds_toArray,List.set_cons_zero,List.set_cons_succ])
 go_cut [34] (fun v34 wc=>∃ (kq:Nat) (X:Bool),v34=.bool X∧Aside0 (soft_Mod.j0 kq a1 (u != C) X p q D u m s F C y B=some (r1,r2,r3))∧Aside0 (kq≤k)∧Aside0 (wc.heap[E]?=some (.cells #[.int .i64 p,.int .i64 q] 23 (0,0)))∧Aside0 (wc.heap[z]?=some (.cells #[.int .i64 D,.bool u,.int .i64 m,.int .u64 s] 34 (0,0)))∧Aside0 (wc.heap[J]?=some (.cells #[.int .i64 F,.bool C,.int .i64 y,.int .u64 B] 34 (0,0)))∧Aside0 (Below w.heap.size w wc))
 case first =>
  have H:=cq.out
  clear cq
  obtain⟨aE,cy,H⟩:=oB H
  by_cases aH:aE=true
  ·subst aH
   rw[if_pos rfl] at H
   have H':=Aside0.mk H
   clear H
   obtain⟨eO,eP⟩:=z2 g
   obtain⟨eQ,eR⟩:=z2 l
   obtain⟨aI,aJ,aK,aL,aM,aN,aO,aP⟩:=zc4 b
   obtain⟨eS,eT⟩:=z2 j
   obtain⟨aQ,aR,aS,aT,aU,aV,aW,aX⟩:=zc4 c
   go_wp2_with (first|((with_reducible refine gate_callee (f:=48) rfl ?_);refine zgc (some 37) Try.func48 (soft_odd.calls cy.out) ?_;intro gg hb;replace a:=zkb a hb;replace b:=zkbo (o:=.cells #[.int .i64 D,.bool u,.int .i64 m,.int .u64 s] 34 (0,0)) b hb;replace c:=zkbo (o:=.cells #[.int .i64 F,.bool C,.int .i64 y,.int .u64 B] 34 (0,0)) c hb;replace HB:=zbs HB hb;clear hb))
   go_meet
   case rel=>exact⟨_,(true),(by first|rfl|(simp[*];done)),H',⟨by omega⟩,⟨zk a⟩,⟨zk b⟩,⟨zk c⟩,⟨zb HB⟩⟩
  replace aH:=Bool.eq_false_iff.mpr aH
  subst aH
  rw[if_neg nft] at H
  by_cases az:D=3
  ·rw[if_pos az] at H
   obtain⟨O,aY⟩:=zt az
   clear az
   (first|rw[O]|(simp only[i64_w,i32_w];rw[O])|skip)
   have H':=Aside0.mk H
   clear H
   obtain⟨eU,eV⟩:=z2 g
   obtain⟨eW,eX⟩:=z2 l
   obtain⟨aZ,a0,a3,a4,a5,a6,a7,a8⟩:=zc4 b
   obtain⟨eY,eZ⟩:=z2 j
   obtain⟨a9,ba,bb,bc,bd,be,bf,bg⟩:=zc4 c
   go_wp2_with (first|((with_reducible refine gate_callee (f:=48) rfl ?_);refine zgc (some 37) Try.func48 (soft_odd.calls cy.out) ?_;intro gh hb;replace a:=zkb a hb;replace b:=zkbo (o:=.cells #[.int .i64 D,.bool u,.int .i64 m,.int .u64 s] 34 (0,0)) b hb;replace c:=zkbo (o:=.cells #[.int .i64 F,.bool C,.int .i64 y,.int .u64 B] 34 (0,0)) c hb;replace HB:=zbs HB hb;clear hb;obtain⟨bh,bi,bj,bk,bl,bm,bn,bo⟩:=zc4 b))
   go_meet
   case rel=>exact⟨_,(true),(by first|rfl|(simp[*];done)),H',⟨by omega⟩,⟨zk a⟩,⟨zk b⟩,⟨zk c⟩,⟨zb HB⟩⟩
  rw[if_neg az] at H
  obtain⟨O,aY⟩:=zf az
  (first|rw[O]|(simp only[i64_w,i32_w];rw[O])|skip)
  have H':=Aside0.mk H
  clear H
  obtain⟨e0,e1⟩:=z2 g
  obtain⟨e2,e3⟩:=z2 l
  obtain⟨bp,bq,br,bs,bt,bu,bv,bw⟩:=zc4 b
  obtain⟨e4,e5⟩:=z2 j
  obtain⟨bx,bz,bA,bB,bC,bD,bE,bF⟩:=zc4 c
  go_wp2_with (first|((with_reducible refine gate_callee (f:=48) rfl ?_);refine zgc (some 37) Try.func48 (soft_odd.calls cy.out) ?_;intro gi hb;replace a:=zkb a hb;replace b:=zkbo (o:=.cells #[.int .i64 D,.bool u,.int .i64 m,.int .u64 s] 34 (0,0)) b hb;replace c:=zkbo (o:=.cells #[.int .i64 F,.bool C,.int .i64 y,.int .u64 B] 34 (0,0)) c hb;replace HB:=zbs HB hb;clear hb;obtain⟨bG,bH,bI,bJ,bK,bL,bM,bN⟩:=zc4 b;obtain⟨bO,bP,bQ,bR,bS,bT,bU,bV⟩:=zc4 c))
  go_meet
  case rel=>exact⟨_,((F==1)),(by first|rfl|(simp[*];done)),H',⟨by omega⟩,⟨zk a⟩,⟨zk b⟩,⟨zk c⟩,⟨zb HB⟩⟩
 case rest =>
  clear cq
  try clear aF aG Z aa ab ac ah ai aj ak ar au ad ae af ag al am an ao av aw
  obtain⟨kq,X,rfl,HA,dI,a,b,c,HB⟩:=hcut
  cases kq with
  | zero=>exact absurd HA.out (by simp[soft_Mod.j0])
  | succ cz =>
   have H:=HA.out
   clear HA
   simp only[soft_Mod.j0] at H
   by_cases bW:X=true
   ·subst bW
    rw[if_pos rfl] at H
    obtain⟨fQ,e6,H⟩:=oB H
    obtain⟨fR,e7,H⟩:=oB H
    simp only[Option.some.injEq,Prod.mk.injEq] at H
    obtain⟨rfl,rfl,rfl⟩:=H
    try go_wp2
    replace a:=Aside0.mk (blk_drew a.out)
    replace b:=Aside0.mk (blk_drew b.out)
    replace c:=Aside0.mk (blk_drew c.out)
    replace HB:=Aside0.mk (below_drew1 HB.out)
    refine start_ (n:=7) (S:=fun w'=>w'.cell? ⟨E,0,none⟩=some (.int .i64 p)∧w'.cell? ⟨E,1,none⟩=some (.int .i64 q)) (ds:=[]) #[false,false,false,false,false,false,false] (by kernel_rfl) rfl rfl ⟨(blk_cell a.out 0).trans rfl,(blk_cell a.out 1).trans rfl⟩ (fun hHeld=>?_)
    generalize wc.drew=gj at a b c HB hHeld ⊢
    refine ztake_ (i:=0) (N:=some 48) #[true,false,false,false,false,false,false] rfl (by kernel_rfl) hHeld (Or.inl ⟨by rfl,by rintro w' ⟨s0,s1⟩;go_simp;with_reducible rfl⟩) ?_
    refine ztake_ (i:=2) (N:=some 50) #[true,false,true,false,false,false,false] rfl (by kernel_rfl) hHeld (Or.inl ⟨by rfl,by rintro w' ⟨s0,s1⟩;go_simp;with_reducible rfl⟩) ?_
    refine one_ (i:=1) (N:=some 49) #[true,true,true,false,false,false,false] rfl rfl (by kernel_rfl) (by decide) (fun K hK=>?_)
    refine goes_ Try.func49 (by kernel_rfl) rfl #[.agg #[.int .i64 p,.int .i64 q]] (by rfl) rfl rfl (by (try simp only[List.map_toArray,List.map_cons,List.map_nil]);first|done|rfl|(simp only[List.length_drop,List.length_take];rfl)) ?_
    with_reducible refine (round_NaN.calls e6.out).mono ?_
    rintro e gk ⟨rfl,hb⟩
    refine⟨_,rfl,?_⟩
    obtain⟨a,b,c,HB⟩:=zu3 a b c HB hb
    try clear hb
    refine hK.out _ _ ⟨(blk_cell a.out 0).trans rfl,(blk_cell a.out 1).trans rfl⟩ (fun hHeld=>?_)
    clear hK K
    refine norm_ (a':=?_) ?_ ?_
    rotate_left
    ·show Act.put _ (some 49) _=_
     simp only[Act.put,List.setIfInBounds_toArray,List.set_cons_zero,List.set_cons_succ,i64_w,i32_w]
     rfl
    refine one_ (i:=3) (N:=some 51) #[true,true,true,true,false,false,false] rfl rfl (by kernel_rfl) (by decide) (fun K hK=>?_)
    refine goes_ Try.func49 (by kernel_rfl) rfl #[.agg #[.int .i64 p,.int .i64 q]] (by rfl) rfl rfl (by (try simp only[List.map_toArray,List.map_cons,List.map_nil]);first|done|rfl|(simp only[List.length_drop,List.length_take];rfl)) ?_
    with_reducible refine (round_NaN.calls e7.out).mono ?_
    rintro e gl ⟨rfl,hb⟩
    refine⟨_,rfl,?_⟩
    obtain⟨a,b,c,HB⟩:=zu3 a b c HB hb
    try clear hb
    refine hK.out _ _ ⟨(blk_cell a.out 0).trans rfl,(blk_cell a.out 1).trans rfl⟩ (fun hHeld=>?_)
    clear hK K
    refine norm_ (a':=?_) ?_ ?_
    rotate_left
    ·show Act.put _ (some 51) _=_
     simp only[Act.put,List.setIfInBounds_toArray,List.set_cons_zero,List.set_cons_succ,i64_w,i32_w]
     rfl
    refine zpure_ (i:=4) (N:=some 6) #[true,true,true,true,true,false,false] (by kernel_rfl) ?_
    refine zpure_ (i:=5) (N:=some 7) #[true,true,true,true,true,true,false] (by kernel_rfl) ?_
    refine zpure_ (i:=6) (N:=some 8) #[true,true,true,true,true,true,true] (by kernel_rfl) ?_
    refine done_ (by kernel_rfl) ?_
    try go_wp2
    go_ret3
    exact zr HB
   replace bW:=Bool.eq_false_iff.mpr bW
   subst bW
   rw[if_neg nft] at H
   by_cases aA:D=1
   ·rw[if_pos aA] at H
    obtain⟨bX,bY⟩:=zt aA
    clear aA
    obtain⟨fS,e8,H⟩:=oB H
    simp only[Option.some.injEq,Prod.mk.injEq] at H
    obtain⟨rfl,rfl,rfl⟩:=H
    obtain⟨e9,fa⟩:=z2 g
    obtain⟨fb,fc⟩:=z2 l
    obtain⟨dJ,dK,dL,dM,dN,dO,dP,dQ⟩:=zc4 b
    obtain⟨fd,fe⟩:=z2 L
    obtain⟨dR,dS,dT,dU⟩:=zc2 a
    go_wp2_with (first|((with_reducible refine gate_callee (f:=50) rfl ?_);refine zgc (some 64) Try.func50 (round_Zero.calls e8.out) ?_;intro gm hb;obtain⟨a,b,c,HB⟩:=zu3 a b c HB hb;clear hb))
    go_ret3
    exact zr HB
   rw[if_neg aA] at H
   obtain⟨bX,bY⟩:=zf aA
   by_cases aB:F=3
   ·rw[if_pos aB] at H
    obtain⟨bZ,b0⟩:=zt aB
    clear aB
    obtain⟨fT,ff,H⟩:=oB H
    simp only[Option.some.injEq,Prod.mk.injEq] at H
    obtain⟨rfl,rfl,rfl⟩:=H
    obtain⟨fg,fh⟩:=z2 g
    obtain⟨fi,fj⟩:=z2 l
    obtain⟨dV,dW,dX,dY,dZ,d0,d1,d2⟩:=zc4 b
    obtain⟨fk,fl⟩:=z2 j
    obtain⟨d3,d4,d5,d6,d7,d8,d9,ea⟩:=zc4 c
    obtain⟨eb,ec,ed,ee⟩:=zc2 a
    go_wp2_with (first|((with_reducible refine gate_callee (f:=50) rfl ?_);refine zgc (some 64) Try.func50 (round_Zero.calls ff.out) ?_;intro gn hb;obtain⟨a,b,c,HB⟩:=zu3 a b c HB hb;clear hb))
    go_ret3
    exact zr HB
   rw[if_neg aB] at H
   obtain⟨bZ,b0⟩:=zf aB
   by_cases aC:m<y
   rotate_left
   ·rw[if_neg aC] at H
    have b1:decide (m<y)=false:=decide_eq_false aC
    clear aC
    obtain⟨⟨f0,f1,f2,f3⟩,fK,H⟩:=oB H
    try dsimp only at H
    obtain⟨⟨f4,f5⟩,fL,H⟩:=oB H
    try dsimp only at H
    obtain⟨⟨f6,f7⟩,fM,H⟩:=oB H
    try dsimp only at H
    simp only[Option.some.injEq,Prod.mk.injEq] at H
    obtain⟨rfl,rfl,rfl⟩:=H
    obtain⟨fN,fO⟩:=z2 g
    obtain⟨ex,ey⟩:=z2 l
    obtain⟨cB,cC,cD,cE,cF,cG,cH,cI⟩:=zc4 b
    obtain⟨ez,eA⟩:=z2 j
    obtain⟨cJ,cK,cL,cM,cN,cO,cP,cQ⟩:=zc4 c
    go_wp2_with (first|((with_reducible refine gate_callee (f:=52) rfl ?_);refine zgo (some 129) Try.func52 #[.int .u64 s,.int .u64 B,.int .i64 (wrap64 (m-y))] ?_;(with_reducible refine (soft_divided.calls fK.out).mono ?_);rintro e w' ⟨rfl,⟨nd,rfl⟩⟩;refine⟨_,rfl,?_⟩;obtain⟨cR,cS,cT,cU⟩:=zc2 a)|((with_reducible refine gate_callee (f:=51) rfl ?_);refine zgc (some 140) Try.func51 (round_Pack.calls fL.out) ?_;intro f8 hb;obtain⟨a,b,c,HB⟩:=zu3 a b c HB hb;clear hb;obtain⟨cV,cW,cX,cY⟩:=zc2 a;obtain⟨cZ,c0,c6,c7,c8,c9,da,db⟩:=zc4 b;obtain⟨dc,dd,de,df,dg,dh,di,dj⟩:=zc4 c)|((with_reducible refine gate_callee (f:=51) rfl ?_);refine zgc (some 150) Try.func51 (round_Pack.calls fM.out) ?_;intro f9 hb;obtain⟨a,b,c,HB⟩:=zu3 a b c HB hb;clear hb))
    go_ret3
    exact zr HB
   rw[if_pos aC] at H
   have b1:decide (m<y)=true:=decide_eq_true aC
   clear aC
   have b2:=Aside0.mk H
   clear H
   obtain⟨fm,fn⟩:=z2 g
   obtain⟨fo,fp⟩:=z2 l
   obtain⟨b3,b4,b5,b6,b7,b8,b9,ca⟩:=zc4 b
   obtain⟨fq,fr⟩:=z2 j
   obtain⟨cb,cc,cd,ce,cf,cg,ch,ci⟩:=zc4 c
   go_upto_region 11 with (fail)
   go_cut [85] (fun v85 wc=>∃ (kq:Nat) (T:Bool),v85=.bool T∧Aside0 (soft_Mod.j1 kq a1 (u != C) (wrap64 (y-m)) T p q D u m s F C y B=some (r1,r2,r3))∧Aside0 (kq≤cz)∧Aside0 (wc.heap[E]?=some (.cells #[.int .i64 p,.int .i64 q] 23 (0,0)))∧Aside0 (wc.heap[z]?=some (.cells #[.int .i64 D,.bool u,.int .i64 m,.int .u64 s] 34 (0,0)))∧Aside0 (wc.heap[J]?=some (.cells #[.int .i64 F,.bool C,.int .i64 y,.int .u64 B] 34 (0,0)))∧Aside0 (Below w.heap.size w wc))
   case first =>
    have H:=b2.out
    clear b2
    by_cases aD:(wrap64 (y-m))>63
    ·rw[if_pos aD] at H
     have P:decide (63<(wrap64 (y-m)))=true:=decide_eq_true aD
     clear aD
     (first|rw[P]|(simp only[i64_w,i32_w];rw[P])|skip)
     have H':=Aside0.mk H
     clear H
     try go_wp2
     replace a:=Aside0.mk (blk_drew a.out)
     replace b:=Aside0.mk (blk_drew b.out)
     replace c:=Aside0.mk (blk_drew c.out)
     replace HB:=Aside0.mk (below_drew1 HB.out)
     refine start_ (n:=11) (S:=fun w'=>True) (ds:=[]) #[false,false,false,false,false,false,false,false,false,false,false] (by kernel_rfl) rfl rfl trivial (fun hHeld=>?_);refine with_tabW soft_Mod.tab11 soft_Mod.bits11 (fun HT_ HW_=>?_)
     generalize wc.drew=go at a b c HB hHeld ⊢
     refine zpure_ (i:=0) (N:=some 75) #[true,false,false,false,false,false,false,false,false,false,false] (any_of HT_.out (by kernel_rfl)) ?_
     refine zpure_ (i:=1) (N:=some 76) #[true,true,false,false,false,false,false,false,false,false,false] (any_of HT_.out (by kernel_rfl)) ?_
     refine zpure_ (i:=2) (N:=some 77) #[true,true,true,false,false,false,false,false,false,false,false] (any_of HT_.out (by kernel_rfl)) ?_
     refine pure_ (i:=3) (N:=some 78) (v:=undef) (a':=?_) #[true,true,true,true,false,false,false,false,false,false,false] rfl rfl (any_of HT_.out (by kernel_rfl)) (fun _ _ _ h=>h) (Or.inr ⟨by rfl,rfl⟩) ?_ ?_
     rotate_left
     ·simp only[Act.put,List.setIfInBounds_toArray,List.set_cons_zero,List.set_cons_succ,i64_w,i32_w]
      rfl
     refine pure_ (i:=4) (N:=some 79) (v:=undef) (a':=?_) #[true,true,true,true,true,false,false,false,false,false,false] rfl rfl (any_of HT_.out (by kernel_rfl)) (fun _ _ _ h=>h) (Or.inr ⟨by rfl,rfl⟩) ?_ ?_
     rotate_left
     ·simp only[Act.put,List.setIfInBounds_toArray,List.set_cons_zero,List.set_cons_succ,i64_w,i32_w]
      rfl
     refine pure_ (i:=5) (N:=some 80) (v:=undef) (a':=?_) #[true,true,true,true,true,true,false,false,false,false,false] rfl rfl (any_of HT_.out (by kernel_rfl)) (fun _ _ _ h=>h) (Or.inr ⟨by rfl,rfl⟩) ?_ ?_
     rotate_left
     ·simp only[Act.put,List.setIfInBounds_toArray,List.set_cons_zero,List.set_cons_succ,i64_w,i32_w]
      rfl
     refine pure_ (i:=6) (N:=some 81) (v:=undef) (a':=?_) #[true,true,true,true,true,true,true,false,false,false,false] rfl rfl (any_of HT_.out (by kernel_rfl)) (fun _ _ _ h=>h) (Or.inr ⟨by rfl,rfl⟩) ?_ ?_
     rotate_left
     ·simp only[Act.put,List.setIfInBounds_toArray,List.set_cons_zero,List.set_cons_succ,i64_w,i32_w]
      rfl
     refine pure_ (i:=7) (N:=some 82) (v:=undef) (a':=?_) #[true,true,true,true,true,true,true,true,false,false,false] rfl rfl (any_of HT_.out (by kernel_rfl)) (fun _ _ _ h=>h) (Or.inr ⟨by rfl,rfl⟩) ?_ ?_
     rotate_left
     ·simp only[Act.put,List.setIfInBounds_toArray,List.set_cons_zero,List.set_cons_succ,i64_w,i32_w]
      rfl
     refine pure_ (i:=8) (N:=some 83) (v:=undef) (a':=?_) #[true,true,true,true,true,true,true,true,true,false,false] rfl rfl (any_of HT_.out (by kernel_rfl)) (fun _ _ _ h=>h) (Or.inr ⟨by rfl,rfl⟩) ?_ ?_
     rotate_left
     ·simp only[Act.put,List.setIfInBounds_toArray,List.set_cons_zero,List.set_cons_succ,i64_w,i32_w]
      rfl
     refine pure_ (i:=9) (N:=some 84) (v:=undef) (a':=?_) #[true,true,true,true,true,true,true,true,true,true,false] rfl rfl (any_of HT_.out (by kernel_rfl)) (fun _ _ _ h=>h) (Or.inr ⟨by rfl,rfl⟩) ?_ ?_
     rotate_left
     ·simp only[Act.put,List.setIfInBounds_toArray,List.set_cons_zero,List.set_cons_succ,i64_w,i32_w]
      rfl
     refine zpure_ (i:=10) (N:=some 85) #[true,true,true,true,true,true,true,true,true,true,true] (any_of HT_.out (by kernel_rfl)) ?_
     refine done_ (done_of HT_.out (by kernel_rfl)) ?_
     try go_wp2
     go_meet
     case rel=>exact⟨_,(true),(by first|rfl|(simp[*];done)),H',⟨by have:=dI.out;first|omega|exact Nat.le_refl _⟩,⟨zk a⟩,⟨zk b⟩,⟨zk c⟩,⟨zb HB⟩⟩
    rw[if_neg aD] at H
    have P:decide (63<(wrap64 (y-m)))=false:=decide_eq_false aD
    clear aD
    (first|rw[P]|(simp only[i64_w,i32_w];rw[P])|skip)
    obtain⟨G,W⟩:∃ j_:Int,(wrap64 (y-m))=j_:=⟨_,rfl⟩
    first|rw[W] at H|simp only[W] at H
    (try rw[W] at P)
    have er:(IntKind.i64.wrap (y-m))=G:=(i64_w _).trans W
    by_cases cj:0≤(G)
    ·rw[if_pos cj] at H
     have fs:=eq_true cj
     have ft:decide (0≤(G))=true:=decide_eq_true cj
     clear cj
     obtain⟨ax,Q⟩:∃ j_:Int,(shr .u64 s (G))=j_:=⟨_,rfl⟩
     first|rw[Q] at H|simp only[Q] at H
     have es:(s/2^min (G).toNat 64)=ax:=Q
     have et:(G)≤64→(s/2^(G).toNat)=ax:=shr_small Q
     have H':=Aside0.mk H
     clear H
     try go_wp2
     replace a:=Aside0.mk (blk_drew a.out)
     replace b:=Aside0.mk (blk_drew b.out)
     replace c:=Aside0.mk (blk_drew c.out)
     replace HB:=Aside0.mk (below_drew1 HB.out)
     refine start_ (n:=11) (S:=fun w'=>w'.cell? ⟨z,0,none⟩=some (.int .i64 D)∧w'.cell? ⟨z,1,none⟩=some (.bool u)∧w'.cell? ⟨z,2,none⟩=some (.int .i64 m)∧w'.cell? ⟨z,3,none⟩=some (.int .u64 s)∧w'.cell? ⟨J,0,none⟩=some (.int .i64 F)∧w'.cell? ⟨J,1,none⟩=some (.bool C)∧w'.cell? ⟨J,2,none⟩=some (.int .i64 y)∧w'.cell? ⟨J,3,none⟩=some (.int .u64 B)) (ds:=[]) #[false,false,false,false,false,false,false,false,false,false,false] (by kernel_rfl) rfl rfl ⟨(blk_cell b.out 0).trans rfl,(blk_cell b.out 1).trans rfl,(blk_cell b.out 2).trans rfl,(blk_cell b.out 3).trans rfl,(blk_cell c.out 0).trans rfl,(blk_cell c.out 1).trans rfl,(blk_cell c.out 2).trans rfl,(blk_cell c.out 3).trans rfl⟩ (fun hHeld=>?_);refine with_tabW soft_Mod.tab11 soft_Mod.bits11 (fun HT_ HW_=>?_)
     generalize wc.drew=gp at a b c HB hHeld ⊢
     refine zpure_ (i:=0) (N:=some 75) #[true,false,false,false,false,false,false,false,false,false,false] (any_of HT_.out (by kernel_rfl)) ?_
     refine zpure_ (i:=1) (N:=some 76) #[true,true,false,false,false,false,false,false,false,false,false] (any_of HT_.out (by kernel_rfl)) ?_
     refine zpure_ (i:=2) (N:=some 77) #[true,true,true,false,false,false,false,false,false,false,false] (any_of HT_.out (by kernel_rfl)) ?_
     refine zpure_ (i:=3) (N:=some 78) #[true,true,true,true,false,false,false,false,false,false,false] (any_of HT_.out (by kernel_rfl)) ?_
     refine zpure_ (i:=5) (N:=some 80) #[true,true,true,true,false,true,false,false,false,false,false] (any_of HT_.out (by kernel_rfl)) ?_
     refine zpure_ (i:=7) (N:=some 82) #[true,true,true,true,false,true,false,true,false,false,false] (any_of HT_.out (by kernel_rfl)) ?_
     refine ztake_ (i:=4) (N:=some 79) #[true,true,true,true,true,true,false,true,false,false,false] rfl (take_ofW HT_.out HW_.out (by kernel_rfl)) hHeld (Or.inl ⟨by rfl,by rintro w' ⟨s0,s1,s2,s3,s4,s5,s6,s7⟩;go_simp;with_reducible rfl⟩) ?_
     refine zpure_ (i:=6) (N:=some 81) #[true,true,true,true,true,true,true,true,false,false,false] (any_of HT_.out (by kernel_rfl)) ?_
     refine ztake_ (i:=8) (N:=some 83) #[true,true,true,true,true,true,true,true,true,false,false] rfl (take_ofW HT_.out HW_.out (by kernel_rfl)) hHeld (Or.inl ⟨by rfl,by rintro w' ⟨s0,s1,s2,s3,s4,s5,s6,s7⟩;go_simp;with_reducible rfl⟩) ?_
     refine zpure_ (i:=9) (N:=some 84) #[true,true,true,true,true,true,true,true,true,true,false] (any_of HT_.out (by kernel_rfl)) ?_
     refine zpure_ (i:=10) (N:=some 85) #[true,true,true,true,true,true,true,true,true,true,true] (any_of HT_.out (by kernel_rfl)) ?_
     refine done_ (done_of HT_.out (by kernel_rfl)) ?_
     try go_wp2
     go_meet
     case rel=>exact⟨_,(decide ((ax)<B)),(by first|rfl|(simp;done)|(simp only[←Q] <;> (first|rfl|simp))|(simp[*];done)),(by first|exact H'|(simp only[W];exact H')|(simp only[Q];exact H')),⟨by have:=dI.out;first|omega|exact Nat.le_refl _⟩,⟨zk a⟩,⟨zk b⟩,⟨zk c⟩,⟨zb HB⟩⟩
    rw[if_neg cj] at H
    exact absurd H (by simp)
   case rest =>
    clear b2
    try clear c1 c2 p2 c3 c4 aF aG gr gs gt gu aH gv gw gx az O aY gy gz gA gB gC gD bW aA bX bY aB bZ b0 b1 Z aa ab ac ah ai aj ak aI aJ aK aL aQ aR aS aT aZ a0 a3 a4 a9 ba bb bc bh bi bj bk bp bq br bs bx bz bA bB bG bH bI bJ bO bP bQ bR b3 b4 b5 b6 cb cc cd ce ar au ad ae af ag al am an ao aM aN aO aP aU aV aW aX a5 a6 a7 a8 bd be bf bg bl bm bn bo bt bu bv bw bC bD bE bF bK bL bM bN bS bT bU bV b7 b8 b9 ca cf cg ch ci av aw p2
    obtain⟨kq,T,rfl,HA,fU,a,b,c,HB⟩:=hcut
    cases kq with
    | zero=>exact absurd HA.out (by simp[soft_Mod.j1])
    | succ ay =>
     have H:=HA.out
     clear HA
     simp only[soft_Mod.j1] at H
     by_cases cp:T=true
     ·subst cp
      rw[if_pos rfl] at H
      obtain⟨fV,fu,H⟩:=oB H
      simp only[Option.some.injEq,Prod.mk.injEq] at H
      obtain⟨rfl,rfl,rfl⟩:=H
      obtain⟨fv,fw⟩:=z2 U
      obtain⟨fx,fy⟩:=z2 L
      obtain⟨ef,eg,eh,ei⟩:=zc2 a
      go_wp2_with (first|((with_reducible refine gate_callee (f:=50) rfl ?_);refine zgc (some 89) Try.func50 (round_Zero.calls fu.out) ?_;intro gE hb;obtain⟨a,b,c,HB⟩:=zu3 a b c HB hb;clear hb))
      go_ret3
      exact zr HB
     replace cp:=Bool.eq_false_iff.mpr cp
     subst cp
     rw[if_neg nft] at H
     obtain⟨I,Y⟩:∃ j_:Int,(wrap64 (y-m))=j_:=⟨_,rfl⟩
     first|rw[Y] at H|simp only[Y] at H
     have eu:(IntKind.i64.wrap (y-m))=I:=(i64_w _).trans Y
     by_cases ck:0≤(I)
     rotate_left
     ·rw[if_neg ck] at H
      exact absurd H (by simp)
     rw[if_pos ck] at H
     have fz:=eq_true ck
     have fA:decide (0≤(I))=true:=decide_eq_true ck
     clear ck
     obtain⟨R,M⟩:∃ j_:Int,(shl .u64 B (I))=j_:=⟨_,rfl⟩
     first|rw[M] at H|simp only[M] at H
     have ev:(IntKind.u64.wrap (B*2^min (I).toNat 64))=R:=M
     have ew:(I)≤64→(IntKind.u64.wrap (B*2^(I).toNat))=R:=shl_small M
     by_cases cA:(R)=0
     ·rw[if_pos cA] at H
      exact absurd H (by simp)
     rw[if_neg cA] at H
     obtain⟨fB,fC⟩:=zf cA
     obtain⟨⟨fW,fX⟩,fD,H⟩:=oB H
     try dsimp only at H
     obtain⟨⟨fY,fZ⟩,fE,H⟩:=oB H
     try dsimp only at H
     simp only[Option.some.injEq,Prod.mk.injEq] at H
     obtain⟨rfl,rfl,rfl⟩:=H
     obtain⟨fF,fG⟩:=z2 j
     obtain⟨fH,fI⟩:=z2 V
     obtain⟨ej,ek,el,em,en,eo,ep,eq⟩:=zc4 c
     try go_wp2
     replace a:=Aside0.mk (blk_drew a.out)
     replace b:=Aside0.mk (blk_drew b.out)
     replace c:=Aside0.mk (blk_drew c.out)
     replace HB:=Aside0.mk (below_drew1 HB.out)
     refine start_ (n:=11) (S:=fun w'=>w'.cell? ⟨E,0,none⟩=some (.int .i64 p)∧w'.cell? ⟨E,1,none⟩=some (.int .i64 q)∧w'.cell? ⟨z,0,none⟩=some (.int .i64 D)∧w'.cell? ⟨z,1,none⟩=some (.bool u)∧w'.cell? ⟨z,2,none⟩=some (.int .i64 m)∧w'.cell? ⟨z,3,none⟩=some (.int .u64 s)) (ds:=[]) #[false,false,false,false,false,false,false,false,false,false,false] (by kernel_rfl) rfl rfl ⟨(blk_cell a.out 0).trans rfl,(blk_cell a.out 1).trans rfl,(blk_cell b.out 0).trans rfl,(blk_cell b.out 1).trans rfl,(blk_cell b.out 2).trans rfl,(blk_cell b.out 3).trans rfl⟩ (fun hHeld=>?_);refine with_tabW soft_Mod.tab14 soft_Mod.bits14 (fun HT_ HW_=>?_)
     generalize wc.drew=gF at a b c HB hHeld ⊢
     refine zpure_ (i:=1) (N:=some 96) #[false,true,false,false,false,false,false,false,false,false,false] (any_of HT_.out (by kernel_rfl)) ?_
     refine zpure_ (i:=2) (N:=some 97) #[false,true,true,false,false,false,false,false,false,false,false] (any_of HT_.out (by kernel_rfl)) ?_
     refine zpure_ (i:=4) (N:=some 99) #[false,true,true,false,true,false,false,false,false,false,false] (any_of HT_.out (by kernel_rfl)) ?_
     refine ztake_ (i:=0) (N:=some 95) #[true,true,true,false,true,false,false,false,false,false,false] rfl (take_ofW HT_.out HW_.out (by kernel_rfl)) hHeld (Or.inl ⟨by rfl,by rintro w' ⟨s0,s1,s2,s3,s4,s5⟩;go_simp;with_reducible rfl⟩) ?_
     refine ztake_ (i:=3) (N:=some 98) #[true,true,true,true,true,false,false,false,false,false,false] rfl (take_ofW HT_.out HW_.out (by kernel_rfl)) hHeld (Or.inl ⟨by rfl,by rintro w' ⟨s0,s1,s2,s3,s4,s5⟩;go_simp;with_reducible rfl⟩) ?_
     refine zpure_ (i:=5) (N:=some 100) #[true,true,true,true,true,true,false,false,false,false,false] (any_of HT_.out (by kernel_rfl)) ?_
     refine one_ (i:=6) (N:=some 101) #[true,true,true,true,true,true,true,false,false,false,false] rfl rfl (one_of HT_.out (by kernel_rfl)) (by decide) (fun K hK=>?_)
     refine goes_ Try.func51 (by kernel_rfl) rfl #[.agg #[.int .i64 p,.int .i64 q],.bool (u != C),.int .u64 0,.int .u64 (IntKind.u64.wrap (Int.tdiv s (R))),.int .i64 0,.bool false] (by rfl) rfl rfl (by (try simp only[List.map_toArray,List.map_cons,List.map_nil]);first|done|(simp only[M];rfl)|rfl|(simp only[List.length_drop,List.length_take];rfl)) ?_
     with_reducible refine (round_Pack.calls fD.out).mono ?_
     rintro e fJ ⟨rfl,hb⟩
     refine⟨_,rfl,?_⟩
     obtain⟨a,b,c,HB⟩:=zu3 a b c HB hb
     try clear hb
     refine hK.out _ _ ⟨(blk_cell a.out 0).trans rfl,(blk_cell a.out 1).trans rfl,(blk_cell b.out 0).trans rfl,(blk_cell b.out 1).trans rfl,(blk_cell b.out 2).trans rfl,(blk_cell b.out 3).trans rfl⟩ (fun hHeld=>?_)
     clear hK K
     refine norm_ (a':=?_) ?_ ?_
     rotate_left
     ·show Act.put _ (some 101) _=_
      simp only[Act.put,List.setIfInBounds_toArray,List.set_cons_zero,List.set_cons_succ,i64_w,i32_w]
      rfl
     refine zpure_ (i:=7) (N:=some 94) #[true,true,true,true,true,true,true,true,false,false,false] (any_of HT_.out (by kernel_rfl)) ?_
     refine zpure_ (i:=8) (N:=some 102) #[true,true,true,true,true,true,true,true,true,false,false] (any_of HT_.out (by kernel_rfl)) ?_
     refine zpure_ (i:=9) (N:=some 103) #[true,true,true,true,true,true,true,true,true,true,false] (any_of HT_.out (by kernel_rfl)) ?_
     refine zpure_ (i:=10) (N:=some 7) #[true,true,true,true,true,true,true,true,true,true,true] (any_of HT_.out (by kernel_rfl)) ?_
     refine done_ (done_of HT_.out (by kernel_rfl)) ?_
     try go_wp2
     replace a:=Aside0.mk (blk_drew a.out)
     replace b:=Aside0.mk (blk_drew b.out)
     replace c:=Aside0.mk (blk_drew c.out)
     replace HB:=Aside0.mk (below_drew1 HB.out)
     refine start_ (n:=14) (S:=fun w'=>w'.cell? ⟨E,0,none⟩=some (.int .i64 p)∧w'.cell? ⟨E,1,none⟩=some (.int .i64 q)∧w'.cell? ⟨z,0,none⟩=some (.int .i64 D)∧w'.cell? ⟨z,1,none⟩=some (.bool u)∧w'.cell? ⟨z,2,none⟩=some (.int .i64 m)∧w'.cell? ⟨z,3,none⟩=some (.int .u64 s)) (ds:=[]) #[false,false,false,false,false,false,false,false,false,false,false,false,false,false] (by kernel_rfl) rfl rfl ⟨(blk_cell a.out 0).trans rfl,(blk_cell a.out 1).trans rfl,(blk_cell b.out 0).trans rfl,(blk_cell b.out 1).trans rfl,(blk_cell b.out 2).trans rfl,(blk_cell b.out 3).trans rfl⟩ (fun hHeld=>?_);refine with_tabW soft_Mod.tab15 soft_Mod.bits15 (fun HT_ HW_=>?_)
     generalize fJ.drew=gG at a b c HB hHeld ⊢
     refine zpure_ (i:=1) (N:=some 106) #[false,true,false,false,false,false,false,false,false,false,false,false,false,false] (any_of HT_.out (by kernel_rfl)) ?_
     refine zpure_ (i:=3) (N:=some 108) #[false,true,false,true,false,false,false,false,false,false,false,false,false,false] (any_of HT_.out (by kernel_rfl)) ?_
     refine zpure_ (i:=5) (N:=some 110) #[false,true,false,true,false,true,false,false,false,false,false,false,false,false] (any_of HT_.out (by kernel_rfl)) ?_
     refine zpure_ (i:=7) (N:=some 112) #[false,true,false,true,false,true,false,true,false,false,false,false,false,false] (any_of HT_.out (by kernel_rfl)) ?_
     refine ztake_ (i:=0) (N:=some 105) #[true,true,false,true,false,true,false,true,false,false,false,false,false,false] rfl (take_ofW HT_.out HW_.out (by kernel_rfl)) hHeld (Or.inl ⟨by rfl,by rintro w' ⟨s0,s1,s2,s3,s4,s5⟩;go_simp;with_reducible rfl⟩) ?_
     refine ztake_ (i:=2) (N:=some 107) #[true,true,true,true,false,true,false,true,false,false,false,false,false,false] rfl (take_ofW HT_.out HW_.out (by kernel_rfl)) hHeld (Or.inl ⟨by rfl,by rintro w' ⟨s0,s1,s2,s3,s4,s5⟩;go_simp;with_reducible rfl⟩) ?_
     refine ztake_ (i:=4) (N:=some 109) #[true,true,true,true,true,true,false,true,false,false,false,false,false,false] rfl (take_ofW HT_.out HW_.out (by kernel_rfl)) hHeld (Or.inl ⟨by rfl,by rintro w' ⟨s0,s1,s2,s3,s4,s5⟩;go_simp;with_reducible rfl⟩) ?_
     refine zpure_ (i:=6) (N:=some 111) #[true,true,true,true,true,true,true,true,false,false,false,false,false,false] (any_of HT_.out (by kernel_rfl)) ?_
     refine ztake_ (i:=8) (N:=some 113) #[true,true,true,true,true,true,true,true,true,false,false,false,false,false] rfl (take_ofW HT_.out HW_.out (by kernel_rfl)) hHeld (Or.inl ⟨by rfl,by rintro w' ⟨s0,s1,s2,s3,s4,s5⟩;go_simp;with_reducible rfl⟩) ?_
     refine one_ (i:=9) (N:=some 114) #[true,true,true,true,true,true,true,true,true,true,false,false,false,false] rfl rfl (one_of HT_.out (by kernel_rfl)) (by decide) (fun K hK=>?_)
     refine goes_ Try.func51 (by kernel_rfl) rfl #[.agg #[.int .i64 p,.int .i64 q],.bool u,.int .u64 0,.int .u64 (Int.tmod s (R)),.int .i64 m,.bool false] (by rfl) rfl rfl (by (try simp only[List.map_toArray,List.map_cons,List.map_nil]);first|done|(simp only[M];rfl)|rfl|(simp only[List.length_drop,List.length_take];rfl)) ?_
     with_reducible refine (round_Pack.calls fE.out).mono ?_
     rintro e gH ⟨rfl,hb⟩
     refine⟨_,rfl,?_⟩
     obtain⟨a,b,c,HB⟩:=zu3 a b c HB hb
     try clear hb
     refine hK.out _ _ ⟨(blk_cell a.out 0).trans rfl,(blk_cell a.out 1).trans rfl,(blk_cell b.out 0).trans rfl,(blk_cell b.out 1).trans rfl,(blk_cell b.out 2).trans rfl,(blk_cell b.out 3).trans rfl⟩ (fun hHeld=>?_)
     clear hK K
     refine norm_ (a':=?_) ?_ ?_
     rotate_left
     ·show Act.put _ (some 114) _=_
      simp only[Act.put,List.setIfInBounds_toArray,List.set_cons_zero,List.set_cons_succ,i64_w,i32_w]
      rfl
     refine zpure_ (i:=10) (N:=some 104) #[true,true,true,true,true,true,true,true,true,true,true,false,false,false] (any_of HT_.out (by kernel_rfl)) ?_
     refine zpure_ (i:=11) (N:=some 115) #[true,true,true,true,true,true,true,true,true,true,true,true,false,false] (any_of HT_.out (by kernel_rfl)) ?_
     refine zpure_ (i:=12) (N:=some 116) #[true,true,true,true,true,true,true,true,true,true,true,true,true,false] (any_of HT_.out (by kernel_rfl)) ?_
     refine zpure_ (i:=13) (N:=some 6) #[true,true,true,true,true,true,true,true,true,true,true,true,true,true] (any_of HT_.out (by kernel_rfl)) ?_
     refine done_ (done_of HT_.out (by kernel_rfl)) ?_
     try go_wp2
     go_ret3
     exact⟨by first|rfl|(simp[errW_none,errW_some] <;> rfl)|(simp only[←Y,←M];first|rfl|(simp[errW_none,errW_some] <;> rfl))|(simp[*,errW_none,errW_some] <;> rfl),zb HB⟩
/-! ### grottolaw03_num: function 18 -/
def grottolaw03_num.f (a0:Int):Option (Int):=some a0
set_option maxHeartbeats 8000000 in
set_option maxRecDepth 100000 in
theorem grottolaw03_num.calls {a:Int} {r:Int} {w:World} (h:grottolaw03_num.f a=some r) :
  Calls Try.prog 18 #[.int .i64 a] w fun e w'=>e=.returned (.int .i64 r)∧Drawn0 w w':=by
 have H:=h
 unfold grottolaw03_num.f at H
 clear h
 obtain rfl:=Option.some.inj H
 go_enter Try.func18,Try.ntmps18
 go_wp2
 go_ret
 exact⟨by first|rfl|(simp;done)|(simp[*];done),by repeat (first|exact Drawn0.refl _|apply Drawn0.step)⟩

/-! ### bits_Add64: function 93 -/
def bits_Add64.f (a0:Int) (a1:Int) (a2:Int):Option (Int×Int):=if 0≤a0∧0≤a1∧0≤a2∧a2≤1 then some ((a0+a1+a2)%18446744073709551616,(a0+a1+a2)/18446744073709551616) else none
theorem bits_Add64.run (a0 a1 a2 r1 r2:Int) (w:World) (h:bits_Add64.f a0 a1 a2=some (r1,r2)):(callFunc 93 #[.int .u64 a0,.int .u64 a1,.int .u64 a2]).run Try.prog w=.ok (.value (.tuple #[.int .u64 r1,.int .u64 r2])) w:=by
 unfold bits_Add64.f at h
 split at h
 ·rename_i hc
  obtain⟨h0,h1,h2,h3⟩:=hc
  simp only[Option.some.injEq,Prod.mk.injEq] at h
  obtain⟨rfl,rfl⟩:=h
  rw[run_callFunc_extern (e:=add64Entry) Try.func93 (by kernel_rfl) rfl rfl rfl]
  rw[run_add64 a0 a1 a2 h0 h1 h2 h3 w]
  rfl
 exact absurd h (by simp)

/-! ### bits_Sub64: function 94 -/
def bits_Sub64.f (a0:Int) (a1:Int) (a2:Int):Option (Int×Int):=if 0≤a0∧0≤a1∧0≤a2∧a2≤1∧a1+a2≤18446744073709551616 then some ((a0-a1-a2)%18446744073709551616,if a0<a1+a2 then 1 else 0) else none
def sub64Entry:Array Value→Sem Value:=fun args=>do
 let (x, y, b) ← Extern.MathBitsCarry.three "Sub64" args
 pure (Extern.MathBitsCarry.pair ((x+Extern.MathBitsCarry.m64-y-b)%Extern.MathBitsCarry.m64) (if x<y+b then 1 else 0))
theorem run_sub64 {P:Program} (x y c:Int) (hx:0≤x) (hy:0≤y) (hc0:0≤c) (hc:c≤1) (hyc:y+c≤18446744073709551616) (w:World) :
  (sub64Entry #[.int .u64 x,.int .u64 y,.int .u64 c]).run P w =
   .ok (.tuple #[.int .u64 ((x-y-c)%18446744073709551616),.int .u64 (if x<y+c then 1 else 0)]) w:=by
 have key:∀ k:Nat,k≤1→(sub64Entry #[.int .u64 x,.int .u64 y,.int .u64 (k:Int)]).run P w =
   .ok (Extern.MathBitsCarry.pair ((x.toNat+Extern.MathBitsCarry.m64-y.toNat-k)%Extern.MathBitsCarry.m64) (if x.toNat<y.toNat+k then 1 else 0)) w:=by
  intro k hk
  have:k=0∨k=1:=by omega
  rcases this with rfl|rfl <;> rfl
 obtain⟨k,rfl⟩:=Int.eq_ofNat_of_zero_le hc0
 rw[key k (by omega)]
 obtain⟨X,rfl⟩:=Int.eq_ofNat_of_zero_le hx
 obtain⟨Y,rfl⟩:=Int.eq_ofNat_of_zero_le hy
 have e1:((((X+2^64-Y-k)%2^64:Nat)):Int)=((X:Int)-Y-k)%18446744073709551616:=by omega
 have e2:(((if X<Y+k then 1 else 0:Nat)):Int)=if (X:Int)<Y+k then 1 else 0:=by
  by_cases h:X<Y+k
  ·rw[if_pos h,if_pos (by omega)];rfl
  rw[if_neg h,if_neg (by omega)];rfl
 simp only[Extern.MathBitsCarry.pair,Extern.MathBitsCarry.m64,Int.toNat_natCast,Int.ofNat_eq_natCast]
 rw[e1,e2]
theorem bits_Sub64.run (a0 a1 a2 r1 r2:Int) (w:World) (h:bits_Sub64.f a0 a1 a2=some (r1,r2)):(callFunc 94 #[.int .u64 a0,.int .u64 a1,.int .u64 a2]).run Try.prog w=.ok (.value (.tuple #[.int .u64 r1,.int .u64 r2])) w:=by
 unfold bits_Sub64.f at h
 split at h
 ·rename_i hc
  obtain⟨h0,h1,h2,h3,h4⟩:=hc
  simp only[Option.some.injEq,Prod.mk.injEq] at h
  obtain⟨rfl,rfl⟩:=h
  rw[run_callFunc_extern (e:=sub64Entry) Try.func94 (by kernel_rfl) rfl rfl rfl]
  rw[run_sub64 a0 a1 a2 h0 h1 h2 h3 h4 w]
  rfl
 exact absurd h (by simp)

end Go.Proofs.Ytmmbgbchimangaa.PQ
