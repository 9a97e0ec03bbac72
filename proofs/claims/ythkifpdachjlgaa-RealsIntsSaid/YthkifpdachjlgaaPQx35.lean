-- by a program of this claim
import Derived.Test.YthkifpdachjlgaaPQx0
import Derived.Test.YthkifpdachjlgaaPQx10
import Derived.Test.YthkifpdachjlgaaPQx34
namespace Go.Proofs.Ythkifpdachjlgaa.PQ
open Go.RowKit Go.Proofs.YthkifpdachjlgaaW.PrintWords Go.Proofs.YthkifpdachjlgaaW.PrintLast Go.Proofs.YthkifpdachjlgaaW.PrintMore Go.Proofs.Ythkifpdachjlgaa.Z
attribute [local go_sem] max2_int min2_int max_two min_two max_three min_three max_four min_four   -- for this text's walks alone
set_option linter.unusedVariables false
set_option linter.unusedSimpArgs false

/-! ### grottoref04_Int: function 24 -/
mutual
def grottoref04_Int.j0:Nat→Int→Bool→Bool→Option (Int)
 | 0,_,_,_=>none
 | k+1,a,b,c=>if c=true then (some 2147483648) else (if b=true then (grottoref04_Int.j1 k a (decide (a>0))) else (grottoref04_Int.j1 k a false))
def grottoref04_Int.j1:Nat→Int→Bool→Option (Int)
 | 0,_,_=>none
 | k+1,a,b=>if b=true then (some ((IntKind.u64.wrap (4294967296-a))%4294967296)) else (if a≥2147483648 then (some 2147483647) else (some ((a)%4294967296)))
end
def grottoref04_Int.f (k:Nat) (a0:Bool) (a1:Int) (a2:Bool):Option (Int):=(grottoref04_Format.f a0).bind fun b=>((grottoref03_Whole.f k b.1 b.2 a1 a2).bind fun a=>(if a.2.1=true then (grottoref04_Int.j0 k a.1 a.2.1 (decide (a.1≥2147483648))) else (grottoref04_Int.j0 k a.1 a.2.1 false)))
theorem grottoref04_Int.mono_l:∀ k,(∀ y0 y1 y2,LeO (grottoref04_Int.j0 k y0 y1 y2) (grottoref04_Int.j0 (k+1) y0 y1 y2))∧(∀ y0 y1,LeO (grottoref04_Int.j1 k y0 y1) (grottoref04_Int.j1 (k+1) y0 y1))
 | 0=>⟨fun _ _ _ r h=>by simp[grottoref04_Int.j0] at h,fun _ _ r h=>by simp[grottoref04_Int.j1] at h⟩
 | k+1=>by
  obtain⟨ih0,ih1⟩:=grottoref04_Int.mono_l k
  refine⟨?_,?_⟩ <;> intros <;> (first|unfold grottoref04_Int.j0|unfold grottoref04_Int.j1) <;> (repeat' first|(with_reducible first|apply ih0|apply ih1|apply grottoref03_Whole.mono|exact LeO.refl _|exact LeO.none _|refine LeO.ite ?_ ?_|refine LeO.bind ?_ (fun _=>?_))|refine LeO.ite ?_ ?_|refine LeO.bind ?_ (fun _=>?_))
theorem grottoref04_Int.mono:∀ a0 a1 a2 k,LeO (grottoref04_Int.f k a0 a1 a2) (grottoref04_Int.f (k+1) a0 a1 a2):=by
 intro a0 a1 a2 k
 obtain⟨ih0,ih1⟩:=grottoref04_Int.mono_l k
 unfold grottoref04_Int.f
 repeat' first|(with_reducible first|apply ih0|apply ih1|apply grottoref03_Whole.mono|exact LeO.refl _|exact LeO.none _|refine LeO.ite ?_ ?_|refine LeO.bind ?_ (fun _=>?_))|refine LeO.ite ?_ ?_|refine LeO.bind ?_ (fun _=>?_)
set_option maxHeartbeats 8000000 in
set_option maxRecDepth 100000 in
theorem grottoref04_Int.calls {k:Nat} {v:Bool} {y:Int} {z:Bool} {r:Int} {w:World} (h:grottoref04_Int.f k v y z=some r) :
  Calls Try.prog 24 #[.bool v,.int .u64 y,.bool z] w fun e w'=>e=.returned (.int .u32 r)∧Below w.heap.size w w':=by
 have HB:=Aside0.mk (Below.refl w.heap.size w)
 have H:=h
 unfold grottoref04_Int.f at H
 clear h
 obtain⟨⟨B,C⟩,I,H⟩:=oB H
 try dsimp only at H
 obtain⟨⟨b,g,D⟩,J,H⟩:=oB H
 try dsimp only at H
 have p:=Aside0.mk H
 clear H
 go_enter Try.func24,Try.ntmps24
 go_upto_region 2 with (first|((with_reducible refine gate_callee (f:=33) rfl ?_);refine zgc (some 12) Try.func33 (grottoref04_Format.calls I.out) ?_;intro L hb;replace HB:=zbs HB hb;clear hb)|((with_reducible refine gate_callee (f:=54) rfl ?_);refine zgc (some 15) Try.func54 (grottoref03_Whole.calls J.out) ?_;intro M hb;replace HB:=zbs HB hb;clear hb))
 (try simp only[Act.put,List.setIfInBounds_toArray,List.set_cons_zero,List.set_cons_succ])
 go_cut [19] (fun v19 wc=>∃ (kq:Nat) (d:Bool),v19=.bool d∧Aside0 (grottoref04_Int.j0 kq b g d=some r)∧Aside0 (kq≤k)∧Aside0 (Below w.heap.size w wc))
 case first =>
  have H:=p.out
  clear p
  by_cases s:g=true
  ·subst s
   rw[if_pos rfl] at H
   have H':=Aside0.mk H
   clear H
   go_wp2
   go_meet
   case rel=>exact⟨_,(decide (b≥2147483648)),(by first|rfl|(simp[*];done)),H',⟨by omega⟩,⟨zb HB⟩⟩
  replace s:=Bool.eq_false_iff.mpr s
  subst s
  rw[if_neg nft] at H
  have H':=Aside0.mk H
  clear H
  go_wp2
  go_meet
  case rel=>exact⟨_,(false),(by first|rfl|(simp[*];done)),H',⟨by omega⟩,⟨zb HB⟩⟩
 case rest =>
  clear p
  obtain⟨kq,d,rfl,HA,u,HB⟩:=hcut
  cases kq with
  | zero=>exact absurd HA.out (by simp[grottoref04_Int.j0])
  | succ E =>
   have H:=HA.out
   clear HA
   simp only[grottoref04_Int.j0] at H
   by_cases l:d=true
   ·subst l
    rw[if_pos rfl] at H
    obtain rfl:=Option.some.inj H
    go_wp2
    go_ret
    exact zr HB
   replace l:=Bool.eq_false_iff.mpr l
   subst l
   rw[if_neg nft] at H
   have m:=Aside0.mk H
   clear H
   go_upto_region 4 with (fail)
   go_cut [25] (fun v25 wc=>∃ (kq:Nat) (c:Bool),v25=.bool c∧Aside0 (grottoref04_Int.j1 kq b c=some r)∧Aside0 (kq≤E)∧Aside0 (Below w.heap.size w wc))
   case first =>
    have H:=m.out
    clear m
    by_cases n:g=true
    ·subst n
     rw[if_pos rfl] at H
     have H':=Aside0.mk H
     clear H
     go_wp2
     go_meet
     case rel=>exact⟨_,(decide (b>0)),(by first|rfl|(simp[*];done)),H',⟨by have:=u.out;first|omega|exact Nat.le_refl _⟩,⟨zb HB⟩⟩
    replace n:=Bool.eq_false_iff.mpr n
    subst n
    rw[if_neg nft] at H
    have H':=Aside0.mk H
    clear H
    go_wp2
    go_meet
    case rel=>exact⟨_,(false),(by first|rfl|(simp[*];done)),H',⟨by have:=u.out;first|omega|exact Nat.le_refl _⟩,⟨zb HB⟩⟩
   case rest =>
    clear m
    try clear N K O P s l K
    obtain⟨kq,c,rfl,HA,F,HB⟩:=hcut
    cases kq with
    | zero=>exact absurd HA.out (by simp[grottoref04_Int.j1])
    | succ G =>
     have H:=HA.out
     clear HA
     simp only[grottoref04_Int.j1] at H
     by_cases o:c=true
     ·subst o
      rw[if_pos rfl] at H
      obtain rfl:=Option.some.inj H
      go_wp2
      go_ret
      exact zr HB
     replace o:=Bool.eq_false_iff.mpr o
     subst o
     rw[if_neg nft] at H
     by_cases j:b≥2147483648
     ·rw[if_pos j] at H
      have q:decide (2147483648≤b)=true:=decide_eq_true j
      clear j
      obtain rfl:=Option.some.inj H
      go_wp2
      go_ret
      exact zr HB
     rw[if_neg j] at H
     have q:decide (2147483648≤b)=false:=decide_eq_false j
     clear j
     obtain rfl:=Option.some.inj H
     go_wp2
     go_ret
     exact zr HB

end Go.Proofs.Ythkifpdachjlgaa.PQ
