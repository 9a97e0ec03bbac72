-- by a program of this claim
import Derived.Test.YthkifpdachjlgaaPQx0
import Derived.Test.YthkifpdachjlgaaPQx8
import Derived.Test.YthkifpdachjlgaaPQx9
import Derived.Test.YthkifpdachjlgaaPQx40
namespace Go.Proofs.Ythkifpdachjlgaa.PQ
open Go.RowKit Go.Proofs.YthkifpdachjlgaaW.PrintWords Go.Proofs.YthkifpdachjlgaaW.PrintLast Go.Proofs.YthkifpdachjlgaaW.PrintMore Go.Proofs.Ythkifpdachjlgaa.Z
attribute [local go_sem] max2_int min2_int max_two min_two max_three min_three max_four min_four   -- for this text's walks alone
set_option linter.unusedVariables false
set_option linter.unusedSimpArgs false

/-! ### grottolaw04_RealsChanges: function 10 -/
def grottolaw04_RealsChanges.f (k:Nat) (a0:Int) (a1:Int):Option (Bool):=(reals_Split.f a1).bind fun a=>((reals_Widen.f k a0).bind fun b=>((grottoref04_Change.f k true (IntKind.u64.wrap (a0))).bind fun c=>(if b=c then ((reals_Narrow.f k a1).bind fun d=>((grottoref04_Change.f k false a1).bind fun e=>(if (IntKind.u64.wrap (d))=e then (if (IntKind.u64.wrap (a.1))=(IntKind.u64.wrap (Int.tdiv a1 4294967296)) then (if (IntKind.u64.wrap (a.2))=(Int.tmod a1 4294967296) then ((reals_Join.f a.1 a.2).bind fun g=>(if g=a1 then ((grottolaw04_live.f k).bind fun h=>(some h)) else (some false))) else (some false)) else (some false)) else (some false)))) else (some false))))
theorem grottolaw04_RealsChanges.mono:∀ a0 a1 k,LeO (grottolaw04_RealsChanges.f k a0 a1) (grottolaw04_RealsChanges.f (k+1) a0 a1):=by
 intro a0 a1 k
 unfold grottolaw04_RealsChanges.f
 repeat' first|(with_reducible first|apply grottolaw04_live.mono|apply grottoref04_Change.mono|apply reals_Narrow.mono|apply reals_Widen.mono|exact LeO.refl _|exact LeO.none _|refine LeO.ite ?_ ?_|refine LeO.bind ?_ (fun _=>?_))|refine LeO.ite ?_ ?_|refine LeO.bind ?_ (fun _=>?_)
set_option maxHeartbeats 8000000 in
set_option maxRecDepth 100000 in
theorem grottolaw04_RealsChanges.calls {k:Nat} {P:Int} {b:Int} {r:Bool} {w:World} (h:grottolaw04_RealsChanges.f k P b=some r) :
  Calls Try.prog 10 #[.int .u32 P,.int .u64 b] w fun e w'=>e=.returned (.bool r)∧Below w.heap.size w w':=by
 have HB:=Aside0.mk (Below.refl w.heap.size w)
 have H:=h
 unfold grottolaw04_RealsChanges.f at H
 clear h
 obtain⟨⟨p,q⟩,C,H⟩:=oB H
 try dsimp only at H
 obtain⟨c,D,H⟩:=oB H
 obtain⟨d,E,H⟩:=oB H
 by_cases F:c=d
 ·rw[if_pos F] at H
  obtain⟨G,I⟩:=zt F
  clear F
  obtain⟨g,J,H⟩:=oB H
  obtain⟨i,K,H⟩:=oB H
  by_cases L:(IntKind.u64.wrap (g))=i
  ·rw[if_pos L] at H
   obtain⟨M,N⟩:=zt L
   clear L
   by_cases m:(IntKind.u64.wrap (p))=(IntKind.u64.wrap (Int.tdiv b 4294967296))
   ·rw[if_pos m] at H
    obtain⟨s,u⟩:=zt m
    clear m
    by_cases n:(IntKind.u64.wrap (q))=(Int.tmod b 4294967296)
    ·rw[if_pos n] at H
     obtain⟨v,y⟩:=zt n
     clear n
     obtain⟨j,O,H⟩:=oB H
     by_cases o:j=b
     ·rw[if_pos o] at H
      obtain⟨z,B⟩:=zt o
      clear o
      obtain⟨l,Q,H⟩:=oB H
      obtain rfl:=Option.some.inj H
      go_enter Try.func10,Try.ntmps10
      go_wp2_with (first|((with_reducible refine gate_callee (f:=28) rfl ?_);refine zgo (some 9) Try.func28 #[.int .u64 b] ?_;(with_reducible refine (reals_Split.calls C.out).mono ?_);rintro e w' ⟨rfl,⟨nd,rfl⟩⟩;refine⟨_,rfl,?_⟩)|((with_reducible refine gate_callee (f:=27) rfl ?_);refine zgc (some 13) Try.func27 (reals_Widen.calls D.out) ?_;intro R hb;replace HB:=zbs HB hb;clear hb)|((with_reducible refine gate_callee (f:=29) rfl ?_);refine zgc (some 16) Try.func29 (grottoref04_Change.calls E.out) ?_;intro S hb;replace HB:=zbs HB hb;clear hb)|(go_at_call 26;(with_reducible refine (reals_Narrow.calls J.out).mono ?_);rintro e T ⟨rfl,hb⟩;replace HB:=zbs HB hb;clear hb)|(go_at_call 29;(with_reducible refine (grottoref04_Change.calls K.out).mono ?_);rintro e U ⟨rfl,hb⟩;replace HB:=zbs HB hb;clear hb)|(go_at_call 30;(with_reducible refine (reals_Join.calls O.out).mono ?_);rintro e w' ⟨rfl,⟨nd,rfl⟩⟩)|(go_at_call 15;(with_reducible refine (grottolaw04_live.calls k  l _ Q.out).mono ?_);rintro e V ⟨rfl,hb⟩;replace HB:=zbs HB hb;clear hb))
      go_ret
      exact zr HB
     rw[if_neg o] at H
     obtain⟨z,B⟩:=zf o
     obtain rfl:=Option.some.inj H
     go_enter Try.func10,Try.ntmps10
     go_wp2_with (first|((with_reducible refine gate_callee (f:=28) rfl ?_);refine zgo (some 9) Try.func28 #[.int .u64 b] ?_;(with_reducible refine (reals_Split.calls C.out).mono ?_);rintro e w' ⟨rfl,⟨nd,rfl⟩⟩;refine⟨_,rfl,?_⟩)|((with_reducible refine gate_callee (f:=27) rfl ?_);refine zgc (some 13) Try.func27 (reals_Widen.calls D.out) ?_;intro W hb;replace HB:=zbs HB hb;clear hb)|((with_reducible refine gate_callee (f:=29) rfl ?_);refine zgc (some 16) Try.func29 (grottoref04_Change.calls E.out) ?_;intro X hb;replace HB:=zbs HB hb;clear hb)|(go_at_call 26;(with_reducible refine (reals_Narrow.calls J.out).mono ?_);rintro e Y ⟨rfl,hb⟩;replace HB:=zbs HB hb;clear hb)|(go_at_call 29;(with_reducible refine (grottoref04_Change.calls K.out).mono ?_);rintro e Z ⟨rfl,hb⟩;replace HB:=zbs HB hb;clear hb)|(go_at_call 30;(with_reducible refine (reals_Join.calls O.out).mono ?_);rintro e w' ⟨rfl,⟨nd,rfl⟩⟩))
     go_ret
     exact zr HB
    rw[if_neg n] at H
    obtain⟨v,y⟩:=zf n
    obtain rfl:=Option.some.inj H
    go_enter Try.func10,Try.ntmps10
    go_wp2_with (first|((with_reducible refine gate_callee (f:=28) rfl ?_);refine zgo (some 9) Try.func28 #[.int .u64 b] ?_;(with_reducible refine (reals_Split.calls C.out).mono ?_);rintro e w' ⟨rfl,⟨nd,rfl⟩⟩;refine⟨_,rfl,?_⟩)|((with_reducible refine gate_callee (f:=27) rfl ?_);refine zgc (some 13) Try.func27 (reals_Widen.calls D.out) ?_;intro aa hb;replace HB:=zbs HB hb;clear hb)|((with_reducible refine gate_callee (f:=29) rfl ?_);refine zgc (some 16) Try.func29 (grottoref04_Change.calls E.out) ?_;intro ab hb;replace HB:=zbs HB hb;clear hb)|(go_at_call 26;(with_reducible refine (reals_Narrow.calls J.out).mono ?_);rintro e ac ⟨rfl,hb⟩;replace HB:=zbs HB hb;clear hb)|(go_at_call 29;(with_reducible refine (grottoref04_Change.calls K.out).mono ?_);rintro e ad ⟨rfl,hb⟩;replace HB:=zbs HB hb;clear hb))
    go_ret
    exact zr HB
   rw[if_neg m] at H
   obtain⟨s,u⟩:=zf m
   obtain rfl:=Option.some.inj H
   go_enter Try.func10,Try.ntmps10
   go_wp2_with (first|((with_reducible refine gate_callee (f:=28) rfl ?_);refine zgo (some 9) Try.func28 #[.int .u64 b] ?_;(with_reducible refine (reals_Split.calls C.out).mono ?_);rintro e w' ⟨rfl,⟨nd,rfl⟩⟩;refine⟨_,rfl,?_⟩)|((with_reducible refine gate_callee (f:=27) rfl ?_);refine zgc (some 13) Try.func27 (reals_Widen.calls D.out) ?_;intro ae hb;replace HB:=zbs HB hb;clear hb)|((with_reducible refine gate_callee (f:=29) rfl ?_);refine zgc (some 16) Try.func29 (grottoref04_Change.calls E.out) ?_;intro af hb;replace HB:=zbs HB hb;clear hb)|(go_at_call 26;(with_reducible refine (reals_Narrow.calls J.out).mono ?_);rintro e ag ⟨rfl,hb⟩;replace HB:=zbs HB hb;clear hb)|(go_at_call 29;(with_reducible refine (grottoref04_Change.calls K.out).mono ?_);rintro e ah ⟨rfl,hb⟩;replace HB:=zbs HB hb;clear hb))
   go_ret
   exact zr HB
  rw[if_neg L] at H
  obtain⟨M,N⟩:=zf L
  obtain rfl:=Option.some.inj H
  go_enter Try.func10,Try.ntmps10
  go_wp2_with (first|((with_reducible refine gate_callee (f:=28) rfl ?_);refine zgo (some 9) Try.func28 #[.int .u64 b] ?_;(with_reducible refine (reals_Split.calls C.out).mono ?_);rintro e w' ⟨rfl,⟨nd,rfl⟩⟩;refine⟨_,rfl,?_⟩)|((with_reducible refine gate_callee (f:=27) rfl ?_);refine zgc (some 13) Try.func27 (reals_Widen.calls D.out) ?_;intro ai hb;replace HB:=zbs HB hb;clear hb)|((with_reducible refine gate_callee (f:=29) rfl ?_);refine zgc (some 16) Try.func29 (grottoref04_Change.calls E.out) ?_;intro aj hb;replace HB:=zbs HB hb;clear hb)|(go_at_call 26;(with_reducible refine (reals_Narrow.calls J.out).mono ?_);rintro e ak ⟨rfl,hb⟩;replace HB:=zbs HB hb;clear hb)|(go_at_call 29;(with_reducible refine (grottoref04_Change.calls K.out).mono ?_);rintro e al ⟨rfl,hb⟩;replace HB:=zbs HB hb;clear hb))
  go_ret
  exact zr HB
 rw[if_neg F] at H
 obtain⟨G,I⟩:=zf F
 obtain rfl:=Option.some.inj H
 go_enter Try.func10,Try.ntmps10
 go_wp2_with (first|((with_reducible refine gate_callee (f:=28) rfl ?_);refine zgo (some 9) Try.func28 #[.int .u64 b] ?_;(with_reducible refine (reals_Split.calls C.out).mono ?_);rintro e w' ⟨rfl,⟨nd,rfl⟩⟩;refine⟨_,rfl,?_⟩)|((with_reducible refine gate_callee (f:=27) rfl ?_);refine zgc (some 13) Try.func27 (reals_Widen.calls D.out) ?_;intro am hb;replace HB:=zbs HB hb;clear hb)|((with_reducible refine gate_callee (f:=29) rfl ?_);refine zgc (some 16) Try.func29 (grottoref04_Change.calls E.out) ?_;intro an hb;replace HB:=zbs HB hb;clear hb))
 go_ret
 exact zr HB


end Go.Proofs.Ythkifpdachjlgaa.PQ
