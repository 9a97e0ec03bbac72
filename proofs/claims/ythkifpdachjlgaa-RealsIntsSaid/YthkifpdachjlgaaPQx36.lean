-- by a program of this claim
import Derived.Test.YthkifpdachjlgaaPQx0
import Derived.Test.YthkifpdachjlgaaPQx8
import Derived.Test.YthkifpdachjlgaaPQx9
import Derived.Test.YthkifpdachjlgaaPQx33
import Derived.Test.YthkifpdachjlgaaPQx35
namespace Go.Proofs.Ythkifpdachjlgaa.PQ
open Go.RowKit Go.Proofs.YthkifpdachjlgaaW.PrintWords Go.Proofs.YthkifpdachjlgaaW.PrintLast Go.Proofs.YthkifpdachjlgaaW.PrintMore Go.Proofs.Ythkifpdachjlgaa.Z
attribute [local go_sem] max2_int min2_int max_two min_two max_three min_three max_four min_four   -- for this text's walks alone
set_option linter.unusedVariables false
set_option linter.unusedSimpArgs false

/-! ### grottolaw04_RealsInts: function 7 -/
def grottolaw04_RealsInts.f (k:Nat) (a0:Int) (a1:Int) (a2:Int) (a3:Bool):Option (Bool):=(reals_SingleOf.f k a0).bind fun a=>((grottoref04_Of.f k false a0).bind fun b=>(if (IntKind.u64.wrap (a))=b then ((reals_DoubleOf.f k a0).bind fun c=>((grottoref04_Of.f k true a0).bind fun d=>(if c=d then ((reals_SingleInt.f k a1 a3).bind fun e=>((grottoref04_Int.f k false (IntKind.u64.wrap (a1)) a3).bind fun g=>(if e=g then ((reals_DoubleInt.f k a2 a3).bind fun h=>((grottoref04_Int.f k true a2 a3).bind fun i=>(if h=i then ((grottolaw04_live.f k).bind fun j=>(some j)) else (some false)))) else (some false)))) else (some false)))) else (some false)))
theorem grottolaw04_RealsInts.mono:∀ a0 a1 a2 a3 k,LeO (grottolaw04_RealsInts.f k a0 a1 a2 a3) (grottolaw04_RealsInts.f (k+1) a0 a1 a2 a3):=by
 intro a0 a1 a2 a3 k
 unfold grottolaw04_RealsInts.f
 repeat' first|(with_reducible first|apply grottolaw04_live.mono|apply grottoref04_Int.mono|apply grottoref04_Of.mono|apply reals_DoubleInt.mono|apply reals_DoubleOf.mono|apply reals_SingleInt.mono|apply reals_SingleOf.mono|exact LeO.refl _|exact LeO.none _|refine LeO.ite ?_ ?_|refine LeO.bind ?_ (fun _=>?_))|refine LeO.ite ?_ ?_|refine LeO.bind ?_ (fun _=>?_)
set_option maxHeartbeats 8000000 in
set_option maxRecDepth 100000 in
theorem grottolaw04_RealsInts.calls {k:Nat} {D:Int} {N:Int} {O:Int} {E:Bool} {r:Bool} {w:World} (h:grottolaw04_RealsInts.f k D N O E=some r) :
  Calls Try.prog 7 #[.int .u32 D,.int .u32 N,.int .u64 O,.bool E] w fun e w'=>e=.returned (.bool r)∧Below w.heap.size w w':=by
 have HB:=Aside0.mk (Below.refl w.heap.size w)
 have H:=h
 unfold grottolaw04_RealsInts.f at H
 clear h
 obtain⟨a,F,H⟩:=oB H
 obtain⟨b,G,H⟩:=oB H
 by_cases I:(IntKind.u64.wrap (a))=b
 ·rw[if_pos I] at H
  obtain⟨J,K⟩:=zt I
  clear I
  obtain⟨c,P,H⟩:=oB H
  obtain⟨d,Q,H⟩:=oB H
  by_cases n:c=d
  ·rw[if_pos n] at H
   obtain⟨q,s⟩:=zt n
   clear n
   obtain⟨g,u,H⟩:=oB H
   obtain⟨i,v,H⟩:=oB H
   by_cases o:g=i
   ·rw[if_pos o] at H
    obtain⟨y,z⟩:=zt o
    clear o
    obtain⟨j,L,H⟩:=oB H
    obtain⟨l,M,H⟩:=oB H
    by_cases p:j=l
    ·rw[if_pos p] at H
     obtain⟨B,C⟩:=zt p
     clear p
     obtain⟨m,R,H⟩:=oB H
     obtain rfl:=Option.some.inj H
     go_enter Try.func7,Try.ntmps7
     go_wp2_with (first|((with_reducible refine gate_callee (f:=20) rfl ?_);refine zgc (some 10) Try.func20 (reals_SingleOf.calls F.out) ?_;intro S hb;replace HB:=zbs HB hb;clear hb)|((with_reducible refine gate_callee (f:=21) rfl ?_);refine zgc (some 13) Try.func21 (grottoref04_Of.calls G.out) ?_;intro T hb;replace HB:=zbs HB hb;clear hb)|(go_at_call 22;(with_reducible refine (reals_DoubleOf.calls P.out).mono ?_);rintro e U ⟨rfl,hb⟩;replace HB:=zbs HB hb;clear hb)|(go_at_call 21;(with_reducible refine (grottoref04_Of.calls Q.out).mono ?_);rintro e V ⟨rfl,hb⟩;replace HB:=zbs HB hb;clear hb)|(go_at_call 23;(with_reducible refine (reals_SingleInt.calls u.out).mono ?_);rintro e W ⟨rfl,hb⟩;replace HB:=zbs HB hb;clear hb)|(go_at_call 24;(with_reducible refine (grottoref04_Int.calls v.out).mono ?_);rintro e X ⟨rfl,hb⟩;replace HB:=zbs HB hb;clear hb)|(go_at_call 25;(with_reducible refine (reals_DoubleInt.calls L.out).mono ?_);rintro e Y ⟨rfl,hb⟩;replace HB:=zbs HB hb;clear hb)|(go_at_call 24;(with_reducible refine (grottoref04_Int.calls M.out).mono ?_);rintro e Z ⟨rfl,hb⟩;replace HB:=zbs HB hb;clear hb)|(go_at_call 15;(with_reducible refine (grottolaw04_live.calls k  m _ R.out).mono ?_);rintro e aa ⟨rfl,hb⟩;replace HB:=zbs HB hb;clear hb))
     go_ret
     exact zr HB
    rw[if_neg p] at H
    obtain⟨B,C⟩:=zf p
    obtain rfl:=Option.some.inj H
    go_enter Try.func7,Try.ntmps7
    go_wp2_with (first|((with_reducible refine gate_callee (f:=20) rfl ?_);refine zgc (some 10) Try.func20 (reals_SingleOf.calls F.out) ?_;intro ab hb;replace HB:=zbs HB hb;clear hb)|((with_reducible refine gate_callee (f:=21) rfl ?_);refine zgc (some 13) Try.func21 (grottoref04_Of.calls G.out) ?_;intro ac hb;replace HB:=zbs HB hb;clear hb)|(go_at_call 22;(with_reducible refine (reals_DoubleOf.calls P.out).mono ?_);rintro e ad ⟨rfl,hb⟩;replace HB:=zbs HB hb;clear hb)|(go_at_call 21;(with_reducible refine (grottoref04_Of.calls Q.out).mono ?_);rintro e ae ⟨rfl,hb⟩;replace HB:=zbs HB hb;clear hb)|(go_at_call 23;(with_reducible refine (reals_SingleInt.calls u.out).mono ?_);rintro e af ⟨rfl,hb⟩;replace HB:=zbs HB hb;clear hb)|(go_at_call 24;(with_reducible refine (grottoref04_Int.calls v.out).mono ?_);rintro e ag ⟨rfl,hb⟩;replace HB:=zbs HB hb;clear hb)|(go_at_call 25;(with_reducible refine (reals_DoubleInt.calls L.out).mono ?_);rintro e ah ⟨rfl,hb⟩;replace HB:=zbs HB hb;clear hb)|(go_at_call 24;(with_reducible refine (grottoref04_Int.calls M.out).mono ?_);rintro e ai ⟨rfl,hb⟩;replace HB:=zbs HB hb;clear hb))
    go_ret
    exact zr HB
   rw[if_neg o] at H
   obtain⟨y,z⟩:=zf o
   obtain rfl:=Option.some.inj H
   go_enter Try.func7,Try.ntmps7
   go_wp2_with (first|((with_reducible refine gate_callee (f:=20) rfl ?_);refine zgc (some 10) Try.func20 (reals_SingleOf.calls F.out) ?_;intro aj hb;replace HB:=zbs HB hb;clear hb)|((with_reducible refine gate_callee (f:=21) rfl ?_);refine zgc (some 13) Try.func21 (grottoref04_Of.calls G.out) ?_;intro ak hb;replace HB:=zbs HB hb;clear hb)|(go_at_call 22;(with_reducible refine (reals_DoubleOf.calls P.out).mono ?_);rintro e al ⟨rfl,hb⟩;replace HB:=zbs HB hb;clear hb)|(go_at_call 21;(with_reducible refine (grottoref04_Of.calls Q.out).mono ?_);rintro e am ⟨rfl,hb⟩;replace HB:=zbs HB hb;clear hb)|(go_at_call 23;(with_reducible refine (reals_SingleInt.calls u.out).mono ?_);rintro e an ⟨rfl,hb⟩;replace HB:=zbs HB hb;clear hb)|(go_at_call 24;(with_reducible refine (grottoref04_Int.calls v.out).mono ?_);rintro e ao ⟨rfl,hb⟩;replace HB:=zbs HB hb;clear hb))
   go_ret
   exact zr HB
  rw[if_neg n] at H
  obtain⟨q,s⟩:=zf n
  obtain rfl:=Option.some.inj H
  go_enter Try.func7,Try.ntmps7
  go_wp2_with (first|((with_reducible refine gate_callee (f:=20) rfl ?_);refine zgc (some 10) Try.func20 (reals_SingleOf.calls F.out) ?_;intro ap hb;replace HB:=zbs HB hb;clear hb)|((with_reducible refine gate_callee (f:=21) rfl ?_);refine zgc (some 13) Try.func21 (grottoref04_Of.calls G.out) ?_;intro aq hb;replace HB:=zbs HB hb;clear hb)|(go_at_call 22;(with_reducible refine (reals_DoubleOf.calls P.out).mono ?_);rintro e ar ⟨rfl,hb⟩;replace HB:=zbs HB hb;clear hb)|(go_at_call 21;(with_reducible refine (grottoref04_Of.calls Q.out).mono ?_);rintro e au ⟨rfl,hb⟩;replace HB:=zbs HB hb;clear hb))
  go_ret
  exact zr HB
 rw[if_neg I] at H
 obtain⟨J,K⟩:=zf I
 obtain rfl:=Option.some.inj H
 go_enter Try.func7,Try.ntmps7
 go_wp2_with (first|((with_reducible refine gate_callee (f:=20) rfl ?_);refine zgc (some 10) Try.func20 (reals_SingleOf.calls F.out) ?_;intro av hb;replace HB:=zbs HB hb;clear hb)|((with_reducible refine gate_callee (f:=21) rfl ?_);refine zgc (some 13) Try.func21 (grottoref04_Of.calls G.out) ?_;intro aw hb;replace HB:=zbs HB hb;clear hb))
 go_ret
 exact zr HB


end Go.Proofs.Ythkifpdachjlgaa.PQ
