-- by a program of this claim
import Derived.Test.YtmmbgbchimangaaPQx0
import Derived.Test.YtmmbgbchimangaaPQx8
namespace Go.Proofs.Ytmmbgbchimangaa.PQ
open Go.RowKit Go.Proofs.YtmmbgbchimangaaW.PrintWords Go.Proofs.YtmmbgbchimangaaW.PrintLast Go.Proofs.YtmmbgbchimangaaW.PrintMore Go.Proofs.Ytmmbgbchimangaa.Z
attribute [local go_sem] max2_int min2_int max_two min_two max_three min_three max_four min_four   -- for this text's walks alone
set_option linter.unusedVariables false
set_option linter.unusedSimpArgs false

/-! ### grottoref03_Turn: function 22 -/
def grottoref03_Turn.f (k:Nat) (a0_0:Int) (a0_1:Int) (a1:Int):Option (Int):=(grottoref02_Zero.f k a0_0 a0_1 true).bind fun a=>(if a1≥a then (some (IntKind.u64.wrap (a1-a))) else (some (IntKind.u64.wrap (a1+a))))
theorem grottoref03_Turn.mono:∀ a0 a1 a2 k,LeO (grottoref03_Turn.f k a0 a1 a2) (grottoref03_Turn.f (k+1) a0 a1 a2):=by
 intro a0 a1 a2 k
 unfold grottoref03_Turn.f
 repeat' first|(with_reducible first|apply grottoref02_Zero.mono|exact LeO.refl _|exact LeO.none _|refine LeO.ite ?_ ?_|refine LeO.bind ?_ (fun _=>?_))|refine LeO.ite ?_ ?_|refine LeO.bind ?_ (fun _=>?_)
set_option maxHeartbeats 8000000 in
set_option maxRecDepth 100000 in
theorem grottoref03_Turn.calls {k:Nat} {c:Int} {d:Int} {g:Int} {r:Int} {w:World} (h:grottoref03_Turn.f k c d g=some r) :
  Calls Try.prog 22 #[.agg #[.int .i64 c,.int .i64 d],.int .u64 g] w fun e w'=>e=.returned (.int .u64 r)∧Below w.heap.size w w':=by
 have hu23:=Try.underlying23
 have HB:=Aside0.mk (Below.refl w.heap.size w)
 have H:=h
 unfold grottoref03_Turn.f at H
 clear h
 obtain⟨b,B,H⟩:=oB H
 by_cases m:g≥b
 ·rw[if_pos m] at H
  have n:decide (b≤g)=true:=decide_eq_true m
  clear m
  obtain rfl:=Option.some.inj H
  go_enter Try.func22,Try.ntmps22
  go_wp2_with (first|((with_reducible refine gate_dst (N:=2) rfl ?_);refine zbox (N:=2) (cs:=#[.int .i64 c,.int .i64 d]) (t:=23) ?_;intro i hg D hbox hb;have a:=Aside0.mk hbox;have j:=zge hg HB;have l:=zge hg HB;replace HB:=zbs HB hb;clear hb hbox hg;obtain⟨o,p,q,s⟩:=zc2 a)|((with_reducible refine gate_callee (f:=46) rfl ?_);refine zgc (some 7) Try.func46 (grottoref02_Zero.calls B.out) ?_;intro E hb;obtain⟨a,HB⟩:=zu1 a HB hb;clear hb))
  go_ret
  exact zr HB
 rw[if_neg m] at H
 have n:decide (b≤g)=false:=decide_eq_false m
 clear m
 obtain rfl:=Option.some.inj H
 go_enter Try.func22,Try.ntmps22
 go_wp2_with (first|((with_reducible refine gate_dst (N:=2) rfl ?_);refine zbox (N:=2) (cs:=#[.int .i64 c,.int .i64 d]) (t:=23) ?_;intro i hg F hbox hb;have a:=Aside0.mk hbox;have j:=zge hg HB;have l:=zge hg HB;replace HB:=zbs HB hb;clear hb hbox hg;obtain⟨u,v,y,z⟩:=zc2 a)|((with_reducible refine gate_callee (f:=46) rfl ?_);refine zgc (some 7) Try.func46 (grottoref02_Zero.calls B.out) ?_;intro C hb;obtain⟨a,HB⟩:=zu1 a HB hb;clear hb))
 go_ret
 exact zr HB

end Go.Proofs.Ytmmbgbchimangaa.PQ
