-- by a program of this claim
import Derived.Test.YtmmbgbchimangaaPQx0
namespace Go.Proofs.Ytmmbgbchimangaa.PQ
open Go.RowKit Go.Proofs.YtmmbgbchimangaaW.PrintWords Go.Proofs.YtmmbgbchimangaaW.PrintLast Go.Proofs.YtmmbgbchimangaaW.PrintMore Go.Proofs.Ytmmbgbchimangaa.Z
attribute [local go_sem] max2_int min2_int max_two min_two max_three min_three max_four min_four   -- for this text's walks alone
set_option linter.unusedVariables false
set_option linter.unusedSimpArgs false

/-! ### grottoref03_side: function 63 -/
def grottoref03_side.f (a0_0:Int) (a0_1:Bool) (a0_2:Int) (a0_3:Int):Option (Int):=if a0_0=3 then (if a0_1=true then (some (-1)) else (some 1)) else (some 0)
set_option maxHeartbeats 8000000 in
set_option maxRecDepth 100000 in
theorem grottoref03_side.calls {a:Int} {c:Bool} {d:Int} {g:Int} {r:Int} {w:World} (h:grottoref03_side.f a c d g=some r) :
  Calls Try.prog 63 #[.agg #[.int .i64 a,.bool c,.int .i64 d,.int .u64 g]] w fun e w'=>e=.returned (.int .i64 r)∧Below w.heap.size w w':=by
 have hu34:=Try.underlying34
 have HB:=Aside0.mk (Below.refl w.heap.size w)
 have H:=h
 unfold grottoref03_side.f at H
 clear h
 by_cases m:a=3
 ·rw[if_pos m] at H
  obtain⟨n,o⟩:=zt m
  clear m
  by_cases p:c=true
  ·subst p
   rw[if_pos rfl] at H
   obtain rfl:=Option.some.inj H
   go_enter Try.func63,Try.ntmps63
   go_wp2_with (first|((with_reducible refine gate_dst (N:=1) rfl ?_);refine zbox (N:=1) (cs:=#[.int .i64 a,.bool true,.int .i64 d,.int .u64 g]) (t:=34) ?_;intro i hg V hbox hb;have b:=Aside0.mk hbox;have j:=zge hg HB;have l:=zge hg HB;replace HB:=zbs HB hb;clear hb hbox hg;obtain⟨q,s,u,v,y,z,B,C⟩:=zc4 b))
   go_ret
   exact zr HB
  replace p:=Bool.eq_false_iff.mpr p
  subst p
  rw[if_neg nft] at H
  obtain rfl:=Option.some.inj H
  go_enter Try.func63,Try.ntmps63
  go_wp2_with (first|((with_reducible refine gate_dst (N:=1) rfl ?_);refine zbox (N:=1) (cs:=#[.int .i64 a,.bool false,.int .i64 d,.int .u64 g]) (t:=34) ?_;intro i hg W hbox hb;have b:=Aside0.mk hbox;have j:=zge hg HB;have l:=zge hg HB;replace HB:=zbs HB hb;clear hb hbox hg;obtain⟨D,E,F,G,I,J,K,L⟩:=zc4 b))
  go_ret
  exact zr HB
 rw[if_neg m] at H
 obtain⟨n,o⟩:=zf m
 obtain rfl:=Option.some.inj H
 go_enter Try.func63,Try.ntmps63
 go_wp2_with (first|((with_reducible refine gate_dst (N:=1) rfl ?_);refine zbox (N:=1) (cs:=#[.int .i64 a,.bool c,.int .i64 d,.int .u64 g]) (t:=34) ?_;intro i hg X hbox hb;have b:=Aside0.mk hbox;have j:=zge hg HB;have l:=zge hg HB;replace HB:=zbs HB hb;clear hb hbox hg;obtain⟨M,O,P,Q,R,S,T,U⟩:=zc4 b))
 go_ret
 exact zr HB

end Go.Proofs.Ytmmbgbchimangaa.PQ
