-- by a program of this claim
import Derived.Test.YthkifpdachjlgaaPQx0
namespace Go.Proofs.Ythkifpdachjlgaa.PQ
open Go.RowKit Go.Proofs.YthkifpdachjlgaaW.PrintWords Go.Proofs.YthkifpdachjlgaaW.PrintLast Go.Proofs.YthkifpdachjlgaaW.PrintMore Go.Proofs.Ythkifpdachjlgaa.Z
attribute [local go_sem] max2_int min2_int max_two min_two max_three min_three max_four min_four   -- for this text's walks alone
set_option linter.unusedVariables false
set_option linter.unusedSimpArgs false

/-! ### grottoref04_Format: function 33 -/
def grottoref04_Format.f (a0:Bool):Option (Int×Int):=if a0=true then (some (52,11)) else (some (23,8))
set_option maxHeartbeats 8000000 in
set_option maxRecDepth 100000 in
theorem grottoref04_Format.calls {g:Bool} {u:Int} {v:Int} {w:World} (h:grottoref04_Format.f g=some (u,v)) :
  Calls Try.prog 33 #[.bool g] w fun e w'=>e=.returned (.agg #[.int .i64 u,.int .i64 v])∧Below w.heap.size w w':=by
 have hu58:=Try.underlying58
 have HB:=Aside0.mk (Below.refl w.heap.size w)
 have H:=h
 unfold grottoref04_Format.f at H
 clear h
 by_cases i:g=true
 ·subst i
  rw[if_pos rfl] at H
  simp only[Option.some.injEq,Prod.mk.injEq] at H
  obtain⟨rfl,rfl⟩:=H
  go_enter Try.func33,Try.ntmps33
  go_wp2_with (first|((with_reducible refine gate_dst (N:=2) rfl ?_);refine zbox (N:=2) (cs:=#[.int .i64 0,.int .i64 0]) (t:=58) ?_;intro b hg y hbox hb;have a:=Aside0.mk hbox;have c:=zge hg HB;have d:=zge hg HB;replace HB:=zbs HB hb;clear hb hbox hg;obtain⟨j,l,m,n⟩:=zc2 a))
  refine bodyPost_ret (results_cell_row rfl _ _ b 58 #[.int .i64 52,.int .i64 11] (0,0) _ rfl (zkp a) Try.underlying58 rfl (by kernel_rfl)) rfl ?_
  exact zr HB
 replace i:=Bool.eq_false_iff.mpr i
 subst i
 rw[if_neg nft] at H
 simp only[Option.some.injEq,Prod.mk.injEq] at H
 obtain⟨rfl,rfl⟩:=H
 go_enter Try.func33,Try.ntmps33
 go_wp2_with (first|((with_reducible refine gate_dst (N:=2) rfl ?_);refine zbox (N:=2) (cs:=#[.int .i64 0,.int .i64 0]) (t:=58) ?_;intro b hg z hbox hb;have a:=Aside0.mk hbox;have c:=zge hg HB;have d:=zge hg HB;replace HB:=zbs HB hb;clear hb hbox hg;obtain⟨o,p,q,s⟩:=zc2 a))
 refine bodyPost_ret (results_cell_row rfl _ _ b 58 #[.int .i64 23,.int .i64 8] (0,0) _ rfl (zkp a) Try.underlying58 rfl (by kernel_rfl)) rfl ?_
 exact zr HB

end Go.Proofs.Ythkifpdachjlgaa.PQ
