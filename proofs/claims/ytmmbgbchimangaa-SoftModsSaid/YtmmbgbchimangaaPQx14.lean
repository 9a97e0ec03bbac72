-- by a program of this claim
import Derived.Test.YtmmbgbchimangaaPQx0
import Derived.Test.YtmmbgbchimangaaPQx3
import Derived.Test.YtmmbgbchimangaaPQx7
import Derived.Test.YtmmbgbchimangaaPQx13
namespace Go.Proofs.Ytmmbgbchimangaa.PQ
open Go.RowKit Go.Proofs.YtmmbgbchimangaaW.PrintWords Go.Proofs.YtmmbgbchimangaaW.PrintLast Go.Proofs.YtmmbgbchimangaaW.PrintMore Go.Proofs.Ytmmbgbchimangaa.Z
attribute [local go_sem] max2_int min2_int max_two min_two max_three min_three max_four min_four   -- for this text's walks alone
set_option linter.unusedVariables false
set_option linter.unusedSimpArgs false

/-! ### grottolaw03_SoftMods: function 3 -/
def grottolaw03_SoftMods.f (k:Nat) (a0_0:Int) (a0_1:Int) (a1:Int) (a2:Int):Option (Bool):=(soft_Mod.f k a0_0 a0_1 a1 a2).bind fun a=>((grottoref03_Mod.f k a0_0 a0_1 a1 a2).bind fun b=>(if a.1=b.1 then (if a.2.1=b.2.1 then ((grottolaw03_num.f a.2.2).bind fun c=>(if c=b.2.2 then ((grottolaw03_live.f k).bind fun d=>(some d)) else (some false))) else (some false)) else (some false)))
theorem grottolaw03_SoftMods.mono:∀ a0 a1 a2 a3 k,LeO (grottolaw03_SoftMods.f k a0 a1 a2 a3) (grottolaw03_SoftMods.f (k+1) a0 a1 a2 a3):=by
 intro a0 a1 a2 a3 k
 unfold grottolaw03_SoftMods.f
 repeat' first|(with_reducible first|apply grottolaw03_live.mono|apply grottoref03_Mod.mono|apply soft_Mod.mono|exact LeO.refl _|exact LeO.none _|refine LeO.ite ?_ ?_|refine LeO.bind ?_ (fun _=>?_))|refine LeO.ite ?_ ?_|refine LeO.bind ?_ (fun _=>?_)
set_option maxHeartbeats 8000000 in
set_option maxRecDepth 100000 in
theorem grottolaw03_SoftMods.calls {k:Nat} {b:Int} {c:Int} {a1:Int} {a2:Int} {r:Bool} {w:World} (h:grottolaw03_SoftMods.f k b c a1 a2=some r) :
  Calls Try.prog 3 #[.agg #[.int .i64 b,.int .i64 c],.int .u64 a1,.int .u64 a2] w fun e w'=>e=.returned (.bool r)∧Below w.heap.size w w':=by
 have hu23:=Try.underlying23
 have HB:=Aside0.mk (Below.refl w.heap.size w)
 have H:=h
 unfold grottolaw03_SoftMods.f at H
 clear h
 obtain⟨⟨o,p,aw⟩,A4,H⟩:=oB H
 try dsimp only at H
 obtain⟨⟨q,s,u⟩,A5,H⟩:=oB H
 try dsimp only at H
 by_cases v:o=q
 rotate_left
 ·rw[if_neg v] at H
  obtain⟨y,z⟩:=zf v
  obtain rfl:=Option.some.inj H
  go_enter Try.func3,Try.ntmps3
  go_wp2_with (first|((with_reducible refine gate_dst (N:=3) rfl ?_);refine zbox (N:=3) (cs:=#[.int .i64 b,.int .i64 c]) (t:=23) ?_;intro i hg aI hbox hb;have a:=Aside0.mk hbox;have j:=zge hg HB;have l:=zge hg HB;replace HB:=zbs HB hb;clear hb hbox hg;obtain⟨ah,ai,aj,ak⟩:=zc2 a)|((with_reducible refine gate_callee (f:=16) rfl ?_);refine zgc (some 17) Try.func16 (soft_Mod.calls A4.out) ?_;intro aJ hb;obtain⟨a,HB⟩:=zu1 a HB hb;clear hb;obtain⟨al,am,an,ao⟩:=zc2 a)|((with_reducible refine gate_callee (f:=17) rfl ?_);refine zgc (some 25) Try.func17 (grottoref03_Mod.calls A5.out) ?_;intro aK hb;obtain⟨a,HB⟩:=zu1 a HB hb;clear hb))
  go_ret
  exact zr HB

 rw[if_pos v] at H
 obtain⟨y,z⟩:=zt v
 clear v
 by_cases B:p=s
 ·rw[if_pos B] at H
  obtain⟨C,D⟩:=zt B
  clear B
  obtain⟨m,A8,H⟩:=oB H
  by_cases E:m=u
  ·rw[if_pos E] at H
   obtain⟨F,G⟩:=zt E
   clear E
   obtain⟨n,av,H⟩:=oB H
   obtain rfl:=Option.some.inj H
   go_enter Try.func3,Try.ntmps3
   go_wp2_with (first|((with_reducible refine gate_dst (N:=3) rfl ?_);refine zbox (N:=3) (cs:=#[.int .i64 b,.int .i64 c]) (t:=23) ?_;intro i hg ay hbox hb;have a:=Aside0.mk hbox;have j:=zge hg HB;have l:=zge hg HB;replace HB:=zbs HB hb;clear hb hbox hg;obtain⟨I,J,K,L⟩:=zc2 a)|((with_reducible refine gate_callee (f:=16) rfl ?_);refine zgc (some 17) Try.func16 (soft_Mod.calls A4.out) ?_;intro az hb;obtain⟨a,HB⟩:=zu1 a HB hb;clear hb;obtain⟨M,O,P,Q⟩:=zc2 a)|((with_reducible refine gate_callee (f:=17) rfl ?_);refine zgc (some 25) Try.func17 (grottoref03_Mod.calls A5.out) ?_;intro aA hb;obtain⟨a,HB⟩:=zu1 a HB hb;clear hb)|(go_at_call 18;(with_reducible refine (grottolaw03_num.calls A8.out).mono ?_);rintro e w' ⟨rfl,⟨nd,rfl⟩⟩)|(go_at_call 19;(with_reducible refine (grottolaw03_live.calls k  n _ av.out).mono ?_);rintro e aB ⟨rfl,hb⟩;obtain⟨a,HB⟩:=zu1 a HB hb;clear hb))
   go_ret
   exact zr HB
  rw[if_neg E] at H
  obtain⟨F,G⟩:=zf E
  obtain rfl:=Option.some.inj H
  go_enter Try.func3,Try.ntmps3
  go_wp2_with (first|((with_reducible refine gate_dst (N:=3) rfl ?_);refine zbox (N:=3) (cs:=#[.int .i64 b,.int .i64 c]) (t:=23) ?_;intro i hg aC hbox hb;have a:=Aside0.mk hbox;have j:=zge hg HB;have l:=zge hg HB;replace HB:=zbs HB hb;clear hb hbox hg;obtain⟨R,S,T,U⟩:=zc2 a)|((with_reducible refine gate_callee (f:=16) rfl ?_);refine zgc (some 17) Try.func16 (soft_Mod.calls A4.out) ?_;intro aD hb;obtain⟨a,HB⟩:=zu1 a HB hb;clear hb;obtain⟨V,W,X,Y⟩:=zc2 a)|((with_reducible refine gate_callee (f:=17) rfl ?_);refine zgc (some 25) Try.func17 (grottoref03_Mod.calls A5.out) ?_;intro aE hb;obtain⟨a,HB⟩:=zu1 a HB hb;clear hb)|(go_at_call 18;(with_reducible refine (grottolaw03_num.calls A8.out).mono ?_);rintro e w' ⟨rfl,⟨nd,rfl⟩⟩))
  go_ret
  exact zr HB
 rw[if_neg B] at H
 obtain⟨C,D⟩:=zf B
 obtain rfl:=Option.some.inj H
 go_enter Try.func3,Try.ntmps3
 go_wp2_with (first|((with_reducible refine gate_dst (N:=3) rfl ?_);refine zbox (N:=3) (cs:=#[.int .i64 b,.int .i64 c]) (t:=23) ?_;intro i hg aF hbox hb;have a:=Aside0.mk hbox;have j:=zge hg HB;have l:=zge hg HB;replace HB:=zbs HB hb;clear hb hbox hg;obtain⟨Z,aa,ab,ac⟩:=zc2 a)|((with_reducible refine gate_callee (f:=16) rfl ?_);refine zgc (some 17) Try.func16 (soft_Mod.calls A4.out) ?_;intro aG hb;obtain⟨a,HB⟩:=zu1 a HB hb;clear hb;obtain⟨ad,ae,af,ag⟩:=zc2 a)|((with_reducible refine gate_callee (f:=17) rfl ?_);refine zgc (some 25) Try.func17 (grottoref03_Mod.calls A5.out) ?_;intro aH hb;obtain⟨a,HB⟩:=zu1 a HB hb;clear hb))
 go_ret
 exact zr HB
end Go.Proofs.Ytmmbgbchimangaa.PQ
