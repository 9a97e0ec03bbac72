-- by a program of this claim
import Derived.Test.YtmmbgbchimangaaPQx0
import Derived.Test.YtmmbgbchimangaaPQx3
import Derived.Test.YtmmbgbchimangaaPQx6
import Derived.Test.YtmmbgbchimangaaPQx7
import Derived.Test.YtmmbgbchimangaaPQx29
import Derived.Test.YtmmbgbchimangaaPQx30
import Derived.Test.YtmmbgbchimangaaPQx31
namespace Go.Proofs.Ytmmbgbchimangaa.PQ
open Go.RowKit Go.Proofs.YtmmbgbchimangaaW.PrintWords Go.Proofs.YtmmbgbchimangaaW.PrintLast Go.Proofs.YtmmbgbchimangaaW.PrintMore Go.Proofs.Ytmmbgbchimangaa.Z
attribute [local go_sem] max2_int min2_int max_two min_two max_three min_three max_four min_four   -- for this text's walks alone
set_option linter.unusedVariables false
set_option linter.unusedSimpArgs false

/-! ### grottolaw03_SoftMuls: function 8 -/
def grottolaw03_SoftMuls.f (k:Nat) (a0_0:Int) (a0_1:Int) (a1:Int) (a2:Int):Option (Bool):=(soft_Mul.f k a0_0 a0_1 a1 a2).bind fun a=>((grottoref03_Mul.f k a0_0 a0_1 a1 a2).bind fun b=>((soft_Div.f k a0_0 a0_1 a1 a2).bind fun c=>((grottoref03_Div.f k a0_0 a0_1 a1 a2).bind fun d=>(if a.1=b.1 then ((grottolaw03_num.f a.2).bind fun e=>(if e=b.2 then (if c.1=d.1 then ((grottolaw03_num.f c.2).bind fun g=>(if g=d.2 then ((grottolaw03_live.f k).bind fun h=>(some h)) else (some false))) else (some false)) else (some false))) else (some false)))))
theorem grottolaw03_SoftMuls.mono:∀ a0 a1 a2 a3 k,LeO (grottolaw03_SoftMuls.f k a0 a1 a2 a3) (grottolaw03_SoftMuls.f (k+1) a0 a1 a2 a3):=by
 intro a0 a1 a2 a3 k
 unfold grottolaw03_SoftMuls.f
 repeat' first|(with_reducible first|apply grottolaw03_live.mono|apply grottoref03_Div.mono|apply grottoref03_Mul.mono|apply soft_Div.mono|apply soft_Mul.mono|exact LeO.refl _|exact LeO.none _|refine LeO.ite ?_ ?_|refine LeO.bind ?_ (fun _=>?_))|refine LeO.ite ?_ ?_|refine LeO.bind ?_ (fun _=>?_)
set_option maxHeartbeats 8000000 in
set_option maxRecDepth 100000 in
theorem grottolaw03_SoftMuls.calls {k:Nat} {b:Int} {c:Int} {F:Int} {G:Int} {r:Bool} {w:World} (h:grottolaw03_SoftMuls.f k b c F G=some r) :
  Calls Try.prog 8 #[.agg #[.int .i64 b,.int .i64 c],.int .u64 F,.int .u64 G] w fun e w'=>e=.returned (.bool r)∧Below w.heap.size w w':=by
 have hu23:=Try.underlying23
 have HB:=Aside0.mk (Below.refl w.heap.size w)
 have H:=h
 unfold grottolaw03_SoftMuls.f at H
 clear h
 obtain⟨⟨I,bv⟩,J,H⟩:=oB H
 try dsimp only at H
 obtain⟨⟨K,L⟩,M,H⟩:=oB H
 try dsimp only at H
 obtain⟨⟨O,bw⟩,P,H⟩:=oB H
 try dsimp only at H
 obtain⟨⟨Q,R⟩,S,H⟩:=oB H
 try dsimp only at H
 by_cases T:I=K
 rotate_left
 ·rw[if_neg T] at H
  obtain⟨U,V⟩:=zf T
  obtain rfl:=Option.some.inj H
  go_enter Try.func8,Try.ntmps8
  go_wp2_with (first|((with_reducible refine gate_dst (N:=3) rfl ?_);refine zbox (N:=3) (cs:=#[.int .i64 b,.int .i64 c]) (t:=23) ?_;intro d hg bT hbox hb;have a:=Aside0.mk hbox;have g:=zge hg HB;have i:=zge hg HB;replace HB:=zbs HB hb;clear hb hbox hg;obtain⟨bd,be,bf,bg⟩:=zc2 a)|((with_reducible refine gate_callee (f:=32) rfl ?_);refine zgc (some 19) Try.func32 (soft_Mul.calls J.out) ?_;intro bU hb;obtain⟨a,HB⟩:=zu1 a HB hb;clear hb;obtain⟨bh,bi,bj,bk⟩:=zc2 a)|((with_reducible refine gate_callee (f:=33) rfl ?_);refine zgc (some 26) Try.func33 (grottoref03_Mul.calls M.out) ?_;intro bV hb;obtain⟨a,HB⟩:=zu1 a HB hb;clear hb;obtain⟨bl,bm,bn,bo⟩:=zc2 a)|((with_reducible refine gate_callee (f:=34) rfl ?_);refine zgc (some 33) Try.func34 (soft_Div.calls P.out) ?_;intro bW hb;obtain⟨a,HB⟩:=zu1 a HB hb;clear hb;obtain⟨bp,bq,br,bs⟩:=zc2 a)|((with_reducible refine gate_callee (f:=35) rfl ?_);refine zgc (some 40) Try.func35 (grottoref03_Div.calls S.out) ?_;intro bX hb;obtain⟨a,HB⟩:=zu1 a HB hb;clear hb))
  go_ret
  exact zr HB

 rw[if_pos T] at H
 obtain⟨U,V⟩:=zt T
 clear T
 obtain⟨o,A9,H⟩:=oB H
 by_cases s:o=L
 rotate_left
 ·rw[if_neg s] at H
  obtain⟨y,z⟩:=zf s
  obtain rfl:=Option.some.inj H
  go_enter Try.func8,Try.ntmps8
  go_wp2_with (first|((with_reducible refine gate_dst (N:=3) rfl ?_);refine zbox (N:=3) (cs:=#[.int .i64 b,.int .i64 c]) (t:=23) ?_;intro d hg bO hbox hb;have a:=Aside0.mk hbox;have g:=zge hg HB;have i:=zge hg HB;replace HB:=zbs HB hb;clear hb hbox hg;obtain⟨aV,aW,aX,aY⟩:=zc2 a)|((with_reducible refine gate_callee (f:=32) rfl ?_);refine zgc (some 19) Try.func32 (soft_Mul.calls J.out) ?_;intro bP hb;obtain⟨a,HB⟩:=zu1 a HB hb;clear hb;obtain⟨aZ,a0,a3,a4⟩:=zc2 a)|((with_reducible refine gate_callee (f:=33) rfl ?_);refine zgc (some 26) Try.func33 (grottoref03_Mul.calls M.out) ?_;intro bQ hb;obtain⟨a,HB⟩:=zu1 a HB hb;clear hb;obtain⟨a5,a6,a7,a8⟩:=zc2 a)|((with_reducible refine gate_callee (f:=34) rfl ?_);refine zgc (some 33) Try.func34 (soft_Div.calls P.out) ?_;intro bR hb;obtain⟨a,HB⟩:=zu1 a HB hb;clear hb;obtain⟨a9,ba,bb,bc⟩:=zc2 a)|((with_reducible refine gate_callee (f:=35) rfl ?_);refine zgc (some 40) Try.func35 (grottoref03_Div.calls S.out) ?_;intro bS hb;obtain⟨a,HB⟩:=zu1 a HB hb;clear hb)|(go_at_call 18;(with_reducible refine (grottolaw03_num.calls A9.out).mono ?_);rintro e w' ⟨rfl,⟨nd,rfl⟩⟩))
  go_ret
  exact zr HB
 rw[if_pos s] at H
 obtain⟨y,z⟩:=zt s
 clear s
 by_cases u:O=Q
 ·rw[if_pos u] at H
  obtain⟨B,C⟩:=zt u
  clear u
  obtain⟨p,W,H⟩:=oB H
  by_cases v:p=R
  ·rw[if_pos v] at H
   obtain⟨D,E⟩:=zt v
   clear v
   obtain⟨q,bu,H⟩:=oB H
   obtain rfl:=Option.some.inj H
   go_enter Try.func8,Try.ntmps8
   go_wp2_with (first|((with_reducible refine gate_dst (N:=3) rfl ?_);refine zbox (N:=3) (cs:=#[.int .i64 b,.int .i64 c]) (t:=23) ?_;intro d hg bx hbox hb;have a:=Aside0.mk hbox;have g:=zge hg HB;have i:=zge hg HB;replace HB:=zbs HB hb;clear hb hbox hg;obtain⟨X,Y,Z,aa⟩:=zc2 a)|((with_reducible refine gate_callee (f:=32) rfl ?_);refine zgc (some 19) Try.func32 (soft_Mul.calls J.out) ?_;intro bz hb;obtain⟨a,HB⟩:=zu1 a HB hb;clear hb;obtain⟨ab,ac,ad,ae⟩:=zc2 a)|((with_reducible refine gate_callee (f:=33) rfl ?_);refine zgc (some 26) Try.func33 (grottoref03_Mul.calls M.out) ?_;intro bA hb;obtain⟨a,HB⟩:=zu1 a HB hb;clear hb;obtain⟨af,ag,ah,ai⟩:=zc2 a)|((with_reducible refine gate_callee (f:=34) rfl ?_);refine zgc (some 33) Try.func34 (soft_Div.calls P.out) ?_;intro bB hb;obtain⟨a,HB⟩:=zu1 a HB hb;clear hb;obtain⟨aj,ak,al,am⟩:=zc2 a)|((with_reducible refine gate_callee (f:=35) rfl ?_);refine zgc (some 40) Try.func35 (grottoref03_Div.calls S.out) ?_;intro bC hb;obtain⟨a,HB⟩:=zu1 a HB hb;clear hb)|(go_at_call 18;(with_reducible refine (grottolaw03_num.calls A9.out).mono ?_);rintro e w' ⟨rfl,⟨nd,rfl⟩⟩)|(go_at_call 18;(with_reducible refine (grottolaw03_num.calls W.out).mono ?_);rintro e w' ⟨rfl,⟨nd,rfl⟩⟩)|(go_at_call 19;(with_reducible refine (grottolaw03_live.calls k  q _ bu.out).mono ?_);rintro e bD ⟨rfl,hb⟩;obtain⟨a,HB⟩:=zu1 a HB hb;clear hb))
   go_ret
   exact zr HB
  rw[if_neg v] at H
  obtain⟨D,E⟩:=zf v
  obtain rfl:=Option.some.inj H
  go_enter Try.func8,Try.ntmps8
  go_wp2_with (first|((with_reducible refine gate_dst (N:=3) rfl ?_);refine zbox (N:=3) (cs:=#[.int .i64 b,.int .i64 c]) (t:=23) ?_;intro d hg bE hbox hb;have a:=Aside0.mk hbox;have g:=zge hg HB;have i:=zge hg HB;replace HB:=zbs HB hb;clear hb hbox hg;obtain⟨an,ao,ap,aq⟩:=zc2 a)|((with_reducible refine gate_callee (f:=32) rfl ?_);refine zgc (some 19) Try.func32 (soft_Mul.calls J.out) ?_;intro bF hb;obtain⟨a,HB⟩:=zu1 a HB hb;clear hb;obtain⟨ar,au,av,aw⟩:=zc2 a)|((with_reducible refine gate_callee (f:=33) rfl ?_);refine zgc (some 26) Try.func33 (grottoref03_Mul.calls M.out) ?_;intro bG hb;obtain⟨a,HB⟩:=zu1 a HB hb;clear hb;obtain⟨ax,ay,az,aA⟩:=zc2 a)|((with_reducible refine gate_callee (f:=34) rfl ?_);refine zgc (some 33) Try.func34 (soft_Div.calls P.out) ?_;intro bH hb;obtain⟨a,HB⟩:=zu1 a HB hb;clear hb;obtain⟨aB,aC,aD,aE⟩:=zc2 a)|((with_reducible refine gate_callee (f:=35) rfl ?_);refine zgc (some 40) Try.func35 (grottoref03_Div.calls S.out) ?_;intro bI hb;obtain⟨a,HB⟩:=zu1 a HB hb;clear hb)|(go_at_call 18;(with_reducible refine (grottolaw03_num.calls A9.out).mono ?_);rintro e w' ⟨rfl,⟨nd,rfl⟩⟩)|(go_at_call 18;(with_reducible refine (grottolaw03_num.calls W.out).mono ?_);rintro e w' ⟨rfl,⟨nd,rfl⟩⟩))
  go_ret
  exact zr HB
 rw[if_neg u] at H
 obtain⟨B,C⟩:=zf u
 obtain rfl:=Option.some.inj H
 go_enter Try.func8,Try.ntmps8
 go_wp2_with (first|((with_reducible refine gate_dst (N:=3) rfl ?_);refine zbox (N:=3) (cs:=#[.int .i64 b,.int .i64 c]) (t:=23) ?_;intro d hg bJ hbox hb;have a:=Aside0.mk hbox;have g:=zge hg HB;have i:=zge hg HB;replace HB:=zbs HB hb;clear hb hbox hg;obtain⟨aF,aG,aH,aI⟩:=zc2 a)|((with_reducible refine gate_callee (f:=32) rfl ?_);refine zgc (some 19) Try.func32 (soft_Mul.calls J.out) ?_;intro bK hb;obtain⟨a,HB⟩:=zu1 a HB hb;clear hb;obtain⟨aJ,aK,aL,aM⟩:=zc2 a)|((with_reducible refine gate_callee (f:=33) rfl ?_);refine zgc (some 26) Try.func33 (grottoref03_Mul.calls M.out) ?_;intro bL hb;obtain⟨a,HB⟩:=zu1 a HB hb;clear hb;obtain⟨aN,aO,aP,aQ⟩:=zc2 a)|((with_reducible refine gate_callee (f:=34) rfl ?_);refine zgc (some 33) Try.func34 (soft_Div.calls P.out) ?_;intro bM hb;obtain⟨a,HB⟩:=zu1 a HB hb;clear hb;obtain⟨aR,aS,aT,aU⟩:=zc2 a)|((with_reducible refine gate_callee (f:=35) rfl ?_);refine zgc (some 40) Try.func35 (grottoref03_Div.calls S.out) ?_;intro bN hb;obtain⟨a,HB⟩:=zu1 a HB hb;clear hb)|(go_at_call 18;(with_reducible refine (grottolaw03_num.calls A9.out).mono ?_);rintro e w' ⟨rfl,⟨nd,rfl⟩⟩))
 go_ret
 exact zr HB
end Go.Proofs.Ytmmbgbchimangaa.PQ
