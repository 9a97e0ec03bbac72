-- by a program of this claim
import Derived.Test.YthkifpdachjlgaaPQx0
import Derived.Test.YthkifpdachjlgaaPQx10
import Derived.Test.YthkifpdachjlgaaPQx13
namespace Go.Proofs.Ythkifpdachjlgaa.PQ
open Go.RowKit Go.Proofs.YthkifpdachjlgaaW.PrintWords Go.Proofs.YthkifpdachjlgaaW.PrintLast Go.Proofs.YthkifpdachjlgaaW.PrintMore Go.Proofs.Ythkifpdachjlgaa.Z
attribute [local go_sem] max2_int min2_int max_two min_two max_three min_three max_four min_four   -- for this text's walks alone
set_option linter.unusedVariables false
set_option linter.unusedSimpArgs false

/-! ### grottoref04_Of: function 21 -/
def grottoref04_Of.f (k:Nat) (a0:Bool) (a1:Int):Option (Int):=if a1≥2147483648 then ((grottoref04_Format.f a0).bind fun a=>((grottoref02_NatOf.f k (IntKind.u64.wrap (4294967296-(IntKind.u64.wrap (a1))))).bind fun c=>((grottoref02_Near.f k a.1 a.2 true c (([1]:List Int)) 0).bind fun d=>(some d)))) else ((grottoref04_Format.f a0).bind fun b=>((grottoref02_NatOf.f k (IntKind.u64.wrap (a1))).bind fun e=>((grottoref02_Near.f k b.1 b.2 false e (([1]:List Int)) 0).bind fun g=>(some g))))
theorem grottoref04_Of.mono:∀ a0 a1 k,LeO (grottoref04_Of.f k a0 a1) (grottoref04_Of.f (k+1) a0 a1):=by
 intro a0 a1 k
 unfold grottoref04_Of.f
 repeat' first|(with_reducible first|apply grottoref02_NatOf.mono|apply grottoref02_Near.mono|exact LeO.refl _|exact LeO.none _|refine LeO.ite ?_ ?_|refine LeO.bind ?_ (fun _=>?_))|refine LeO.ite ?_ ?_|refine LeO.bind ?_ (fun _=>?_)
set_option maxHeartbeats 8000000 in
set_option maxRecDepth 100000 in
theorem grottoref04_Of.calls {k:Nat} {R:Bool} {y:Int} {r:Int} {w:World} (h:grottoref04_Of.f k R y=some r) :
  Calls Try.prog 21 #[.bool R,.int .u32 y] w fun e w'=>e=.returned (.int .u64 r)∧Below w.heap.size w w':=by
 have HB:=Aside0.mk (Below.refl w.heap.size w)
 have H:=h
 unfold grottoref04_Of.f at H
 clear h
 by_cases J:y≥2147483648
 ·rw[if_pos J] at H
  have K:decide (2147483648≤y)=true:=decide_eq_true J
  clear J
  obtain⟨⟨m,n⟩,V,H⟩:=oB H
  try dsimp only at H
  obtain⟨c,W,H⟩:=oB H
  obtain⟨y1134,hy1134⟩:∃ y_:List Int,y_=(([1]:List Int)):=⟨_,rfl⟩
  replace H:((grottoref02_Near.f k m n true c y1134 0).bind fun j=>(some j))=some r:=by first|(rw[hy1134];with_reducible exact H)|(have H2_:=(Option.bind_some _ _).symm.trans H;rw[hy1134];with_reducible exact H2_)|(have H2_:=(Option.bind_some _ _).symm.trans H;with_reducible exact H2_)|with_reducible exact H|(rw[hy1134];exact H)|exact H
  have u:=Aside0.mk hy1134
  clear hy1134
  obtain⟨j,X,H⟩:=oB H
  obtain rfl:=Option.some.inj H
  go_enter Try.func21,Try.ntmps21
  go_wp2_with (first|((with_reducible refine gate_callee (f:=33) rfl ?_);refine zgc (some 8) Try.func33 (grottoref04_Format.calls V.out) ?_;intro w7 hb;replace HB:=zbs HB hb;clear hb)|((with_reducible refine gate_callee (f:=51) rfl ?_);refine zgo (some 12) Try.func51 #[.int .u64 (IntKind.u64.wrap (4294967296-(IntKind.u64.wrap (y))))] ?_;(with_reducible refine (grottoref02_NatOf.calls W.out).mono ?_);rintro e w8 ⟨v1132,rfl,ho0,hb⟩;refine⟨_,rfl,?_⟩;have a:=Aside0.mk (Kd.R_lower ho0 (below_size (zb HB)));replace HB:=zbs HB hb;clear hb;(try clear ho0))|((with_reducible refine gate_dst (N:=13) rfl ?_);refine Kd.R_lit (Kd.int .i64) _ 3 ?hg (N:=13) ?hd (xs:=([1]:List Int)) (inner:=[.int .i64 1]) (ok:=fun _=>True) (okp:=fun _=>True) ?hr ?hp (fun _ hk=>hk) trivial (Below.refl _ _) (Nat.le_refl _) (by simp) ?_;(case hd=>rfl);(case hg=>rfl);(case hr=>first|(go_simp;done)|(go_simp;rfl));(case hp=>exact (Reps.one (show Kd.M (Kd.int .i64) _ _ _ 1 [.int .i64 1] from rfl) (Reps.none _ _)));intro v1135 w9 ho10 hb hg_ hnew_;clear hg_ hnew_;(first|rw[←u.out] at ho10|(simp only[Int.reduceToNat] at ho10;rw[←u.out] at ho10));have g:=Aside0.mk (Kd.R_lower (Kd.R_new' ho10 (Kd.R_lt (by (with_reducible repeat (first|apply Kd.R_alloc|apply Kd.R_drewN|apply Kd.R_drew));exact a.out))) (below_size (zb HB)));replace a:=Aside0.mk (Kd.R_elder' (by (with_reducible repeat (first|apply Kd.R_alloc|apply Kd.R_drewN|apply Kd.R_drew));exact a.out) (Kd.R_base ho10) hb);replace HB:=zbs HB hb;clear hb ho10;obtain⟨z,B,L⟩:=Kd.R_slice a.out;subst L;obtain⟨C,D,O⟩:=Kd.R_slice g.out;subst O)|((with_reducible refine gate_callee (f:=50) rfl ?_);refine zgo (some 14) Try.func50 #[.agg #[.int .i64 m,.int .i64 n],.bool true,.slice z c.length B,.slice C y1134.length D,.int .i64 0] ?_;(with_reducible refine (grottoref02_Near.calls k m n true (fun k_=>some k_=(.slice z c.length B:Value).ownBlock) _ _ c (fun k_=>some k_=(.slice C y1134.length D:Value).ownBlock) _ _ y1134 0 j _ ?side1 ?side2 X.out).mono ?_);(case side1=>exact Kd.R_V (Kd.R_tight rfl (a.out)));(case side2=>exact Kd.R_V (Kd.R_tight rfl (g.out)));rintro e Y ⟨rfl,hb⟩;refine⟨_,rfl,?_⟩;replace a:=Aside0.mk (Kd.R_below (by (with_reducible repeat (first|apply Kd.R_alloc|apply Kd.R_drewN|apply Kd.R_drew));exact a.out) hb);replace g:=Aside0.mk (Kd.R_below (by (with_reducible repeat (first|apply Kd.R_alloc|apply Kd.R_drewN|apply Kd.R_drew));exact g.out) hb);replace HB:=zbs HB hb;clear hb))
  go_ret
  exact zr HB
 rw[if_neg J] at H
 have K:decide (2147483648≤y)=false:=decide_eq_false J
 clear J
 obtain⟨⟨o,p⟩,S,H⟩:=oB H
 try dsimp only at H
 obtain⟨d,T,H⟩:=oB H
 obtain⟨y1143,hy1143⟩:∃ y_:List Int,y_=(([1]:List Int)):=⟨_,rfl⟩
 replace H:((grottoref02_Near.f k o p false d y1143 0).bind fun l=>(some l))=some r:=by first|(rw[hy1143];with_reducible exact H)|(have H2_:=(Option.bind_some _ _).symm.trans H;rw[hy1143];with_reducible exact H2_)|(have H2_:=(Option.bind_some _ _).symm.trans H;with_reducible exact H2_)|with_reducible exact H|(rw[hy1143];exact H)|exact H
 have v:=Aside0.mk hy1143
 clear hy1143
 obtain⟨l,U,H⟩:=oB H
 obtain rfl:=Option.some.inj H
 go_enter Try.func21,Try.ntmps21
 go_wp2_with (first|((with_reducible refine gate_callee (f:=33) rfl ?_);refine zgc (some 16) Try.func33 (grottoref04_Format.calls S.out) ?_;intro Z hb;replace HB:=zbs HB hb;clear hb)|((with_reducible refine gate_callee (f:=51) rfl ?_);refine zgo (some 19) Try.func51 #[.int .u64 (IntKind.u64.wrap (y))] ?_;(with_reducible refine (grottoref02_NatOf.calls T.out).mono ?_);rintro e aa ⟨v1141,rfl,ho0,hb⟩;refine⟨_,rfl,?_⟩;have b:=Aside0.mk (Kd.R_lower ho0 (below_size (zb HB)));replace HB:=zbs HB hb;clear hb;(try clear ho0))|((with_reducible refine gate_dst (N:=20) rfl ?_);refine Kd.R_lit (Kd.int .i64) _ 3 ?hg (N:=20) ?hd (xs:=([1]:List Int)) (inner:=[.int .i64 1]) (ok:=fun _=>True) (okp:=fun _=>True) ?hr ?hp (fun _ hk=>hk) trivial (Below.refl _ _) (Nat.le_refl _) (by simp) ?_;(case hd=>rfl);(case hg=>rfl);(case hr=>first|(go_simp;done)|(go_simp;rfl));(case hp=>exact (Reps.one (show Kd.M (Kd.int .i64) _ _ _ 1 [.int .i64 1] from rfl) (Reps.none _ _)));intro v1144 ab ho20 hb hg_ hnew_;clear hg_ hnew_;(first|rw[←v.out] at ho20|(simp only[Int.reduceToNat] at ho20;rw[←v.out] at ho20));have i:=Aside0.mk (Kd.R_lower (Kd.R_new' ho20 (Kd.R_lt (by (with_reducible repeat (first|apply Kd.R_alloc|apply Kd.R_drewN|apply Kd.R_drew));exact b.out))) (below_size (zb HB)));replace b:=Aside0.mk (Kd.R_elder' (by (with_reducible repeat (first|apply Kd.R_alloc|apply Kd.R_drewN|apply Kd.R_drew));exact b.out) (Kd.R_base ho20) hb);replace HB:=zbs HB hb;clear hb ho20;obtain⟨E,F,P⟩:=Kd.R_slice b.out;subst P;obtain⟨G,I,Q⟩:=Kd.R_slice i.out;subst Q)|((with_reducible refine gate_callee (f:=50) rfl ?_);refine zgo (some 21) Try.func50 #[.agg #[.int .i64 o,.int .i64 p],.bool false,.slice E d.length F,.slice G y1143.length I,.int .i64 0] ?_;(with_reducible refine (grottoref02_Near.calls k o p false (fun k_=>some k_=(.slice E d.length F:Value).ownBlock) _ _ d (fun k_=>some k_=(.slice G y1143.length I:Value).ownBlock) _ _ y1143 0 l _ ?side1 ?side2 U.out).mono ?_);(case side1=>exact Kd.R_V (Kd.R_tight rfl (b.out)));(case side2=>exact Kd.R_V (Kd.R_tight rfl (i.out)));rintro e ac ⟨rfl,hb⟩;refine⟨_,rfl,?_⟩;replace b:=Aside0.mk (Kd.R_below (by (with_reducible repeat (first|apply Kd.R_alloc|apply Kd.R_drewN|apply Kd.R_drew));exact b.out) hb);replace i:=Aside0.mk (Kd.R_below (by (with_reducible repeat (first|apply Kd.R_alloc|apply Kd.R_drewN|apply Kd.R_drew));exact i.out) hb);replace HB:=zbs HB hb;clear hb))
 go_ret
 exact zr HB

end Go.Proofs.Ythkifpdachjlgaa.PQ
