/- The row of the law RealsInts, out of its pure statement and the walk. -/
import Derived.Test.YthkifpdachjlgaaRows
import Derived.Test.YthkifpdachjlgaaPQx36
import Derived.Test.YthkifpdachjlgaaPureRealsInts
import Derived.WalkKit
import Derived.ProofKit
import Derived.OpenShut
import Derived.ShutString
import Derived.ChangeOld
import Derived.Below
import Derived.SizedLaws
import Derived.Lib.SmallJoins
namespace Go.Proofs.Ythkifpdachjlgaa.realsInts
open Go.ChangeShapes Go.WideShapes Go.ChangeAt Go.RowKit
open Go.ChangeMaps (open_string shut_string)
set_option linter.unusedVariables false
theorem and_true_of {a b:Bool} (h:a=true) (k:b=true):(a && b)=true:=by rw[h,k];rfl
theorem own:ownKnob Try.prog.godebug=none:=by kernel_rfl
theorem walk (a0:Int) (a1:Int) (a2:Int) (a3:Bool) (w:World) (w0:(Lit.int .u32 a0).wf=true) (w1:(Lit.int .u32 a1).wf=true) (w2:(Lit.int .u64 a2).wf=true) :
    Calls Try.prog 7 #[.int .u32 a0,.int .u32 a1,.int .u64 a2,.bool a3] w fun e w'=>e=.returned (.bool true)∧Below w.heap.size w w':=by
  obtain⟨k,h⟩:=Pure.RealsInts a0 a1 a2 a3 w0 w1 w2
  exact PQ.grottolaw04_RealsInts.calls h
set_option maxRecDepth 100000 in
theorem lifted (os:Os) (started:os.Started) (H:Type) (enc:TypeId×Value→H) :
    ReturnsInHanded {} Try.checked os 7 .any (Rows.realsIntsSpec.pre6 enc Try.prog Try.f7 Rows.realsIntsRow.domain false) (Rows.realsIntsSpec.post enc Try.prog Try.f7 false true false false):=by
  refine returnsInHanded_of_change_sized (C:=Try.checked) own started (by kernel_rfl) Try.func7
    (ChangeSpec.witness6 (enc:=enc) (C:=Try.checked) false ⟨#[],#[.int .u32 0,.int .u32 0,.int .u64 0,.bool false],[]⟩ 8 (by kernel_rfl) (by kernel_rfl) (by kernel_rfl) (by kernel_rfl)) ?_
  intro W base args ds gs before hval0 hW hcnd hsz0 _
  have hval:∀ (j:Nat) t v,Try.f7.params[j]?=some t→args[j]?=some v→Value.okWide Try.prog W .any base t v:=hval0
  have hW':=hW
  obtain⟨p,q,hA0,hV,rfl,hfz,hnd⟩:=hW
  have hA:DataW.TrodAll enc Try.prog W 0 (fun _=>true) true Try.f7.params.toList args.toList ds p:=hA0
  rw[Try.params7] at hA hval
  obtain⟨v0,vs0,d0,ds0,p0,q0,hargs,rfl,rfl,h0,r0⟩:=trodAll_cons hA
  obtain⟨v1,vs1,d1,ds1,p1,q1,rfl,rfl,rfl,h1,r1⟩:=trodAll_cons r0
  obtain⟨v2,vs2,d2,ds2,p2,q2,rfl,rfl,rfl,h2,r2⟩:=trodAll_cons r1
  obtain⟨v3,vs3,d3,ds3,p3,q3,rfl,rfl,rfl,h3,r3⟩:=trodAll_cons r2
  obtain⟨rfl,rfl,rfl⟩:=trodAll_nil r3
  obtain rfl:args=#[v0,v1,v2,v3]:=by cases args;simp_all
  obtain⟨rfl,rfl⟩:=trodVars_none hV
  obtain⟨a0,rfl,rfl,rfl,w0⟩:=open_int Try.underlying22 (hval 0 22 v0 rfl rfl) h0
  obtain⟨a1,rfl,rfl,rfl,w1⟩:=open_int Try.underlying22 (hval 1 22 v1 rfl rfl) h1
  obtain⟨a2,rfl,rfl,rfl,w2⟩:=open_int Try.underlying26 (hval 2 26 v2 rfl rfl) h2
  obtain⟨a3,rfl,rfl,rfl⟩:=open_bool Try.underlying4 (hval 3 4 v3 rfl rfl) h3
  clear hA0 hval0 hsz0
  refine (walk a0 a1 a2 a3 W w0 w1 w2).mono fun e W' ⟨he,bel⟩=>?_
  subst he
  exact⟨_,rfl,_,_,_,[],_,[],hW',trodAll_mk1 (shut_bool Try.underlying4 _),(trodAll_cons_mk (shut_int Try.underlying22 w0) (trodAll_cons_mk (shut_int Try.underlying22 w1) (trodAll_cons_mk (shut_int Try.underlying26 w2) (trodAll_cons_mk (shut_bool Try.underlying4 _) trodAll_mk0)))),rfl,bel.frame _,fun h=>by cases h⟩
theorem named:Try.pinned.checked.prog.funcNamed Rows.realsIntsRow.func=some 7:=by kernel_rfl
theorem k2:laidOutB Try.prog=true:=by kernel_rfl
theorem k3:mapsRowed Try.prog=true:=by kernel_rfl
theorem k10:(Rows.realsIntsRow.inPlace==Try.prog.inPlace 7)=true:=by kernel_rfl
theorem k11:(Rows.realsIntsRow.unfollowed==Try.prog.unfollowed 7)=true:=by kernel_rfl
theorem k12:(Rows.realsIntsRow.recurses==Try.prog.recurses 7)=true:=by kernel_rfl
theorem k13:(Rows.realsIntsRow.named==Try.prog.varsNamed 7)=true:=by kernel_rfl
theorem k22:(Rows.realsIntsRow.plainKeys==Try.prog.plainKeys)=true:=by kernel_rfl
set_option maxHeartbeats 8000000 in
theorem closed:joinedFacts Try.pinned.checked.prog 7 Try.f7 Rows.realsIntsSpec Rows.realsIntsRow=true:=by
  unfold joinedFacts
  repeat' (with_reducible refine and_true_of ?_ ?_)
  all_goals first|with_reducible exact k2|with_reducible exact k3|with_reducible exact k10|with_reducible exact k11|with_reducible exact k12|with_reducible exact k13|with_reducible exact k22|(as_aux_lemma=>kernel_rfl)
theorem inst:Func.isInstance Try.pinned.checked.prog Try.f7 Rows.realsIntsRow.origin Rows.realsIntsRow.targs:=of_decide_eq_true (by kernel_rfl)
theorem wrap:Func.isWrapper Try.pinned.checked.prog Try.f7 Rows.realsIntsRow.wrapper Rows.realsIntsRow.mainSum:=by unfold Func.isWrapper;first|(rw[if_pos (by decide +kernel)];kernel_rfl)|(rw[if_neg (by decide +kernel)];exact⟨rfl,rfl⟩)
theorem over:Rows.realsIntsRow.holds Try.pinned (OpenSpec.ofChange Rows.realsIntsSpec):=
  OpenClaim.holds_of_wide 7 Try.f7 rfl rfl rfl rfl rfl rfl rfl ⟨rfl,rfl,rfl,rfl,rfl⟩ rfl rfl rfl rfl rfl named Try.func7 closed inst wrap
    (fun os started H enc _=>lifted os started H enc)
theorem proved:Rows.RealsIntsSaid:=over
end Go.Proofs.Ythkifpdachjlgaa.realsInts
namespace Go.Proofs.Ythkifpdachjlgaa
/-- The row, under a short name, for the claim. -/
theorem realsInts_holds:Rows.RealsIntsSaid:=realsInts.proved
#print axioms realsInts_holds
end Go.Proofs.Ythkifpdachjlgaa
