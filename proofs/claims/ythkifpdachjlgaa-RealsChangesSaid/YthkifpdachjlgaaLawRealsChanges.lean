/- The row of the law RealsChanges, out of its pure statement and the walk. -/
import Derived.Test.YthkifpdachjlgaaRows
import Derived.Test.YthkifpdachjlgaaPQx41
import Derived.Test.YthkifpdachjlgaaPureRealsChanges
import Derived.WalkKit
import Derived.ProofKit
import Derived.OpenShut
import Derived.ShutString
import Derived.ChangeOld
import Derived.Below
import Derived.SizedLaws
import Derived.Lib.SmallJoins
namespace Go.Proofs.Ythkifpdachjlgaa.realsChanges
open Go.ChangeShapes Go.WideShapes Go.ChangeAt Go.RowKit
open Go.ChangeMaps (open_string shut_string)
set_option linter.unusedVariables false
theorem and_true_of {a b:Bool} (h:a=true) (k:b=true):(a && b)=true:=by rw[h,k];rfl
theorem own:ownKnob Try.prog.godebug=none:=by kernel_rfl
theorem walk (a0:Int) (a1:Int) (w:World) (w0:(Lit.int .u32 a0).wf=true) (w1:(Lit.int .u64 a1).wf=true) :
    Calls Try.prog 10 #[.int .u32 a0,.int .u64 a1] w fun e w'=>e=.returned (.bool true)∧Below w.heap.size w w':=by
  obtain⟨k,h⟩:=Pure.RealsChanges a0 a1 w0 w1
  exact PQ.grottolaw04_RealsChanges.calls h
set_option maxRecDepth 100000 in
theorem lifted (os:Os) (started:os.Started) (H:Type) (enc:TypeId×Value→H) :
    ReturnsInHanded {} Try.checked os 10 .any (Rows.realsChangesSpec.pre6 enc Try.prog Try.f10 Rows.realsChangesRow.domain false) (Rows.realsChangesSpec.post enc Try.prog Try.f10 false true false false):=by
  refine returnsInHanded_of_change_sized (C:=Try.checked) own started (by kernel_rfl) Try.func10
    (ChangeSpec.witness6 (enc:=enc) (C:=Try.checked) false ⟨#[],#[.int .u32 0,.int .u64 0],[]⟩ 8 (by kernel_rfl) (by kernel_rfl) (by kernel_rfl) (by kernel_rfl)) ?_
  intro W base args ds gs before hval0 hW hcnd hsz0 _
  have hval:∀ (j:Nat) t v,Try.f10.params[j]?=some t→args[j]?=some v→Value.okWide Try.prog W .any base t v:=hval0
  have hW':=hW
  obtain⟨p,q,hA0,hV,rfl,hfz,hnd⟩:=hW
  have hA:DataW.TrodAll enc Try.prog W 0 (fun _=>true) true Try.f10.params.toList args.toList ds p:=hA0
  rw[Try.params10] at hA hval
  obtain⟨v0,vs0,d0,ds0,p0,q0,hargs,rfl,rfl,h0,r0⟩:=trodAll_cons hA
  obtain⟨v1,vs1,d1,ds1,p1,q1,rfl,rfl,rfl,h1,r1⟩:=trodAll_cons r0
  obtain⟨rfl,rfl,rfl⟩:=trodAll_nil r1
  obtain rfl:args=#[v0,v1]:=by cases args;simp_all
  obtain⟨rfl,rfl⟩:=trodVars_none hV
  obtain⟨a0,rfl,rfl,rfl,w0⟩:=open_int Try.underlying22 (hval 0 22 v0 rfl rfl) h0
  obtain⟨a1,rfl,rfl,rfl,w1⟩:=open_int Try.underlying26 (hval 1 26 v1 rfl rfl) h1
  clear hA0 hval0 hsz0
  refine (walk a0 a1 W w0 w1).mono fun e W' ⟨he,bel⟩=>?_
  subst he
  exact⟨_,rfl,_,_,_,[],_,[],hW',trodAll_mk1 (shut_bool Try.underlying4 _),(trodAll_cons_mk (shut_int Try.underlying22 w0) (trodAll_cons_mk (shut_int Try.underlying26 w1) trodAll_mk0)),rfl,bel.frame _,fun h=>by cases h⟩
theorem named:Try.pinned.checked.prog.funcNamed Rows.realsChangesRow.func=some 10:=by kernel_rfl
theorem k2:laidOutB Try.prog=true:=by kernel_rfl
theorem k3:mapsRowed Try.prog=true:=by kernel_rfl
theorem k10:(Rows.realsChangesRow.inPlace==Try.prog.inPlace 10)=true:=by kernel_rfl
theorem k11:(Rows.realsChangesRow.unfollowed==Try.prog.unfollowed 10)=true:=by kernel_rfl
theorem k12:(Rows.realsChangesRow.recurses==Try.prog.recurses 10)=true:=by kernel_rfl
theorem k13:(Rows.realsChangesRow.named==Try.prog.varsNamed 10)=true:=by kernel_rfl
theorem k22:(Rows.realsChangesRow.plainKeys==Try.prog.plainKeys)=true:=by kernel_rfl
set_option maxHeartbeats 8000000 in
theorem closed:joinedFacts Try.pinned.checked.prog 10 Try.f10 Rows.realsChangesSpec Rows.realsChangesRow=true:=by
  unfold joinedFacts
  repeat' (with_reducible refine and_true_of ?_ ?_)
  all_goals first|with_reducible exact k2|with_reducible exact k3|with_reducible exact k10|with_reducible exact k11|with_reducible exact k12|with_reducible exact k13|with_reducible exact k22|(as_aux_lemma=>kernel_rfl)
theorem inst:Func.isInstance Try.pinned.checked.prog Try.f10 Rows.realsChangesRow.origin Rows.realsChangesRow.targs:=of_decide_eq_true (by kernel_rfl)
theorem wrap:Func.isWrapper Try.pinned.checked.prog Try.f10 Rows.realsChangesRow.wrapper Rows.realsChangesRow.mainSum:=by unfold Func.isWrapper;first|(rw[if_pos (by decide +kernel)];kernel_rfl)|(rw[if_neg (by decide +kernel)];exact⟨rfl,rfl⟩)
theorem over:Rows.realsChangesRow.holds Try.pinned (OpenSpec.ofChange Rows.realsChangesSpec):=
  OpenClaim.holds_of_wide 10 Try.f10 rfl rfl rfl rfl rfl rfl rfl ⟨rfl,rfl,rfl,rfl,rfl⟩ rfl rfl rfl rfl rfl named Try.func10 closed inst wrap
    (fun os started H enc _=>lifted os started H enc)
theorem proved:Rows.RealsChangesSaid:=over
end Go.Proofs.Ythkifpdachjlgaa.realsChanges
namespace Go.Proofs.Ythkifpdachjlgaa
/-- The row, under a short name, for the claim. -/
theorem realsChanges_holds:Rows.RealsChangesSaid:=realsChanges.proved
#print axioms realsChanges_holds
end Go.Proofs.Ythkifpdachjlgaa
