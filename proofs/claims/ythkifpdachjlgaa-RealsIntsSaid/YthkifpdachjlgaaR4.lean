/- What the package reals makes of singles and doubles: one as the other, what is held of them. -/
import Derived.Test.YthkifpdachjlgaaPQx9
import Derived.Test.YthkifpdachjlgaaPQx8
import Derived.Test.YthkifpdachjlgaaSC
import Derived.Test.YthkifpdachjlgaaSK
import Derived.Test.YthkifpdachjlgaaPT0
namespace Go.Proofs.Ythkifpdachjlgaa.RS
set_option linter.all false
open Go.RowKit Go.Proofs.Ythkifpdachjlgaa.PQ Go.Proofs.YthkifpdachjlgaaW.PrintWords Go.Proofs.YthkifpdachjlgaaW.PrintLast Go.Proofs.YthkifpdachjlgaaW.PrintMore
open FT
theorem wf_u32 {a:Int} (h:(Lit.int .u32 a).wf=true):∃ n:Nat,a=(n:Int)∧n<4294967296:=by
  simp[Lit.wf,IntKind.min,IntKind.max,IntKind.signed,IntKind.bits] at h
  exact⟨a.toNat,by omega,by omega⟩
theorem pt_s {a:Nat}:Pt 23 8 a↔a<4294967296:=by unfold Pt;omega
theorem pt_d {a:Nat}:Pt 52 11 a↔a<18446744073709551616:=by unfold Pt;omega
theorem u32_mod {a:Nat} (h:a<4294967296):(a:Int)%4294967296=(a:Int):=by omega
theorem pt_conv {M X M' X':Nat} (hM:2≤M') (hM':M'≤52) (hX:2≤X') (hX':X'≤11) (a:Nat):Pt M' X' (convS M X M' X' a):=by
  have hn:=pt_nan hM hM' hX hX'
  unfold convS
  repeat' split
  all_goals first|exact hn|exact pt_inf _|exact pt_npat _ _ _ _
theorem widen_eq {k x:Nat} (hk:20≤k) (hx:x<4294967296):reals_Widen.f k (x:Int)=some ((convS 23 8 52 11 x:Nat):Int):=by
  have hw:Unit→IntKind.u64.wrap (x:Int)=(x:Int):=fun _=>wuN (by omega)
  have h:=conv_eq (M:=23) (X:=8) (M':=52) (X':=11) (by omega) (by omega) (by omega) (by omega) (by omega) (by omega) (by omega) (by omega) hk (pt_s.2 hx)
  unfold reals_Widen.f reals_single.f reals_double.f
  rw[Option.bind_some,Option.bind_some,hw ()]
  dsimp only
  exact (congrArg (fun o=>o.bind fun bt=>some bt.1) h).trans rfl
theorem narrow_eq {k x:Nat} (hk:20≤k) (hx:x<18446744073709551616):reals_Narrow.f k (x:Int)=some ((convS 52 11 23 8 x:Nat):Int):=by
  have h:=conv_eq (M:=52) (X:=11) (M':=23) (X':=8) (by omega) (by omega) (by omega) (by omega) (by omega) (by omega) (by omega) (by omega) hk (pt_d.2 hx)
  have hp:convS 52 11 23 8 x<4294967296:=by
    rw[←pt_s]
    have hn:=pt_nan (M:=23) (X:=8) (by omega) (by omega) (by omega) (by omega)
    unfold convS
    repeat' split
    all_goals first|exact hn|exact pt_inf _|exact pt_npat _ _ _ _
  unfold reals_Narrow.f reals_single.f reals_double.f
  rw[Option.bind_some,Option.bind_some]
  dsimp only
  refine (congrArg (fun o=>o.bind fun bt=>some (bt.1%4294967296)) h).trans ?_
  exact congrArg some (u32_mod hp)
theorem kind_eq {M X:Nat} (hM:2≤M) (hM':M≤52) (hX:2≤X) (hX':X≤11) {k a:Nat} (hk:4≤k) (ha:Pt M X a):reals_kind.f k (M:Int) (X:Int) (a:Int)=some ((kd M X a:Nat):Int):=by
  unfold reals_kind.f
  rw[open_pt hM hM' hX hX' hk ha,Option.bind_some]
theorem snan_eq {k x:Nat} (hk:30≤k) (hx:x<4294967296):reals_SingleHolds.f k 7 (x:Int) 0 0=some (decide (kd 23 8 x=4)):=by
  have hw:Unit→IntKind.u64.wrap (x:Int)=(x:Int):=fun _=>wuN (by omega)
  have hw0:IntKind.u64.wrap 0=((0:Nat):Int):=by decide +kernel
  have c:=cmp_f (M:=23) (X:=8) (by omega) (by omega) (by omega) (by omega) (k:=k) (by omega) (pt_s.2 hx) (pt_s.2 (show 0<4294967296 by omega))
  have kk:=kind_eq (M:=23) (X:=8) (by omega) (by omega) (by omega) (by omega) (k:=k) (by omega) (pt_s.2 hx)
  have z1:((23:Nat):Int)=23:=rfl
  have z2:((8:Nat):Int)=8:=rfl
  rw[z1,z2] at c kk
  unfold reals_SingleHolds.f reals_single.f reals_holds_uint32.f
  rw[Option.bind_some]
  dsimp only
  rw[hw (),hw0,c,Option.bind_some,if_neg (by decide),if_neg (by decide),if_neg (by decide),if_neg (by decide),if_neg (by decide),if_neg (by decide),if_pos rfl,kk,Option.bind_some,Option.bind_some]
  congr 1
  by_cases h:kd 23 8 x=4
  · rw[decide_eq_true h,h];rfl
  · rw[decide_eq_false h];exact beq_eq_false_iff_ne.2 (by omega)
end Go.Proofs.Ythkifpdachjlgaa.RS
