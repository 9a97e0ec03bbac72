/- Integers as singles and doubles, and back. -/
import Derived.Test.YthkifpdachjlgaaPQx9
import Derived.Test.YthkifpdachjlgaaPQx8
import Derived.Test.YthkifpdachjlgaaR4
import Derived.Test.YthkifpdachjlgaaSX
import Derived.Test.YthkifpdachjlgaaPT0
import Derived.Test.YthkifpdachjlgaaVI
import Derived.Test.YthkifpdachjlgaaFT3
namespace Go.Proofs.Ythkifpdachjlgaa.RS
set_option linter.all false
open Go.RowKit Go.Proofs.Ythkifpdachjlgaa.PQ Go.Proofs.YthkifpdachjlgaaW.PrintWords Go.Proofs.YthkifpdachjlgaaW.PrintLast Go.Proofs.YthkifpdachjlgaaW.PrintMore
open FT
/-- a whole number as a pattern -/
def ofZ (M X:Nat) (z:Int):Nat:=sgn M X (decide (z<0))+npat M X z.natAbs 1 (0-least M X)
theorem pt_ofZ (M X:Nat) (z:Int):Pt M X (ofZ M X z):=pt_npat _ _ _ _
theorem i32_nat {n:Nat} (h:n<4294967296):wrap32 (n:Int)=if n<2147483648 then (n:Int) else (n:Int)-4294967296:=by
  unfold wrap32;split <;> omega
section
variable {M X:Nat} (hM:2≤M) (hM':M≤52) (hX:2≤X) (hX':X≤11)
include hM hM' hX hX'
theorem made_pack {k n:Nat} (hk:3≤k) (hn:n<4294967296) :
    (if ((n:Int)/2147483648)=1 then round_Pack.f k (M:Int) (X:Int) (((n:Int)/2147483648)==1) 0 (IntKind.u64.wrap (4294967296-(IntKind.u64.wrap (n:Int)))) 0 false else round_Pack.f k (M:Int) (X:Int) (((n:Int)/2147483648)==1) 0 (IntKind.u64.wrap (n:Int)) 0 false)=some (((ofZ M X (wrap32 (n:Int)):Nat):Int),0):=by
  obtain⟨l1,l2,l3⟩:=least_bounds hM hM' hX hX'
  have z0:((0:Nat):Int)=0:=rfl
  have wn:Unit→IntKind.u64.wrap (n:Int)=(n:Int):=fun _=>wuN (by omega)
  have pk:=fun (neg:Bool) (m:Nat) (hm:m<18446744073709551616)=>pack_gen hM hM' hX hX' (k:=k) hk neg (hi:=0) (lo:=m) (by omega) hm (e:=0) (by omega) (by omega)
  simp only[zero_lo,z0] at pk
  rw[wn (),i32_nat hn]
  unfold ofZ
  by_cases h:n<2147483648
  · have hd:(((n:Int)/2147483648)==1)=false:=beq_eq_false_iff_ne.2 (by omega)
    rw[if_neg (by omega),hd,if_pos h,decide_eq_false (by omega),pk false n (by omega),Int.natAbs_natCast]
  · have hd:(((n:Int)/2147483648)==1)=true:=beq_iff_eq.2 (by omega)
    have w2:Unit→IntKind.u64.wrap (4294967296-(n:Int))=((4294967296-n:Nat):Int):=fun _=>by
      have e:(4294967296-(n:Int))=((4294967296-n:Nat):Int):=by omega
      rw[e];exact wuN (by omega)
    have e2:((n:Int)-4294967296).natAbs=4294967296-n:=by omega
    rw[if_pos (by omega),hd,if_neg h,decide_eq_true (by omega),w2 (),pk true (4294967296-n) (by omega),e2]
/-- a whole number that the format holds -/
theorem whole_pat {z:Int} (hz:z.natAbs≤2^(M+1)) (hB:M+1+(-(least M X)).toNat<M+2^X-2) :
    sg M X (ofZ M X z)=decide (z<0)∧av M X (ofZ M X z)=z.natAbs*unit M X∧kd M X (ofZ M X z)=(if z=0 then 1 else 2):=by
  have hi:=inf_pos hM hM' hX hX'
  have hup:0<unit M X:=two_pos _
  have hv:val M (raw M (z.natAbs*unit M X) 1)=z.natAbs*unit M X:=val_raw_fits (fits_mul (fits_small hz))
  have hlt:raw M (z.natAbs*unit M X) 1<inf M X:=by
    refine Nat.lt_of_not_le fun hle=>?_
    have h1:=val_mono (M:=M) hle
    rw[hv,val_inf hX] at h1
    have h2:z.natAbs*unit M X≤2^(M+1)*unit M X:=Nat.mul_le_mul_right _ hz
    unfold unit at h1 h2
    rw[←Nat.pow_add] at h2
    have h3:=Nat.pow_lt_pow_right (a:=2) (by omega) hB
    omega
  have hp:pat M (inf M X) (z.natAbs*unit M X) 1=raw M (z.natAbs*unit M X) 1:=by unfold pat;omega
  have ho:ofZ M X z=sgn M X (decide (z<0))+raw M (z.natAbs*unit M X) 1:=by
    unfold ofZ;rw[npat_whole hM hM' hX hX',hp]
  have hl:=inf_lt (M:=M) (X:=X)
  obtain⟨s1,s2⟩:=sg_mk (M:=M) (X:=X) (neg:=decide (z<0)) (Nat.lt_trans hlt hl)
  rw[ho]
  have hav:av M X (sgn M X (decide (z<0))+raw M (z.natAbs*unit M X) 1)=z.natAbs*unit M X:=by unfold av;rw[s2,hv]
  refine⟨s1,hav,?_⟩
  by_cases h0:z=0
  · rw[if_pos h0]
    refine (kd1 hM hM' hX hX').2 ?_
    rw[s2,h0,Int.natAbs_zero,Nat.zero_mul]
    have:=raw_val M 0
    rw[val_zero] at this;exact this
  · rw[if_neg h0]
    refine (kd2 hM hM' hX hX').2 ?_
    rw[s2]
    refine⟨Nat.pos_of_ne_zero fun h=>?_,hlt⟩
    rw[h,val_zero] at hv
    have:=Nat.mul_pos (show 0<z.natAbs by omega) hup
    omega
theorem sv_whole (z:Int) (u:Nat):sv (decide (z<0)) (z.natAbs*u)=z*(u:Int):=by
  unfold sv
  by_cases h:z<0
  · rw[decide_eq_true h,if_pos rfl]
    have e:(z.natAbs:Int)=-z:=by omega
    rw[Int.natCast_mul,e,Int.neg_mul,Int.neg_neg]
  · rw[decide_eq_false h,if_neg (by simp)]
    have e:(z.natAbs:Int)=z:=by omega
    rw[Int.natCast_mul,e]
omit hM hM' hX hX' in
theorem ofZ_zero:ofZ M X 0=0:=by
  unfold ofZ
  rw[Int.natAbs_zero,npat_zero (by omega)];rfl
theorem whole_whole {z:Int} (hz:z.natAbs≤2^(M+1)) (hB:M+1+(-(least M X)).toNat<M+2^X-2) (near:Bool):wholeS M X (ofZ M X z) near=min z.natAbs 1099511627776:=by
  have hup:0<unit M X:=two_pos _
  obtain⟨p1,p2,p3⟩:=whole_pat hM hM' hX hX' hz hB
  unfold wholeS
  rw[p3,p2,Nat.mul_div_cancel _ hup,Nat.mul_mod_left,if_neg (by split <;> omega),if_neg (by omega),Nat.add_zero]
end
theorem bd:52+1+(-(least 52 11)).toNat<52+2^11-2:=by decide
theorem bs:23+1+(-(least 23 8)).toNat<23+2^8-2:=by decide
theorem dof_eq {k n:Nat} (hk:3≤k) (hn:n<4294967296):reals_DoubleOf.f k (n:Int)=some ((ofZ 52 11 (wrap32 (n:Int)):Nat):Int):=by
  have h:=made_pack (M:=52) (X:=11) (by omega) (by omega) (by omega) (by omega) hk hn
  unfold reals_DoubleOf.f reals_double.f reals_made_uint64.f
  rw[Option.bind_some]
  dsimp only
  by_cases hc:((n:Int)/2147483648)=1
  · rw[if_pos hc] at h ⊢
    exact (congrArg (fun o=>(o.bind fun bt=>some bt.1).bind fun t=>some t) h).trans rfl
  · rw[if_neg hc] at h ⊢
    exact (congrArg (fun o=>(o.bind fun bt=>some bt.1).bind fun t=>some t) h).trans rfl
theorem sof_eq {k n:Nat} (hk:3≤k) (hn:n<4294967296):reals_SingleOf.f k (n:Int)=some ((ofZ 23 8 (wrap32 (n:Int)):Nat):Int):=by
  have h:=made_pack (M:=23) (X:=8) (by omega) (by omega) (by omega) (by omega) hk hn
  have hp:=u32_mod (pt_s.1 (pt_ofZ 23 8 (wrap32 (n:Int))))
  unfold reals_SingleOf.f reals_single.f reals_made_uint32.f
  rw[Option.bind_some]
  dsimp only
  by_cases hc:((n:Int)/2147483648)=1
  · rw[if_pos hc] at h ⊢
    exact (congrArg (fun o=>(o.bind fun bt=>some (bt.1%4294967296)).bind fun t=>some t) h).trans (congrArg some hp)
  · rw[if_neg hc] at h ⊢
    exact (congrArg (fun o=>(o.bind fun bt=>some (bt.1%4294967296)).bind fun t=>some t) h).trans (congrArg some hp)
/-- a whole number held within 32 bits -/
def intS (neg:Bool) (q:Nat):Int:=if neg=true then (-((mn (q:Int) 2147483648)%4294967296))%4294967296 else (mn (q:Int) 2147483647)%4294967296
theorem dint_eq {k x:Nat} (hk:30≤k) (hx:x<18446744073709551616) (near:Bool):reals_DoubleInt.f k (x:Int) near=some (intS (sg 52 11 x) (wholeS 52 11 x near)):=by
  have h:soft_Whole.f k 52 11 (x:Int) near=some (((wholeS 52 11 x near:Nat):Int),sg 52 11 x,0):=whole_eq (M:=52) (X:=11) (by omega) (by omega) (by omega) (by omega) (by omega) (pt_d.2 hx) near
  unfold reals_DoubleInt.f reals_double.f reals_integer_uint64.f intS
  rw[Option.bind_some]
  dsimp only
  rw[h,Option.bind_some]
  dsimp only
  split <;> rfl
theorem sint_eq {k x:Nat} (hk:30≤k) (hx:x<4294967296) (near:Bool):reals_SingleInt.f k (x:Int) near=some (intS (sg 23 8 x) (wholeS 23 8 x near)):=by
  have h:soft_Whole.f k 23 8 (x:Int) near=some (((wholeS 23 8 x near:Nat):Int),sg 23 8 x,0):=whole_eq (M:=23) (X:=8) (by omega) (by omega) (by omega) (by omega) (by omega) (pt_s.2 hx) near
  have hw:Unit→IntKind.u64.wrap (x:Int)=(x:Int):=fun _=>wuN (by omega)
  unfold reals_SingleInt.f reals_single.f reals_integer_uint32.f intS
  rw[Option.bind_some]
  dsimp only
  rw[hw (),h,Option.bind_some]
  dsimp only
  split <;> rfl
theorem intS_val {z:Int} (h:-8589934592≤z) (h':z≤8589934592):intS (decide (z<0)) (min z.natAbs 1099511627776)=(mx (mn z 2147483647) (-2147483648))%4294967296:=by
  have e:min z.natAbs 1099511627776=z.natAbs:=by omega
  rw[e]
  unfold intS mx mn
  by_cases hz:z<0
  · rw[decide_eq_true hz,if_pos rfl]
    split <;> split <;> split <;> omega
  · rw[decide_eq_false hz,if_neg (by simp)]
    split <;> split <;> omega
end Go.Proofs.Ythkifpdachjlgaa.RS
