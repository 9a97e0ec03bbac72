import Derived.Test.YthkifpdachjlgaaFT2
import Derived.Test.YthkifpdachjlgaaSP
namespace Go.Proofs.Ythkifpdachjlgaa.RS
set_option linter.all false
open Go.RowKit Go.Proofs.Ythkifpdachjlgaa.PQ Go.Proofs.YthkifpdachjlgaaW.PrintWords Go.Proofs.YthkifpdachjlgaaW.PrintLast Go.Proofs.YthkifpdachjlgaaW.PrintMore
open FT
theorem val_inf {M X:Nat} (hX:2≤X):val M (inf M X)=2^(M+2^X-2):=by
  have h4:4≤2^X:=Nat.pow_le_pow_right (n:=2) (by omega) hX
  have e:inf M X=(2^X-3)*2^M+2^(M+1):=by
    unfold inf
    rw[Nat.pow_succ,Nat.mul_comm (2^M) 2,←Nat.add_mul];congr 1;omega
  rw[e,val_at (Nat.le_refl _) (Or.inr (Nat.pow_le_pow_right (by omega) (by omega))),←Nat.pow_add]
  congr 1;omega
end Go.Proofs.Ythkifpdachjlgaa.RS
