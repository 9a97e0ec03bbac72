import Derived.Test.YthkifpdachjlgaaPQx8
import Derived.Test.YthkifpdachjlgaaRL
namespace Go.Proofs.Ythkifpdachjlgaa.RS
set_option linter.all false
open Go.RowKit Go.Proofs.Ythkifpdachjlgaa.PQ Go.Proofs.YthkifpdachjlgaaW.PrintWords
theorem live04:grottolaw04_live.f 100=some true:=by decide +kernel
theorem live04_k {k:Nat} (h:100≤k):grottolaw04_live.f k=some true:=at_k grottolaw04_live.mono h live04
end Go.Proofs.Ythkifpdachjlgaa.RS
