import Derived.Test.YtcfmmkapefpjjaaPQx11
import Derived.Test.YtcfmmkapefpjjaaRL
namespace Go.Proofs.Ytcfmmkapefpjjaa.RS
set_option linter.all false
open Go.RowKit Go.Proofs.Ytcfmmkapefpjjaa.PQ Go.Proofs.YtcfmmkapefpjjaaW.PrintWords
theorem live02 : grottolaw02_live.f 10 = some true := by decide +kernel
theorem live02_k {k : Nat} (h : 10 ≤ k) : grottolaw02_live.f k = some true := at_rounds grottolaw02_live.mono h live02
end Go.Proofs.Ytcfmmkapefpjjaa.RS
