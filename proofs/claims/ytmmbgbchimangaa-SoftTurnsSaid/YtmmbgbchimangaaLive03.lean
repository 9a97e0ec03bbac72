import Derived.Test.YtmmbgbchimangaaPQx7
import Derived.Test.YtmmbgbchimangaaRL
namespace Go.Proofs.Ytmmbgbchimangaa.RS
set_option linter.all false
open Go.RowKit Go.Proofs.Ytmmbgbchimangaa.PQ Go.Proofs.YtmmbgbchimangaaW.PrintWords
theorem live03:grottolaw03_live.f 100=some true:=by decide +kernel
theorem live03_k {k:Nat} (h:100≤k):grottolaw03_live.f k=some true:=at_k grottolaw03_live.mono h live03
end Go.Proofs.Ytmmbgbchimangaa.RS
