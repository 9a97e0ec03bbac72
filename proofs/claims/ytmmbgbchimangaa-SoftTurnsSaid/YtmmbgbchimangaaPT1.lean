import Derived.Test.YtmmbgbchimangaaPT0
import Derived.Test.YtmmbgbchimangaaSB
namespace Go.Proofs.Ytmmbgbchimangaa.RS
set_option linter.all false
open Go.RowKit Go.Proofs.Ytmmbgbchimangaa.PQ Go.Proofs.YtmmbgbchimangaaW.PrintWords Go.Proofs.YtmmbgbchimangaaW.PrintLast Go.Proofs.YtmmbgbchimangaaW.PrintMore
open FT
/-! ### what is told is a pattern -/
section
variable {M X:Nat} (hM:2≤M) (hM':M≤52) (hX:2≤X) (hX':X≤11)
include hM hM' hX hX'
omit hM hM' hX hX' in
theorem pt_sum (z:Int):Pt M X (sumS M X z):=by
  unfold sumS;split
  · exact pt_zero
  · exact pt_pat _ _ _
theorem pt_add (a b:Nat):Pt M X (addS M X a b):=by
  have hn:=pt_nan hM hM' hX hX'
  unfold addS
  repeat' split
  all_goals first|exact hn|exact pt_inf _|exact pt_sgn _|exact pt_sum _
end
end Go.Proofs.Ytmmbgbchimangaa.RS
