import Derived.Test.YtmmbgbchimangaaSP
namespace Go.Proofs.Ytmmbgbchimangaa.RS
set_option linter.all false
open Go.RowKit Go.Proofs.Ytmmbgbchimangaa.PQ Go.Proofs.YtmmbgbchimangaaW.PrintWords Go.Proofs.YtmmbgbchimangaaW.PrintLast Go.Proofs.YtmmbgbchimangaaW.PrintMore
open FT
/-! ### what is told is a pattern -/
section
variable {M X:Nat} (hM:2≤M) (hM':M≤52) (hX:2≤X) (hX':X≤11)
include hM hM' hX hX'
omit hM hM' hX hX' in
theorem pt_pat (neg:Bool) (n d:Nat):Pt M X (sgn M X neg+pat M (inf M X) n d):=pt_mk (Nat.lt_of_le_of_lt (pat_le M X n d) inf_lt)
omit hM hM' hX hX' in
theorem pt_npat (neg:Bool) (a b:Nat) (s:Int):Pt M X (sgn M X neg+npat M X a b s):=pt_mk (Nat.lt_of_le_of_lt (npat_le_inf M X a b s) inf_lt)
omit hM hM' hX hX' in
theorem pt_inf (neg:Bool):Pt M X (sgn M X neg+inf M X):=pt_mk inf_lt
omit hM hM' hX hX' in
theorem pt_sgn (neg:Bool):Pt M X (sgn M X neg):=pt_mk (y:=0) (two_pos _)
omit hM hM' hX hX' in
theorem pt_zero:Pt M X 0:=pt_sgn (M:=M) (X:=X) false
theorem pt_nan:Pt M X (nanp M X):=by
  have:=pt_mk (M:=M) (X:=X) (neg:=false) (nan_bound hM hM' hX hX')
  have hs0:sgn M X false=0:=rfl
  rw[hs0,Nat.zero_add] at this;exact this
end
end Go.Proofs.Ytmmbgbchimangaa.RS
