/- The reference's Turn is the program's. -/
import Derived.Test.YtmmbgbchimangaaPQx15
import Derived.Test.YtmmbgbchimangaaRN3
import Derived.Test.YtmmbgbchimangaaSB
namespace Go.Proofs.Ytmmbgbchimangaa.RS
set_option linter.all false
open Go.RowKit Go.Proofs.Ytmmbgbchimangaa.PQ Go.Proofs.YtmmbgbchimangaaW.PrintWords Go.Proofs.YtmmbgbchimangaaW.PrintLast Go.Proofs.YtmmbgbchimangaaW.PrintMore
open FT
section
variable {M X:Nat} (hM:2≤M) (hM':M≤52) (hX:2≤X) (hX':X≤11)
include hM hM' hX hX'
theorem turnr_eq {k:Nat} (hk:64<k) {a:Nat} (ha:Pt M X a):grottoref03_Turn.f k (M:Int) (X:Int) (a:Int)=some ((turnS M X a:Nat):Int):=by
  have hlt:=pt_lt hM hM' hX hX' ha
  have hs:=pt_split ha
  have ht:sgn M X true=2^(M+X):=rfl
  have hf:sgn M X false=0:=rfl
  have hm:=mg_lt M X a
  have hp2:2^(M+X)*2≤18446744073709551616:=by
    have:=Nat.pow_le_pow_right (n:=2) (by omega) (show M+X+1≤64 by omega)
    rw[Nat.pow_succ] at this;exact this
  unfold grottoref03_Turn.f turnS
  rw[rzero_eq hM hM' hX hX' hk,Option.bind_some,ht]
  cases hb:sg M X a
  · rw[hb,hf,Nat.zero_add] at hs
    have hn:(!false)=true:=rfl
    rw[if_neg (by omega),hn,ht]
    have:IntKind.u64.wrap ((a:Int)+((2^(M+X):Nat):Int))=((a+2^(M+X):Nat):Int):=by
      rw[←Int.natCast_add];exact wuN (by omega)
    rw[this,←hs,Nat.add_comm]
  · rw[hb,ht] at hs
    have hn:(!true)=false:=rfl
    rw[if_pos (by omega),hn,hf,Nat.zero_add]
    have:IntKind.u64.wrap ((a:Int)-((2^(M+X):Nat):Int))=((a-2^(M+X):Nat):Int):=by
      rw[←Int.ofNat_sub (by omega)];exact wuN (by omega)
    rw[this];congr 2;omega
end
end Go.Proofs.Ytmmbgbchimangaa.RS
