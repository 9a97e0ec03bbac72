/- The order of patterns is the order of their numbers. -/
import Derived.Test.YtmmbgbchimangaaSC
namespace Go.Proofs.Ytmmbgbchimangaa.RS
set_option linter.all false
open Go.RowKit Go.Proofs.Ytmmbgbchimangaa.PQ Go.Proofs.YtmmbgbchimangaaW.PrintWords Go.Proofs.YtmmbgbchimangaaW.PrintLast Go.Proofs.YtmmbgbchimangaaW.PrintMore
open FT
theorem sv_lt (M:Nat) (s t:Bool) (p q:Nat):sv s p<sv t q↔sv s (val M p)<sv t (val M q):=by
  have h1:p<q↔val M p<val M q:=⟨val_lt,fun h=>Nat.lt_of_not_le fun h2=>absurd (val_mono (M:=M) h2) (Nat.not_le.2 h)⟩
  have h2:q<p↔val M q<val M p:=⟨val_lt,fun h=>Nat.lt_of_not_le fun h2=>absurd (val_mono (M:=M) h2) (Nat.not_le.2 h)⟩
  have hp:0<p↔0<val M p:=by
    have h3:=val_zero M
    refine⟨fun h=>?_,fun h=>Nat.pos_of_ne_zero fun h2=>?_⟩
    · have:=val_lt (M:=M) h;omega
    · rw[h2] at h;omega
  have hq:0<q↔0<val M q:=by
    have h3:=val_zero M
    refine⟨fun h=>?_,fun h=>Nat.pos_of_ne_zero fun h2=>?_⟩
    · have:=val_lt (M:=M) h;omega
    · rw[h2] at h;omega
  unfold sv
  generalize val M p=P at *
  generalize val M q=Q at *
  cases s <;> cases t <;> simp only[if_true,if_false,Bool.false_eq_true] <;> omega
theorem cmp_val (M:Nat) (s t:Bool) (p q:Nat):cmpI (sv s p) (sv t q)=cmpI (sv s (val M p)) (sv t (val M q)):=by
  have h1:=sv_lt M s t p q
  have h2:=sv_lt M t s q p
  unfold cmpI
  by_cases c1:sv s p<sv t q
  · rw[if_pos c1,if_pos (h1.1 c1)]
  · rw[if_neg c1,if_neg (fun h=>c1 (h1.2 h))]
    by_cases c2:sv t q<sv s p
    · rw[if_pos c2,if_pos (h2.1 c2)]
    · rw[if_neg c2,if_neg (fun h=>c2 (h2.2 h))]
end Go.Proofs.Ytmmbgbchimangaa.RS
