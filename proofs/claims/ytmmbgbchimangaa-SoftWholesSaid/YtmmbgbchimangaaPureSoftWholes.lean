/- The whole numbers about a pattern, and what it is as one, are the reference's: for every format and every pattern; or both refuse. -/
import Derived.Test.YtmmbgbchimangaaPQx42
import Derived.Test.YtmmbgbchimangaaRW
import Derived.Test.YtmmbgbchimangaaLive03
namespace Go.Proofs.Ytmmbgbchimangaa.Pure
set_option linter.all false
open Go.RowKit Go.Proofs.Ytmmbgbchimangaa.PQ Go.Proofs.YtmmbgbchimangaaW.PrintWords Go.Proofs.YtmmbgbchimangaaW.PrintLast Go.Proofs.YtmmbgbchimangaaW.PrintMore
open FT RS
theorem SoftWholes (a0_0:Int) (a0_1:Int) (a1:Int) (near:Bool) (_w0_0:(Lit.int .i64 a0_0).wf=true) (_w0_1:(Lit.int .i64 a0_1).wf=true) (w1:(Lit.int .u64 a1).wf=true):∃ k,grottolaw03_SoftWholes.f k a0_0 a0_1 a1 near=some true:=by
  obtain⟨a,rfl,ha⟩:=wf_u64 w1
  clear w1 _w0_0 _w0_1
  refine⟨501010,?_⟩
  have hl:grottolaw03_live.f 501010=some true:=live03_k (by omega)
  unfold grottolaw03_SoftWholes.f
  by_cases hg:RS.Good a0_0 a0_1 a
  · obtain⟨M,X,rfl,rfl,hM,hM',hX,hX',pa⟩:=hg.nat
    rw[ceil_eq hM hM' hX hX' (by omega) pa,Option.bind_some,rceil_eq hM hM' hX hX' (by omega) pa,Option.bind_some,floor_eq hM hM' hX hX' (by omega) pa,Option.bind_some,rfloor_eq hM hM' hX hX' (by omega) pa,Option.bind_some,whole_eq hM hM' hX hX' (by omega) pa near,Option.bind_some,rwholes_eq hM hM' hX hX' (by omega) pa near,Option.bind_some]
    simp only[grottolaw03_num.f,Option.bind_some,if_true,hl,beq_self_eq_true]
  · rw[ceil_ng (by omega) ha hg,Option.bind_some,rceil_ng (by omega) ha hg,Option.bind_some,floor_ng (by omega) ha hg,Option.bind_some,rfloor_ng (by omega) ha hg,Option.bind_some,whole_ng (by omega) ha hg near,Option.bind_some,rwhole_ng (by omega) ha hg near,Option.bind_some]
    simp only[grottolaw03_num.f,Option.bind_some,if_true,hl,beq_self_eq_true]
end Go.Proofs.Ytmmbgbchimangaa.Pure
