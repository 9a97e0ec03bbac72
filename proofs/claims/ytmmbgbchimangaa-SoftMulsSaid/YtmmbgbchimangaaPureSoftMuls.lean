/- Products and quotients are the reference's: for every format and every two patterns; or both refuse. -/
import Derived.Test.YtmmbgbchimangaaPQx32
import Derived.Test.YtmmbgbchimangaaRM
import Derived.Test.YtmmbgbchimangaaLive03
namespace Go.Proofs.Ytmmbgbchimangaa.Pure
set_option linter.all false
open Go.RowKit Go.Proofs.Ytmmbgbchimangaa.PQ Go.Proofs.YtmmbgbchimangaaW.PrintWords Go.Proofs.YtmmbgbchimangaaW.PrintLast Go.Proofs.YtmmbgbchimangaaW.PrintMore
open FT RS
theorem SoftMuls (a0_0:Int) (a0_1:Int) (a1:Int) (a2:Int) (_w0_0:(Lit.int .i64 a0_0).wf=true) (_w0_1:(Lit.int .i64 a0_1).wf=true) (w1:(Lit.int .u64 a1).wf=true) (w2:(Lit.int .u64 a2).wf=true):∃ k,grottolaw03_SoftMuls.f k a0_0 a0_1 a1 a2=some true:=by
  obtain⟨a,rfl,ha⟩:=wf_u64 w1
  obtain⟨b,rfl,hb⟩:=wf_u64 w2
  clear w1 w2 _w0_0 _w0_1
  refine⟨501010,?_⟩
  have hl:grottolaw03_live.f 501010=some true:=live03_k (by omega)
  unfold grottolaw03_SoftMuls.f
  by_cases hg:RS.Good a0_0 a0_1 a∧RS.Good a0_0 a0_1 b
  · obtain⟨M,X,rfl,rfl,hM,hM',hX,hX',pa⟩:=hg.1.nat
    obtain⟨M2,X2,e1,e2,_,_,_,_,pb⟩:=hg.2.nat
    obtain rfl:M=M2:=by omega
    obtain rfl:X=X2:=by omega
    rw[mul_eq hM hM' hX hX' (by omega) pa pb,Option.bind_some,rmul_eq hM hM' hX hX' (by omega) pa pb,Option.bind_some,div_eq hM hM' hX hX' (by omega) pa pb,Option.bind_some,rdiv_eq hM hM' hX hX' (by omega) pa pb,Option.bind_some]
    simp only[grottolaw03_num.f,Option.bind_some,if_true,hl]
  · rw[mul_ng (by omega) ha hb hg,Option.bind_some,rmul_ng (by omega) ha hb hg,Option.bind_some,div_ng (by omega) ha hb hg,Option.bind_some,rdiv_ng (by omega) ha hb hg,Option.bind_some]
    simp only[grottolaw03_num.f,Option.bind_some,if_true,hl]
end Go.Proofs.Ytmmbgbchimangaa.Pure
