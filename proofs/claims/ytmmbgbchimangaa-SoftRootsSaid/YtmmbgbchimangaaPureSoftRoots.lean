/- Roots, and patterns of another format, are the reference's: for every two formats and every pattern; or both refuse. -/
import Derived.Test.YtmmbgbchimangaaPQx28
import Derived.Test.YtmmbgbchimangaaRQ
import Derived.Test.YtmmbgbchimangaaRV
import Derived.Test.YtmmbgbchimangaaLive03
namespace Go.Proofs.Ytmmbgbchimangaa.Pure
set_option linter.all false
open Go.RowKit Go.Proofs.Ytmmbgbchimangaa.PQ Go.Proofs.YtmmbgbchimangaaW.PrintWords Go.Proofs.YtmmbgbchimangaaW.PrintLast Go.Proofs.YtmmbgbchimangaaW.PrintMore
open FT RS
theorem SoftRoots (a0_0:Int) (a0_1:Int) (a1_0:Int) (a1_1:Int) (a2:Int) (_w0_0:(Lit.int .i64 a0_0).wf=true) (_w0_1:(Lit.int .i64 a0_1).wf=true) (_w1_0:(Lit.int .i64 a1_0).wf=true) (_w1_1:(Lit.int .i64 a1_1).wf=true) (w2:(Lit.int .u64 a2).wf=true):∃ k,grottolaw03_SoftRoots.f k a0_0 a0_1 a1_0 a1_1 a2=some true:=by
  obtain⟨a,rfl,ha⟩:=wf_u64 w2
  clear w2 _w0_0 _w0_1 _w1_0 _w1_1
  refine⟨502010,?_⟩
  have hl:grottolaw03_live.f 502010=some true:=live03_k (by omega)
  unfold grottolaw03_SoftRoots.f
  have h1:∃ x e,soft_Sqrt.f 502010 a0_0 a0_1 (a:Int)=some (x,e)∧grottoref03_Sqrt.f 502010 a0_0 a0_1 (a:Int)=some (x,e):=by
    by_cases hg:RS.Good a0_0 a0_1 a
    · obtain⟨M,X,rfl,rfl,hM,hM',hX,hX',pa⟩:=hg.nat
      exact⟨_,_,sqrt_eq hM hM' hX hX' (by omega) pa,rsqrt_eq hM hM' hX hX' (by omega) pa⟩
    · exact⟨_,_,sqrt_ng (by omega) ha hg,rsqrt_ng (by omega) ha hg⟩
  have h2:∃ x e,soft_Convert.f 502010 a0_0 a0_1 a1_0 a1_1 (a:Int)=some (x,e)∧grottoref03_Convert.f 502010 a0_0 a0_1 a1_0 a1_1 (a:Int)=some (x,e):=by
    by_cases hg:RS.Good a0_0 a0_1 a∧RS.Ok a1_0 a1_1
    · obtain⟨M,X,rfl,rfl,hM,hM',hX,hX',pa⟩:=hg.1.nat
      obtain⟨M',X',rfl,rfl,gM,gM',gX,gX'⟩:=hg.2.nat
      exact⟨_,_,conv_eq hM hM' hX hX' gM gM' gX gX' (by omega) pa,rconv_eq hM hM' hX hX' gM gM' gX gX' (by omega) pa⟩
    · exact⟨_,_,conv_ng (by omega) ha hg,rconv_ng (by omega) ha hg⟩
  obtain⟨x,e,q1,q2⟩:=h1
  obtain⟨z,i,q3,q4⟩:=h2
  rw[q1,Option.bind_some,q2,Option.bind_some,q3,Option.bind_some,q4,Option.bind_some]
  simp only[grottolaw03_num.f,Option.bind_some,if_true,hl]
end Go.Proofs.Ytmmbgbchimangaa.Pure
