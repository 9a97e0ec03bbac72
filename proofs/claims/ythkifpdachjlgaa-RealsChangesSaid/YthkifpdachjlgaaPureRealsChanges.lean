/- Each single as a double, each double as a single, and as two words, are the reference's: for every single and every double. -/
import Derived.Test.YthkifpdachjlgaaPQx41
import Derived.Test.YthkifpdachjlgaaPQx9
import Derived.Test.YthkifpdachjlgaaPQx40
import Derived.Test.YthkifpdachjlgaaR4
import Derived.Test.YthkifpdachjlgaaRV
import Derived.Test.YthkifpdachjlgaaLive04
namespace Go.Proofs.Ythkifpdachjlgaa.Pure
set_option linter.all false
open Go.RowKit Go.Proofs.Ythkifpdachjlgaa.PQ Go.Proofs.YthkifpdachjlgaaW.PrintWords Go.Proofs.YthkifpdachjlgaaW.PrintLast Go.Proofs.YthkifpdachjlgaaW.PrintMore
open FT RS
theorem RealsChanges (a0:Int) (a1:Int) (w0:(Lit.int .u32 a0).wf=true) (w1:(Lit.int .u64 a1).wf=true):∃ k,grottolaw04_RealsChanges.f k a0 a1=some true:=by
  obtain⟨x,rfl,hx⟩:=wf_u32 w0
  obtain⟨y,rfl,hy⟩:=wf_u64 w1
  clear w0 w1
  refine⟨502010,?_⟩
  have px:=pt_s.2 hx
  have py:=pt_d.2 hy
  have wx:Unit→IntKind.u64.wrap (x:Int)=(x:Int):=fun _=>wuN (by omega)
  have hn:=pt_s.1 (pt_conv (M:=52) (X:=11) (M':=23) (X':=8) (by omega) (by omega) (by omega) (by omega) y)
  have wn:Unit→IntKind.u64.wrap ((convS 52 11 23 8 y:Nat):Int)=((convS 52 11 23 8 y:Nat):Int):=fun _=>wuN (by omega)
  have c1:grottoref03_Convert.f 502010 23 8 52 11 (x:Int)=some (((convS 23 8 52 11 x:Nat):Int),0):=rconv_eq (M:=23) (X:=8) (M':=52) (X':=11) (by omega) (by omega) (by omega) (by omega) (by omega) (by omega) (by omega) (by omega) (by omega) px
  have c2:grottoref03_Convert.f 502010 52 11 23 8 (y:Int)=some (((convS 52 11 23 8 y:Nat):Int),0):=rconv_eq (M:=52) (X:=11) (M':=23) (X':=8) (by omega) (by omega) (by omega) (by omega) (by omega) (by omega) (by omega) (by omega) (by omega) py
  have ch1:grottoref04_Change.f 502010 true (x:Int)=some ((convS 23 8 52 11 x:Nat):Int):=(congrArg (fun o=>o.bind fun bt:Int×Int=>some bt.1) c1).trans rfl
  have ch2:grottoref04_Change.f 502010 false (y:Int)=some ((convS 52 11 23 8 y:Nat):Int):=(congrArg (fun o=>o.bind fun bt:Int×Int=>some bt.1) c2).trans rfl
  have hi:(y:Int)/4294967296%4294967296=((y/4294967296:Nat):Int):=by omega
  have lo:(y:Int)%4294967296=((y%4294967296:Nat):Int):=by omega
  have w2:Unit→IntKind.u64.wrap ((y/4294967296:Nat):Int)=((y/4294967296:Nat):Int):=fun _=>wuN (by omega)
  have w3:Unit→IntKind.u64.wrap ((y%4294967296:Nat):Int)=((y%4294967296:Nat):Int):=fun _=>wuN (by omega)
  have td:Int.tdiv (y:Int) 4294967296=((y/4294967296:Nat):Int):=by rw[Int.tdiv_eq_ediv_of_nonneg (by omega)];omega
  have tm:Int.tmod (y:Int) 4294967296=((y%4294967296:Nat):Int):=by rw[Int.tmod_eq_emod_of_nonneg (by omega)];omega
  have w4:Unit→IntKind.u64.wrap (((y/4294967296:Nat):Int)*4294967296)=((y/4294967296*2^32:Nat):Int):=fun _=>by
    have e:((y/4294967296:Nat):Int)*4294967296=((y/4294967296*2^32:Nat):Int):=by omega
    rw[e];exact wuN (by omega)
  have join:reals_Join.f ((y/4294967296:Nat):Int) ((y%4294967296:Nat):Int)=some (y:Int):=by
    unfold reals_Join.f
    rw[w2 (),w4 (),w3 (),or_add (i:=32) (by omega) (by omega)]
    congr 2;omega
  have lv:grottolaw04_live.f 502010=some true:=live04_k (by omega)
  clear hn c1 c2
  unfold grottolaw04_RealsChanges.f reals_Split.f
  rw[Option.bind_some]
  dsimp only
  rw[hi,lo,widen_eq (by omega) hx,Option.bind_some,wx (),ch1,Option.bind_some,if_pos rfl,narrow_eq (by omega) hy,Option.bind_some,ch2,Option.bind_some,wn (),if_pos rfl,td,w2 (),if_pos rfl,tm,w3 (),if_pos rfl,join,Option.bind_some,if_pos rfl,lv,Option.bind_some]
end Go.Proofs.Ythkifpdachjlgaa.Pure
