import Derived.Test.YtmmbgbchimangaaRP
namespace Go.Proofs.Ytmmbgbchimangaa.RS
set_option linter.all false
open Go.RowKit Go.Proofs.Ytmmbgbchimangaa.PQ Go.Proofs.YtmmbgbchimangaaW.PrintWords Go.Proofs.YtmmbgbchimangaaW.PrintLast Go.Proofs.YtmmbgbchimangaaW.PrintMore
open FT
theorem wf_u64 {a:Int} (h:(Lit.int .u64 a).wf=true):∃ n:Nat,a=(n:Int)∧n<18446744073709551616:=by
  simp[Lit.wf,IntKind.min,IntKind.max,IntKind.signed,IntKind.bits] at h
  exact⟨a.toNat,by omega,by omega⟩
theorem wf_i64 {a:Int} (h:(Lit.int .i64 a).wf=true):-9223372036854775808≤a∧a≤9223372036854775807:=by
  simp[Lit.wf,IntKind.min,IntKind.max,IntKind.signed,IntKind.bits] at h
  omega
/-- a format that may be -/
def Ok (m x:Int):Prop:=2≤m∧m≤52∧2≤x∧x≤11
theorem Ok.nat {m x:Int} (h:Ok m x):∃ M X:Nat,m=M∧x=X∧2≤M∧M≤52∧2≤X∧X≤11:=by
  unfold Ok at h;exact⟨m.toNat,x.toNat,by omega,by omega,by omega,by omega,by omega,by omega⟩
theorem zero_lo (lo:Nat):0*18446744073709551616+lo=lo:=by omega
theorem npat_le_inf (M X a b:Nat) (s:Int):npat M X a b s≤inf M X:=by unfold npat pat;omega
theorem npat_mono {M X a b a' b':Nat} {s:Int} (hb:0<b) (hb':0<b') (h:a*b'≤a'*b):npat M X a b s≤npat M X a' b' s:=by
  unfold npat
  refine pat_mono (Nat.mul_pos hb (two_pos _)) (Nat.mul_pos hb' (two_pos _)) ?_
  have e1:a*2^s.toNat*(b'*2^(-s).toNat)=a*b'*(2^s.toNat*2^(-s).toNat):=by ac_rfl
  have e2:a'*2^s.toNat*(b*2^(-s).toNat)=a'*b*(2^s.toNat*2^(-s).toNat):=by ac_rfl
  rw[e1,e2]
  exact Nat.mul_le_mul_right _ h
theorem npat_eq {M X a b a' b':Nat} {s s':Int} (hb:0<b) (hb':0<b') (h:a*2^s.toNat*(b'*2^(-s').toNat)=a'*2^s'.toNat*(b*2^(-s).toNat)):npat M X a b s=npat M X a' b' s':=
  pat_congr (Nat.mul_pos hb (two_pos _)) (Nat.mul_pos hb' (two_pos _)) h
/-- a number told by another power of 2 -/
theorem npat_shift {M X a b:Nat} {s:Int} (hb:0<b) (j:Nat):npat M X (a*2^j) b (s-j)=npat M X a b s:=by
  refine npat_eq hb hb ?_
  have h:j+(s-(j:Int)).toNat+(-s).toNat=s.toNat+(-(s-(j:Int))).toNat:=by omega
  have e1:a*2^j*2^(s-(j:Int)).toNat*(b*2^(-s).toNat)=a*b*2^(j+(s-(j:Int)).toNat+(-s).toNat):=by
    rw[Nat.pow_add,Nat.pow_add];ac_rfl
  have e2:a*2^s.toNat*(b*2^(-(s-(j:Int))).toNat)=a*b*2^(s.toNat+(-(s-(j:Int))).toNat):=by
    rw[Nat.pow_add];ac_rfl
  rw[e1,e2,h]
theorem npat_half {M X a:Nat} {e:Int}:npat M X (2*a+0) 1 (e-1-least M X)=npat M X a 1 (e-least M X):=by
  have:=npat_shift (M:=M) (X:=X) (a:=a) (b:=1) (s:=e-least M X) (by omega) 1
  rw[←this,show (2*a+0)=a*2^1 by omega,show e-1-least M X=e-least M X-((1:Nat):Int) by omega]
theorem inf_lt {M X:Nat}:inf M X<2^(M+X):=top_bound
/-- of a number of M + 2 bits or more: how it is shortened, with and without a little more -/
theorem raw_big {M N:Nat} {s:Int} (h:2^(M+1)≤N):∃ j c:Nat,∀ m,m≤1→raw M ((2*N+m)*2^(s-1).toNat) (1*2^(-(s-1)).toNat)=j*2^M+rne (2*N+m) (2^(c+1+1)):=by
  have h0:N≠0:=by have:=two_pos (M+1);omega
  have hlt:=blen_lt N
  have hge:=blen_ge h0
  have hb:M+2≤blen N:=by
    refine Nat.le_of_not_lt fun hc=>?_
    have:2^blen N≤2^(M+1):=Nat.pow_le_pow_right (by omega) (by omega)
    omega
  obtain⟨j,hj⟩:∃ j:Nat,max ((blen N:Int)+s-M-1) 0=(j:Int):=⟨(max ((blen N:Int)+s-M-1) 0).toNat,by omega⟩
  obtain⟨c,hc⟩:∃ c:Nat,(j:Int)-s=((c+1:Nat):Int):=⟨((j:Int)-s-1).toNat,by omega⟩
  have hju:j=0∨(blen N:Int)+s-M-1=j:=by omega
  refine⟨j,c,fun m hm=>?_⟩
  have hNs:N<2^(M+1)*2^(c+1):=by
    rw[←Nat.pow_add]
    exact Nat.lt_of_lt_of_le hlt (Nat.pow_le_pow_right (by omega) (by omega))
  refine raw_of (by omega) j (2*N+m) (2^(c+1+1)) (two_pos _) ?_ ?_ ?_
  · have h1:(s-1).toNat+(c+1+1)=j+(-(s-1)).toNat:=by omega
    rw[Nat.one_mul,Nat.mul_assoc,←Nat.pow_add,h1,Nat.pow_add,←Nat.mul_assoc]
  · have:2^(M+1)*2^(c+1+1)=2*(2^(M+1)*2^(c+1)):=by rw[Nat.pow_succ (n:=2) (m:=c+1)];ac_rfl
    rw[this];omega
  · rcases hju with h|h
    · exact Or.inl h
    · right
      have h1:2^M*2^(c+1)≤N:=by
        rw[←Nat.pow_add]
        exact Nat.le_trans (Nat.pow_le_pow_right (by omega) (by omega)) hge
      have:2^M*2^(c+1+1)=2*(2^M*2^(c+1)):=by rw[Nat.pow_succ (n:=2) (m:=c+1)];ac_rfl
      rw[this];omega
theorem beq0 (n:Nat):(((n:Nat):Int)==0)=decide (n=0):=by
  by_cases h:n=0
  · subst h;rfl
  · rw[decide_eq_false h]
    exact beq_eq_false_iff_ne.2 fun h2=>h (Int.ofNat_inj.1 h2)
theorem nat0 {n:Nat} (h:n≠0):¬ ((n:Nat):Int)=0:=fun h2=>h (Int.ofNat_inj.1 h2)
theorem natz {n:Nat} (h:n=0):((n:Nat):Int)=0:=by rw[h];rfl
theorem natn {m n:Nat} (h:m≠n):¬ ((m:Nat):Int)=((n:Nat):Int):=fun h2=>h (Int.ofNat_inj.1 h2)
theorem nate {m n:Nat} (h:m=n):((m:Nat):Int)=((n:Nat):Int):=by rw[h]
/-- what comes with some rounds comes with more -/
theorem at_k {α:Type} {g:Nat→Option α} (h:∀ k,LeO (g k) (g (k+1))) {k k':Nat} (hk:k≤k') {r:α} (hr:g k=some r):g k'=some r:=by
  obtain⟨d,rfl⟩:∃ d,k'=k+d:=⟨k'-k,by omega⟩
  induction d with
  | zero=>exact hr
  | succ d ih=>exact h (k+d) r (ih (by omega))
end Go.Proofs.Ytmmbgbchimangaa.RS
