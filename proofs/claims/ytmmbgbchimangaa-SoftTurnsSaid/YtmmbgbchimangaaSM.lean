import Derived.Test.YtmmbgbchimangaaPQx4
import Derived.Test.YtmmbgbchimangaaSA
namespace Go.Proofs.Ytmmbgbchimangaa.RS
set_option linter.all false
open Go.RowKit Go.Proofs.Ytmmbgbchimangaa.PQ Go.Proofs.YtmmbgbchimangaaW.PrintWords Go.Proofs.YtmmbgbchimangaaW.PrintLast Go.Proofs.YtmmbgbchimangaaW.PrintMore
open FT
/-- a product of two words, by halves -/
theorem mul_words {W x1 x0 y1 y0 c0 r0 c1 r1 c2 r2:Nat} (h0:x0*y0=W*c0+r0) (h1:x1*y0+c0=W*c1+r1) (h2:r1+x0*y1=W*c2+r2) :
    (x1*W+x0)*(y1*W+y0)=(x1*y1+c1+c2)*(W*W)+(r2*W+r0):=by
  have e:(x1*W+x0)*(y1*W+y0)=x1*y1*(W*W)+(x1*y0*W+x0*y1*W)+x0*y0:=by
    rw[Nat.add_mul,Nat.mul_add,Nat.mul_add]
    have a1:x1*W*(y1*W)=x1*y1*(W*W):=by ac_rfl
    have a2:x1*W*y0=x1*y0*W:=by ac_rfl
    have a3:x0*(y1*W)=x0*y1*W:=by ac_rfl
    rw[a1,a2,a3];omega
  have e1:(x1*y0+c0)*W=(W*c1+r1)*W:=by rw[h1]
  have e2:(r1+x0*y1)*W=(W*c2+r2)*W:=by rw[h2]
  rw[Nat.add_mul,Nat.add_mul] at e1 e2
  have b1:W*c1*W=c1*(W*W):=by ac_rfl
  have b2:W*c2*W=c2*(W*W):=by ac_rfl
  have b3:c0*W=W*c0:=Nat.mul_comm _ _
  rw[e,Nat.add_mul (x1*y1+c1),Nat.add_mul (x1*y1),h0]
  omega
theorem wu_mul {a b:Nat} (h:a*b<18446744073709551616):IntKind.u64.wrap ((a:Int)*(b:Int))=((a*b:Nat):Int):=by
  rw[←Int.natCast_mul];exact wuN h
theorem div32 (a:Nat):(a:Int)/4294967296=((a/4294967296:Nat):Int):=by omega
theorem and32 {a:Nat} (ha:a<18446744073709551616):Go.bits .and .u64 (a:Int) 4294967295=((a%4294967296:Nat):Int):=by
  have:=and_mod (a:=a) (i:=32) ha (by omega)
  exact this
theorem half_mul {a b:Nat} (ha:a<4294967296) (hb:b<4294967296):a*b≤18446744065119617025:=by
  have:=Nat.mul_le_mul (show a≤4294967295 by omega) (show b≤4294967295 by omega)
  exact this
theorem mul64 {a b:Nat} (ha:a<18446744073709551616) (hb:b<18446744073709551616):bits_Mul64.f (a:Int) (b:Int)=some (((a*b/18446744073709551616:Nat):Int),((a*b%18446744073709551616:Nat):Int)):=by
  have hx1:a/4294967296<4294967296:=by omega
  have hx0:a%4294967296<4294967296:=by omega
  have hy1:b/4294967296<4294967296:=by omega
  have hy0:b%4294967296<4294967296:=by omega
  have ea:a=a/4294967296*4294967296+a%4294967296:=by omega
  have eb:b=b/4294967296*4294967296+b%4294967296:=by omega
  have hlast:IntKind.u64.wrap ((a:Int)*(b:Int))=((a*b%18446744073709551616:Nat):Int):=by
    rw[←Int.natCast_mul,wu64];omega
  unfold bits_Mul64.f
  rw[hlast,div32,div32,and32 ha,and32 hb]
  clear hlast ha hb
  generalize a/4294967296=x1 at *
  generalize a%4294967296=x0 at *
  generalize b/4294967296=y1 at *
  generalize b%4294967296=y0 at *
  have p00:=half_mul hx0 hy0
  have p10:=half_mul hx1 hy0
  have p01:=half_mul hx0 hy1
  have p11:=half_mul hx1 hy1
  rw[wu_mul (a:=x1) (b:=y1) (by omega),wu_mul (a:=x1) (b:=y0) (by omega),wu_mul (a:=x0) (b:=y0) (by omega),wu_mul (a:=x0) (b:=y1) (by omega),div32]
  have h0:=(Nat.div_add_mod (x0*y0) 4294967296).symm
  have r0:x0*y0%4294967296<4294967296:=Nat.mod_lt _ (by omega)
  have c0:x0*y0/4294967296≤4294967294:=by omega
  have m:=fun c1 r1 c2 r2 h1 h2=>mul_words (W:=4294967296) (x1:=x1) (x0:=x0) (y1:=y1) (y0:=y0) (c1:=c1) (r1:=r1) (c2:=c2) (r2:=r2) h0 h1 h2
  rw[←ea,←eb] at m
  generalize x0*y0%4294967296=q0 at *
  generalize x0*y0/4294967296=d0 at *
  generalize x1*y1=A at *
  generalize x1*y0=B at *
  generalize x0*y1=C at *
  have w1:IntKind.u64.wrap ((B:Int)+(d0:Int))=((B+d0:Nat):Int):=wu_add (by omega)
  have h1:=(Nat.div_add_mod (B+d0) 4294967296).symm
  have r1:(B+d0)%4294967296<4294967296:=Nat.mod_lt _ (by omega)
  have c1:(B+d0)/4294967296≤4294967295:=by omega
  rw[w1,div32,and32 (by omega)]
  have m:=fun c2 r2 h2=>m _ _ c2 r2 h1 h2
  generalize (B+d0)%4294967296=q1 at *
  generalize (B+d0)/4294967296=d1 at *
  have w2:IntKind.u64.wrap ((q1:Int)+(C:Int))=((q1+C:Nat):Int):=wu_add (by omega)
  have h2:=(Nat.div_add_mod (q1+C) 4294967296).symm
  have r2:(q1+C)%4294967296<4294967296:=Nat.mod_lt _ (by omega)
  have c2:(q1+C)/4294967296≤4294967295:=by omega
  have m:=m _ _ h2
  rw[w2,div32]
  generalize (q1+C)%4294967296=q2 at *
  generalize (q1+C)/4294967296=d2 at *
  have hab:a*b/18446744073709551616=A+d1+d2:=by
    rw[m,Nat.add_comm,Nat.add_mul_div_right _ _ (by decide),Nat.div_eq_of_lt (by omega),Nat.zero_add]
  have hA:A+d1<18446744073709551616:=by clear m hab h0 h1 h2 ea eb;omega
  have hle:A+d1+d2<18446744073709551616:=by clear m hab h0 h1 h2 ea eb;omega
  rw[hab,wu_add hA,wu_add hle]
section
variable {M X:Nat} (hM:2≤M) (hM':M≤52) (hX:2≤X) (hX':X≤11)
include hM hM' hX hX'
theorem pack_gen {k:Nat} (hk:3≤k) (neg:Bool) {hi lo:Nat} (hh:hi<18446744073709551616) (hl:lo<18446744073709551616) {e:Int} (he:-4096≤e) (he':e≤4096) :
    round_Pack.f k (M:Int) (X:Int) neg (hi:Int) (lo:Int) e false=some (((sgn M X neg+npat M X (hi*18446744073709551616+lo) 1 (e-least M X):Nat):Int),0):=by
  obtain⟨j,rfl⟩:∃ j,k=j+3:=⟨k-3,by omega⟩
  have:=pack_ok hM hM' hX hX' j neg hh hl he he' false (by simp)
  rw[if_neg (by simp),npat_half] at this
  exact this
theorem inf_f (neg:Bool):round_Inf.f (M:Int) (X:Int) neg=some ((sgn M X neg+inf M X:Nat):Int):=inf_eq hM hM' hX hX' neg
omit hM hM' hX hX' in
theorem npat_zero {b:Nat} (hb:0<b) {s:Int}:npat M X 0 b s=0:=by
  unfold npat pat
  rw[Nat.zero_mul]
  have:raw M 0 (b*2^(-s).toNat)=0:=by
    have h:=raw_congr (M:=M) (n:=0) (d:=b*2^(-s).toNat) (n':=val M 0) (d':=1) (Nat.mul_pos hb (two_pos _)) (by omega) (by rw[val_zero];simp)
    rw[h,raw_val]
  rw[this];omega
end
/-- THE PRODUCT as a pattern -/
def mulS (M X a b:Nat):Nat:=
  if kd M X a=4∨kd M X b=4∨(kd M X a=3∧kd M X b=1)∨(kd M X a=1∧kd M X b=3) then nanp M X
  else if kd M X a=3∨kd M X b=3 then sgn M X (sg M X a != sg M X b)+inf M X
  else sgn M X (sg M X a != sg M X b)+npat M X (av M X a*av M X b) 1 (least M X)
end Go.Proofs.Ytmmbgbchimangaa.RS
