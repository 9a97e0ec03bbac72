import Derived.Test.YtmmbgbchimangaaPQx2
import Derived.Test.YtmmbgbchimangaaRO
import Derived.Test.YtmmbgbchimangaaFTA
namespace Go.Proofs.Ytmmbgbchimangaa.RS
set_option linter.all false
open Go.RowKit Go.Proofs.Ytmmbgbchimangaa.PQ Go.Proofs.YtmmbgbchimangaaW.PrintWords Go.Proofs.YtmmbgbchimangaaW.PrintLast Go.Proofs.YtmmbgbchimangaaW.PrintMore
open FT
/-! ### what a pattern says: its sign, itself without the sign, its number in units of the least one, its kind -/
def sg (M X x:Nat):Bool:=decide (2^(M+X)≤x)
def mg (M X x:Nat):Nat:=x%2^(M+X)
def av (M X x:Nat):Nat:=val M (mg M X x)
def kd (M X x:Nat):Nat:=kind M X (mg M X x)
def ex (M X x:Nat):Int:=exo M X (mg M X x)
def mt (M X x:Nat):Nat:=mnt M X (mg M X x)
def nanp (M X:Nat):Nat:=inf M X+2^(M-1)
def Pt (M X x:Nat):Prop:=x<2^(M+X)*2
/-- a number with a sign -/
def sv (neg:Bool) (n:Nat):Int:=if neg then -(n:Int) else (n:Int)
/-- the pattern of a sum of two numbers that are not nothing -/
def sumS (M X:Nat) (z:Int):Nat:=if z=0 then 0 else sgn M X (decide (z<0))+pat M (inf M X) z.natAbs 1
theorem kd_cases (M X x:Nat):kd M X x=1∨kd M X x=2∨kd M X x=3∨kd M X x=4:=by
  unfold kd kind
  by_cases h1:mg M X x=inf M X
  · rw[if_pos h1];omega
  · rw[if_neg h1]
    by_cases h2:inf M X<mg M X x
    · rw[if_pos h2];omega
    · rw[if_neg h2]
      by_cases h3:mg M X x=0
      · rw[if_pos h3];omega
      · rw[if_neg h3];omega
theorem kind_iff {M X y:Nat} (hi:0<inf M X):(kind M X y=1↔y=0)∧(kind M X y=2↔0<y∧y<inf M X)∧(kind M X y=3↔y=inf M X)∧(kind M X y=4↔inf M X<y):=by
  unfold kind
  by_cases h1:y=inf M X
  · rw[if_pos h1];omega
  · rw[if_neg h1]
    by_cases h2:inf M X<y
    · rw[if_pos h2];omega
    · rw[if_neg h2]
      by_cases h3:y=0
      · rw[if_pos h3];omega
      · rw[if_neg h3];omega
theorem sgn_le (M X:Nat) (neg:Bool):sgn M X neg≤2^(M+X):=by
  unfold sgn;split
  · exact Nat.le_refl _
  · exact Nat.zero_le _
theorem sg_mk {M X y:Nat} {neg:Bool} (hy:y<2^(M+X)):sg M X (sgn M X neg+y)=neg∧mg M X (sgn M X neg+y)=y:=by
  unfold sg mg sgn
  cases neg
  · simp only[Bool.false_eq_true,if_false,Nat.zero_add,decide_eq_false_iff_not,Nat.not_le]
    exact⟨hy,Nat.mod_eq_of_lt hy⟩
  · simp only[if_true,decide_eq_true_eq]
    exact⟨Nat.le_add_right _ _,by rw[Nat.add_mod_left,Nat.mod_eq_of_lt hy]⟩
theorem mg_lt (M X x:Nat):mg M X x<2^(M+X):=Nat.mod_lt _ (two_pos _)
theorem pt_mk {M X y:Nat} {neg:Bool} (hy:y<2^(M+X)):Pt M X (sgn M X neg+y):=by
  have:=sgn_le M X neg
  unfold Pt;omega
theorem pt_split {M X x:Nat} (h:Pt M X x):x=sgn M X (sg M X x)+mg M X x:=sign_split h
theorem sv_natAbs (neg:Bool) (n:Nat):(sv neg n).natAbs=n:=by unfold sv;cases neg <;> simp
theorem sv_zero (neg:Bool) {n:Nat}:sv neg n=0↔n=0:=by unfold sv;cases neg <;> simp
theorem sv_neg (neg:Bool) {n:Nat} (h:n≠0):decide (sv neg n<0)=neg:=by
  unfold sv
  cases neg
  · exact decide_eq_false (by simp)
  · exact decide_eq_true (by simp;omega)
theorem sumS_sv {M X n:Nat} (neg:Bool) (h:n≠0):sumS M X (sv neg n)=sgn M X neg+pat M (inf M X) n 1:=by
  unfold sumS
  rw[if_neg (fun h2=>h ((sv_zero neg).1 h2)),sv_neg neg h,sv_natAbs]
/-- a whole number of units -/
theorem npat_units {M X n s:Nat}:npat M X (2*n+0) 1 (least M X+(s:Int)-1-least M X)=pat M (inf M X) (n*2^s) 1:=by
  rw[npat_half]
  unfold npat
  have h1:(least M X+(s:Int)-least M X).toNat=s:=by omega
  have h2:(-(least M X+(s:Int)-least M X)).toNat=0:=by omega
  rw[h1,h2]
theorem pat_fits {M X y:Nat} (h:y≤inf M X):pat M (inf M X) (val M y) 1=y:=pat_val h
theorem pat_le (M X n d:Nat):pat M (inf M X) n d≤inf M X:=by unfold pat;omega
section
variable {M X:Nat} (hM:2≤M) (hM':M≤52) (hX:2≤X) (hX':X≤11)
include hM hM' hX hX'
theorem inf_pos:0<inf M X:=by
  unfold inf
  have:4≤2^X:=Nat.pow_le_pow_right (n:=2) (by omega) hX
  exact Nat.mul_pos (by omega) (two_pos M)
theorem pt_lt {x:Nat} (h:Pt M X x):x<18446744073709551616:=by
  have h2:2^(M+X+1)≤2^64:=Nat.pow_le_pow_right (by omega) (by omega)
  rw[Nat.pow_succ] at h2
  exact Nat.lt_of_lt_of_le h h2
omit hM hM' hX hX' in
theorem pt_of_blen {x:Nat} (h:blen x≤M+X+1):Pt M X x:=by
  unfold Pt;rw[←Nat.pow_succ]
  exact Nat.lt_of_lt_of_le (blen_lt x) (Nat.pow_le_pow_right (by omega) h)
theorem kd1 {x:Nat}:kd M X x=1↔mg M X x=0:=(kind_iff (inf_pos hM hM' hX hX')).1
theorem kd2 {x:Nat}:kd M X x=2↔0<mg M X x∧mg M X x<inf M X:=(kind_iff (inf_pos hM hM' hX hX')).2.1
theorem kd3 {x:Nat}:kd M X x=3↔mg M X x=inf M X:=(kind_iff (inf_pos hM hM' hX hX')).2.2.1
theorem kd4 {x:Nat}:kd M X x=4↔inf M X<mg M X x:=(kind_iff (inf_pos hM hM' hX hX')).2.2.2
omit hM hM' hX hX' in
theorem fin_ex {x:Nat} (h:kd M X x=2):ex M X x=least M X+(sh M (mg M X x):Int)∧mt M X x=man M (mg M X x):=by
  unfold ex mt exo mnt
  unfold kd at h
  rw[if_pos h,if_pos h];exact⟨rfl,rfl⟩
omit hM hM' hX hX' in
theorem zero_ex {x:Nat} (h:kd M X x≠2):ex M X x=0∧mt M X x=0:=by
  unfold ex mt exo mnt
  unfold kd at h
  rw[if_neg h,if_neg h];exact⟨rfl,rfl⟩
theorem open_pt {k:Nat} (hk:4≤k) {x:Nat} (h:Pt M X x):round_Open.f k (M:Int) (X:Int) (x:Int)=some (((kd M X x:Nat):Int),sg M X x,ex M X x,((mt M X x:Nat):Int),0):=by
  obtain⟨j,rfl⟩:∃ j,k=j+4:=⟨k-4,by omega⟩
  exact open_ok hM hM' hX hX' j h
/-- a finite number that is not nothing: its number of M + 1 bits, and by how many bits it is moved -/
theorem fin_form {x:Nat} (h:kd M X x=2):0<man M (mg M X x)∧man M (mg M X x)<2^(M+1)∧sh M (mg M X x)<2048∧(sh M (mg M X x)=0∨2^M≤man M (mg M X x))∧av M X x=man M (mg M X x)*2^sh M (mg M X x):=by
  obtain⟨h1,h2⟩:=(kd2 hM hM' hX hX').1 h
  refine⟨?_,man_lt _ _,sh_bound hM hM' hX hX' (Nat.le_of_lt h2),?_,rfl⟩
  · by_cases hs:sh M (mg M X x)=0
    · have:=man_add M (mg M X x);rw[hs] at this;omega
    · have:=man_ge hs;have:=two_pos M;omega
  · by_cases hs:sh M (mg M X x)=0
    · exact Or.inl hs
    · exact Or.inr (man_ge hs)
theorem two_ok {k:Nat} (hk:4≤k) {a b:Nat} (ha:Pt M X a) (hb:Pt M X b):soft_two.f k (M:Int) (X:Int) (a:Int) (b:Int) =
    some (((kd M X a:Nat):Int),sg M X a,ex M X a,((mt M X a:Nat):Int),((kd M X b:Nat):Int),sg M X b,ex M X b,((mt M X b:Nat):Int),0):=by
  unfold soft_two.f
  rw[open_pt hM hM' hX hX' hk ha,Option.bind_some,if_pos rfl,open_pt hM hM' hX hX' hk hb,Option.bind_some,if_pos rfl]
theorem pack_units {k:Nat} (hk:3≤k) (neg:Bool) {hi lo s:Nat} (hh:hi<18446744073709551616) (hl:lo<18446744073709551616) (hs:s≤4096) :
    round_Pack.f k (M:Int) (X:Int) neg (hi:Int) (lo:Int) (least M X+(s:Int)) false=some (((sgn M X neg+pat M (inf M X) ((hi*18446744073709551616+lo)*2^s) 1:Nat):Int),0):=by
  obtain⟨j,rfl⟩:∃ j,k=j+3:=⟨k-3,by omega⟩
  obtain⟨l1,l2,l3⟩:=least_bounds hM hM' hX hX'
  have:=pack_ok hM hM' hX hX' j neg hh hl (e:=least M X+(s:Int)) (by omega) (by omega) false (by simp)
  rw[if_neg (by simp),npat_units] at this
  exact this
theorem av_zero {a:Nat} (h:kd M X a=1):av M X a=0:=by
  unfold av;rw[(kd1 hM hM' hX hX').1 h,val_zero]
theorem av_pos {a:Nat} (h:kd M X a=2):0<av M X a:=by
  have h1:=((kd2 hM hM' hX hX').1 h).1
  have:=val_lt (M:=M) h1
  rw[val_zero] at this;exact this
end
theorem sv_add_same (n:Bool) (a b:Nat):sv n a+sv n b=sv n (a+b):=by unfold sv;cases n <;> simp <;> omega
theorem sv_add_diff {p q:Bool} (h:p≠q) (a b:Nat):sv p a+sv q b=if b≤a then sv p (a-b) else sv q (b-a):=by
  unfold sv
  cases p <;> cases q <;> simp at h ⊢ <;> split <;> omega
/-- a format and a pattern of it -/
def Good (m x:Int) (a:Nat):Prop:=Ok m x∧(blen a:Int)≤1+x+m
theorem open_ng {k:Nat} (hk:1≤k) {m x:Int} {a:Nat} (ha:a<18446744073709551616) (h:¬ Good m x a):round_Open.f k m x (a:Int)=some (0,false,0,0,1):=by
  obtain⟨j,rfl⟩:∃ j,k=j+1:=⟨k-1,by omega⟩
  refine open_bad j ha ?_
  by_cases hf:Ok m x
  · right;exact Int.not_le.1 fun h2=>h ⟨hf,h2⟩
  · exact Or.inl hf
theorem Good.nat {m x:Int} {a:Nat} (h:Good m x a):∃ M X:Nat,m=M∧x=X∧2≤M∧M≤52∧2≤X∧X≤11∧Pt M X a:=by
  obtain⟨h1,h2⟩:=h
  obtain⟨M,X,rfl,rfl,hM,hM',hX,hX'⟩:=h1.nat
  exact⟨M,X,rfl,rfl,hM,hM',hX,hX',pt_of_blen (by omega)⟩
theorem Good.of {M X a:Nat} (hM:2≤M) (hM':M≤52) (hX:2≤X) (hX':X≤11) (h:Pt M X a):Good (M:Int) (X:Int) a:=by
  refine⟨⟨by omega,by omega,by omega,by omega⟩,?_⟩
  have:blen a≤M+X+1:=blen_le (by rw[Nat.pow_succ];exact h)
  omega
theorem two_ng {k:Nat} (hk:4≤k) {m x:Int} {a b:Nat} (ha:a<18446744073709551616) (hb:b<18446744073709551616) (h:¬ (Good m x a∧Good m x b)):soft_two.f k m x (a:Int) (b:Int)=some (0,false,0,0,0,false,0,0,1):=by
  unfold soft_two.f
  by_cases h1:Good m x a
  · obtain⟨M,X,rfl,rfl,hM,hM',hX,hX',hp⟩:=h1.nat
    rw[open_pt hM hM' hX hX' hk hp,Option.bind_some,if_pos rfl,open_ng (by omega) hb (fun h2=>h ⟨h1,h2⟩),Option.bind_some,if_neg (by decide)]
  · rw[open_ng (by omega) ha h1,Option.bind_some,if_neg (by decide)]
end Go.Proofs.Ytmmbgbchimangaa.RS
