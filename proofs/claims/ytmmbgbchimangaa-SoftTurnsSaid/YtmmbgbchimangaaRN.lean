import Derived.Test.YtmmbgbchimangaaPQx8
import Derived.Test.YtmmbgbchimangaaPQx10
import Derived.Test.YtmmbgbchimangaaRP
namespace Go.Proofs.Ytmmbgbchimangaa.RS
set_option linter.all false
open Go.RowKit Go.Proofs.Ytmmbgbchimangaa.PQ Go.Proofs.YtmmbgbchimangaaW.PrintWords Go.Proofs.YtmmbgbchimangaaW.PrintLast Go.Proofs.YtmmbgbchimangaaW.PrintMore
open FT
/-! ### numbers as lists of digits to the base 65536, the lowest first -/
def digits (n:Nat):List Int:=if h:n=0 then [] else ((n%65536:Nat):Int) :: digits (n/65536)
termination_by n
decreasing_by omega
def vl:List Int→Nat
  | []=>0
  | d :: l=>d.toNat+65536*vl l
def Dig (l:List Int):Prop:=∀ d ∈ l,0≤d∧d<65536
theorem digits_zero:digits 0=[]:=by unfold digits;simp
theorem digits_pos {n:Nat} (h:n≠0):digits n=((n%65536:Nat):Int) :: digits (n/65536):=by
  rw[digits];simp[h]
theorem vl_digits (n:Nat):vl (digits n)=n:=by
  induction n using Nat.strongRecOn with
  | _ n ih =>
    by_cases h:n=0
    · subst h;rw[digits_zero];rfl
    · rw[digits_pos h,vl,ih (n/65536) (by omega)];omega
theorem dig_digits (n:Nat):Dig (digits n):=by
  induction n using Nat.strongRecOn with
  | _ n ih =>
    by_cases h:n=0
    · subst h;rw[digits_zero];intro d hd;cases hd
    · rw[digits_pos h]
      intro d hd
      rcases List.mem_cons.1 hd with rfl|hd
      · omega
      · exact ih (n/65536) (by omega) d hd
theorem Dig.cons {d:Int} {l:List Int} (h:Dig (d :: l)):(0≤d∧d<65536)∧Dig l:=⟨h d (by simp),fun x hx=>h x (by simp[hx])⟩
theorem Dig.app {l l':List Int} (h:Dig l) (h':Dig l'):Dig (l++l'):=by
  intro d hd
  rcases List.mem_append.1 hd with hd|hd
  · exact h d hd
  · exact h' d hd
theorem Dig.one {d:Int} (h:0≤d) (h':d<65536):Dig [d]:=by
  intro x hx;simp at hx;subst hx;exact⟨h,h'⟩
theorem Dig.left {l l':List Int} (h:Dig (l++l')):Dig l:=fun d hd=>h d (by simp[hd])
theorem vl_app (l l':List Int):vl (l++l')=vl l+65536^l.length*vl l':=by
  induction l with
  | nil=>simp[vl]
  | cons d l ih =>
    rw[List.cons_append,vl,vl,ih,List.length_cons,Nat.pow_succ,Nat.mul_add]
    have:65536*(65536^l.length*vl l')=65536^l.length*65536*vl l':=by ac_rfl
    omega
theorem vl_lt {l:List Int} (h:Dig l):vl l<65536^l.length:=by
  induction l with
  | nil=>simp[vl]
  | cons d l ih =>
    obtain⟨h1,h2⟩:=h.cons
    have:=ih h2
    rw[vl,List.length_cons,Nat.pow_succ];omega
theorem vl_zeros (m:Nat):vl (List.replicate m 0)=0:=by
  induction m with
  | zero=>rfl
  | succ m ih=>rw[List.replicate_succ,vl,ih];rfl
/-- without zeros at its end a list is its number's -/
theorem digits_vl {l:List Int} {d:Int} (h:Dig (l++[d])) (hd:d≠0):digits (vl (l++[d]))=l++[d]:=by
  induction l with
  | nil =>
    have h1:=h d (by simp)
    have e:vl ([]++[d])=d.toNat:=by simp[vl]
    rw[e,digits_pos (by omega)]
    have e1:d.toNat/65536=0:=by omega
    have e2:((d.toNat%65536:Nat):Int)=d:=by omega
    rw[e1,e2,digits_zero];rfl
  | cons a l ih =>
    obtain⟨h1,h2⟩:=Dig.cons (d:=a) (l:=l++[d]) h
    have ih:=ih h2
    have hne:vl (l++[d])≠0:=by
      intro h0
      rw[h0,digits_zero] at ih
      have:=congrArg List.length ih;simp at this
    rw[List.cons_append,vl,digits_pos (by omega)]
    have e1:(a.toNat+65536*vl (l++[d]))/65536=vl (l++[d]):=by omega
    have e2:(((a.toNat+65536*vl (l++[d]))%65536:Nat):Int)=a:=by omega
    rw[e1,e2,ih]
theorem digits_len {n c:Nat} (h:n<65536^c):(digits n).length≤c:=by
  induction c generalizing n with
  | zero =>
    have:n=0:=by simpa using h
    subst this;rw[digits_zero];simp
  | succ c ih =>
    by_cases h0:n=0
    · subst h0;rw[digits_zero];simp
    · rw[digits_pos h0,List.length_cons]
      have:n/65536<65536^c:=by
        rw[Nat.div_lt_iff_lt_mul (by omega)];rwa [Nat.pow_succ] at h
      have:=ih this;omega
theorem digits_len_mono {a b:Nat} (h:a≤b):(digits a).length≤(digits b).length:=
  digits_len (Nat.lt_of_le_of_lt h (by have:=vl_lt (dig_digits b);rwa [vl_digits] at this))
theorem rd_app {l:List Int} {d:Int} {l':List Int}:rd (l++d :: l') (l.length:Int)=d:=by
  unfold rd;simp
theorem trim_l0 (l:List Int) (hl:l.length≤1000000):∀ (m k:Nat),l.length<k→Dig l→grottoref02_trim.l0 k (l++List.replicate m 0) (l.length:Int)=some (digits (vl l)):=by
  induction hn:l.length generalizing l with
  | zero =>
    intro m k hk _
    have:l=[]:=List.eq_nil_of_length_eq_zero hn
    subst this
    obtain⟨k,rfl⟩:∃ j,k=j+1:=⟨k-1,by omega⟩
    rw[grottoref02_trim.l0.eq_2,if_neg (by simp),if_pos (by simp),if_pos (by simp)]
    simp[vl,digits_zero]
  | succ n ih =>
    intro m k hk hD
    obtain⟨k,rfl⟩:∃ j,k=j+1:=⟨k-1,by omega⟩
    obtain⟨l2,d,rfl⟩:∃ l2 d,l=l2++[d]:=⟨l.dropLast,l.getLast (by intro h;subst h;simp at hn),(List.dropLast_concat_getLast _).symm⟩
    have hl2:l2.length=n:=by simpa using hn
    have ew:wrap64 (((n+1:Nat):Int)-1)=(n:Int):=by rw[w64 (by omega) (by simp at hl;omega)];omega
    have er:rd (l2++[d]++List.replicate m 0) (n:Int)=d:=by
      rw[←hl2,List.append_assoc];exact rd_app
    rw[grottoref02_trim.l0.eq_2,if_pos (by omega),ew,if_pos (by omega),if_pos (by simp;omega),er]
    by_cases hd:d=0
    · subst hd
      rw[if_pos rfl]
      have e:l2++[0]++List.replicate m 0=l2++List.replicate (m+1) 0:=by
        rw[List.append_assoc,List.replicate_succ];rfl
      have:=ih l2 (by simp at hl;omega) hl2 (m+1) k (by omega) hD.left
      rw[e,this,vl_app]
      simp[vl]
    · rw[if_neg hd,if_pos (by omega),if_pos (by simp;omega)]
      have:(((n+1:Nat):Int)).toNat=(l2++[d]).length:=by simp;omega
      rw[this,List.take_left,digits_vl hD hd]
theorem trim_eq {l:List Int} (hl:l.length≤1000000) {k:Nat} (hk:l.length<k) (hD:Dig l):grottoref02_trim.f k l=some (digits (vl l)):=by
  unfold grottoref02_trim.f
  have:=trim_l0 l hl 0 k hk hD
  simpa using this
theorem trim_digits {n k:Nat} (hl:(digits n).length≤1000000) (hk:(digits n).length<k):grottoref02_trim.f k (digits n)=some (digits n):=by
  rw[trim_eq hl hk (dig_digits n),vl_digits]
/-! ### powers -/
theorem power_l0 (n:Nat) (hn:n≤63):∀ (d i k:Nat),i+d=n→d<k→grottoref02_power.l0 k (n:Int) ((2^i:Nat):Int) (i:Int)=some ((2^n:Nat):Int):=by
  intro d
  induction d with
  | zero =>
    intro i k hi hk
    obtain⟨k,rfl⟩:∃ j,k=j+1:=⟨k-1,by omega⟩
    have:i=n:=by omega
    subst this
    rw[grottoref02_power.l0.eq_2,if_neg (by omega)]
  | succ d ih =>
    intro i k hi hk
    obtain⟨k,rfl⟩:∃ j,k=j+1:=⟨k-1,by omega⟩
    have hp:=pow_lt (k:=i+1) (by omega)
    have e1:IntKind.u64.wrap (2*((2^i:Nat):Int))=((2^(i+1):Nat):Int):=by
      have:(2*((2^i:Nat):Int))=((2^(i+1):Nat):Int):=by rw[Nat.pow_succ];omega
      rw[this];exact wuN hp
    have e2:wrap64 ((i:Int)+1)=((i+1:Nat):Int):=by rw[w64 (by omega) (by omega)];omega
    rw[grottoref02_power.l0.eq_2,if_pos (by omega),e1,e2]
    exact ih (i+1) k (by omega) (by omega)
theorem power_eq {n k:Nat} (hn:n≤63) (hk:n<k):grottoref02_power.f k (n:Int)=some ((2^n:Nat):Int):=by
  unfold grottoref02_power.f
  exact power_l0 n hn n 0 k (by omega) hk
end Go.Proofs.Ytmmbgbchimangaa.RS
