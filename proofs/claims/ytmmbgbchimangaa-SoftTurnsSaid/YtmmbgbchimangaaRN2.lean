import Derived.Test.YtmmbgbchimangaaPQx10
import Derived.Test.YtmmbgbchimangaaRN
namespace Go.Proofs.Ytmmbgbchimangaa.RS
set_option linter.all false
open Go.RowKit Go.Proofs.Ytmmbgbchimangaa.PQ Go.Proofs.YtmmbgbchimangaaW.PrintWords Go.Proofs.YtmmbgbchimangaaW.PrintLast Go.Proofs.YtmmbgbchimangaaW.PrintMore
open FT
theorem tdiv_nat (a b:Nat):Int.tdiv (a:Int) (b:Int)=((a/b:Nat):Int):=by
  rw[Int.tdiv_eq_ediv_of_nonneg (by omega)];simp
theorem tmod_nat (a b:Nat):Int.tmod (a:Int) (b:Int)=((a%b:Nat):Int):=by
  rw[Int.tmod_eq_emod_of_nonneg (by omega)];simp
theorem td (a:Nat):Int.tdiv (a:Int) 65536=((a/65536:Nat):Int):=tdiv_nat a 65536
theorem td2 (a:Nat):Int.tdiv (a:Int) 2=((a/2:Nat):Int):=tdiv_nat a 2
theorem tm (a:Nat):Int.tmod (a:Int) 65536=((a%65536:Nat):Int):=tmod_nat a 65536
theorem natof_l0:∀ (n k:Nat) (acc:List Int),n<18446744073709551616→acc.length+(digits n).length≤1000000→(digits n).length<k →
    grottoref02_NatOf.l0 k (n:Int) acc=some (acc++digits n):=by
  intro n
  induction n using Nat.strongRecOn with
  | _ n ih =>
    intro k acc hn hl hk
    obtain⟨k,rfl⟩:∃ j,k=j+1:=⟨k-1,by omega⟩
    rw[grottoref02_NatOf.l0.eq_2]
    by_cases h:n=0
    · subst h
      rw[if_neg (by simp),digits_zero];simp
    · rw[digits_pos h,List.length_cons] at hl hk
      have e1:IntKind.u64.wrap (Int.tdiv (n:Int) 65536)=((n/65536:Nat):Int):=by rw[td];exact wuN (by omega)
      have e2:wrap64 (Int.tmod (n:Int) 65536)=((n%65536:Nat):Int):=by rw[tm];exact w64 (by omega) (by omega)
      rw[if_pos (by omega),if_pos (by omega),e1,e2,ih (n/65536) (by omega) k _ (by omega) (by simp;omega) (by omega),digits_pos h]
      simp
theorem natof_eq {n k:Nat} (hn:n<18446744073709551616) (hk:4<k):grottoref02_NatOf.f k (n:Int)=some (digits n):=by
  have hd:(digits n).length≤4:=digits_len (by omega)
  unfold grottoref02_NatOf.f
  rw[natof_l0 n k [] hn (by simp;omega) (by omega)];simp
theorem bits_l0:∀ (n k a:Nat),n<65536→a+blen n≤100000000→blen n<k→grottoref02_Bits.l0 k (a:Int) (n:Int)=some ((a+blen n:Nat):Int):=by
  intro n
  induction n using Nat.strongRecOn with
  | _ n ih =>
    intro k a hn ha hk
    obtain⟨k,rfl⟩:∃ j,k=j+1:=⟨k-1,by omega⟩
    rw[grottoref02_Bits.l0.eq_2]
    by_cases h:n=0
    · subst h
      rw[if_neg (by simp)];rfl
    · have hb:blen n=blen (n/2)+1:=by
        by_cases h1:n=1
        · subst h1;rfl
        · exact blen_shift (k:=1) (by omega)
      have e1:wrap64 (Int.tdiv (n:Int) 2)=((n/2:Nat):Int):=by rw[td2];exact w64 (by omega) (by omega)
      have e2:wrap64 ((a:Int)+1)=((a+1:Nat):Int):=by rw[w64 (by omega) (by omega)];omega
      rw[if_pos (by omega),e1,e2,ih (n/2) (by omega) k (a+1) (by omega) (by omega) (by omega),hb]
      congr 2;omega
theorem digits_snoc {n:Nat} (h:n≠0):∃ (l:List Int) (d:Nat),digits n=l++[(d:Int)]∧d≠0∧d<65536∧n/65536^l.length=d:=by
  induction n using Nat.strongRecOn with
  | _ n ih =>
    by_cases h1:n/65536=0
    · refine⟨[],n%65536,?_,by omega,by omega,by simp;omega⟩
      rw[digits_pos h,h1,digits_zero];rfl
    · obtain⟨l,d,e,h2,h3,h4⟩:=ih (n/65536) (by omega) h1
      refine⟨((n%65536:Nat):Int) :: l,d,?_,h2,h3,?_⟩
      · rw[digits_pos h,e];rfl
      · rw[List.length_cons,Nat.pow_succ,Nat.mul_comm,←Nat.div_div_eq_div_mul];exact h4
theorem pow_base (c:Nat):65536^c=2^(16*c):=by rw[Nat.pow_mul]
theorem bits_eq {n k:Nat} (hl:(digits n).length≤1000000) (hk:(digits n).length+20<k):grottoref02_Bits.f k (digits n)=some ((blen n:Nat):Int):=by
  unfold grottoref02_Bits.f
  rw[trim_digits hl (by omega),Option.bind_some]
  by_cases h:n=0
  · subst h
    rw[digits_zero,if_pos (by rfl)];rfl
  · obtain⟨l,d,e,h1,h2,h3⟩:=digits_snoc h
    rw[e] at hl hk ⊢
    simp only[List.length_append,List.length_cons,List.length_nil] at hl hk ⊢
    have ew:wrap64 (((l.length+(0+1):Nat):Int)-1)=(l.length:Int):=by rw[w64 (by omega) (by omega)];omega
    have ew2:wrap64 (16*(l.length:Int))=((16*l.length:Nat):Int):=by rw[w64 (by omega) (by omega)];omega
    have hb16:blen d≤16:=blen_le (a:=d) (k:=16) (by omega)
    rw[if_neg (by omega),ew,if_pos (by omega),if_pos (by omega),ew2,rd_app,bits_l0 d k (16*l.length) h2 (by omega) (by omega)]
    have hge:2^(16*l.length)≤n:=by
      rw[←pow_base]
      refine Nat.le_of_not_lt fun hlt=>h1 ?_
      rw[←h3];exact Nat.div_eq_of_lt hlt
    rw[blen_shift hge,←pow_base,h3]
    congr 2;omega
theorem small_l0:∀ (pre post:List Int) (k:Nat),pre.length≤1000000→Dig (pre++post)→vl (pre++post)<18446744073709551616→pre.length<k →
    grottoref02_Small.l0 k (pre++post) ((vl post:Nat):Int) ((pre.length:Int)-1)=some ((vl (pre++post):Nat):Int):=by
  intro pre
  induction hn:pre.length generalizing pre with
  | zero =>
    intro post k _ hD hv hk
    have:pre=[]:=List.eq_nil_of_length_eq_zero hn
    subst this
    obtain⟨k,rfl⟩:∃ j,k=j+1:=⟨k-1,by omega⟩
    rw[grottoref02_Small.l0.eq_2,if_neg (by simp)];rfl
  | succ n ih =>
    intro post k hl hD hv hk
    obtain⟨k,rfl⟩:∃ j,k=j+1:=⟨k-1,by omega⟩
    obtain⟨l2,d,rfl⟩:∃ l2 d,pre=l2++[d]:=⟨pre.dropLast,pre.getLast (by intro h;subst h;simp at hn),(List.dropLast_concat_getLast _).symm⟩
    have hl2:l2.length=n:=by simpa using hn
    have eapp:l2++[d]++post=l2++(d :: post):=by simp
    rw[eapp] at hD hv ⊢
    have hd:0≤d∧d<65536:=hD d (by simp)
    have hvp:vl (d :: post)≤vl (l2++d :: post):=by
      rw[vl_app]
      have:1*vl (d :: post)≤65536^l2.length*vl (d :: post):=Nat.mul_le_mul_right _ (Nat.pow_pos (by omega))
      omega
    have hvc:vl (d :: post)=d.toNat+65536*vl post:=rfl
    have er:rd (l2++d :: post) (n:Int)=d:=by rw[←hl2];exact rd_app
    have e0:(((n+1:Nat):Int)-1)=(n:Int):=by omega
    have ew:wrap64 ((n:Int)-1)=(n:Int)-1:=w64 (by omega) (by omega)
    have e1:IntKind.u64.wrap (((vl post:Nat):Int)*65536)=((vl post*65536:Nat):Int):=wuN (n:=vl post*65536) (by omega)
    have e2:IntKind.u64.wrap d=d:=wu hd.1 (by omega)
    have e3:IntKind.u64.wrap (((vl post*65536:Nat):Int)+d)=((vl (d :: post):Nat):Int):=by
      rw[wu (by omega) (by omega),hvc];omega
    rw[grottoref02_Small.l0.eq_2,e0,if_pos (by omega),if_pos (by omega),if_pos (by simp;omega),er,e1,e2,e3,ew]
    exact ih l2 hl2 (d :: post) k (by omega) hD hv (by omega)
theorem small_eq {n k:Nat} (hn:n<18446744073709551616) (hk:5<k):grottoref02_Small.f k (digits n)=some (n:Int):=by
  have hd:(digits n).length≤4:=digits_len (by omega)
  unfold grottoref02_Small.f
  have:=small_l0 (digits n) [] k (by omega) (by simpa using dig_digits n) (by simpa [vl_digits] using hn) (by omega)
  rw[w64 (by omega) (by omega)]
  simpa [vl,vl_digits] using this
theorem drop_rd {l:List Int} {i:Nat} (h:i<l.length):l.drop i=rd l (i:Int) :: l.drop (i+1):=by
  rw[List.drop_eq_getElem_cons h]
  congr 1
  unfold rd;simp[h]
theorem vl_drop {l:List Int} {i:Nat} (h:i<l.length):vl (l.drop i)=(rd l (i:Int)).toNat+65536*vl (l.drop (i+1)):=by
  rw[drop_rd h];rfl
theorem vl_out {l:List Int} {i:Nat} (h:¬ i<l.length):vl (l.drop i)=0:=by
  rw[List.drop_eq_nil_of_le (by omega)];rfl
theorem rd_dig {l:List Int} (hD:Dig l) {i:Nat} (h:i<l.length):0≤rd l (i:Int)∧rd l (i:Int)<65536:=by
  have:rd l (i:Int)=l[i]:=by unfold rd;simp[h]
  rw[this];exact hD _ (List.getElem_mem h)
/-- one step of the sum -/
theorem plus_l0 (a b:List Int) (ha:Dig a) (hb:Dig b) (hla:a.length≤100000) (hlb:b.length≤100000):∀ (d i c k:Nat) (out:List Int),out.length=i→Dig out→c≤1→max a.length b.length-i=d→i≤max a.length b.length→max a.length b.length+2*d+5<k →
    grottoref02_Plus.l0 k a b out (c:Int) (i:Int)=some (digits (vl out+65536^i*(vl (a.drop i)+vl (b.drop i)+c))):=by
  intro d
  induction d with
  | zero =>
    intro i c k out ho hD hc hd hi hk
    obtain⟨k,rfl⟩:∃ j,k=j+2:=⟨k-2,by omega⟩
    rw[grottoref02_Plus.l0.eq_2,if_neg (by omega),decide_eq_false (by omega),grottoref02_Plus.j1.eq_2,if_neg (by simp),if_pos (by omega)]
    rw[trim_eq (by simp;omega) (by simp;omega) (hD.app (Dig.one (by omega) (by omega))),Option.bind_some,vl_app,ho,vl_out (by omega),vl_out (by omega)]
    simp[vl]
  | succ d ih =>
    intro i c k out ho hD hc hd hi hk
    obtain⟨k,rfl⟩:∃ j,k=j+2:=⟨k-2,by omega⟩
    have hor:i<a.length∨i<b.length:=by omega
    have hj:grottoref02_Plus.l0 (k+2) a b out (c:Int) (i:Int)=grottoref02_Plus.j1 (k+1) a b out (c:Int) (i:Int) true:=by
      rw[grottoref02_Plus.l0.eq_2]
      by_cases h:i<a.length
      · rw[if_pos (by omega)]
      · rw[if_neg (by omega),decide_eq_true (by omega)]
    have ei:wrap64 ((i:Int)+1)=((i+1:Nat):Int):=by rw[w64 (by omega) (by omega)];omega
    have step:∀ (t:Nat),t=(vl (a.drop i)+vl (b.drop i)+c)-65536*(vl (a.drop (i+1))+vl (b.drop (i+1)))→65536*(vl (a.drop (i+1))+vl (b.drop (i+1)))≤vl (a.drop i)+vl (b.drop i)+c→t≤131071 →
        grottoref02_Plus.l0 k a b (out++[Int.tmod (t:Int) 65536]) (wrap64 (Int.tdiv (t:Int) 65536)) ((i+1:Nat):Int)=some (digits (vl out+65536^i*(vl (a.drop i)+vl (b.drop i)+c))):=by
      intro t ht hle htb
      have e1:wrap64 (Int.tdiv (t:Int) 65536)=((t/65536:Nat):Int):=by rw[td];exact w64 (by omega) (by omega)
      rw[tm,e1,ih (i+1) (t/65536) k (out++[((t%65536:Nat):Int)]) (by simp;omega) (hD.app (Dig.one (by omega) (by omega))) (by omega) (by omega) (by omega) (by omega)]
      congr 2
      have:vl (a.drop i)+vl (b.drop i)+c=t%65536+65536*(vl (a.drop (i+1))+vl (b.drop (i+1))+t/65536):=by omega
      have e2:vl [((t%65536:Nat):Int)]=t%65536:=by simp[vl];omega
      rw[vl_app,ho,Nat.pow_succ,this,e2,Nat.mul_add (65536^i) (t%65536),Nat.mul_assoc,Nat.add_assoc]
    rw[hj,grottoref02_Plus.j1.eq_2,if_pos rfl,ei]
    by_cases h1:i<a.length
    · have ra:=rd_dig ha h1
      have va:=vl_drop h1
      rw[if_pos (by omega),if_pos (by omega)]
      by_cases h2:i<b.length
      · have rb:=rd_dig hb h2
        have vb:=vl_drop h2
        have ew:wrap64 (wrap64 ((c:Int)+rd a (i:Int))+rd b (i:Int))=(((c+(rd a (i:Int)).toNat+(rd b (i:Int)).toNat:Nat)):Int):=by
          rw[w64 (n:=(c:Int)+rd a (i:Int)) (by omega) (by omega),w64 (by omega) (by omega)];omega
        rw[if_pos (by omega),if_pos (by omega),ew]
        exact step _ (by omega) (by omega) (by omega)
      · have vb:=vl_out h2
        have vb':=vl_out (l:=b) (i:=i+1) (by omega)
        have ew:wrap64 ((c:Int)+rd a (i:Int))=(((c+(rd a (i:Int)).toNat:Nat)):Int):=by
          rw[w64 (by omega) (by omega)];omega
        rw[if_neg (by omega),if_pos (by omega),ew]
        exact step _ (by omega) (by omega) (by omega)
    · have va:=vl_out h1
      have va':=vl_out (l:=a) (i:=i+1) (by omega)
      have h2:i<b.length:=by omega
      have rb:=rd_dig hb h2
      have vb:=vl_drop h2
      have ew:wrap64 ((c:Int)+rd b (i:Int))=(((c+(rd b (i:Int)).toNat:Nat)):Int):=by
        rw[w64 (by omega) (by omega)];omega
      rw[if_neg (by omega),if_pos (by omega),if_pos (by omega),if_pos (by omega),ew]
      exact step _ (by omega) (by omega) (by omega)
theorem plus_eq {a b k:Nat} (ha:(digits a).length≤100000) (hb:(digits b).length≤100000) (hk:3*max (digits a).length (digits b).length+5<k) :
    grottoref02_Plus.f k (digits a) (digits b)=some (digits (a+b)):=by
  unfold grottoref02_Plus.f
  have:=plus_l0 (digits a) (digits b) (dig_digits a) (dig_digits b) ha hb _ 0 0 k [] rfl (by intro d hd;cases hd) (by omega) rfl (by omega) (by omega)
  simpa [vl,vl_digits] using this
end Go.Proofs.Ytmmbgbchimangaa.RS
