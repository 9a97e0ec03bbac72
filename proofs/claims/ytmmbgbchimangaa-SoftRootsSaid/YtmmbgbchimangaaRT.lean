/- The reference's product of two big numbers. -/
import Derived.Test.YtmmbgbchimangaaPQx24
import Derived.Test.YtmmbgbchimangaaRN4
namespace Go.Proofs.Ytmmbgbchimangaa.RS
set_option linter.all false
open Go.RowKit Go.Proofs.Ytmmbgbchimangaa.PQ Go.Proofs.YtmmbgbchimangaaW.PrintWords Go.Proofs.YtmmbgbchimangaaW.PrintLast Go.Proofs.YtmmbgbchimangaaW.PrintMore
open FT
theorem rd_zero {d:Int} {l:List Int}:rd (d :: l) ((0:Nat):Int)=d:=by unfold rd;simp
theorem rd_succ {d:Int} {l:List Int} {n:Nat}:rd (d :: l) ((n+1:Nat):Int)=rd l (n:Int):=by
  have h1:((n+1:Nat):Int).toNat=n+1:=Int.toNat_natCast _
  have h2:((n:Nat):Int).toNat=n:=Int.toNat_natCast _
  unfold rd;rw[h1,h2];simp
theorem vl_set:∀ {l:List Int} {n:Nat},n<l.length→∀ x:Int,vl (l.set n x)+65536^n*(rd l (n:Int)).toNat=vl l+65536^n*x.toNat:=by
  intro l
  induction l with
  | nil=>intro n h;simp at h
  | cons d l ih =>
    intro n h x
    cases n with
    | zero=>rw[List.set_cons_zero,vl,vl,rd_zero,Nat.pow_zero];omega
    | succ n =>
      have:=ih (n:=n) (by simp at h;omega) x
      rw[List.set_cons_succ,vl,vl,rd_succ,Nat.pow_succ,Nat.mul_comm (65536^n) 65536,Nat.mul_assoc,Nat.mul_assoc]
      omega
theorem Dig.set {l:List Int} (h:Dig l) (n:Nat) {x:Int} (h0:0≤x) (h1:x<65536):Dig (l.set n x):=by
  intro d hd
  rcases List.mem_or_eq_of_mem_set hd with hd|rfl
  · exact h d hd
  · exact⟨h0,h1⟩
theorem row_step {V V' P d t r c' w v T:Nat} (hv:V'+P*d=V+P*(t%65536)) (ht:t+r=d+w) (hw:w+65536*v=c'+r) (hT:V+P*c'=T):V'+P*65536*(t/65536+v)=T:=by
  have h1:d+c'=t%65536+65536*(t/65536+v):=by omega
  have h2:P*d+P*c'=P*(t%65536)+P*65536*(t/65536+v):=by rw[←Nat.mul_add,h1,Nat.mul_add,Nat.mul_assoc]
  omega
theorem times_l1 (a b:List Int) (ha:Dig a) (hb:Dig b) (i:Nat) (hi:i<a.length) (T:Nat):∀ (d j c k:Nat) (out:List Int),out.length-(i+j)=d→i+b.length≤out.length→out.length≤100000→i+j≤out.length→Dig out→c<65536→T<65536^out.length →
    vl out+65536^(i+j)*(c+(rd a (i:Int)).toNat*vl (b.drop j))=T→2*d+3<k →
    ∃ out' k',Dig out'∧out'.length=out.length∧vl out'=T∧k≤k'+2*d+2∧grottoref02_Times.l1 k a b out (i:Int) (c:Int) (j:Int)=grottoref02_Times.l0 k' a b out' ((i+1:Nat):Int):=by
  intro d
  induction d with
  | zero =>
    intro j c k out hd hib hlo hij hD hc hT hv hk
    obtain⟨k,rfl⟩:∃ m,k=m+2:=⟨k-2,by omega⟩
    have hj:¬ j<b.length:=by omega
    have e1:Unit→wrap64 ((i:Int)+1)=((i+1:Nat):Int):=fun _=>by rw[w64 (by omega) (by omega)];omega
    rw[vl_out hj,Nat.mul_zero,Nat.add_zero] at hv
    have hij2:i+j=out.length:=by omega
    have hc0:c=0:=by
      apply Nat.eq_zero_of_not_pos
      intro h
      have:65536^out.length*1≤65536^out.length*c:=Nat.mul_le_mul_left _ h
      rw[hij2] at hv;omega
    subst hc0
    refine⟨out,k,hD,rfl,by omega,by omega,?_⟩
    rw[grottoref02_Times.l1.eq_2,if_neg (by omega),grottoref02_Times.j2.eq_2,if_neg (by simp),e1 ()]
  | succ d ih =>
    intro j c k out hd hib hlo hij hD hc hT hv hk
    obtain⟨k,rfl⟩:∃ m,k=m+2:=⟨k-2,by omega⟩
    have hij2:i+j<out.length:=by omega
    have ro:=rd_dig hD hij2
    have ra:=rd_dig ha hi
    obtain⟨o,ho⟩:∃ x:Nat,rd out ((i+j:Nat):Int)=(x:Int):=⟨(rd out ((i+j:Nat):Int)).toNat,by omega⟩
    obtain⟨x,hx⟩:∃ x:Nat,rd a (i:Int)=(x:Int):=⟨(rd a (i:Int)).toNat,by omega⟩
    rw[hx] at ra hv ih
    rw[Int.toNat_natCast] at hv ih
    have eij:Unit→wrap64 ((i:Int)+(j:Int))=((i+j:Nat):Int):=fun _=>by rw[w64 (by omega) (by omega)];omega
    have ej:Unit→wrap64 ((j:Int)+1)=((j+1:Nat):Int):=fun _=>by rw[w64 (by omega) (by omega)];omega
    have ei:Unit→wrap64 ((i:Int)+1)=((i+1:Nat):Int):=fun _=>by rw[w64 (by omega) (by omega)];omega
    rw[ho] at ro
    have eo:Unit→wrap64 ((o:Int)+(c:Int))=((o+c:Nat):Int):=fun _=>by rw[w64 (by omega) (by omega)];omega
    have step:∀ t v:Nat,t<4294967296→t+65536*v=o+(c+x*vl (b.drop j))→v=x*vl (b.drop (j+1)) →
        ∃ out' k',Dig out'∧out'.length=out.length∧vl out'=T∧k+2≤k'+2*(d+1)+2∧grottoref02_Times.l1 k a b (out.set (i+j) (Int.tmod (t:Int) 65536)) (i:Int) (wrap64 (Int.tdiv (t:Int) 65536)) ((j+1:Nat):Int)=grottoref02_Times.l0 k' a b out' ((i+1:Nat):Int):=by
      intro t v ht h1 h2
      have e1:wrap64 (Int.tdiv (t:Int) 65536)=((t/65536:Nat):Int):=by rw[td];exact w64 (by omega) (by omega)
      have hs:=vl_set hij2 ((t%65536:Nat):Int)
      rw[ho,Int.toNat_natCast,Int.toNat_natCast] at hs
      have hl:(out.set (i+j) ((t%65536:Nat):Int)).length=out.length:=List.length_set
      rw[e1,tm]
      obtain⟨out',k',q1,q2,q3,q4,q5⟩:=ih (j+1) (t/65536) k (out.set (i+j) ((t%65536:Nat):Int)) (by rw[hl];omega) (by rw[hl];omega) (by rw[hl];omega) (by rw[hl];omega) (hD.set _ (by omega) (by omega)) (by omega) (by rw[hl];exact hT)
        (by rw[←Nat.add_assoc,Nat.pow_succ,←h2];exact row_step (r:=65536*v) (w:=c+x*vl (b.drop j)) hs (by omega) (by omega) hv) (by omega)
      exact⟨out',k',q1,by rw[q2,hl],q3,by omega,q5⟩
    rw[grottoref02_Times.l1.eq_2]
    by_cases hj:j<b.length
    · have rb:=rd_dig hb hj
      have vb:=vl_drop hj
      obtain⟨y,hy⟩:∃ y:Nat,rd b (j:Int)=(y:Int):=⟨(rd b (j:Int)).toNat,by omega⟩
      rw[hy] at rb vb
      rw[Int.toNat_natCast] at vb
      have hxy:x*y≤65535*65535:=Nat.mul_le_mul (by omega) (by omega)
      have em:Unit→wrap64 ((x:Int)*(y:Int))=((x*y:Nat):Int):=fun _=>by rw[←Int.natCast_mul];exact w64 (by omega) (by omega)
      have es:Unit→wrap64 (((o+c:Nat):Int)+((x*y:Nat):Int))=((o+c+x*y:Nat):Int):=fun _=>by rw[←Int.natCast_add];exact w64 (by omega) (by omega)
      rw[if_pos (by omega),grottoref02_Times.j2.eq_2,if_pos rfl,eij (),if_pos (by omega),if_pos (by omega),if_pos (by omega),if_pos (by omega),if_pos (by omega),if_pos (by omega),ho,hx,hy,eo (),em (),es (),ej (),Int.toNat_natCast]
      refine step _ (x*vl (b.drop (j+1))) (by omega) ?_ rfl
      rw[vb,Nat.mul_add,←Nat.mul_assoc x 65536,Nat.mul_comm x 65536,Nat.mul_assoc];omega
    · have v0:=vl_out hj
      have v1:=vl_out (l:=b) (i:=j+1) (by omega)
      by_cases hc0:c=0
      · subst hc0
        rw[v0,Nat.mul_zero,Nat.add_zero,Nat.mul_zero,Nat.add_zero] at hv
        refine⟨out,k,hD,rfl,hv,by omega,?_⟩
        rw[if_neg (by omega),grottoref02_Times.j2.eq_2,if_neg (by simp),ei ()]
      · rw[if_neg (by omega),decide_eq_true (by omega),grottoref02_Times.j2.eq_2,if_pos rfl,eij (),if_pos (by omega),if_pos (by omega),if_neg (by omega),ho,eo (),ej (),Int.toNat_natCast]
        refine step _ 0 (by omega) ?_ (by rw[v1,Nat.mul_zero])
        rw[v0,Nat.mul_zero];omega
theorem times_l0 (a b:List Int) (ha:Dig a) (hb:Dig b) (hla:a.length+b.length≤50000):∀ (d i k:Nat) (out:List Int),a.length-i=d→i≤a.length→out.length=a.length+b.length+1→Dig out→vl out=vl (a.take i)*vl b→d*(2*out.length+8)+out.length+3<k →
    grottoref02_Times.l0 k a b out (i:Int)=some (digits (vl a*vl b)):=by
  intro d
  induction d with
  | zero =>
    intro i k out hd hi hlo hD hv hk
    obtain⟨k,rfl⟩:∃ m,k=m+1:=⟨k-1,by omega⟩
    have e:a.take i=a:=List.take_of_length_le (by omega)
    rw[e] at hv
    rw[grottoref02_Times.l0.eq_2,if_neg (by omega),trim_eq (by omega) (by omega) hD,Option.bind_some,hv]
  | succ d ih =>
    intro i k out hd hi hlo hD hv hk
    obtain⟨k,rfl⟩:∃ m,k=m+1:=⟨k-1,by omega⟩
    have h1:i<a.length:=by omega
    have z:((0:Nat):Int)=0:=rfl
    have hT:vl (a.take (i+1))*vl b<65536^out.length:=by
      have h2:=vl_take_lt ha (i+1)
      have h3:=vl_lt hb
      have h4:=Nat.pow_le_pow_right (n:=65536) (by omega) (show i+1≤a.length by omega)
      have h5:vl (a.take (i+1))*vl b≤65536^a.length*65536^b.length:=Nat.mul_le_mul (by omega) (by omega)
      have h6:=Nat.pow_lt_pow_right (a:=65536) (by omega) (show a.length+b.length<out.length by omega)
      rw[Nat.pow_add] at h6;omega
    have hk2:(d+1)*(2*out.length+8)=d*(2*out.length+8)+(2*out.length+8):=Nat.succ_mul ..
    obtain⟨out',k',q1,q2,q3,q4,q5⟩:=times_l1 a b ha hb i h1 _ (out.length-(i+0)) 0 0 k out rfl (by omega) (by omega) (by omega) hD (by omega) hT
      (by rw[List.drop_zero,hv,vl_take h1,Nat.add_zero,Nat.zero_add,Nat.add_mul,Nat.mul_assoc]) (by omega)
    rw[z] at q5
    rw[grottoref02_Times.l0.eq_2,if_pos (by omega),q5]
    refine ih (i+1) k' out' (by omega) (by omega) (by omega) q1 q3 ?_
    rw[q2];omega
theorem times_eq {a b k:Nat} (ha:(digits a).length≤300) (hb:(digits b).length≤300) (hk:400000<k):grottoref02_Times.f k (digits a) (digits b)=some (digits (a*b)):=by
  have w1:Unit→wrap64 (wrap64 (((digits a).length:Int)+((digits b).length:Int))+1)=(((digits a).length+(digits b).length+1:Nat):Int):=fun _=>by rw[w64 (n:=((digits a).length:Int)+((digits b).length:Int)) (by omega) (by omega),w64 (by omega) (by omega)];omega
  unfold grottoref02_Times.f
  rw[w1 (),if_pos (by omega),Int.toNat_natCast,if_pos (by omega)]
  have z:((0:Nat):Int)=0:=rfl
  have hmul:(digits a).length*(2*((digits a).length+(digits b).length+1)+8)≤300*1210:=Nat.mul_le_mul ha (by omega)
  have:=times_l0 (digits a) (digits b) (dig_digits a) (dig_digits b) (by omega) (digits a).length 0 k (List.replicate ((digits a).length+(digits b).length+1) 0) (by omega) (by omega) (by simp)
    (by intro d hd;have:=(List.mem_replicate.1 hd).2;omega) (by rw[vl_zeros,List.take_zero];simp[vl]) (by rw[List.length_replicate];omega)
  rw[z,vl_digits,vl_digits] at this
  exact this
end Go.Proofs.Ytmmbgbchimangaa.RS
