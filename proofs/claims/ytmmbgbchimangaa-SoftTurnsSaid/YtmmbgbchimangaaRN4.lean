import Derived.Test.YtmmbgbchimangaaRN2
import Derived.Test.YtmmbgbchimangaaPQx10
namespace Go.Proofs.Ytmmbgbchimangaa.RS
set_option linter.all false
open Go.RowKit Go.Proofs.Ytmmbgbchimangaa.PQ Go.Proofs.YtmmbgbchimangaaW.PrintWords Go.Proofs.YtmmbgbchimangaaW.PrintLast Go.Proofs.YtmmbgbchimangaaW.PrintMore
open FT
theorem td16 (a:Nat):Int.tdiv (a:Int) 16=((a/16:Nat):Int):=tdiv_nat a 16
theorem tm16 (a:Nat):Int.tmod (a:Int) 16=((a%16:Nat):Int):=tmod_nat a 16
/-! ### Up -/
theorem up_step {v p c x t d:Nat} (ht:t=x*p+c) (hd:d=x+65536*v):d*p+c=t%65536+65536*(v*p+t/65536):=by
  subst ht hd
  have h:=Nat.div_add_mod (x*p+c) 65536
  rw[Nat.add_mul,Nat.mul_assoc,Nat.mul_add];omega
theorem up_l1 (a:List Int) (p:Nat) (ha:Dig a) (hla:a.length≤100000) (hp:p≤32768):∀ (d i c k:Nat) (out:List Int),a.length-i=d→i≤a.length→Dig out→out.length+d≤500000→c<65536→out.length+2*d+3<k →
    grottoref02_Up.l1 k a out (p:Int) (c:Int) (i:Int)=some (digits (vl out+65536^out.length*(vl (a.drop i)*p+c))):=by
  intro d
  induction d with
  | zero =>
    intro i c k out hd hi hD hlo hc hk
    obtain⟨k,rfl⟩:∃ j,k=j+1:=⟨k-1,by omega⟩
    rw[grottoref02_Up.l1.eq_2,if_neg (by omega),if_pos (by omega),trim_eq (by simp;omega) (by simp;omega) (hD.app (Dig.one (by omega) (by omega))),Option.bind_some,vl_app,vl_out (by omega)]
    simp[vl]
  | succ d ih =>
    intro i c k out hd hi hD hlo hc hk
    obtain⟨k,rfl⟩:∃ j,k=j+1:=⟨k-1,by omega⟩
    have h1:i<a.length:=by omega
    have ra:=rd_dig ha h1
    have va:=vl_drop h1
    obtain⟨x,hx⟩:∃ x:Nat,rd a (i:Int)=(x:Int):=⟨(rd a (i:Int)).toNat,by omega⟩
    rw[hx] at ra va
    rw[Int.toNat_natCast] at va
    have hxp:x*p≤65535*32768:=Nat.mul_le_mul (by omega) hp
    have ei:Unit→wrap64 ((i:Int)+1)=((i+1:Nat):Int):=fun _=>by rw[w64 (by omega) (by omega)];omega
    have em:Unit→wrap64 ((x:Int)*(p:Int))=((x*p:Nat):Int):=fun _=>by rw[←Int.natCast_mul];exact w64 (by omega) (by omega)
    obtain⟨t,ht⟩:∃ t,t=x*p+c:=⟨_,rfl⟩
    have et:Unit→wrap64 (((x*p:Nat):Int)+(c:Int))=(t:Int):=fun _=>by rw[ht,Int.natCast_add];exact w64 (by omega) (by omega)
    have e1:Unit→wrap64 (Int.tdiv (t:Int) 65536)=((t/65536:Nat):Int):=fun _=>by rw[td];exact w64 (by omega) (by omega)
    have e2:vl [((t%65536:Nat):Int)]=t%65536:=by simp[vl];omega
    have hs:=up_step ht va
    rw[grottoref02_Up.l1.eq_2,if_pos (by omega),if_pos (by omega),if_pos (by omega),hx,(em ()),(et ()),(e1 ()),tm,(ei ())]
    rw[ih (i+1) (t/65536) k (out++[((t%65536:Nat):Int)]) (by omega) (by omega) (hD.app (Dig.one (by omega) (by omega))) (by simp;omega) (by omega) (by simp;omega)]
    rw[hs,vl_app,e2,List.length_append,List.length_cons,List.length_nil,Nat.pow_succ,Nat.mul_add (65536^out.length) (t%65536),Nat.mul_assoc,Nat.add_assoc]
theorem up_l0 (a out:List Int) (n q:Nat) (hn:n≤1000000) (hD:Dig a) (hla:a.length≤100000) (ho:out=List.replicate q 0) (hq:q≤100000):∀ (d i k:Nat),n%16-i=d→i≤n%16→q+2*a.length+d+4<k →
    grottoref02_Up.l0 k a (n:Int) out ((2^i:Nat):Int) (i:Int)=some (digits (65536^q*(vl a*2^(n%16)))):=by
  intro d
  induction d with
  | zero =>
    intro i k hd hi hk
    obtain⟨k,rfl⟩:∃ j,k=j+1:=⟨k-1,by omega⟩
    have e:i=n%16:=by omega
    rw[grottoref02_Up.l0.eq_2,tm16,if_neg (by omega),e]
    have hp:2^(n%16)≤32768:=Nat.pow_le_pow_right (n:=2) (by omega) (show n%16≤15 by omega)
    have hDo:Dig out:=by
      rw[ho];intro x hx
      have:=(List.mem_replicate.1 hx).2
      subst this;omega
    have hlo:out.length=q:=by rw[ho];simp
    have:=up_l1 a (2^(n%16)) hD hla hp (a.length-0) 0 0 k out rfl (by omega) hDo (by omega) (by omega) (by omega)
    rw[hlo,ho,vl_zeros,Nat.zero_add,Nat.add_zero,List.drop_zero] at this
    rw[ho];exact this
  | succ d ih =>
    intro i k hd hi hk
    obtain⟨k,rfl⟩:∃ j,k=j+1:=⟨k-1,by omega⟩
    have hp:2^i≤32768:=Nat.pow_le_pow_right (n:=2) (by omega) (show i≤15 by omega)
    have e1:Unit→wrap64 (2*((2^i:Nat):Int))=((2^(i+1):Nat):Int):=fun _=>by
      rw[Nat.pow_succ]
      generalize 2^i=P at hp ⊢
      rw[w64 (by omega) (by omega)];omega
    have e2:Unit→wrap64 ((i:Int)+1)=((i+1:Nat):Int):=fun _=>by rw[w64 (by omega) (by omega)];omega
    rw[grottoref02_Up.l0.eq_2,tm16,if_pos (by omega),(e1 ()),(e2 ())]
    exact ih (i+1) k (by omega) (by omega) (by omega)
theorem up_eq {a n k:Nat} (hl:(digits a).length≤100000) (hn:n≤1000000) (hk:n/16+2*(digits a).length+20<k) :
    grottoref02_Up.f k (digits a) (n:Int)=some (digits (a*2^n)):=by
  unfold grottoref02_Up.f
  have e1:Unit→wrap64 (Int.tdiv (n:Int) 16)=((n/16:Nat):Int):=fun _=>by rw[td16];exact w64 (by omega) (by omega)
  rw[(e1 ()),if_pos (by omega),Int.toNat_natCast,if_pos (by omega)]
  have:=up_l0 (digits a) _ n (n/16) hn (dig_digits a) hl rfl (by omega) (n%16) 0 k rfl (by omega) (by omega)
  rw[vl_digits] at this
  have e2:65536^(n/16)*(a*2^(n%16))=a*2^n:=by
    rw[pow_base,Nat.mul_left_comm,←Nat.pow_add,Nat.div_add_mod]
  rw[e2] at this
  exact this
/-! ### Minus -/
theorem minus_l0 (a b:List Int) (ha:Dig a) (hb:Dig b) (hla:a.length≤100000):∀ (d i c k:Nat) (out:List Int),a.length-i=d→i≤a.length→out.length=i→Dig out→c≤1→vl (b.drop i)+c≤vl (a.drop i)→a.length+d+2<k →
    grottoref02_Minus.l0 k a b out (c:Int) (i:Int)=some (digits (vl out+65536^i*(vl (a.drop i)-vl (b.drop i)-c))):=by
  intro d
  induction d with
  | zero =>
    intro i c k out hd hi ho hD hc hle hk
    obtain⟨k,rfl⟩:∃ j,k=j+1:=⟨k-1,by omega⟩
    have va:=vl_out (l:=a) (i:=i) (by omega)
    have e:vl (a.drop i)-vl (b.drop i)-c=0:=by omega
    rw[grottoref02_Minus.l0.eq_2,if_neg (by omega),trim_eq (by omega) (by omega) hD,Option.bind_some,e,Nat.mul_zero,Nat.add_zero]
  | succ d ih =>
    intro i c k out hd hi ho hD hc hle hk
    obtain⟨k,rfl⟩:∃ j,k=j+1:=⟨k-1,by omega⟩
    have h1:i<a.length:=by omega
    have ra:=rd_dig ha h1
    have va:=vl_drop h1
    have ei:Unit→wrap64 ((i:Int)+1)=((i+1:Nat):Int):=fun _=>by rw[w64 (by omega) (by omega)];omega
    have step:∀ (x c':Nat),x<65536→c'≤1→vl (b.drop (i+1))+c'≤vl (a.drop (i+1))→vl (a.drop i)-vl (b.drop i)-c=x+65536*(vl (a.drop (i+1))-vl (b.drop (i+1))-c') →
        grottoref02_Minus.l0 k a b (out++[(x:Int)]) (c':Int) ((i+1:Nat):Int)=some (digits (vl out+65536^i*(vl (a.drop i)-vl (b.drop i)-c))):=by
      intro x c' hx hc' hle' he
      have e2:vl [(x:Int)]=x:=by simp[vl]
      rw[ih (i+1) c' k (out++[(x:Int)]) (by omega) (by omega) (by simp;omega) (hD.app (Dig.one (by omega) (by omega))) hc' hle' (by omega),he,vl_app,e2,ho,Nat.pow_succ,Nat.mul_add (65536^i) x,Nat.mul_assoc,Nat.add_assoc]
    have ew0:Unit→wrap64 (rd a (i:Int)-(c:Int))=rd a (i:Int)-(c:Int):=fun _=>w64 (by omega) (by omega)
    rw[grottoref02_Minus.l0.eq_2,if_pos (by omega),if_pos (by omega),(ew0 ()),(ei ())]
    by_cases h2:i<b.length
    · have rb:=rd_dig hb h2
      have vb:=vl_drop h2
      have ew:Unit→wrap64 (rd a (i:Int)-(c:Int)-rd b (i:Int))=rd a (i:Int)-(c:Int)-rd b (i:Int):=fun _=>w64 (by omega) (by omega)
      rw[if_pos (by omega),(ew ())]
      by_cases h3:rd a (i:Int)-(c:Int)-rd b (i:Int)<0
      · have ew2:Unit→wrap64 (rd a (i:Int)-(c:Int)-rd b (i:Int)+65536)=(((rd a (i:Int)-(c:Int)-rd b (i:Int)+65536).toNat:Nat):Int):=fun _=>by rw[w64 (by omega) (by omega)];omega
        rw[if_pos h3,if_pos (by omega),(ew2 ())]
        exact step _ 1 (by omega) (by omega) (by omega) (by omega)
      · have ew2:rd a (i:Int)-(c:Int)-rd b (i:Int)=(((rd a (i:Int)-(c:Int)-rd b (i:Int)).toNat:Nat):Int):=by omega
        rw[if_neg h3,if_pos (by omega),ew2]
        exact step _ 0 (by omega) (by omega) (by omega) (by omega)
    · have vb:=vl_out h2
      have vb':=vl_out (l:=b) (i:=i+1) (by omega)
      rw[if_neg (by omega)]
      by_cases h3:rd a (i:Int)-(c:Int)<0
      · have ew2:Unit→wrap64 (rd a (i:Int)-(c:Int)+65536)=(((rd a (i:Int)-(c:Int)+65536).toNat:Nat):Int):=fun _=>by rw[w64 (by omega) (by omega)];omega
        rw[if_pos h3,if_pos (by omega),(ew2 ())]
        exact step _ 1 (by omega) (by omega) (by omega) (by omega)
      · have ew2:rd a (i:Int)-(c:Int)=(((rd a (i:Int)-(c:Int)).toNat:Nat):Int):=by omega
        rw[if_neg h3,if_pos (by omega),ew2]
        exact step _ 0 (by omega) (by omega) (by omega) (by omega)
theorem minus_eq {a b k:Nat} (hl:(digits a).length≤100000) (h:b≤a) (hk:2*(digits a).length+2<k) :
    grottoref02_Minus.f k (digits a) (digits b)=some (digits (a-b)):=by
  unfold grottoref02_Minus.f
  have:=minus_l0 (digits a) (digits b) (dig_digits a) (dig_digits b) hl _ 0 0 k [] rfl (by omega) rfl (by intro d hd;cases hd) (by omega) (by simpa [vl_digits] using h) (by omega)
  simpa [vl,vl_digits] using this
/-! ### Cmp -/
def cmp (a b:Nat):Int:=if a<b then -1 else if b<a then 1 else 0
theorem vl_take {l:List Int} {i:Nat} (h:i<l.length):vl (l.take (i+1))=vl (l.take i)+65536^i*(rd l (i:Int)).toNat:=by
  have e:l.take (i+1)=l.take i++[rd l (i:Int)]:=by
    rw[List.take_add_one,List.getElem?_eq_getElem h]
    congr 1
    unfold rd;simp[h]
  rw[e,vl_app]
  have:(l.take i).length=i:=by rw[List.length_take];omega
  rw[this];simp[vl]
theorem vl_take_lt {l:List Int} (hD:Dig l) (i:Nat):vl (l.take i)<65536^i:=by
  have h:=vl_lt (l:=l.take i) (fun d hd=>hD d (List.mem_of_mem_take hd))
  exact Nat.lt_of_lt_of_le h (Nat.pow_le_pow_right (by omega) (by rw[List.length_take];omega))
theorem lex_lt {P x y u v:Nat} (hx:x<P) (h:u<v):x+P*u<y+P*v:=by
  have:P*(u+1)≤P*v:=Nat.mul_le_mul_left _ h
  rw[Nat.mul_add] at this;omega
theorem cmp_l0 (a b:List Int) (ha:Dig a) (hb:Dig b) (hla:a.length≤100000) (hab:a.length=b.length):∀ (i k:Nat),i≤a.length→i<k →
    grottoref02_Cmp.l0 k a b ((i:Int)-1)=some (cmp (vl (a.take i)) (vl (b.take i))):=by
  intro i
  induction i with
  | zero =>
    intro k hi hk
    obtain⟨k,rfl⟩:∃ j,k=j+1:=⟨k-1,by omega⟩
    rw[grottoref02_Cmp.l0.eq_2,if_neg (by omega)];rfl
  | succ i ih =>
    intro k hi hk
    obtain⟨k,rfl⟩:∃ j,k=j+1:=⟨k-1,by omega⟩
    have h1:i<a.length:=by omega
    have h2:i<b.length:=by omega
    have ra:=rd_dig ha h1
    have rb:=rd_dig hb h2
    have ei:(((i+1:Nat):Int)-1)=(i:Int):=by omega
    have ew:Unit→wrap64 ((i:Int)-1)=(i:Int)-1:=fun _=>w64 (by omega) (by omega)
    have la:=vl_take_lt ha i
    have lb:=vl_take_lt hb i
    rw[grottoref02_Cmp.l0.eq_2,ei,if_pos (by omega),if_pos (by omega),if_pos (by omega),if_pos (by omega),(ew ()),vl_take h1,vl_take h2]
    by_cases h3:rd a (i:Int)<rd b (i:Int)
    · have:=lex_lt (y:=vl (b.take i)) la (show (rd a (i:Int)).toNat<(rd b (i:Int)).toNat by omega)
      rw[if_pos h3,cmp,if_pos this]
    · by_cases h4:rd a (i:Int)>rd b (i:Int)
      · have:=lex_lt (y:=vl (a.take i)) lb (show (rd b (i:Int)).toNat<(rd a (i:Int)).toNat by omega)
        rw[if_neg h3,if_pos h4,cmp,if_neg (by omega),if_pos this]
      · have e:rd a (i:Int)=rd b (i:Int):=by omega
        rw[if_neg h3,if_neg h4,ih k (by omega) (by omega),e]
        unfold cmp
        congr 1
        simp only[Nat.add_lt_add_iff_right]
theorem cmp_eq {a b k:Nat} (ha:(digits a).length≤100000) (hb:(digits b).length≤100000) (hk:(digits a).length+(digits b).length+2<k) :
    grottoref02_Cmp.f k (digits a) (digits b)=some (cmp a b):=by
  unfold grottoref02_Cmp.f
  rw[trim_digits (by omega) (by omega),Option.bind_some,trim_digits (by omega) (by omega),Option.bind_some]
  by_cases h:(digits a).length=(digits b).length
  · have ew:Unit→wrap64 (((digits a).length:Int)-1)=((digits a).length:Int)-1:=fun _=>w64 (by omega) (by omega)
    rw[if_pos (by omega),(ew ()),cmp_l0 _ _ (dig_digits a) (dig_digits b) ha h _ k (Nat.le_refl _) (by omega),List.take_length,h,List.take_length,vl_digits,vl_digits]
  · rw[if_neg (by omega)]
    by_cases h2:(digits a).length<(digits b).length
    · have:a<b:=by
        refine Nat.lt_of_not_le fun hle=>?_
        have:=digits_len_mono hle;omega
      rw[if_pos (by omega),cmp,if_pos this]
    · have:b<a:=by
        refine Nat.lt_of_not_le fun hle=>?_
        have:=digits_len_mono hle;omega
      rw[if_neg (by omega),cmp,if_neg (by omega),if_pos this]
/-! ### Quo -/
theorem digits_len_mul {b n:Nat}:(digits (b*2^n)).length≤(digits b).length+(n+15)/16:=by
  refine digits_len ?_
  have h1:b<65536^(digits b).length:=by have:=vl_lt (dig_digits b);rwa [vl_digits] at this
  have h2:2^n≤65536^((n+15)/16):=by rw[pow_base];exact Nat.pow_le_pow_right (by omega) (by omega)
  rw[Nat.pow_add]
  exact Nat.mul_lt_mul_of_lt_of_le h1 h2 (Nat.pow_pos (by omega))
theorem digits_one:digits 1=[1]:=by
  rw[digits_pos (by omega),show 1/65536=0 by rfl,digits_zero];rfl
theorem quo_step {b P q r:Nat} (hb:0<b) (h:b*P≤r):q+r/b=q+P+(r-b*P)/b∧r%b=(r-b*P)%b:=by
  obtain⟨s,rfl⟩:∃ s,r=b*P+s:=⟨r-b*P,by omega⟩
  rw[Nat.add_sub_cancel_left,Nat.mul_add_div hb,Nat.mul_add_mod]
  omega
theorem quo_l0 {b:Nat} (hb:0<b) (hlb:(digits b).length≤10000):∀ (n k q r:Nat),n≤100000→r<b*2^n→(digits r).length≤20000→(digits q).length≤20000→(digits (q+r/b)).length≤20000→200000+n<k →
    grottoref02_Quo.l0 k (digits b) (digits q) (digits r) ((n:Int)-1)=some (digits (q+r/b),digits (r%b)):=by
  intro n
  induction n with
  | zero =>
    intro k q r hn hr hlr hlq hls hk
    obtain⟨k,rfl⟩:∃ j,k=j+1:=⟨k-1,by omega⟩
    have hr':r<b:=by simpa using hr
    rw[grottoref02_Quo.l0.eq_2,if_neg (by omega),Nat.div_eq_of_lt hr',Nat.mod_eq_of_lt hr'];rfl
  | succ n ih =>
    intro k q r hn hr hlr hlq hls hk
    obtain⟨k,rfl⟩:∃ j,k=j+1:=⟨k-1,by omega⟩
    have ei:(((n+1:Nat):Int)-1)=(n:Int):=by omega
    have ew:Unit→wrap64 ((n:Int)-1)=(n:Int)-1:=fun _=>w64 (by omega) (by omega)
    have hlm:=digits_len_mul (b:=b) (n:=n)
    have hl1:=digits_len_mul (b:=1) (n:=n)
    rw[digits_one] at hl1
    simp only[List.length_cons,List.length_nil,Nat.one_mul] at hl1
    have hu1:=up_eq (a:=1) (n:=n) (k:=k) (by rw[digits_one];simp) (by omega) (by rw[digits_one];simp;omega)
    rw[digits_one,Nat.one_mul] at hu1
    rw[grottoref02_Quo.l0.eq_2,ei,if_pos (by omega),up_eq (by omega) (by omega) (by omega),Option.bind_some,cmp_eq (by omega) (by omega) (by omega),Option.bind_some,(ew ())]
    by_cases h:b*2^n≤r
    · have hc:cmp (b*2^n) r≤0:=by unfold cmp;split;omega;rw[if_neg (by omega)];omega
      obtain⟨s1,s2⟩:=quo_step (q:=q) hb h
      have hlr':(digits (r-b*2^n)).length≤(digits r).length:=digits_len_mono (Nat.sub_le _ _)
      have hls':(digits (q+2^n)).length≤(digits (q+r/b)).length:=digits_len_mono (by rw[s1];exact Nat.le_add_right _ _)
      rw[if_pos hc,minus_eq (by omega) h (by omega),Option.bind_some,hu1,Option.bind_some,plus_eq (by omega) (by omega) (by omega),Option.bind_some,s1,s2]
      exact ih k (q+2^n) (r-b*2^n) (by omega) (by rw[Nat.pow_succ,←Nat.mul_assoc] at hr;omega) (by omega) (by omega) (by rw[←s1];exact hls) (by omega)
    · have hc:¬ cmp (b*2^n) r≤0:=by unfold cmp;rw[if_neg (by omega),if_pos (by omega)];omega
      rw[if_neg hc]
      exact ih k q r (by omega) (by omega) hlr hlq hls (by omega)
theorem blen_digits (a:Nat):blen a≤16*(digits a).length:=by
  refine blen_le ?_
  rw[←pow_base]
  have:=vl_lt (dig_digits a);rwa [vl_digits] at this
theorem quo_eq {a b k:Nat} (hb:0<b) (hla:(digits a).length≤5000) (hlb:(digits b).length≤5000) (hk:400000<k) :
    grottoref02_Quo.f k (digits a) (digits b)=some (digits (a/b),digits (a%b)):=by
  unfold grottoref02_Quo.f
  have ha1:=blen_digits a
  have hb1:=blen_digits b
  have hlq:(digits (a/b)).length≤(digits a).length:=digits_len_mono (Nat.div_le_self _ _)
  rw[trim_digits (by omega) (by omega),Option.bind_some,bits_eq (by omega) (by omega),Option.bind_some,bits_eq (by omega) (by omega),Option.bind_some]
  have ew:Unit→wrap64 (((blen a:Nat):Int)-((blen b:Nat):Int))=(blen a:Int)-blen b:=fun _=>w64 (by omega) (by omega)
  rw[(ew ())]
  by_cases h:blen b≤blen a
  · have hlt:a<b*2^(blen a-blen b+1):=by
      have h1:=blen_lt a
      have h2:=blen_ge (a:=b) (by omega)
      have h3:0<blen b:=by
        refine Nat.pos_of_ne_zero fun h0=>?_
        have:=blen_lt b;rw[h0] at this;omega
      have h4:2^(blen b-1)*2^(blen a-blen b+1)≤b*2^(blen a-blen b+1):=Nat.mul_le_mul_right _ h2
      rw[←Nat.pow_add,show blen b-1+(blen a-blen b+1)=blen a by omega] at h4
      exact Nat.lt_of_lt_of_le h1 h4
    have:=quo_l0 hb (by omega) (blen a-blen b+1) k 0 a (by omega) hlt (by omega) (by rw[digits_zero];simp) (by rw[Nat.zero_add];omega) (by omega)
    rw[Nat.zero_add,digits_zero] at this
    rw[show (blen a:Int)-blen b=((blen a-blen b+1:Nat):Int)-1 by omega];exact this
  · have hlt:a<b:=by
      refine Nat.lt_of_not_le fun hle=>h ?_
      exact blen_le (Nat.lt_of_le_of_lt hle (blen_lt a))
    obtain⟨k,rfl⟩:∃ j,k=j+1:=⟨k-1,by omega⟩
    rw[grottoref02_Quo.l0.eq_2,if_neg (by omega),Nat.div_eq_of_lt hlt,Nat.mod_eq_of_lt hlt,digits_zero]
end Go.Proofs.Ytmmbgbchimangaa.RS
