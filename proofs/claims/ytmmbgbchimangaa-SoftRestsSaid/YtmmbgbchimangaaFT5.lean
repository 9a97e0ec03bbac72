import Derived.Test.YtmmbgbchimangaaFT4
namespace Go.Proofs.Ytmmbgbchimangaa.FT
set_option linter.all false
/-! ### whole roots -/
def isq (V:Nat):Nat:=if h:V=0 then 0 else let r:=2*isq (V/4);if (r+1)*(r+1)≤V then r+1 else r
termination_by V
decreasing_by omega
theorem isq_root (V:Nat):isq V*isq V≤V∧V<(isq V+1)*(isq V+1):=by
  induction V using Nat.strongRecOn with
  | _ V ih =>
    rw[isq]
    by_cases h:V=0
    · subst h;simp
    · obtain⟨h1,h2⟩:=ih (V/4) (by omega)
      simp only[h,dite_false]
      generalize isq (V/4)=t at *
      have e1:2*t*(2*t)=4*(t*t):=by rw[Nat.mul_mul_mul_comm]
      have e2:(2*t+1+1)*(2*t+1+1)=4*((t+1)*(t+1)):=by
        have:2*t+1+1=2*(t+1):=by omega
        rw[this,Nat.mul_mul_mul_comm]
      split
      · rename_i hc
        exact⟨hc,by rw[e2];omega⟩
      · rename_i hc
        exact⟨by rw[e1];omega,by omega⟩
structure Root (V r st:Nat):Prop where
  lo:r*r≤V
  hi:V<(r+1)*(r+1)
  st:st=if r*r=V then 0 else 1
theorem sq_le {a b:Nat} (h:a*a≤b*b):a≤b:=Nat.le_of_not_lt fun hlt=>absurd h (Nat.not_le.2 (Nat.mul_lt_mul'' hlt hlt))
theorem sq_lt {a b:Nat} (h:a*a<b*b):a<b:=Nat.lt_of_not_le fun hle=>absurd h (Nat.not_lt.2 (Nat.mul_le_mul hle hle))
theorem Root.unique {V r st r' st':Nat} (h:Root V r st) (h':Root V r' st'):r=r'∧st=st':=by
  have h1:r<r'+1:=sq_lt (Nat.lt_of_le_of_lt h.lo h'.hi)
  have h2:r'<r+1:=sq_lt (Nat.lt_of_le_of_lt h'.lo h.hi)
  have e:r=r':=by omega
  subst e
  exact⟨rfl,by rw[h.st,h'.st]⟩
theorem root_isq (V:Nat):Root V (isq V) (if isq V*isq V=V then 0 else 1):=⟨(isq_root V).1,(isq_root V).2,rfl⟩
theorem sqp (k:Nat) (r:Nat):r*2^k*(r*2^k)=r*r*4^k:=by
  have:4^k=2^k*2^k:=by rw[←Nat.mul_pow]
  rw[this];ac_rfl
/-- a root at another power of 4: the same one, with more bits -/
theorem root_scale {V r st r' st' k:Nat} (h:Root V r st) (h':Root (V*4^k) r' st') :
    (st=0→r'=r*2^k∧st'=0)∧(st≠0→r*(2*2^k)<2*r'+st'∧2*r'+st'<(r+1)*(2*2^k)):=by
  have hp:=two_pos k
  have h4:0<4^k:=Nat.pow_pos (by omega)
  constructor
  · intro h0
    have hV:r*r=V:=by
      refine Decidable.byContradiction fun hne=>?_
      have:=h.st;rw[if_neg hne] at this;omega
    have hR:Root (V*4^k) (r*2^k) 0:=by
      refine⟨?_,?_,?_⟩
      · rw[sqp,hV];exact Nat.le_refl _
      · rw[←hV,←sqp];exact Nat.mul_lt_mul'' (Nat.lt_succ_self _) (Nat.lt_succ_self _)
      · rw[sqp,hV,if_pos rfl]
    exact h'.unique hR
  · intro h1
    have hne:r*r≠V:=by
      intro he;have:=h.st;rw[if_pos he] at this;exact h1 this
    have hlo:r*r<V:=Nat.lt_of_le_of_ne h.lo hne
    have a1:r*2^k≤r':=by
      have:r*2^k<r'+1:=by
        refine sq_lt ?_
        rw[sqp]
        exact Nat.lt_of_le_of_lt (Nat.mul_le_mul_right _ h.lo) h'.hi
      omega
    have a2:r'<(r+1)*2^k:=by
      refine sq_lt ?_
      rw[sqp]
      exact Nat.lt_of_le_of_lt h'.lo (Nat.mul_lt_mul_of_pos_right h.hi h4)
    have hst:st'≤1:=by rw[h'.st];split <;> omega
    have e1:r*(2*2^k)=2*(r*2^k):=by ac_rfl
    have e2:(r+1)*(2*2^k)=2*((r+1)*2^k):=by ac_rfl
    rw[e1,e2]
    refine⟨?_,by omega⟩
    rcases Nat.eq_or_lt_of_le a1 with e|hlt
    · have hne':r'*r'≠V*4^k:=by
        rw[←e,sqp]
        intro he
        exact hne (Nat.eq_of_mul_eq_mul_right h4 he)
      have:=h'.st
      rw[if_neg hne'] at this
      omega
    · omega
/-- the pattern of a root does not hang on how many bits of it are reckoned -/
theorem root_raw {M V r st r' st' k x y:Nat} (hr:2^(M+1)≤r) (h:Root V r st) (h':Root (V*4^k) r' st') :
    raw M ((2*r'+st')*2^x) (2*2^k*2^y)=raw M ((2*r+st)*2^x) (2*2^y):=by
  obtain⟨h0,h1⟩:=root_scale h h'
  have hp:=two_pos k
  by_cases hs:st=0
  · obtain⟨e1,e2⟩:=h0 hs
    refine raw_congr (Nat.mul_pos (Nat.mul_pos (by omega) hp) (two_pos y)) (Nat.mul_pos (by omega) (two_pos y)) ?_
    rw[e1,e2,hs]
    simp only[Nat.add_zero]
    ac_rfl
  · obtain⟨a1,a2⟩:=h1 hs
    have hst:st=1:=by have:=h.st;split at this <;> omega
    refine raw_sticky hr (Nat.mul_pos (by omega) hp) (by omega) a1 a2 (by rw[hst];omega) (by rw[hst];omega)
end Go.Proofs.Ytmmbgbchimangaa.FT
