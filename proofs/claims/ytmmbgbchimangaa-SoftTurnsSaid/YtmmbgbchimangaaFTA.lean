import Derived.Test.YtmmbgbchimangaaFT
namespace Go.Proofs.Ytmmbgbchimangaa.FT
set_option linter.all false
/-- what lies strictly between N and N + 1, where N has at least M + 2 bits, has one pattern, at any power of 2 -/
theorem raw_sticky {M N n d n' d' x y:Nat} (hN:2^(M+1)≤N) (hd:0<d) (hd':0<d')
    (h1:N*d<n) (h2:n<(N+1)*d) (h1':N*d'<n') (h2':n'<(N+1)*d'):raw M (n*2^x) (d*2^y)=raw M (n'*2^x) (d'*2^y):=by
  have hN0:N≠0:=by have:=two_pos (M+1);omega
  have hL:M+1≤Nat.log2 N:=(Nat.le_log2 hN0).2 hN
  have hLlo:2^Nat.log2 N≤N:=Nat.log2_self_le hN0
  have hLhi:N+1≤2^(Nat.log2 N+1):=Nat.lt_log2_self
  generalize Nat.log2 N=L at *
  obtain⟨k,hk⟩:∃ k,k=L+x-(y+M):=⟨_,rfl⟩
  have key:∀ n d:Nat,0<d→N*d<n→n<(N+1)*d→shf M (n*2^x) (d*2^y)=k:=by
    intro n d hd h1 h2
    refine shf_eq (Nat.mul_pos hd (two_pos y)) ?_ ?_
    · have a1:n*2^x<(N+1)*d*2^x:=Nat.mul_lt_mul_of_pos_right h2 (two_pos x)
      have a2:(N+1)*d*2^x≤2^(L+1)*d*2^x:=Nat.mul_le_mul_right _ (Nat.mul_le_mul_right _ hLhi)
      have a3:2^(L+1)*d*2^x=2^(L+1+x)*d:=by rw[Nat.pow_add 2 (L+1)];ac_rfl
      have a4:2^(M+1+k)*(d*2^y)=2^(M+1+k+y)*d:=by rw[Nat.pow_add 2 (M+1+k)];ac_rfl
      have a5:2^(L+1+x)*d≤2^(M+1+k+y)*d:=Nat.mul_le_mul_right _ (Nat.pow_le_pow_right (by omega) (by omega))
      rw[a4]
      exact Nat.lt_of_lt_of_le a1 (Nat.le_trans a2 (by rw[a3];exact a5))
    · by_cases h0:k=0
      · exact Or.inl h0
      · right
        have a1:N*d*2^x≤n*2^x:=Nat.mul_le_mul_right _ (Nat.le_of_lt h1)
        have a2:2^L*d*2^x≤N*d*2^x:=Nat.mul_le_mul_right _ (Nat.mul_le_mul_right _ hLlo)
        have a3:2^(M+k)*(d*2^y)=2^L*d*2^x:=by
          have:M+k+y=L+x:=by omega
          have e1:2^(M+k)*(d*2^y)=2^(M+k+y)*d:=by rw[Nat.pow_add 2 (M+k)];ac_rfl
          rw[e1,this,Nat.pow_add];ac_rfl
        rw[a3];exact Nat.le_trans a2 a1
  obtain⟨j,hj⟩:∃ j,y+k=x+(j+1):=⟨y+k-x-1,by omega⟩
  have red:∀ n d:Nat,0<d→rne (n*2^x) (d*2^y*2^k)=rne n (d*2^(j+1)):=by
    intro n d hd
    refine rne_congr (Nat.mul_pos (Nat.mul_pos hd (two_pos _)) (two_pos _)) (Nat.mul_pos hd (two_pos _)) ?_
    have e1:d*2^y*2^k=d*2^(x+(j+1)):=by rw[Nat.mul_assoc,←Nat.pow_add,hj]
    rw[e1,Nat.pow_add 2 x];ac_rfl
  unfold raw
  rw[key n d hd h1 h2,key n' d' hd' h1' h2',red n d hd,red n' d' hd']
  congr 1
  exact rne_sticky hd hd' (by omega) h1 h2 h1' h2'
theorem apart {a b k:Nat} (ha:2^k ∣ a) (hb:2^k ∣ b) (h:a≠b):a+2^k≤b∨b+2^k≤a:=by
  obtain⟨x,rfl⟩:=ha
  obtain⟨y,rfl⟩:=hb
  have hp:=two_pos k
  rcases Nat.lt_trichotomy x y with h1|h1|h1
  · left
    have:2^k*(x+1)≤2^k*y:=Nat.mul_le_mul_left _ h1
    rw[Nat.mul_add] at this;omega
  · exact absurd (by rw[h1]) h
  · right
    have:2^k*(y+1)≤2^k*x:=Nat.mul_le_mul_left _ h1
    rw[Nat.mul_add] at this;omega
end Go.Proofs.Ytmmbgbchimangaa.FT
