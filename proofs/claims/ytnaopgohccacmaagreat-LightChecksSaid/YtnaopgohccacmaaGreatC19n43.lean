import Derived.Test.YtnaopgohccacmaaGreatC19n42
namespace Go.Proofs.YtnaopgohccacmaaGreat.Q
set_option linter.unusedVariables false
set_option linter.unusedSimpArgs false
set_option maxRecDepth 100000
def ix9 (l:List Yf) (a:Int):Nat:=if 0<l.length then ((Int.tmod a ((l.length:Nat):Int)+((l.length:Nat):Int)) % ((l.length:Nat):Int)).toNat else 0
theorem X63 {l:List Yf} {a:Int} (h:0<l.length):((ix9 l a:Nat):Int)=(Int.tmod a ((l.length:Nat):Int)+((l.length:Nat):Int)) % ((l.length:Nat):Int)∧ix9 l a<l.length:=by
  unfold ix9
  rw [if_pos h]
  have h1:=Int.emod_nonneg (Int.tmod a ((l.length:Nat):Int)+((l.length:Nat):Int)) (b:=((l.length:Nat):Int)) (by omega)
  have h2:=Int.emod_lt_of_pos (Int.tmod a ((l.length:Nat):Int)+((l.length:Nat):Int)) (b:=((l.length:Nat):Int)) (by omega)
  omega
theorem ix_09 {l:List Yf} {a:Int} (h:¬0<l.length):ix9 l a=0:=if_neg h
def hdX9 (h:Yf):Yf:=⟨h.Xg,h.Y4++[120],h.Yg,h.W2⟩
section
variable (c:Wo) (t:Yo)
abbrev J9:Nat:=ix9 c.X0 t.Wj
def Yw:Wo :=
  if t.Wn=1∧0<c.X0.length then ⟨c.Xo,c.Xv,c.Xa,c.X0.take (J9 c t)++c.X0.drop (J9 c t+1),c.J6,c.Xs,c.X1,c.Yv⟩
  else if t.Wn=2 then ⟨c.Xo,c.Xv,c.Xa,c.X0,c.J6,c.Xs,⟨c.X1.Xw,c.X1.Xn+1⟩,c.Yv⟩
  else if t.Wn=3 then ⟨c.Xo,c.Xv,c.Xa,c.X0,c.J6+1,c.Xs,c.X1,c.Yv⟩
  else if t.Wn=4 then ⟨c.Xo+1,c.Xv,c.Xa,c.X0,c.J6,c.Xs,c.X1,c.Yv⟩
  else if t.Wn=5∧0<c.X0.length then ⟨c.Xo,c.Xv,c.Xa,c.X0.set (J9 c t) (hdX9 (c.X0.getD (J9 c t) Xh)),c.J6,c.Xs,c.X1,c.Yv⟩
  else if t.Wn=6 then ⟨c.Xo,c.Xv,c.Xa++[0],c.X0,c.J6,c.Xs,c.X1,c.Yv⟩
  else if t.Wn=7 then ⟨c.Xo,c.Xv,c.Xa,c.X0,c.J6,⟨c.Xs.X4+1,c.Xs.Xf⟩,c.X1,c.Yv⟩
  else if t.Wn=8∧0<c.Yv.length then ⟨c.Xo,c.Xv,c.Xa,c.X0,c.J6,c.Xs,c.X1,c.Yv.drop 1⟩
  else if t.Wn=9∧0<c.Xv.length then ⟨c.Xo,c.Xv.drop 1,c.Xa,c.X0,c.J6,c.Xs,c.X1,c.Yv⟩
  else c
end
section
variable {c:Wo} {t:Yo}
theorem trn_1 (h:t.Wn=1) (h0:0<c.X0.length):Yw c t=⟨c.Xo,c.Xv,c.Xa,c.X0.take (J9 c t)++c.X0.drop (J9 c t+1),c.J6,c.Xs,c.X1,c.Yv⟩:=if_pos ⟨h,h0⟩
theorem trn_2 (h:t.Wn=2):Yw c t=⟨c.Xo,c.Xv,c.Xa,c.X0,c.J6,c.Xs,⟨c.X1.Xw,c.X1.Xn+1⟩,c.Yv⟩:=by unfold Yw;rw [if_neg (by omega),if_pos h]
theorem trn_3 (h:t.Wn=3):Yw c t=⟨c.Xo,c.Xv,c.Xa,c.X0,c.J6+1,c.Xs,c.X1,c.Yv⟩:=by unfold Yw;rw [if_neg (by omega),if_neg (by omega),if_pos h]
theorem trn_4 (h:t.Wn=4):Yw c t=⟨c.Xo+1,c.Xv,c.Xa,c.X0,c.J6,c.Xs,c.X1,c.Yv⟩:=by unfold Yw;rw [if_neg (by omega),if_neg (by omega),if_neg (by omega),if_pos h]
theorem trn_5 (h:t.Wn=5) (h0:0<c.X0.length):Yw c t=⟨c.Xo,c.Xv,c.Xa,c.X0.set (J9 c t) (hdX9 (c.X0.getD (J9 c t) Xh)),c.J6,c.Xs,c.X1,c.Yv⟩:=by unfold Yw;rw [if_neg (by omega),if_neg (by omega),if_neg (by omega),if_neg (by omega),if_pos ⟨h,h0⟩]
theorem trn_6 (h:t.Wn=6):Yw c t=⟨c.Xo,c.Xv,c.Xa++[0],c.X0,c.J6,c.Xs,c.X1,c.Yv⟩:=by unfold Yw;rw [if_neg (by omega),if_neg (by omega),if_neg (by omega),if_neg (by omega),if_neg (by omega),if_pos h]
theorem trn_7 (h:t.Wn=7):Yw c t=⟨c.Xo,c.Xv,c.Xa,c.X0,c.J6,⟨c.Xs.X4+1,c.Xs.Xf⟩,c.X1,c.Yv⟩:=by unfold Yw;rw [if_neg (by omega),if_neg (by omega),if_neg (by omega),if_neg (by omega),if_neg (by omega),if_neg (by omega),if_pos h]
theorem trn_8 (h:t.Wn=8) (h0:0<c.Yv.length):Yw c t=⟨c.Xo,c.Xv,c.Xa,c.X0,c.J6,c.Xs,c.X1,c.Yv.drop 1⟩:=by unfold Yw;rw [if_neg (by omega),if_neg (by omega),if_neg (by omega),if_neg (by omega),if_neg (by omega),if_neg (by omega),if_neg (by omega),if_pos ⟨h,h0⟩]
theorem trn_9 (h:t.Wn=9) (h0:0<c.Xv.length):Yw c t=⟨c.Xo,c.Xv.drop 1,c.Xa,c.X0,c.J6,c.Xs,c.X1,c.Yv⟩:=by unfold Yw;rw [if_neg (by omega),if_neg (by omega),if_neg (by omega),if_neg (by omega),if_neg (by omega),if_neg (by omega),if_neg (by omega),if_neg (by omega),if_pos ⟨h,h0⟩]
theorem Xd8 (h1:¬(t.Wn=1∧0<c.X0.length)) (h2:¬t.Wn=2) (h3:¬t.Wn=3) (h4:¬t.Wn=4) (h5:¬(t.Wn=5∧0<c.X0.length)) (h6:¬t.Wn=6) (h7:¬t.Wn=7) (h8:¬(t.Wn=8∧0<c.Yv.length)) (h9:¬(t.Wn=9∧0<c.Xv.length)):Yw c t=c:=by
  unfold Yw;rw [if_neg h1,if_neg h2,if_neg h3,if_neg h4,if_neg h5,if_neg h6,if_neg h7,if_neg h8,if_neg h9]
end
def smT9 (c:Wo):Prop:=c.X0.length≤1000000∧c.Xa.length≤1000000000∧(0≤c.Xo∧c.Xo≤1000000000000000)∧(0≤c.J6∧c.J6≤1000000000000000)∧(0≤c.X1.Xn∧c.X1.Xn≤1000000000000000)∧(0≤c.Xs.X4∧c.Xs.X4≤1000000000000000)∧(c.Yv.length≤1000000∧c.Xv.length≤1000000)∧∀ h,h∈c.X0→h.Y4.length≤10000000
instance (c:Wo):Decidable (smT9 c):=by unfold smT9;infer_instance
theorem smT_prev {c:Wo} (h:smT9 c) (k:Nat):(c.X0.getD k Xh).Y4.length≤10000000:=by
  by_cases hk:k<c.X0.length
  · exact h.2.2.2.2.2.2.2 _ (J5 hk)
  · rw [List.getD_eq_getElem?_getD,List.getElem?_eq_none (by omega)];exact Nat.zero_le _
theorem cut9 {l:List Yf} {j:Nat} (hj:j<l.length):l.take j++(l.take (j+1+l.length-(j+1))).drop (j+1)=l.take j++l.drop (j+1):=by
  rw [List.take_of_length_le (l:=l) (i:=j+1+l.length-(j+1)) (by omega)]
end Go.Proofs.YtnaopgohccacmaaGreat.Q
