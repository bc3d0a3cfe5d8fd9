import Derived.Test.YthnefnknoahbkaaC18p
namespace Go.Proofs.Ythnefnknoahbkaa.Q
set_option linter.unusedVariables false
set_option linter.unusedSimpArgs false
def Un (n:Int):Prop:=-9223372036854775808≤n∧n≤9223372036854775807
theorem X0h {α:Type} {z:α} {l:List α} {k:Nat} (hk:k<l.length):l.take (k+1)=l.take k++[l.getD k z]:=by
  rw [List.take_add_one,List.getD_eq_getElem?_getD,List.getElem?_eq_getElem hk];rfl
theorem Jy {P:Nat→Prop} {k:Nat} (h:∀ j,j<k→P j) (hk:P k):∀ j,j<k+1→P j:=fun j hj=>by
  rcases Nat.lt_or_ge j k with h1|h1
  · exact h j h1
  · obtain rfl:j=k:=by omega
    exact hk
theorem Xdf {α:Type} {a b:List α} {z:α} {k:Nat} (hl:a.length=b.length) (hk:a.length≤k) (h:∀ j,j<k→a.getD j z=b.getD j z):a=b:=by
  apply List.ext_getElem hl
  intro j h1 h2
  have:=h j (by omega)
  simpa [List.getD_eq_getElem?_getD,List.getElem?_eq_getElem h1,List.getElem?_eq_getElem h2] using this
theorem Vt {α:Type} {l:List α} {z:α} {k:Nat} (hk:k<l.length):l.getD k z∈l:=by
  rw [List.getD_eq_getElem?_getD,List.getElem?_eq_getElem hk]
  exact List.getElem_mem hk
theorem mem_get {α:Type} {l:List α} {z e:α} {k:Nat} (hk:k<l.length) (h:l.getD k z=e):e∈l:=h ▸ Vt hk
theorem Xb2 {α:Type} {l:List α} {z e:α} {k:Nat} (hk:l.length≤k) (h:∀ j,j<k→¬l.getD j z=e):¬e∈l:=fun hm=>by
  obtain ⟨j,hj,rfl⟩:=List.getElem_of_mem hm
  refine h j (by omega) ?_
  rw [List.getD_eq_getElem?_getD,List.getElem?_eq_getElem hj];rfl
section
variable {α:Type} {sz:α→Nat} {n m:Nat} {l:List α} {z:α} {k:Nat}
end
end Go.Proofs.Ythnefnknoahbkaa.Q
namespace Go.Proofs.Ythnefnknoahbkaa.Q
set_option linter.unusedVariables false
set_option linter.unusedSimpArgs false
def Yw (n:Nat):Nat→List UInt8
  | 0=>[]
  | j+1=>UInt8.ofNat (n / 2 ^ (8*j))::Yw n j
theorem X0k (n:Nat):∀ m,(Yw n m).length=m
  | 0=>rfl
  | m+1=>by rw [Yw,List.length_cons,X0k n m]
theorem X5j {n j m:Nat} {acc b:List UInt8} (he:acc++Yw n j=b++Yw n m) (hj:0<j):(acc++[UInt8.ofNat (n / 2 ^ (8*(j-1)))])++Yw n (j-1)=b++Yw n m:=by
  obtain ⟨i,rfl⟩:∃ i,j=i+1:=⟨j-1,by omega⟩
  rw [← he,List.append_assoc]
  rfl
theorem Xaf {n j m:Nat} {acc b:List UInt8} (he:acc++Yw n j=b++Yw n m) (hj:0<j):(acc++[UInt8.ofNat (n / 2 ^ (8*(((j:Nat):Int)-1)).toNat)])++Yw n (j-1)=b++Yw n m:=by
  rw [show (8*(((j:Nat):Int)-1)).toNat=8*(j-1) by omega]
  exact X5j he hj
theorem Xf0 {n j m:Nat} {acc b:List UInt8} (he:acc++Yw n j=b++Yw n m) (hj:j=0):acc=b++Yw n m:=by
  subst hj
  rw [← he,Yw,List.append_nil]
theorem X5k {n j m:Nat} {acc b:List UInt8} (he:acc++Yw n j=b++Yw n m):acc.length+j=b.length+m:=by
  have:=congrArg List.length he
  simpa [X0k] using this
def Wo (l:List UInt8):Nat:=l.foldl (fun n b=>n*2 ^ 8 ||| b.toNat) 0
theorem Xdr (n:Nat) (b:UInt8):n*2 ^ 8 ||| b.toNat=n*256+b.toNat:=by
  have h:=UInt8.toNat_lt b
  rw [← Nat.shiftLeft_eq,← Nat.shiftLeft_add_eq_or_of_lt (i:=8) (by omega),Nat.shiftLeft_eq]
theorem numL_nil:Wo []=0:=rfl
theorem Xfm (l:List UInt8) (b:UInt8):Wo (l++[b])=Wo l*256+b.toNat:=by
  unfold Wo
  rw [List.foldl_append]
  exact Xdr _ _
theorem Xb1:∀ (l:List UInt8) (a m:Nat),a<256 ^ m→l.foldl (fun n b=>n*2 ^ 8 ||| b.toNat) a<256 ^ (m+l.length)
  | [],a,m,h=>h
  | b::l,a,m,h=>by
    rw [List.foldl_cons,Xdr,List.length_cons,show m+(l.length+1)=(m+1)+l.length by omega]
    refine Xb1 l _ (m+1) ?_
    rw [Nat.pow_succ]
    have:=UInt8.toNat_lt b
    omega
theorem X9h (l:List UInt8):Wo l<256 ^ l.length:=by
  have:=Xb1 l 0 0 (by decide)
  rwa [Nat.zero_add] at this
theorem X2n {l:List UInt8} (h:l.length≤8):Wo l<18446744073709551616:=Nat.lt_of_lt_of_le (X9h l) p3h
theorem Xb0 {l:List UInt8} (h:l.length≤7):Wo l<72057594037927936:=Nat.lt_of_lt_of_le (X9h l) p3h
theorem X2o {l:List UInt8} (h:l.length≤4):Wo l<4294967296:=Nat.lt_of_lt_of_le (X9h l) p3h
theorem X8h {l:List UInt8} {k:Nat} (hk:k<l.length):Wo (l.take (k+1))=Wo (l.take k)*2 ^ 8 ||| (l.getD k 0).toNat:=by
  rw [X0h (z:=0) hk]
  unfold Wo
  rw [List.foldl_append]
  rfl
theorem X6f (n:Nat):∀ (m:Nat) (l:List UInt8),Wo (l++Yw n m)=Wo l*256 ^ m+n % 256 ^ m
  | 0,l=>by simp [Yw,Nat.mod_one]
  | m+1,l=>by
    rw [Yw,show l++UInt8.ofNat (n / 2 ^ (8*m))::Yw n m=(l++[UInt8.ofNat (n / 2 ^ (8*m))])++Yw n m by simp,X6f n m,Xfm]
    have h1:(UInt8.ofNat (n / 2 ^ (8*m))).toNat=n / 256 ^ m % 256:=by
      rw [UInt8.toNat_ofNat',Nat.pow_mul]
    rw [h1,Nat.pow_succ,Nat.mod_mul,Nat.add_mul,Nat.mul_assoc,Nat.mul_comm (256 ^ m) (n / 256 ^ m % 256),Nat.mul_comm 256 (256 ^ m)]
    omega
theorem X8g {n m:Nat} (h:n<256 ^ m):Wo (Yw n m)=n:=by
  have:=X6f n m []
  rw [List.nil_append,numL_nil,Nat.zero_mul,Nat.zero_add,Nat.mod_eq_of_lt h] at this
  exact this
def Ho (n:Int):Nat:=(min (max n 0) 4294967295).toNat
theorem Xa2 (n:Int):Ho n<4294967296:=by unfold Ho;omega
theorem Xeg {n:Nat} (h:n≤4294967295):Ho ((n:Nat):Int)=n:=by unfold Ho;omega
def Ym (n:Int):List UInt8:=Yw (u64 n) 8
def W3 (n:Int):List UInt8:=Yw (Ho n) 4
def Wd (x:List UInt8):List UInt8:=W3 ((x.length:Nat):Int)++x
theorem Yo (n:Int):(Ym n).length=8:=X0k _ _
theorem Uh (n:Int):(W3 n).length=4:=X0k _ _
theorem Wk (x:List UInt8):(Wd x).length=x.length+4:=by rw [Wd,List.length_append,Uh];omega
end Go.Proofs.Ythnefnknoahbkaa.Q
namespace Go.Proofs.Ythnefnknoahbkaa.Q
set_option linter.unusedVariables false
set_option linter.unusedSimpArgs false
def okT (rest:List UInt8) (e n m:Int):Prop:=e=0∧n≤((rest.length:Nat):Int)∧m=0
instance (rest:List UInt8) (e n m:Int):Decidable (okT rest e n m):=inferInstanceAs (Decidable (_∧_∧_))
def rdR (rest:List UInt8) (e n m:Int):List UInt8:=if okT rest e n m then rest.drop n.toNat else rest
def rdE (rest:List UInt8) (e n m:Int):Int:=if e≠0 then e else if n>((rest.length:Nat):Int) then 10 else m
theorem X1o {rest:List UInt8} {e n m:Int} (h:okT rest e n m):rdE rest e n m=0:=by
  obtain ⟨h1,h2,h3⟩:=h
  unfold rdE
  rw [if_neg (by omega),if_neg (by omega),h3]
theorem Xcg {rest:List UInt8} {e n m:Int} (h:¬okT rest e n m):rdE rest e n m≠0:=by
  unfold rdE
  split
  · assumption
  · split
    · decide
    · exact fun hm=>h ⟨by omega,by omega,hm⟩
theorem X1n {rest:List UInt8} {e n m:Int} (h:okT rest e n m):rdR rest e n m=rest.drop n.toNat:=if_pos h
theorem Xcf {rest:List UInt8} {e n m:Int} (h:¬okT rest e n m):rdR rest e n m=rest:=if_neg h
def Yb (most:Int) (b:List UInt8):Int:=if ((Wo b:Nat):Int)>max most 0 then 11 else 0
def rdI (rest:List UInt8) (e:Int):Int:=if okT rest e 8 0 then Ee (Wo (rest.take 8)) else 0
def rdC (rest:List UInt8) (e most:Int):Nat:=if okT rest e 4 (Yb most (rest.take 4)) then Wo (rest.take 4) else 0
def okY (rest:List UInt8) (e most:Int):Prop:=okT rest e 4 (Yb most (rest.take 4))∧Wo (rest.take 4)≤(rest.drop 4).length
instance (rest:List UInt8) (e most:Int):Decidable (okY rest e most):=inferInstanceAs (Decidable (_∧_))
def rdY (rest:List UInt8) (e most:Int):List UInt8:=if okY rest e most then (rest.drop 4).take (Wo (rest.take 4)) else []
def Ju (rest:List UInt8) (e most:Int):List UInt8:=if okY rest e most then (rest.drop 4).drop (Wo (rest.take 4)) else rest
def J4 (rest:List UInt8) (e most:Int):Int:=if okT rest e 4 (Yb most (rest.take 4)) then (if Wo (rest.take 4)≤(rest.drop 4).length then 0 else 10) else rdE rest e 4 (Yb most (rest.take 4))
def rdX (rest:List UInt8) (e:Int):Int:=if e=0∧((rest.length:Nat):Int)>0 then 13 else e
theorem X1p {rest:List UInt8} {e most:Int} (h:okT rest e 4 (Yb most (rest.take 4))):rdC rest e most=Wo (rest.take 4):=if_pos h
theorem rdC_lt (rest:List UInt8) (e most:Int):rdC rest e most<4294967296:=by
  unfold rdC;split
  · exact X2o (by simp;omega)
  · decide
theorem U7 (rest:List UInt8) (e n m:Int):(rdR rest e n m).length≤rest.length:=by unfold rdR;split<;>simp
section
variable {rest:List UInt8} {e most:Int}
theorem X3d {n m:Int} (h:rdE rest e n m=0):okT rest e n m:=Classical.byContradiction fun hn=>Xcg hn h
theorem rdY_fail (h:rdE rest e 4 (Yb most (rest.take 4))≠0):rdY rest e most=[]∧Ju rest e most=rest∧J4 rest e most=rdE rest e 4 (Yb most (rest.take 4))∧rdR rest e 4 (Yb most (rest.take 4))=rest:=by
  have h1:¬okT rest e 4 (Yb most (rest.take 4)):=fun hk=>h (X1o hk)
  exact ⟨if_neg fun h2=>h1 h2.1,if_neg fun h2=>h1 h2.1,if_neg h1,Xcf h1⟩
theorem X69 (h:rdE rest e 4 (Yb most (rest.take 4))=0):okT (rdR rest e 4 (Yb most (rest.take 4))) (rdE rest e 4 (Yb most (rest.take 4))) ((rdC rest e most:Nat):Int) 0↔okY rest e most:=by
  have h1:=X3d h
  rw [X1n h1,X1p h1,h]
  show okT (rest.drop 4) 0 _ 0↔_
  unfold okT okY
  constructor
  · exact fun h2=>⟨h1,by have:=h2.2.1;omega⟩
  · exact fun h2=>⟨rfl,by have:=h2.2;omega,rfl⟩
theorem rdY_ok (h:rdE rest e 4 (Yb most (rest.take 4))=0) (h2:okT (rdR rest e 4 (Yb most (rest.take 4))) (rdE rest e 4 (Yb most (rest.take 4))) ((rdC rest e most:Nat):Int) 0) :
    rdY rest e most=(rdR rest e 4 (Yb most (rest.take 4))).take (((rdC rest e most:Nat):Int)).toNat∧Ju rest e most=(rdR rest e 4 (Yb most (rest.take 4))).drop (((rdC rest e most:Nat):Int)).toNat∧J4 rest e most=0:=by
  have h1:=X3d h
  have h3:=(X69 h).1 h2
  rw [X1n h1,X1p h1]
  refine ⟨(if_pos h3).trans rfl,(if_pos h3).trans rfl,?_⟩
  unfold J4
  rw [if_pos h1,if_pos h3.2]
theorem Xf9 (h:rdE rest e 4 (Yb most (rest.take 4))=0) (h2:¬okT (rdR rest e 4 (Yb most (rest.take 4))) (rdE rest e 4 (Yb most (rest.take 4))) ((rdC rest e most:Nat):Int) 0) :
    rdY rest e most=[]∧Ju rest e most=rest∧J4 rest e most=rdE (rdR rest e 4 (Yb most (rest.take 4))) (rdE rest e 4 (Yb most (rest.take 4))) ((rdC rest e most:Nat):Int) 0:=by
  have h1:=X3d h
  have h3:¬okY rest e most:=fun h4=>h2 ((X69 h).2 h4)
  refine ⟨if_neg h3,if_neg h3,?_⟩
  unfold J4
  have h4:¬Wo (rest.take 4)≤(rest.drop 4).length:=fun h5=>h3 ⟨h1,h5⟩
  rw [if_pos h1,if_neg h4,h,X1n h1,X1p h1]
  show (10:Int)=rdE (rest.drop 4) 0 _ 0
  unfold rdE
  rw [if_neg (by decide),if_pos (by omega)]
end
theorem X4v (rest:List UInt8) (e most:Int):(rdY rest e most).length≤rest.length:=by unfold rdY;split<;>simp<;>omega
theorem X6a (rest:List UInt8) (e most:Int):(Ju rest e most).length≤rest.length:=by unfold Ju;split<;>simp<;>omega
theorem X9f {p r:List UInt8} {n:Nat} (h:p.length=n):okT (p++r) 0 ((n:Nat):Int) 0:=⟨rfl,by simp;omega,rfl⟩
theorem X5e {p r:List UInt8} {n:Nat} (h:p.length=n):(p++r).take n=p:=by rw [List.take_append_of_le_length (by omega),List.take_of_length_le (by omega)]
theorem X2t {p r:List UInt8} {n:Nat} (h:p.length=n):(p++r).drop n=r:=by rw [List.drop_append_of_le_length (by omega),List.drop_of_length_le (by omega),List.nil_append]
theorem Xb7 {most:Int} (n:Int) (r:List UInt8) (hm:((Ho n:Nat):Int)≤most):Yb most ((W3 n++r).take 4)=0∧Wo ((W3 n++r).take 4)=Ho n:=by
  have h1:Wo ((W3 n++r).take 4)=Ho n:=by rw [X5e (Uh n),W3,X8g (Nat.lt_of_lt_of_le (Xa2 n) (by decide))]
  refine ⟨?_,h1⟩
  unfold Yb
  rw [h1,if_neg (by omega)]
theorem X0x {most:Int} (n:Int) (r:List UInt8) (hm:((Ho n:Nat):Int)≤most):rdC (W3 n++r) 0 most=Ho n∧rdR (W3 n++r) 0 4 (Yb most ((W3 n++r).take 4))=r∧rdE (W3 n++r) 0 4 (Yb most ((W3 n++r).take 4))=0:=by
  obtain ⟨h0,h1⟩:=Xb7 n r hm
  have hk:okT (W3 n++r) 0 4 (Yb most ((W3 n++r).take 4)):=by rw [h0];exact X9f (Uh n)
  refine ⟨by rw [X1p hk,h1],?_,X1o hk⟩
  rw [X1n hk];exact X2t (Uh n)
theorem X0b {most:Int} {x:List UInt8} (hx:x.length≤4294967295) (r:List UInt8) (hm:((x.length:Nat):Int)≤most):rdY (Wd x++r) 0 most=x∧Ju (Wd x++r) 0 most=r∧J4 (Wd x++r) 0 most=0:=by
  have e:Wd x++r=W3 ((x.length:Nat):Int)++(x++r):=by rw [Wd,List.append_assoc]
  rw [e]
  obtain ⟨h0,h1⟩:=Xb7 (most:=most) ((x.length:Nat):Int) (x++r) (by rw [Xeg hx];exact hm)
  rw [Xeg hx] at h1
  have hk:okT (W3 ((x.length:Nat):Int)++(x++r)) 0 4 (Yb most ((W3 ((x.length:Nat):Int)++(x++r)).take 4)):=by rw [h0];exact X9f (Uh _)
  have hd:(W3 ((x.length:Nat):Int)++(x++r)).drop 4=x++r:=X2t (Uh _)
  have hle:Wo ((W3 ((x.length:Nat):Int)++(x++r)).take 4)≤((W3 ((x.length:Nat):Int)++(x++r)).drop 4).length:=by rw [h1,hd];simp
  have hy:okY (W3 ((x.length:Nat):Int)++(x++r)) 0 most:=⟨hk,hle⟩
  refine ⟨?_,?_,?_⟩
  · rw [rdY,if_pos hy,h1,hd];exact X5e rfl
  · rw [Ju,if_pos hy,h1,hd];exact X2t rfl
  · rw [J4,if_pos hk,if_pos hle]
end Go.Proofs.Ythnefnknoahbkaa.Q
namespace Go.Proofs.Ythnefnknoahbkaa.Q
set_option linter.unusedVariables false
set_option linter.unusedSimpArgs false
def rfN (B:List UInt8) (a m:Nat):Nat:=if a+m≤B.length then Wo ((B.drop a).take m) else 0
def rfA (B:List UInt8) (a:Nat) (e n m:Int):Nat:=if okT (B.drop a) e n m then a+n.toNat else a
section
variable {B:List UInt8} {a:Nat} {e n m:Int}
theorem X94 {m:Nat} (h:a+m≤B.length):rfN B a m=Wo ((B.drop a).take m):=if_pos h
theorem rfN_lt (B:List UInt8) (a:Nat) {m:Nat} (hm:m≤8):rfN B a m<18446744073709551616:=by
  unfold rfN;split
  · exact X2n (Nat.le_trans (List.length_take_le _ _) hm)
  · decide
theorem rfN_lt4 (B:List UInt8) (a:Nat):rfN B a 4<4294967296:=by
  unfold rfN;split
  · exact X2o (List.length_take_le _ _)
  · decide
theorem Xcl {k:Nat} (hk:a+k<B.length):Wo ((B.drop a).take (k+1))=Wo ((B.drop a).take k)*2 ^ 8 ||| (B.getD (a+k) 0).toNat:=by
  rw [X8h (by simp;omega)]
  congr 2
  simp [List.getD_eq_getElem?_getD]
theorem X5v (h:okT (B.drop a) e n m):rfA B a e n m=a+n.toNat:=if_pos h
theorem rfA_no (h:¬okT (B.drop a) e n m):rfA B a e n m=a:=if_neg h
theorem rfA_le (ha:a≤B.length):rfA B a e n m≤B.length:=by
  unfold rfA;split
  · rename_i h
    have:=h.2.1
    rw [List.length_drop] at this
    omega
  · exact ha
theorem rf_e (h:e≠0) (n m:Int):¬okT (B.drop a) e n m∧rdE (B.drop a) e n m=e:=⟨fun h1=>h h1.1,if_pos h⟩
theorem Xao {k:Nat} (hn:n=((k:Nat):Int)) (he:¬e≠0) (h:¬a+k≤B.length) (ha:a≤B.length) (m:Int):¬okT (B.drop a) e n m∧rdE (B.drop a) e n m=10:=by
  have hl:(B.drop a).length=B.length-a:=List.length_drop
  subst hn
  refine ⟨fun h1=>?_,?_⟩
  · have:=h1.2.1;omega
  · unfold rdE
    rw [if_neg he,if_pos (by omega)]
theorem rf_m {k:Nat} {c:Int} (hn:n=((k:Nat):Int)) (he:¬e≠0) (h:a+k≤B.length) {m:Int} (hm:m=c) (hc:c≠0):¬okT (B.drop a) e n m∧rdE (B.drop a) e n m=c:=by
  have hl:(B.drop a).length=B.length-a:=List.length_drop
  subst hn
  subst hm
  refine ⟨fun h1=>hc h1.2.2,?_⟩
  unfold rdE
  rw [if_neg he,if_neg (by omega)]
theorem rf_ok {k:Nat} (hn:n=((k:Nat):Int)) (he:¬e≠0) (h:a+k≤B.length) {m:Int} (hm:m=0):okT (B.drop a) e n m∧rdE (B.drop a) e n m=0:=by
  have hl:(B.drop a).length=B.length-a:=List.length_drop
  subst hn
  have hk:okT (B.drop a) e ((k:Nat):Int) m:=⟨Classical.not_not.1 he,by omega,hm⟩
  exact ⟨hk,X1o hk⟩
theorem lim_of {most:Int} (h:a+4≤B.length):Yb most ((B.drop a).take 4)=if ((rfN B a 4:Nat):Int)>max 0 most then 11 else 0:=by
  unfold Yb
  rw [X94 h,Int.max_comm]
end
def X4h (B:List UInt8) (a:Nat) (e most:Int):Nat:=if okY (B.drop a) e most then a+4+Wo ((B.drop a).take 4) else a
section
variable {B:List UInt8} {a:Nat} {e most:Int}
theorem Xf4 (B:List UInt8) (a:Nat) (e most:Int):B.drop (X4h B a e most)=Ju (B.drop a) e most:=by
  unfold X4h Ju
  split
  · rw [List.drop_drop,List.drop_drop,Nat.add_assoc]
  · rfl
theorem rfA_drop (B:List UInt8) (a:Nat) (e n m:Int):B.drop (rfA B a e n m)=rdR (B.drop a) e n m:=by
  unfold rfA rdR
  split
  · rw [List.drop_drop]
  · rfl
theorem rfYA_le (ha:a≤B.length):X4h B a e most≤B.length:=by
  unfold X4h;split
  · rename_i h
    have h1:=h.1.2.1
    have h2:=h.2
    simp only [List.length_drop] at h1 h2
    omega
  · exact ha
theorem rfY_fail (h:rdE (B.drop a) e 4 (Yb most ((B.drop a).take 4))≠0):rdY (B.drop a) e most=[]∧X4h B a e most=a∧J4 (B.drop a) e most=rdE (B.drop a) e 4 (Yb most ((B.drop a).take 4))∧rfA B a e 4 (Yb most ((B.drop a).take 4))=a:=by
  have h1:¬okT (B.drop a) e 4 (Yb most ((B.drop a).take 4)):=fun hk=>h (X1o hk)
  exact ⟨if_neg fun h2=>h1 h2.1,if_neg fun h2=>h1 h2.1,if_neg h1,rfA_no h1⟩
theorem Xf3 (h:rdE (B.drop a) e 4 (Yb most ((B.drop a).take 4))=0) (h2:((rdC (B.drop a) e most:Nat):Int)>((B.length:Nat):Int)-((rfA B a e 4 (Yb most ((B.drop a).take 4)):Nat):Int)) (ha:a≤B.length) :
    rdY (B.drop a) e most=[]∧X4h B a e most=a∧J4 (B.drop a) e most=10:=by
  have h1:=X3d h
  have h4:a+4≤B.length:=by have:=h1.2.1;rw [List.length_drop] at this;omega
  rw [X1p h1,X5v h1] at h2
  have h3:¬Wo ((B.drop a).take 4)≤((B.drop a).drop 4).length:=by simp only [List.length_drop];omega
  refine ⟨if_neg fun hy=>h3 hy.2,if_neg fun hy=>h3 hy.2,?_⟩
  unfold J4
  rw [if_pos h1,if_neg h3]
theorem rfY_ok (h:rdE (B.drop a) e 4 (Yb most ((B.drop a).take 4))=0) (h2:¬((rdC (B.drop a) e most:Nat):Int)>((B.length:Nat):Int)-((rfA B a e 4 (Yb most ((B.drop a).take 4)):Nat):Int)) (ha:a≤B.length) :
    rfA B a e 4 (Yb most ((B.drop a).take 4))=a+4∧rdC (B.drop a) e most=Wo ((B.drop a).take 4)∧a+4+Wo ((B.drop a).take 4)≤B.length∧rdY (B.drop a) e most=(B.take (a+4+Wo ((B.drop a).take 4))).drop (a+4)∧X4h B a e most=a+4+Wo ((B.drop a).take 4)∧J4 (B.drop a) e most=0:=by
  have h1:=X3d h
  have h4:a+4≤B.length:=by have:=h1.2.1;rw [List.length_drop] at this;omega
  rw [X1p h1,X5v h1] at h2
  have h3:Wo ((B.drop a).take 4)≤((B.drop a).drop 4).length:=by simp only [List.length_drop];omega
  have hy:okY (B.drop a) e most:=⟨h1,h3⟩
  refine ⟨X5v h1,X1p h1,by simp only [List.length_drop] at h3;omega,?_,if_pos hy,?_⟩
  · rw [rdY,if_pos hy,List.drop_drop,List.drop_take,show a+4+Wo ((B.drop a).take 4)-(a+4)=Wo ((B.drop a).take 4) by omega]
  · unfold J4
    rw [if_pos h1,if_pos h3]
end
end Go.Proofs.Ythnefnknoahbkaa.Q
namespace Go.Proofs.Ythnefnknoahbkaa.Q
set_option linter.unusedVariables false
set_option linter.unusedSimpArgs false
def fOf (f:Int):Int:=min (max f 0) 2
def cOf (c:Int):Int:=min (max c 0) 8
theorem X3o (f:Int):0≤fOf f∧fOf f≤2:=by unfold fOf;omega
theorem X3t (f:Int):0≤cOf f∧cOf f≤8:=by unfold cOf;omega
def Vl (f s:Int):Prop:=s≥0∧s<3*f+1
def Yr (u s:Int):Prop:=s≥1000∧s-1000<u
def U8 (f u s:Int):Prop:=Vl f s∨Yr u s
instance (f s:Int):Decidable (Vl f s):=inferInstanceAs (Decidable (_∧_))
instance (f s:Int):Decidable (Yr f s):=inferInstanceAs (Decidable (_∧_))
instance (f u s:Int):Decidable (U8 f u s):=inferInstanceAs (Decidable (_∨_))
def primaryA (f v:Int):Int:=if v<0 then 0 else v % (3*f+1)
def X4k (u s:Int):Int:=if Yr u s then (s-1000) % 4 else -1
def Ix (f u s:Int) (b:List UInt8):Int:=if U8 f u s then (if ((b.length:Nat):Int)>16777216 then 11 else 0) else 30
def W2 (f u s:Int) (b:List UInt8):aE:=if Ix f u s b=0 then ⟨s,b⟩ else zE
abbrev Tab:=List (Xw×Bool)
def Ik (f u:Int) (rows:Tab) (s:Int) (b:List UInt8):Tab:=if Ix f u s b=0 then mput rows ⟨s,b⟩ true else rows
def Wy (f u:Int) (rows:Tab) (e:aE):Int:=if U8 f u e.X4 then (if mhas rows ⟨e.X4,e.X9⟩=true then 0 else 31) else 30
theorem X7z (f u s:Int) (b:List UInt8):(W2 f u s b).X9.length≤b.length:=by
  unfold W2
  split
  · exact Nat.le_refl _
  · exact Nat.zero_le _
def X39 (l:List aE) (e:aE):List aE:=if e∈l then l else l++[e]
def Wz (f u:Int) (l:List aE) (s:Int) (b:List UInt8):List aE:=if Ix f u s b=0 then X39 l ⟨s,b⟩ else l
def Wr (f u:Int) (l:List aE) (e:aE):Int:=if U8 f u e.X4 then (if e∈l then 0 else 31) else 30
def keyE (e:aE):Xw:=⟨e.X4,e.X9⟩
theorem X6q {e e':aE}:keyE e=keyE e'↔e=e':=by cases e;cases e';simp [keyE]
def Yt (l:List aE):Tab:=l.map fun e=>(keyE e,true)
theorem mhas_tab (l:List aE) (e:aE):mhas (Yt l) (keyE e)=decide (e∈l):=by
  induction l with
  | nil=>simp [Yt,mhas]
  | cons a r ih =>
    simp only [Yt,List.map_cons,mhas,X6q] at ih ⊢
    by_cases h:a=e
    · simp [h]
    · have:(e=a)=False:=by simp;exact fun q=>h q.symm
      simp only [if_neg h,List.mem_cons,this,false_or]
      exact ih
theorem mput_tab (l:List aE) (e:aE):mput (Yt l) (keyE e) true=Yt (X39 l e):=by
  induction l with
  | nil=>simp [Yt,mput,X39]
  | cons a r ih =>
    by_cases h:a=e
    · subst h
      simp [Yt,mput,X39,X6q]
    · have h1:mput (Yt (a::r)) (keyE e) true=(keyE a,true)::mput (Yt r) (keyE e) true:=by
        simp only [Yt,List.map_cons,mput,X6q,if_neg h]
      rw [h1,ih]
      have h2:¬e=a:=fun q=>h q.symm
      by_cases h3:e∈r
      · simp [X39,h3,Yt]
      · simp [X39,h3,h2,Yt]
theorem Xag (f u:Int) (l:List aE) (s:Int) (b:List UInt8):Ik f u (Yt l) s b=Yt (Wz f u l s b):=by
  unfold Ik Wz
  split
  · exact mput_tab l ⟨s,b⟩
  · rfl
theorem X8u (f u:Int) (l:List aE) (e:aE):Wy f u (Yt l) e=Wr f u l e:=by
  unfold Wy Wr
  split
  · rw [show (⟨e.X4,e.X9⟩:Xw)=keyE e from rfl,mhas_tab]
    simp
  · rfl
theorem putL_len (l:List aE) (e:aE):(X39 l e).length≤l.length+1:=by unfold X39;split<;>simp
theorem X80 (f u:Int) (l:List aE) (s:Int) (b:List UInt8):(Wz f u l s b).length≤l.length+1:=by
  unfold Wz;split
  · exact putL_len _ _
  · omega
end Go.Proofs.Ythnefnknoahbkaa.Q
namespace Go.Proofs.Ythnefnknoahbkaa.Q
set_option linter.unusedVariables false
set_option linter.unusedSimpArgs false
set_option maxRecDepth 100000
def J2 (a b:Int):Int:=IntKind.i64.wrap ((BitVec.ofInt 64 a &&& BitVec.ofInt 64 b).toNat:Int)
def orI (a b:Int):Int:=IntKind.i64.wrap ((BitVec.ofInt 64 a ||| BitVec.ofInt 64 b).toNat:Int)
section
variable {P:Program}
theorem X75 {t:TypeId} {a b c:Int} (h:J2 a b=c):Jz P .and t (.int .i64 a) (.int .i64 b) (.int .i64 c):=Vy (.inl fun _=>by simp) (.inl (by simp)) fun w=>by
  subst h
  rfl
theorem X4b {t:TypeId} {a b c:Int} (h:orI a b=c):Jz P .or t (.int .i64 a) (.int .i64 b) (.int .i64 c):=Vy (.inl fun _=>by simp) (.inl (by simp)) fun w=>by
  subst h
  rfl
end
def Y4 (k:Int):Uk:=if k=1 then ⟨20,0,1,7⟩ else if k=2 then ⟨75,0,1,4⟩ else if k=3 then ⟨11,0,1,7⟩ else if k=4 then ⟨11,0,1,7⟩ else if k=5 then ⟨10,0,1,7⟩ else if k=6 then ⟨323,1,0,7⟩ else if k=7 then ⟨193,1,1,7⟩ else if k=8 then ⟨37,0,1,7⟩ else if k=9 then ⟨2,0,0,7⟩ else if k=10 then ⟨256,0,1,7⟩ else if k=11 then ⟨82,0,1,7⟩ else ⟨0,0,1,7⟩
def Xh (k:Int):aH:=if k=1 then ⟨false,false,true,false,true,false,false,false,false⟩ else if k=2 then ⟨true,true,false,true,false,false,true,false,false⟩ else if k=3 then ⟨true,true,false,true,false,false,false,false,false⟩ else if k=4 then ⟨true,true,false,true,false,false,false,false,false⟩ else if k=5 then ⟨false,true,false,true,false,false,false,false,false⟩ else if k=6 then ⟨true,true,false,false,false,false,true,false,true⟩ else if k=7 then ⟨true,false,false,false,false,false,true,true,false⟩ else if k=8 then ⟨true,false,true,false,false,true,false,false,false⟩ else if k=9 then ⟨false,true,false,false,false,false,false,false,false⟩ else if k=10 then ⟨false,false,false,false,false,false,false,false,true⟩ else if k=11 then ⟨false,true,false,false,true,false,true,false,false⟩ else ⟨false,false,false,false,false,false,false,false,false⟩
def okK (k:Int):Prop:=1≤k∧k≤11
instance (k:Int):Decidable (okK k):=inferInstanceAs (Decidable (_∧_))
theorem kinds (k:Int):k=1∨k=2∨k=3∨k=4∨k=5∨k=6∨k=7∨k=8∨k=9∨k=10∨k=11∨¬okK k:=by unfold okK;omega
theorem X81 {k:Int} (h:¬okK k):Y4 k=⟨0,0,1,7⟩:=by
  unfold okK at h
  unfold Y4
  rw [if_neg (by omega),if_neg (by omega),if_neg (by omega),if_neg (by omega),if_neg (by omega),if_neg (by omega),if_neg (by omega),if_neg (by omega),if_neg (by omega),if_neg (by omega),if_neg (by omega)]
theorem Xe1 {k:Int} (h:¬okK k):Xh k=⟨false,false,false,false,false,false,false,false,false⟩:=by
  unfold okK at h
  unfold Xh
  rw [if_neg (by omega),if_neg (by omega),if_neg (by omega),if_neg (by omega),if_neg (by omega),if_neg (by omega),if_neg (by omega),if_neg (by omega),if_neg (by omega),if_neg (by omega),if_neg (by omega)]
def Vr (h:aH):Nat→Bool
  | 0=>h.Xt
  | 1=>h.Xy
  | 2=>h.Xb
  | 3=>h.Xc
  | 4=>h.Xk
  | 5=>h.X1
  | 6=>h.Xf
  | 7=>h.Xr
  | 8=>h.X7
  | _=>false
def bits9 (h:aH):List Bool:=[h.Xt,h.Xy,h.Xb,h.Xc,h.Xk,h.X1,h.Xf,h.Xr,h.X7]
def bitsS (n:Int):List Bool:=[decide (J2 n 1≠0),decide (J2 n 2≠0),decide (J2 n 4≠0),decide (J2 n 8≠0),decide (J2 n 16≠0),decide (J2 n 32≠0),decide (J2 n 64≠0),decide (J2 n 128≠0),decide (J2 n 256≠0)]
theorem X5l (k:Int):bitsS (Y4 k).V3=bits9 (Xh k):=by
  rcases kinds k with h|h|h|h|h|h|h|h|h|h|h|h
  case inr.inr.inr.inr.inr.inr.inr.inr.inr.inr.inr=>rw [X81 h,Xe1 h];decide +kernel
  all_goals (subst h;decide +kernel)
theorem Xei {n:Int} {h:aH} (e:bitsS n=bits9 h):(J2 n 1=0↔¬h.Xt=true)∧(J2 n 2=0↔¬h.Xy=true)∧(J2 n 4=0↔¬h.Xb=true)∧(J2 n 8=0↔¬h.Xc=true)∧(J2 n 16=0↔¬h.Xk=true)∧(J2 n 32=0↔¬h.X1=true)∧(J2 n 64=0↔¬h.Xf=true)∧(J2 n 128=0↔¬h.Xr=true)∧(J2 n 256=0↔¬h.X7=true):=by
  unfold bitsS bits9 at e
  simp only [List.cons.injEq,and_true] at e
  obtain ⟨e1,e2,e3,e4,e5,e6,e7,e8,e9⟩:=e
  have key:∀ {x:Int} {b:Bool},decide (x≠0)=b→(x=0↔¬b=true):=fun {x b} q=>by subst q;simp
  exact ⟨key e1,key e2,key e3,key e4,key e5,key e6,key e7,key e8,key e9⟩
theorem X54 {k:Int} {j:Nat} (hj:j≤8):J2 (Y4 k).V3 ((2 ^ j:Nat):Int)=0↔¬Vr (Xh k) j=true:=by
  obtain ⟨e1,e2,e3,e4,e5,e6,e7,e8,e9⟩:=Xei (X5l k)
  rcases (by omega:j=0∨j=1∨j=2∨j=3∨j=4∨j=5∨j=6∨j=7∨j=8) with h|h|h|h|h|h|h|h|h<;>subst h<;>assumption
theorem X9c {j:Nat} (hj:j≤9):((2 ^ j:Nat):Int)≤256↔j≤8:=by
  rcases (by omega:j=0∨j=1∨j=2∨j=3∨j=4∨j=5∨j=6∨j=7∨j=8∨j=9) with h|h|h|h|h|h|h|h|h|h<;>subst h<;>decide
theorem Xdo {j:Nat} (hj:j≤9):2 ^ j≤512:=Nat.pow_le_pow_right (n:=2) (by decide) hj
theorem Jc {j i:Nat} (hj:j≤9) (h:((2 ^ j:Nat):Int)=((2 ^ i:Nat):Int)):j=i:=Nat.pow_right_inj (a:=2) (by decide) |>.1 (Int.ofNat.inj h)
def inM (s:Uk) (f n lo hi:Int):Prop:=if J2 s.V3 f=0 then 0≤n∧n≤0 else lo≤n∧n≤hi
instance (s:Uk) (f n lo hi:Int):Decidable (inM s f n lo hi):=by unfold inM;infer_instance
def X03 (l:List aC):Prop:=∀ c,c∈l→c.Yg.length≤7
instance (l:List aC):Decidable (X03 l):=inferInstanceAs (Decidable (∀ c,c∈l→_))
theorem X02 {l:List aC} {k:Nat} (hb:∀ j,j<k→(l.getD j zC).Yg.length≤7) (hk:l.length≤k):X03 l:=fun c hc=>by
  obtain ⟨j,hj,rfl⟩:=List.getElem_of_mem hc
  have:=hb j (by omega)
  rw [List.getD_eq_getElem?_getD,List.getElem?_eq_getElem hj] at this
  exact this
def idxV (l:List aC):Int:=if X03 l then -1 else ((l.findIdx fun c=>decide (7<c.Yg.length):Nat):Int)
theorem idx_no {l:List aC} {k:Nat} (hb:∀ j,j<k→(l.getD j zC).Yg.length≤7) (hk:l.length≤k):idxV l=-1:=if_pos (X02 hb hk)
theorem idx_at {l:List aC} {k:Nat} (hb:∀ j,j<k→(l.getD j zC).Yg.length≤7) (hk:k<l.length) (h:7<(l.getD k zC).Yg.length):idxV l=((k:Nat):Int):=by
  have e:∀ j (hj:j<l.length),l.getD j zC=l[j]:=fun j hj=>by rw [List.getD_eq_getElem?_getD,List.getElem?_eq_getElem hj];rfl
  have hn:¬X03 l:=fun w=>by
    have:=w _ (Vt (z:=zC) hk)
    omega
  rw [idxV,if_neg hn,(List.findIdx_eq hk).2 ⟨?_,fun j hj=>?_⟩]
  · rw [e k hk] at h;exact decide_eq_true h
  · have:=hb j hj
    rw [e j (by omega)] at this
    exact decide_eq_false (by omega)
theorem idx_few (l:List aC):idxV l≥0↔¬X03 l:=by
  unfold idxV
  split
  · rename_i h;exact ⟨(fun w=>by omega),fun w=>absurd h w⟩
  · rename_i h;exact ⟨fun _=>h,fun _=>Int.natCast_nonneg _⟩
def Hd (m:aM):Prop:=okK m.X3∧inM (Y4 m.X3) 1 m.Xt (Y4 m.X3).Wa 1099511627776∧inM (Y4 m.X3) 2 m.Xy (Y4 m.X3).Wq 1099511627776∧inM (Y4 m.X3) 4 m.Xb 0 1099511627776∧inM (Y4 m.X3) 4 m.Xv 1 1099511627776 ∧
  inM (Y4 m.X3) 64 (m.Xf.length:Nat) 0 (Y4 m.X3).V6∧inM (Y4 m.X3) 128 (m.Xr.length:Nat) 0 8∧inM (Y4 m.X3) 256 (m.X7.length:Nat) 0 8∧inM (Y4 m.X3) 8 (m.Xc.length:Nat) 0 (m.Xc.length:Nat)∧inM (Y4 m.X3) 16 (m.Xk.length:Nat) 0 (m.Xk.length:Nat) ∧
  (J2 (Y4 m.X3).V3 32≠0∨m.X1=Ye)∧(m.X3≠1∨((m.Xk.length:Nat):Int)≤4096)∧(m.X3≠10∨((m.X7.length:Nat):Int)=1)∧X03 m.X7
instance (m:aM):Decidable (Hd m):=by unfold Hd;infer_instance
def X20 (m:aM):Int:=if Hd m then 0 else 120
theorem chk0 {m:aM}:X20 m=0↔Hd m:=by
  unfold X20
  split
  · exact ⟨fun _=>‹_›,fun _=>rfl⟩
  · exact ⟨Um,fun h=>absurd h ‹_›⟩
theorem nbB {b:Bool} (h:b=false):¬b=true:=fun q=>by rw [h] at q;cases q
def Hh (n:Int) (had:Bool) (lo:Int):Prop:=if had=true then n≥lo∧n≤1099511627776 else n=0
instance (n:Int) (had:Bool) (lo:Int):Decidable (Hh n had lo):=by unfold Hh;infer_instance
def Ez (k:Int):Int:=if k=6 then 1 else if k=7 then 1 else 0
def Ea (k:Int):Int:=if k=6 then 0 else if k=7 then 1 else if k=9 then 0 else 1
def maxB (k:Int) (h:aH):Int:=if k=2 then 4 else if h.Xf=true then 7 else 0
def maxP (h:aH):Int:=if h.Xr=true then 8 else 0
def Fd (m:aM) (h:aH):Prop:=((m.Xf.length:Nat):Int)≤maxB m.X3 h∧((m.Xr.length:Nat):Int)≤maxP h∧¬(m.X3=10∧((m.X7.length:Nat):Int)≠1)∧¬(¬h.X7=true∧((m.X7.length:Nat):Int)>0)∧((m.X7.length:Nat):Int)≤8∧X03 m.X7
instance (m:aM) (h:aH):Decidable (Fd m h):=by unfold Fd;infer_instance
def wellR (m:aM) (h:aH):Prop:=okK m.X3∧Hh m.Xt h.Xt (Ez m.X3)∧Hh m.Xy h.Xy (Ea m.X3)∧Hh m.Xb h.Xb 0∧Hh m.Xv h.Xb 1∧¬(m.X3=1∧((m.Xk.length:Nat):Int)>4096) ∧
  ¬(¬h.Xc=true∧m.Xc≠[])∧¬(¬h.Xk=true∧((m.Xk.length:Nat):Int)>0)∧¬(¬h.X1=true∧m.X1≠Ye)∧Fd m h
theorem lo_is (k:Int):(Y4 k).Wa=Ez k∧(Y4 k).Wq=Ea k∧((Xh k).Xf=true→(Y4 k).V6=maxB k (Xh k))∧(¬(Xh k).Xf=true→maxB k (Xh k)=0):=by
  rcases kinds k with h|h|h|h|h|h|h|h|h|h|h|h
  case inr.inr.inr.inr.inr.inr.inr.inr.inr.inr.inr =>
    rw [X81 h,Xe1 h]
    unfold okK at h
    refine ⟨?_,?_,(fun q=>by cases q),fun _=>?_⟩
    · unfold Ez;rw [if_neg (by omega),if_neg (by omega)]
    · unfold Ea;rw [if_neg (by omega),if_neg (by omega),if_neg (by omega)]
    · unfold maxB;rw [if_neg (by omega)];rfl
  all_goals (subst h;decide +kernel)
theorem X9q {s:Uk} {f n lo:Int} {b:Bool} (h:J2 s.V3 f=0↔¬b=true):inM s f n lo 1099511627776↔Hh n b lo:=by
  unfold inM Hh
  by_cases q:b=true
  · rw [if_neg (fun w=>h.1 w q),if_pos q]
  · rw [if_pos (h.2 q),if_neg q];omega
theorem in_len {s:Uk} {f:Int} {n:Nat} {hi:Int} {b:Bool} (h:J2 s.V3 f=0↔¬b=true) (hh:b=true→(n:Int)≤hi):inM s f (n:Nat) 0 hi↔¬(¬b=true∧(n:Int)>0):=by
  unfold inM
  by_cases q:b=true
  · rw [if_neg (fun w=>h.1 w q)];exact ⟨fun _ w=>w.1 q,fun _=>⟨Int.natCast_nonneg _,hh q⟩⟩
  · rw [if_pos (h.2 q)];exact ⟨(fun w v=>by have:=v.2;omega),fun w=>⟨Int.natCast_nonneg _,Int.not_lt.1 (fun v=>w ⟨q,v⟩)⟩⟩
theorem Xcu {s:Uk} {f:Int} {n:Nat} {hi:Int} {b:Bool} (h:J2 s.V3 f=0↔¬b=true):inM s f (n:Nat) 0 hi↔(n:Int)≤if b=true then hi else 0:=by
  unfold inM
  by_cases q:b=true
  · rw [if_neg (fun w=>h.1 w q),if_pos q];omega
  · rw [if_pos (h.2 q),if_neg q];omega
theorem Wg (m:aM):Hd m↔wellR m (Xh m.X3):=by
  obtain ⟨e1,e2,e3,e4,e5,e6,e7,e8,e9⟩:=Xei (X5l m.X3)
  obtain ⟨l1,l2,l3,l4⟩:=lo_is m.X3
  have hB:inM (Y4 m.X3) 64 (m.Xf.length:Nat) 0 (Y4 m.X3).V6↔((m.Xf.length:Nat):Int)≤maxB m.X3 (Xh m.X3):=by
    rw [Xcu e7]
    split
    · rw [l3 (by assumption)]
    · rw [l4 (by assumption)]
  have hC:inM (Y4 m.X3) 256 (m.X7.length:Nat) 0 8↔¬(¬(Xh m.X3).X7=true∧((m.X7.length:Nat):Int)>0)∧((m.X7.length:Nat):Int)≤8:=by
    rw [Xcu e9]
    split
    · rename_i q;exact ⟨fun w=>⟨fun v=>v.1 q,w⟩,fun w=>w.2⟩
    · rename_i q;exact ⟨fun w=>⟨(fun v=>by have:=v.2;omega),by omega⟩,fun w=>Int.not_lt.1 (fun v=>w.1 ⟨q,v⟩)⟩
  have hD:inM (Y4 m.X3) 8 (m.Xc.length:Nat) 0 (m.Xc.length:Nat)↔¬(¬(Xh m.X3).Xc=true∧m.Xc≠[]):=by
    rw [in_len e4 (fun _=>Int.le_refl _)]
    have:((m.Xc.length:Nat):Int)>0↔m.Xc≠[]:=by
      rw [← List.length_pos_iff];omega
    rw [this]
  have hP:=Xcu (n:=m.Xr.length) (hi:=8) e8
  have hV:=X9q (n:=m.Xt) (lo:=(Y4 m.X3).Wa) e1
  have hS:=X9q (n:=m.Xy) (lo:=(Y4 m.X3).Wq) e2
  have hA:=in_len (n:=m.Xk.length) (hi:=((m.Xk.length:Nat):Int)) e5 (fun _=>Int.le_refl _)
  have hR:(J2 (Y4 m.X3).V3 32≠0∨m.X1=Ye)↔¬(¬(Xh m.X3).X1=true∧m.X1≠Ye):=by
    rw [Ne,e6,Classical.not_not]
    constructor
    · rintro (w|w) v
      · exact v.1 w
      · exact v.2 w
    · intro w
      by_cases q:(Xh m.X3).X1=true
      · exact .inl q
      · exact .inr (Classical.byContradiction fun v=>w ⟨q,v⟩)
  unfold Hd wellR Fd maxP
  rw [hB,hC,hD,hP,hV,hS,hA,hR,X9q e3,X9q e3,l1,l2]
  constructor
  · rintro ⟨a1,a2,a3,a4,a5,a6,a7,⟨a8,a9⟩,a10,a11,a12,a13,a14,a15⟩
    exact ⟨a1,a2,a3,a4,a5,fun w=>by rcases a13 with q|q<;>omega,a10,a11,a12,a6,a7,fun w=>by rcases a14 with q|q<;>omega,a8,a9,a15⟩
  · rintro ⟨a1,a2,a3,a4,a5,a6,a7,a8,a9,b1,b2,b3,b4,b5,b6⟩
    exact ⟨a1,a2,a3,a4,a5,b1,b2,⟨b4,b5⟩,a7,a8,a9,by omega,by omega,b6⟩
end Go.Proofs.Ythnefnknoahbkaa.Q
namespace Go.Proofs.Ythnefnknoahbkaa.Q
set_option linter.unusedVariables false
set_option linter.unusedSimpArgs false
section
variable {P:Program} {bs:Base}
theorem Ve {s:St} (s':St) {x y:Code} {Q:Exit→Act→World→Prop} (h1:T P bs s x (Exit.then (fun a w=>Gs bs s' a w) Q)) (h2:T P bs s' y Q):T P bs s (.seq x y) Q:=by
  refine T.seq fun a w hG b k cs=>?_
  obtain ⟨e,a',w',hq,harr⟩:=h1 a w hG b k cs
  refine ⟨e,a',w',?_,harr⟩
  cases e with
  | normal=>exact h2 a' w' hq
  | _=>exact hq
theorem nJ {s:St} {Q:Exit→Act→World→Prop}:Ends bs s .normal (Exit.then (fun a w=>Gs bs s a w) Q):=fun a w h=>h
end
end Go.Proofs.Ythnefnknoahbkaa.Q
namespace Go.Proofs.Ythnefnknoahbkaa.Q
open Go Go.RowKit
set_option linter.unusedVariables false
set_option linter.unusedSimpArgs false
set_option maxRecDepth 100000
set_option maxHeartbeats 4000000
theorem X66 (ta:Bool) (na:Bool) (tb:Bool) (nb:Bool) (a:List UInt8) (b:List UInt8):Holds Try.prog 40 ⟨[slV ta na kU8 a,slV tb nb kU8 b],[],vB (decide (a=b)),[]⟩:=by
 refine Holds.of Try.func40 rfl (N:=10) Try.ntmps40 rfl fun w0 B0 S0 U0=>?_
 show T _ (Xz 10 0 w0 S0 U0 B0) ⟨[slV ta na kU8 a,slV tb nb kU8 b],[]⟩ _ _
 refine sR [] (sR [hR 1 rfl rfl (X0o () a (ys:=(.d (dsl ta na kU8 a))) (rhs:=[]) Try.underlying34 Try.underlying5 Try.underlying9 (Jb ta na kU8 a) (X8 rfl) trivial),hR 3 rfl rfl (X0o () b (ys:=(.d (dsl tb nb kU8 b))) (rhs:=[]) Try.underlying34 Try.underlying5 Try.underlying9 (Jb tb nb kU8 b) (X8 rfl) trivial)] (T.ret ?_))
 exact eRt 4 (.one (dB (decide (a=b)))) [] rfl trivial
theorem Ut:Try.prog.info? 5=some Try.t5:=by kernel_rfl
theorem I4:Zero Try.prog 5 [.int .u8 0]:=⟨_,_,Ut,rfl,rfl⟩
theorem J1:Elem Try.prog 34 5 1 1:=⟨Try.underlying34,_,_,Ut,rfl,rfl,rfl,rfl,by decide⟩
theorem X04 (ta:Bool) (na:Bool) (a:List UInt8) (hp:a.length≤140737488355328):Holds Try.prog 32 ⟨[slV ta na kU8 a],[],Y3 0 kU8 0 a.length,[.live (Xe 5 kU8 a)]⟩:=by
 refine Holds.of Try.func32 rfl (N:=8) Try.ntmps32 rfl fun w0 B0 S0 U0=>?_
 show T _ (Xz 8 0 w0 S0 U0 B0) ⟨[slV ta na kU8 a],[]⟩ _ _
 cases na
 ·refine Xen (k:=0) rfl (fun h0=>?_) ?_
  ·have h0:=List.eq_nil_of_length_eq_zero h0
   subst h0
   show T _ _ ⟨[dv (.slice none 0 0)],[]⟩ _ _
   refine sR [] (T.seq (sR [hR 1 rfl rfl (Y9 (u1:=.slice none 0 0) (u2:=.slice none 0 0) (v:=.bool true) (X8x Try.underlying34) (X8 rfl) ⟨rfl,trivial⟩)] (cT (b:=true) rfl (sR [] (T.ret (rT ?_))))))
   refine eN ⟨[dv (.slice none 0 0),aa,dv (.slice none 0 0),aa,vB true],[]⟩ ?_
   refine Xm (s':=⟨[dv (.slice none 0 0),aa,Y3 0 kU8 0 0,aa,vB true],[.live (Xe 5 kU8 ([]:List UInt8))]⟩) (fun _ _ hG=>J9 0 2 5 kU8 rfl rfl hG) ?_
   exact eRt 2 (.one (.own 0 kU8.sz 0 0)) [0] p2e (ix trivial)
  show T _ _ ⟨[slV ta true kU8 a],[]⟩ _ _
  refine sR [] (T.seq (sR [hR 1 rfl rfl (X4w (s:=.d (dsl ta true kU8 a)) Try.underlying34 (.inl rfl) (X8 rfl) ⟨rfl,trivial⟩)] (cF (b:=false) rfl (T.skip (nT ?_)))))
  refine sR [hR 0 rfl rfl (Yd 0 5 kU8 Vc ([]:List UInt8) [] (cs:=[]) Try.underlying34 Ut rfl I4 rfl rfl rfl pf Wn pZ4 (Vz pZ4) (X8 rfl) trivial),hR 2 rfl rfl (W4 0 1 5 1 kU8 Vc ([]:List UInt8) a a ([]:List UInt8).length (sy:=(.d (dsl ta true kU8 a))) (rhs:=[]) J1 (by omega) (Jb ta true kU8 a) (by simp) (by (simp [maxLen,-List.getD_eq_getElem?_getD]<;>omega)) (by (simp [maxLen,-List.getD_eq_getElem?_getD]<;>omega)) (X8 rfl) trivial)] ?_
  refine T.ret ?_
  exact eRt 2 (.one (.own 1 kU8.sz 0 a.length)) [1] rfl (ix trivial)
 refine sR [] (T.seq (sR [hR 1 rfl rfl (X4w (s:=.d (dsl ta true kU8 a)) Try.underlying34 (.inl rfl) (X8 rfl) ⟨rfl,trivial⟩)] (cF (b:=false) rfl (T.skip (nT ?_)))))
 refine sR [hR 0 rfl rfl (Yd 0 5 kU8 Vc ([]:List UInt8) [] (cs:=[]) Try.underlying34 Ut rfl I4 rfl rfl rfl pf Wn pZ4 (Vz pZ4) (X8 rfl) trivial),hR 2 rfl rfl (W4 0 1 5 1 kU8 Vc ([]:List UInt8) a a ([]:List UInt8).length (sy:=(.d (dsl ta true kU8 a))) (rhs:=[]) J1 (by omega) (Jb ta true kU8 a) (by simp) (by (simp [maxLen,-List.getD_eq_getElem?_getD]<;>omega)) (by (simp [maxLen,-List.getD_eq_getElem?_getD]<;>omega)) (X8 rfl) trivial)] ?_
 refine T.ret ?_
 exact eRt 2 (.one (.own 1 kU8.sz 0 a.length)) [1] rfl (ix trivial)
theorem X3u (f:Int) (u:Int):Holds Try.prog 19 ⟨[vI f,vI u],[],pv 0 0,[.live (.box 99 [dI (3*(fOf f)+1),dI (cOf u),.mref 1]),.live (mpK Xa Y5 ([]:List (Xw×Bool)))]⟩:=by
 refine Holds.of Try.func19 rfl (N:=16) Try.ntmps19 rfl fun w0 B0 S0 U0=>?_
 show T _ (Xz 16 0 w0 S0 U0 B0) ⟨[vI f,vI u],[]⟩ _ _
 refine sR [] (sR [hR 1 rfl rfl (Er (k:=.i64) (a:=f) (b:=0) (X8 rfl) ⟨rfl,trivial⟩),hR 2 rfl rfl (X8a (k:=.i64) (a:=max f 0) (b:=2) (X8 rfl) ⟨rfl,trivial⟩),hR 3 rfl rfl (Y9 (u1:=.int .i64 3) (u2:=.int .i64 (min (max f 0) 2)) (v:=.int .i64 (3*(min (max f 0) 2))) (Xbv pZ5) (X8 rfl) ⟨rfl,trivial⟩),hR 4 rfl rfl (Y9 (u1:=.int .i64 (3*(min (max f 0) 2))) (u2:=.int .i64 1) (v:=.int .i64 ((3*(min (max f 0) 2))+1)) (W6 pZ5) (X8 rfl) ⟨rfl,trivial⟩),hR 6 rfl rfl (Er (k:=.i64) (a:=u) (b:=0) (X8 rfl) ⟨rfl,trivial⟩),hR 7 rfl rfl (X8a (k:=.i64) (a:=max u 0) (b:=8) (X8 rfl) ⟨rfl,trivial⟩),hR 8 rfl rfl (X8b 0 Xa Y5 (X8 rfl))] (T.ret ?_))
 exact eRt 4 (.one (.ptr 1 0)) [1,0] rfl ⟨⟨rfl,(by have e1:((3*(min (max f 0) 2))+1:Int)=3*(fOf f)+1:=(by rfl);have e2:(min (max u 0) 8:Int)=(cOf u):=(by rfl);have hE:=congr (congrArg (fun (q1:Int) (q2:Int)=>(.live (.box 99 [dI q1,dI q2,.mref 0]):HS)) e1) e2;exact Eq.trans pZ4 hE)⟩,(ix trivial)⟩
theorem X91:Wide Try.prog 3 none:=⟨_,Try.underlying3,(fun _ h=>by cases h),(fun _ _ h=>by cases h)⟩
theorem Xel (f:Int) (u:Int) (rows:List (Xw×Bool)) (hf:0≤f∧f≤2) (hu:0≤u∧u≤8):Holds Try.prog 73 ⟨[pv 0 0],[.box 99 [dI (3*f+1),dI u,.mref 1],mpK Xa Y5 rows],vI (3*f+1),[.live (.box 99 [dI (3*f+1),dI u,.mref 1]),.live (mpK Xa Y5 rows)]⟩:=by
 refine Holds.of Try.func73 rfl (N:=9) Try.ntmps73 rfl fun w0 B0 S0 U0=>?_
 show T _ (Xz 9 2 w0 S0 U0 B0) ⟨[pv 0 0],[.live (.box 99 [dI (3*f+1),dI u,.mref 1]),.live (mpK Xa Y5 rows)]⟩ _ _
 refine sR [] (T.seq (sR [] (cF (b:=false) rfl (T.skip (nT (sR [] (T.ret ?_)))))))
 exact eRt 2 (.one (dI (3*f+1))) [0,1] rfl (ix (ix trivial))
theorem X7s (f:Int) (u:Int) (rows:List (Xw×Bool)) (hf:0≤f∧f≤2) (hu:0≤u∧u≤8):Holds Try.prog 83 ⟨[pv 0 0],[.box 99 [dI (3*f+1),dI u,.mref 1],mpK Xa Y5 rows],vI u,[.live (.box 99 [dI (3*f+1),dI u,.mref 1]),.live (mpK Xa Y5 rows)]⟩:=by
 refine Holds.of Try.func83 rfl (N:=9) Try.ntmps83 rfl fun w0 B0 S0 U0=>?_
 show T _ (Xz 9 2 w0 S0 U0 B0) ⟨[pv 0 0],[.live (.box 99 [dI (3*f+1),dI u,.mref 1]),.live (mpK Xa Y5 rows)]⟩ _ _
 refine sR [] (T.seq (sR [] (cF (b:=false) rfl (T.skip (nT (sR [] (T.ret ?_)))))))
 exact eRt 2 (.one (dI u)) [0,1] rfl (ix (ix trivial))
theorem X79 (f:Int) (u:Int) (rows:List (Xw×Bool)) (hf:0≤f∧f≤2) (hu:0≤u∧u≤8):Holds Try.prog 45 ⟨[pv 0 0],[.box 99 [dI (3*f+1),dI u,.mref 1],mpK Xa Y5 rows],vI (f+1),[.live (.box 99 [dI (3*f+1),dI u,.mref 1]),.live (mpK Xa Y5 rows)]⟩:=by
 refine Holds.of Try.func45 rfl (N:=7) Try.ntmps45 rfl fun w0 B0 S0 U0=>?_
 show T _ (Xz 7 2 w0 S0 U0 B0) ⟨[pv 0 0],[.live (.box 99 [dI (3*f+1),dI u,.mref 1]),.live (mpK Xa Y5 rows)]⟩ _ _
 refine sR [] (sR [hR 1 rfl rfl (rCa (Xel f u rows ‹_› ‹_›) Try.func73 [0,1] [(.tmp 3,pv 0 0)] 2 2),hR 2 rfl rfl (Y9 (u1:=.int .i64 (3*f+1)) (u2:=.int .i64 2) (v:=.int .i64 ((3*f+1)+2)) (W6 pZ5) (X8 rfl) ⟨rfl,trivial⟩),hR 3 rfl rfl (Y9 (u1:=.int .i64 ((3*f+1)+2)) (u2:=.int .i64 3) (v:=.int .i64 (((3*f+1)+2) / 3)) (b_quoP (by omega) (by omega) pZ5) (X8 rfl) ⟨rfl,trivial⟩)] (T.ret ?_))
 exact eRt 2 (.one (dI (((3*f+1)+2) / 3))) [0,1] (cI (by omega)) (ix (ix trivial))
theorem X2z (f:Int) (u:Int) (rows:List (Xw×Bool)) (s:Int) (hf:0≤f∧f≤2) (hu:0≤u∧u≤8) (hs:-9223372036854775808≤s∧s≤9223372036854775807):Holds Try.prog 65 ⟨[pv 0 0,vI s],[.box 99 [dI (3*f+1),dI u,.mref 1],mpK Xa Y5 rows],vB (decide (Yr u s)),[.live (.box 99 [dI (3*f+1),dI u,.mref 1]),.live (mpK Xa Y5 rows)]⟩:=by
 refine Holds.of Try.func65 rfl (N:=14) Try.ntmps65 rfl fun w0 B0 S0 U0=>?_
 show T _ (Xz 14 2 w0 S0 U0 B0) ⟨[pv 0 0,vI s],[.live (.box 99 [dI (3*f+1),dI u,.mref 1]),.live (mpK Xa Y5 rows)]⟩ _ _
 refine sR [] ?_
 by_cases hq1:s≥1000
 ·refine sR [hY 3 (dT hq1),hS 4 (oY rfl rfl rfl rfl (X8 rfl) (dT hq1) (Y9 (u1:=.int .i64 s) (u2:=.int .i64 1000) (v:=.int .i64 (s-1000)) (X1d pZ5) (X8 rfl) ⟨rfl,trivial⟩)),hY 5 (dT hq1),hS 6 (oY rfl rfl rfl rfl (X8 rfl) (dT hq1) (rCa (X7s f u rows ‹_› ‹_›) Try.func83 [0,1] [(.tmp 10,pv 0 0)] 2 2)),hY 7 (dT hq1),hP 8 (dT hq1)] (T.ret ?_)
  exact eRt 4 (.one (dB (decide ((s-1000)<u)))) [0,1] p3o (ix (ix trivial))
 refine sR (Xl (hN · true (dF hq1)) [3,4,5,6,7] (hP 8 (dF hq1)::[])) (T.ret ?_)
 exact eRt 4 (.one (dB false)) [0,1] p47 (ix (ix trivial))
theorem Jx (f:Int) (u:Int) (rows:List (Xw×Bool)) (s:Int) (hf:0≤f∧f≤2) (hu:0≤u∧u≤8):Holds Try.prog 43 ⟨[pv 0 0,vI s],[.box 99 [dI (3*f+1),dI u,.mref 1],mpK Xa Y5 rows],vB (decide (Vl f s)),[.live (.box 99 [dI (3*f+1),dI u,.mref 1]),.live (mpK Xa Y5 rows)]⟩:=by
 refine Holds.of Try.func43 rfl (N:=13) Try.ntmps43 rfl fun w0 B0 S0 U0=>?_
 show T _ (Xz 13 2 w0 S0 U0 B0) ⟨[pv 0 0,vI s],[.live (.box 99 [dI (3*f+1),dI u,.mref 1]),.live (mpK Xa Y5 rows)]⟩ _ _
 refine sR [] ?_
 by_cases hq1:s≥0
 ·refine sR [hY 3 (dT hq1),hY 4 (dT hq1),hS 5 (oY rfl rfl rfl rfl (X8 rfl) (dT hq1) (rCa (Xel f u rows ‹_› ‹_›) Try.func73 [0,1] [(.tmp 9,pv 0 0)] 2 2)),hY 6 (dT hq1),hP 7 (dT hq1)] (T.ret ?_)
  exact eRt 4 (.one (dB (decide (s<(3*f+1))))) [0,1] p3n (ix (ix trivial))
 refine sR (Xl (hN · true (dF hq1)) [3,4,5,6] (hP 7 (dF hq1)::[])) (T.ret ?_)
 exact eRt 4 (.one (dB false)) [0,1] p45 (ix (ix trivial))
theorem X4d (f:Int) (u:Int) (rows:List (Xw×Bool)) (s:Int) (hf:0≤f∧f≤2) (hu:0≤u∧u≤8) (hs:-9223372036854775808≤s∧s≤9223372036854775807):Holds Try.prog 39 ⟨[pv 0 0,vI s],[.box 99 [dI (3*f+1),dI u,.mref 1],mpK Xa Y5 rows],vB (decide (U8 f u s)),[.live (.box 99 [dI (3*f+1),dI u,.mref 1]),.live (mpK Xa Y5 rows)]⟩:=by
 refine Holds.of Try.func39 rfl (N:=13) Try.ntmps39 rfl fun w0 B0 S0 U0=>?_
 show T _ (Xz 13 2 w0 S0 U0 B0) ⟨[pv 0 0,vI s],[.live (.box 99 [dI (3*f+1),dI u,.mref 1]),.live (mpK Xa Y5 rows)]⟩ _ _
 refine sR [] ?_
 by_cases hq1:Vl f s
 ·refine sR (hR 2 rfl rfl (rCa (Jx f u rows s ‹_› ‹_›) Try.func43 [0,1] [(.tmp 5,pv 0 0),(.tmp 6,vI s)] 2 2)::(Xl (hN · false (dT hq1)) [4,5,6] (hP 7 (dT hq1)::[]))) (T.ret ?_)
  exact eRt 4 (.one (dB true)) [0,1] p46 (ix (ix trivial))
 refine sR [hR 2 rfl rfl (rCa (Jx f u rows s ‹_› ‹_›) Try.func43 [0,1] [(.tmp 5,pv 0 0),(.tmp 6,vI s)] 2 2),hY 4 (dF hq1),hY 5 (dF hq1),hS 6 (oY rfl rfl rfl rfl (X8 rfl) (dF hq1) (rCa (X2z f u rows s ‹_› ‹_› ‹_›) Try.func65 [0,1] [(.tmp 9,pv 0 0),(.tmp 10,vI s)] 2 2)),hP 7 (dF hq1)] (T.ret ?_)
 exact eRt 4 (.one (dB (decide (Yr u s)))) [0,1] p3r (ix (ix trivial))
theorem X8y (f:Int) (u:Int) (rows:List (Xw×Bool)) (s:Int) (hf:0≤f∧f≤2) (hu:0≤u∧u≤8) (hs:-9223372036854775808≤s∧s≤9223372036854775807):Holds Try.prog 41 ⟨[pv 0 0,vI s],[.box 99 [dI (3*f+1),dI u,.mref 1],mpK Xa Y5 rows],vI (X4k u s),[.live (.box 99 [dI (3*f+1),dI u,.mref 1]),.live (mpK Xa Y5 rows)]⟩:=by
 refine Holds.of Try.func41 rfl (N:=12) Try.ntmps41 rfl fun w0 B0 S0 U0=>?_
 show T _ (Xz 12 2 w0 S0 U0 B0) ⟨[pv 0 0,vI s],[.live (.box 99 [dI (3*f+1),dI u,.mref 1]),.live (mpK Xa Y5 rows)]⟩ _ _
 refine sR [] (T.seq (sR [hR 2 rfl rfl (rCa (X2z f u rows s ‹_› ‹_› ‹_›) Try.func65 [0,1] [(.tmp 5,pv 0 0),(.tmp 6,vI s)] 2 2)] ?_))
 by_cases hq1:Yr u s
 ·have hcl:1000≤s:=by have h':=hq1;simp only [Yr] at h';omega
  refine cF (cn (dT hq1)) (T.skip (nT (sR [hR 1 rfl rfl (Y9 (u1:=.int .i64 s) (u2:=.int .i64 1000) (v:=.int .i64 (s-1000)) (X1d pZ5) (X8 rfl) ⟨rfl,trivial⟩),hR 2 rfl rfl (Y9 (u1:=.int .i64 (s-1000)) (u2:=.int .i64 4) (v:=.int .i64 ((s-1000) % 4)) (b_remP (by omega) (by omega)) (X8 rfl) ⟨rfl,trivial⟩)] (T.ret ?_))))
  exact eRt 4 (.one (dI ((s-1000) % 4))) [0,1] (by have e1:((X4k u s):Int)=(s-1000) % 4:=p35;have hE:=cI e1;exact hE) (ix (ix trivial))
 refine cT (cn (dF hq1)) (sR [] (T.ret (rT ?_)))
 exact eRt 4 (.one (dI (-1))) [0,1] (by have e1:((X4k u s):Int)=(-1):=p35;have hE:=cI e1;exact hE) (ix (ix trivial))
theorem Hm:Try.prog.info? 48=some Try.t48:=by kernel_rfl
theorem X90:Zero Try.prog 48 [.int .i64 0,.slice none 0 0]:=⟨_,_,Hm,rfl,rfl⟩
theorem I1:Wide Try.prog 48 (some 2):=⟨_,_,Try.underlying48,.inl ⟨_,rfl⟩,Hm,rfl⟩
section
variable (f:Int) (u:Int) (s:Int) (tb:Bool) (nb:Bool) (b:List UInt8)
end
section
variable (f:Int) (u:Int) (rows:List (Xw×Bool)) (s:Int) (tb:Bool) (nb:Bool) (b:List UInt8)
abbrev Z4:HS:=.live (.box 99 [dI (3*f+1),dI u,.mref 1])
abbrev Z5:HS:=.live (mpK Xa Y5 rows)
abbrev Z6:List AV:=[pv 0 0,vI s,slV tb nb kU8 b,aa,aa,aa,pv 2 0,vI 11,vB (!(decide (U8 f u s))),aa,aa,aa,aa,aa,vB (decide (((b.length:Nat):Int)>16777216))]
abbrev Z7:HS:=.live (.box 48 [dI 0,.d (.val (.slice none 0 0))])
abbrev Z8:SV:=dU ([]:List UInt8)
abbrev Z9:List SV:=[dI 0,Z8]
abbrev Za:List AV:=[pv 0 0,vI s,slV tb nb kU8 b,aa,aa,aa,pv 2 0,vI 0,vB (!(decide (U8 f u s))),aa,aa,aa,aa,aa,vB (decide (((b.length:Nat):Int)>16777216))]
abbrev Zb:List AV:=[pv 0 0,vI s,slV tb nb kU8 b,aa,aa,aa,pv 2 0,vI 30,vB (!(decide (U8 f u s)))]
end
theorem E2 (f:Int) (u:Int) (rows:List (Xw×Bool)) (s:Int) (tb:Bool) (nb:Bool) (b:List UInt8) (hf:0≤f∧f≤2) (hu:0≤u∧u≤8) (hs:-9223372036854775808≤s∧s≤9223372036854775807) (hb:b.length≤140737488355328):Holds Try.prog 28 ⟨[pv 0 0,vI s,slV tb nb kU8 b],[.box 99 [dI (3*f+1),dI u,.mref 1],mpK Xa Y5 rows],.tup [.agg [dI (W2 f u s b).X4,dU (W2 f u s b).X9],.one (dI (Ix f u s b))],[.live (.box 99 [dI (3*f+1),dI u,.mref 1]),.live (mpK Xa Y5 (Ik f u rows s b))]⟩:=by
 refine Holds.of Try.func28 rfl (N:=31) Try.ntmps28 rfl fun w0 B0 S0 U0=>?_
 show T _ (Xz 31 2 w0 S0 U0 B0) ⟨[pv 0 0,vI s,slV tb nb kU8 b],[(Z4 f u),(Z5 rows)]⟩ _ _
 refine sR [] (T.seq (T.block (sR [hR 2 rfl rfl (rCa (X4d f u rows s ‹_› ‹_› ‹_›) Try.func39 [0,1] [(.tmp 9,pv 0 0),(.tmp 10,vI s)] 2 2)] ?_)))
 by_cases hq1:U8 f u s
 ·refine cF (cn (dT hq1)) (sR [] ?_)
  by_cases hq2:((b.length:Nat):Int)>16777216
  ·refine cT (dT hq2) (sR [] (T.ret (rB (rT ?_))))
   refine eN ⟨(Z6 f u s tb nb b),[(Z4 f u),(Z5 rows),Z7]⟩ ?_
   refine Xm (s':=⟨(Z6 f u s tb nb b),[(Z4 f u),(Z5 rows),.live (.box 48 Z9)]⟩) (fun _ _ hG=>W7 (s:=⟨(Z6 f u s tb nb b),[(Z4 f u),(Z5 rows),Z7]⟩) ⟨.inl rfl,(kk2 p2z)⟩ (kk2 ⟨p2b,trivial⟩) hG) ?_
   exact eX [.c 6 2 48 0 48 [dI 0,Z8] (.agg Z9),.t 7 (.one (dI 11))] ⟨⟨rfl,rfl,by kernel_rfl,by kernel_rfl,.inl ⟨2,I1,rfl,Nat.le_of_ble_eq_true rfl⟩⟩,⟨⟨rfl,by kernel_rfl⟩,trivial⟩⟩ [0,1] (by have e1:((W2 f u s b).X4:Int)=0:=p1e;have e2:((W2 f u s b).X9:List UInt8)=([]:List UInt8):=p1e;have e3:((Ix f u s b):Int)=11:=p1e;have hE:=congr pq e3;exact hE) (ix ⟨⟨rfl,p2s⟩,trivial⟩)
  refine cF (dF hq2) (T.skip (nB (nT ?_)))
  refine sD [[],[0],[0,1],[0,1,2],[],[],[5],[4,5,6],[0,1,2,3,4,5,6,7]] [hR 6 rfl rfl (X0o () b (ys:=(.d (dsl tb nb kU8 b))) (rhs:=[]) Try.underlying34 Try.underlying5 Try.underlying9 (Jb tb nb kU8 b) (X8 rfl) trivial),hR 8 rfl rfl (Es 1 rows (Xw.mk s b) true (kd:=Y5) (ak:=.tv (.agg [dI s,dS b])) (tv:=.one (dB true)) Try.underlying97 E6 ⟨[.int .i64 s,Ja b],rfl,rfl⟩ rfl ⟨.inl rfl,trivial⟩ ⟨rfl,trivial⟩)] (sR [hR 2 rfl rfl (rCa (X04 tb nb b ‹_›) Try.func32 [3] [(.tmp 28,slV tb nb kU8 b)] 0 1)] (T.ret ?_))
  refine eN ⟨(Za f u s tb nb b),[(Z4 f u),.live (mpK Xa Y5 (mput rows (Xw.mk s b) true)),.live (.box 48 [dI s,.own 3 kU8.sz 0 b.length]),.live (Xe 5 kU8 b)]⟩ ?_
  refine Xm (s':=⟨(Za f u s tb nb b),[(Z4 f u),.live (mpK Xa Y5 (mput rows (Xw.mk s b) true)),.live (.box 48 [dI s,dU b]),.dead]⟩) (fun _ _ hG=>Gs.freeze (s:=⟨(Za f u s tb nb b),[(Z4 f u),.live (mpK Xa Y5 (mput rows (Xw.mk s b) true)),.live (.box 48 [dI s,.own 3 kU8.sz 0 b.length]),.live (Xe 5 kU8 b)]⟩) 3 (el:=We kU8 b) (sz:=kU8.sz) (n:=b.length) rfl ⟨.inl rfl,(kk2 p2z)⟩ ⟨pc,⟨pc,⟨pZ23,⟨(.inl ⟨rfl,rfl⟩),trivial⟩⟩⟩⟩ hG) ?_
  exact eX [.c 6 2 48 0 48 [dI s,dU b] (.agg [dI s,dU b]),.t 7 (.one (dI 0))] ⟨⟨rfl,rfl,by kernel_rfl,by kernel_rfl,.inl ⟨2,I1,rfl,Nat.le_of_ble_eq_true rfl⟩⟩,⟨⟨rfl,by kernel_rfl⟩,trivial⟩⟩ [0,1] (by have e1:((W2 f u s b).X4:Int)=s:=p1e;have e2:((W2 f u s b).X9:List UInt8)=b:=p1e;have e3:((Ix f u s b):Int)=0:=p1e;have hE:=congr pq e3;exact hE) (ix ⟨⟨rfl,(by have e1:((mput rows (Xw.mk s b) true):List (Xw×Bool))=(Ik f u rows s b):=p1e;have hE:=congrArg (fun (q1:List (Xw×Bool))=>(.live (mpK Xa Y5 q1):HS)) e1;exact Eq.trans pZ4 hE)⟩,trivial⟩)
 refine cT (cn (dF hq1)) (sR [] (T.ret (rB (rT ?_))))
 refine eN ⟨(Zb f u s tb nb b),[(Z4 f u),(Z5 rows),Z7]⟩ ?_
 refine Xm (s':=⟨(Zb f u s tb nb b),[(Z4 f u),(Z5 rows),.live (.box 48 Z9)]⟩) (fun _ _ hG=>W7 (s:=⟨(Zb f u s tb nb b),[(Z4 f u),(Z5 rows),Z7]⟩) ⟨.inl rfl,(kk8 trivial)⟩ (kk2 ⟨p2b,trivial⟩) hG) ?_
 exact eX [.c 6 2 48 0 48 [dI 0,Z8] (.agg Z9),.t 7 (.one (dI 30))] ⟨⟨rfl,rfl,by kernel_rfl,by kernel_rfl,.inl ⟨2,I1,rfl,Nat.le_of_ble_eq_true rfl⟩⟩,⟨⟨rfl,by kernel_rfl⟩,trivial⟩⟩ [0,1] (by have e1:((W2 f u s b).X4:Int)=0:=p1e;have e2:((W2 f u s b).X9:List UInt8)=([]:List UInt8):=p1e;have e3:((Ix f u s b):Int)=30:=p1e;have hE:=congr pq e3;exact hE) (ix ⟨⟨rfl,p2s⟩,trivial⟩)
theorem wide_34:Wide Try.prog 34 none:=⟨_,Try.underlying34,(fun _ h=>by cases h),(fun _ _ h=>by cases h)⟩
theorem iat_4:Try.prog.info? 4=some Try.t4:=by kernel_rfl
theorem zerom_4:ZeroM Try.prog 4 [.bool false]:=⟨_,_,iat_4,rfl,rfl,fun _=>rfl⟩
theorem F0 (f:Int) (u:Int) (rows:List (Xw×Bool)) (te:Bool) (e:aE) (hf:0≤f∧f≤2) (hu:0≤u∧u≤8) (hs:-9223372036854775808≤e.X4∧e.X4≤9223372036854775807):Holds Try.prog 15 ⟨[pv 0 0,.tv (.agg [dI e.X4,.d (dsl te false kU8 e.X9)])],[.box 99 [dI (3*f+1),dI u,.mref 1],mpK Xa Y5 rows],vI (Wy f u rows e),[.live (.box 99 [dI (3*f+1),dI u,.mref 1]),.live (mpK Xa Y5 rows)]⟩:=by
 refine Holds.of Try.func15 rfl (N:=28) Try.ntmps15 rfl fun w0 B0 S0 U0=>?_
 show T _ (Xz 28 2 w0 S0 U0 B0) ⟨[pv 0 0,.tv (.agg [dI e.X4,.d (dsl te false kU8 e.X9)])],[.live (.box 99 [dI (3*f+1),dI u,.mref 1]),.live (mpK Xa Y5 rows)]⟩ _ _
 refine sR [] (T.seq (sR [hR 3 rfl rfl (rCa (X4d f u rows e.X4 ‹_› ‹_› ‹_›) Try.func39 [0,1] [(.tmp 7,pv 0 0),(.tmp 9,vI e.X4)] 2 2)] ?_))
 by_cases hq1:U8 f u e.X4
 ·refine cF (cn (dT hq1)) (T.skip (nT (T.seq ?_)))
  refine sD [[],[0],[0,1],[0,1,2],[],[4],[],[6],[6,7],[4,5,6,7,8],[0,1,2,3,4,5,6,7,8,9],[0,1,2,3,4,5,6,7,8,9,10],[0,1,2,3,4,5,6,7,8,9,10,11],[0,1,2,3,4,5,6,7,8,9,10,11],[0,1,2,3,4,5,6,7,8,9,10,11,12],[0,1,2,3,4,5,6,7,8,9,10,11,12,13,14]] [hR 8 rfl rfl (X0o () e.X9 (ys:=(.d (dsl te false kU8 e.X9))) (rhs:=[]) Try.underlying34 Try.underlying5 Try.underlying9 (Jb te false kU8 e.X9) (X8 rfl) trivial),hR 10 rfl rfl (Xfa 1 rows (Xw.mk e.X4 e.X9) (.one (dB (mget rows (Xw.mk e.X4 e.X9) false))) (ak:=.tv (.agg [dI e.X4,dS e.X9])) (kd:=Y5) Try.underlying97 E6 ⟨[.int .i64 e.X4,Ja e.X9],rfl,rfl⟩ zerom_4 ⟨.inl rfl,trivial⟩ rfl (X8 rfl) trivial)] (sR [] ?_)
  by_cases hq2:(mhas rows (Xw.mk e.X4 e.X9))=true
  ·refine cF (cn hq2) (T.skip (nT (sR [] (T.ret ?_))))
   exact eRt 4 (.one (dI 0)) [0,1] (by have e1:((Wy f u rows e):Int)=0:=(by (simp [Wy, *];done));have hE:=cI e1;exact hE) (ix (ix trivial))
  replace hq2:=Bool.eq_false_iff.2 hq2
  refine cT (cn hq2) (sR [] (T.ret (rT ?_)))
  exact eRt 4 (.one (dI 31)) [0,1] (by have e1:((Wy f u rows e):Int)=31:=(by (simp [Wy, *];done));have hE:=cI e1;exact hE) (ix (ix trivial))
 refine cT (cn (dF hq1)) (sR [] (T.ret (rT ?_)))
 exact eRt 4 (.one (dI 30)) [0,1] (by have e1:((Wy f u rows e):Int)=30:=(by (simp [Wy, *];done));have hE:=cI e1;exact hE) (ix (ix trivial))
theorem X1m (ta:Bool) (tb:Bool) (a:aE) (b:aE):Holds Try.prog 16 ⟨[.tv (.agg [dI a.X4,.d (dsl ta false kU8 a.X9)]),.tv (.agg [dI b.X4,.d (dsl tb false kU8 b.X9)])],[],vB (decide (a=b)),[]⟩:=by
 refine Holds.of Try.func16 rfl (N:=17) Try.ntmps16 rfl fun w0 B0 S0 U0=>?_
 show T _ (Xz 17 0 w0 S0 U0 B0) ⟨[.tv (.agg [dI a.X4,.d (dsl ta false kU8 a.X9)]),.tv (.agg [dI b.X4,.d (dsl tb false kU8 b.X9)])],[]⟩ _ _
 refine sR [] ?_
 by_cases hq1:a.X4=b.X4
 ·refine sR (Xl (hY · (dT hq1)) [6,7,8,9] (hS 10 (oY rfl rfl rfl rfl (X8 rfl) (dT hq1) (rCa (X66 ta false tb false a.X9 b.X9 ) Try.func40 [] [(.tmp 12,slV ta false kU8 a.X9),(.tmp 14,slV tb false kU8 b.X9)] 0 0))::(hP 11 (dT hq1)::[]))) (T.ret ?_)
  exact eRt 4 (.one (dB (decide (a.X9=b.X9)))) [] (by have e1:((decide (a=b)):Bool)=(decide (a.X9=b.X9)):=(by simp [Uv, *]);have hE:=cB e1;exact hE) trivial
 refine sR (Xl (hN · true (dF hq1)) [6,7,8,9,10] (hP 11 (dF hq1)::[])) (T.ret ?_)
 exact eRt 4 (.one (dB false)) [] (by have e1:((decide (a=b)):Bool)=false:=(by simp [Uv, *]);have hE:=cB e1;exact hE) trivial
theorem Xf7 (f:Int) (u:Int):Holds Try.prog 22 ⟨[vI f,vI u],[],pv 0 0,[.live (.box 106 [dB true,dI (fOf f),dI (cOf u),.own 1 (kE false).sz 0 ([]:List aE).length]),.live (Xe 48 (kE false) ([]:List aE))]⟩:=by
 refine Holds.of Try.func22 rfl (N:=13) Try.ntmps22 rfl fun w0 B0 S0 U0=>?_
 show T _ (Xz 13 0 w0 S0 U0 B0) ⟨[vI f,vI u],[]⟩ _ _
 refine sR [] (sR [hR 1 rfl rfl (X8a (k:=.i64) (a:=f) (b:=2) (X8 rfl) ⟨rfl,trivial⟩),hR 2 rfl rfl (Er (k:=.i64) (a:=0) (b:=min f 2) (X8 rfl) ⟨rfl,trivial⟩),hR 4 rfl rfl (X8a (k:=.i64) (a:=u) (b:=8) (X8 rfl) ⟨rfl,trivial⟩),hR 5 rfl rfl (Er (k:=.i64) (a:=0) (b:=min u 8) (X8 rfl) ⟨rfl,trivial⟩)] (T.ret ?_))
 refine eN ⟨[vI f,vI u,aa,aa,pv 0 0],[.live (.box 106 [dB true,dI (max 0 (min f 2)),dI (max 0 (min u 8)),.d (.val (.slice none 0 0))])]⟩ ?_
 refine Xm (s':=⟨[vI f,vI u,aa,aa,pv 0 0],[.live (.box 106 [dB true,dI (max 0 (min f 2)),dI (max 0 (min u 8)),.own 1 (kE false).sz 0 0]),.live (Xe 48 (kE false) ([]:List aE))]⟩) (fun _ _ hG=>I7 1 0 3 48 (kE false) (Tb:=106) (cs:=[dB true,dI (max 0 (min f 2)),dI (max 0 (min u 8)),.d (.val (.slice none 0 0))]) rfl rfl rfl hG) ?_
 exact eRt 4 (.one (.ptr 0 0)) [0,1] rfl ⟨⟨rfl,(by have e1:(max 0 (min f 2):Int)=(fOf f):=(by (simp only [fOf,cOf];omega));have e2:(max 0 (min u 8):Int)=(cOf u):=(by (simp only [fOf,cOf];omega));have e3:(0:Nat)=([]:List aE).length:=(by rfl);have hE:=congr (congr (congrArg (fun (q1:Int) (q2:Int) (q3:Nat)=>(.live (.box 106 [dB true,dI q1,dI q2,.own 1 (kE false).sz 0 q3]):HS)) e1) e2) e3;exact Eq.trans pZ4 hE)⟩,(ix trivial)⟩
theorem ref03_N (f:Int) (u:Int) (l:List aE) (hf:0≤f∧f≤2) (hu:0≤u∧u≤8):Holds Try.prog 82 ⟨[pv 0 0],[.box 106 [dB true,dI f,dI u,.own 1 (kE false).sz 0 l.length],Xe 48 (kE false) l],vI (3*f+1),[.live (.box 106 [dB true,dI f,dI u,.own 1 (kE false).sz 0 l.length]),.live (Xe 48 (kE false) l)]⟩:=by
 refine Holds.of Try.func82 rfl (N:=14) Try.ntmps82 rfl fun w0 B0 S0 U0=>?_
 show T _ (Xz 14 2 w0 S0 U0 B0) ⟨[pv 0 0],[.live (.box 106 [dB true,dI f,dI u,.own 1 (kE false).sz 0 l.length]),.live (Xe 48 (kE false) l)]⟩ _ _
 refine sR [] (T.seq (sR [] (cF (b:=(!true)) rfl (T.skip (nT (sR [hR 4 rfl rfl (Y9 (u1:=.int .i64 3) (u2:=.int .i64 f) (v:=.int .i64 (3*f)) (Xbv pZ5) (X8 rfl) ⟨rfl,trivial⟩),hR 5 rfl rfl (Y9 (u1:=.int .i64 (3*f)) (u2:=.int .i64 1) (v:=.int .i64 ((3*f)+1)) (W6 pZ5) (X8 rfl) ⟨rfl,trivial⟩)] (T.ret ?_)))))))
 exact eRt 2 (.one (dI ((3*f)+1))) [0,1] (cI (by rfl)) (ix (ix trivial))
theorem X64 (f:Int) (u:Int) (l:List aE) (hf:0≤f∧f≤2) (hu:0≤u∧u≤8):Holds Try.prog 56 ⟨[pv 0 0],[.box 106 [dB true,dI f,dI u,.own 1 (kE false).sz 0 l.length],Xe 48 (kE false) l],vI (f+1),[.live (.box 106 [dB true,dI f,dI u,.own 1 (kE false).sz 0 l.length]),.live (Xe 48 (kE false) l)]⟩:=by
 refine Holds.of Try.func56 rfl (N:=13) Try.ntmps56 rfl fun w0 B0 S0 U0=>?_
 show T _ (Xz 13 2 w0 S0 U0 B0) ⟨[pv 0 0],[.live (.box 106 [dB true,dI f,dI u,.own 1 (kE false).sz 0 l.length]),.live (Xe 48 (kE false) l)]⟩ _ _
 refine sR [] (T.seq (sR [] (cF (b:=(!true)) rfl (T.skip (nT (sR [hR 4 rfl rfl (Y9 (u1:=.int .i64 f) (u2:=.int .i64 1) (v:=.int .i64 (f+1)) (W6 pZ5) (X8 rfl) ⟨rfl,trivial⟩)] (T.ret ?_)))))))
 exact eRt 2 (.one (dI (f+1))) [0,1] rfl (ix (ix trivial))
theorem X2f (f:Int) (u:Int) (l:List aE) (s:Int) (hf:0≤f∧f≤2) (hu:0≤u∧u≤8) (hs:-9223372036854775808≤s∧s≤9223372036854775807):Holds Try.prog 46 ⟨[pv 0 0,vI s],[.box 106 [dB true,dI f,dI u,.own 1 (kE false).sz 0 l.length],Xe 48 (kE false) l],vB (decide (Yr u s)),[.live (.box 106 [dB true,dI f,dI u,.own 1 (kE false).sz 0 l.length]),.live (Xe 48 (kE false) l)]⟩:=by
 refine Holds.of Try.func46 rfl (N:=16) Try.ntmps46 rfl fun w0 B0 S0 U0=>?_
 show T _ (Xz 16 2 w0 S0 U0 B0) ⟨[pv 0 0,vI s],[.live (.box 106 [dB true,dI f,dI u,.own 1 (kE false).sz 0 l.length]),.live (Xe 48 (kE false) l)]⟩ _ _
 refine sR [] ?_
 by_cases hq1:s≥1000
 ·refine sR (hY 3 (dT hq1)::(hS 4 (oY rfl rfl rfl rfl (X8 rfl) (dT hq1) (Y9 (u1:=.int .i64 s) (u2:=.int .i64 1000) (v:=.int .i64 (s-1000)) (X1d pZ5) (X8 rfl) ⟨rfl,trivial⟩))::(Xl (hY · (dT hq1)) [5,6,7,8,9] (hP 10 (dT hq1)::[])))) (T.ret ?_)
  exact eRt 4 (.one (dB (decide ((s-1000)<u)))) [0,1] p3o (ix (ix trivial))
 refine sR (Xl (hN · true (dF hq1)) [3,4,5,6,7,8,9] (hP 10 (dF hq1)::[])) (T.ret ?_)
 exact eRt 4 (.one (dB false)) [0,1] p47 (ix (ix trivial))
theorem Uj (f:Int) (u:Int) (l:List aE) (s:Int) (hf:0≤f∧f≤2) (hu:0≤u∧u≤8):Holds Try.prog 55 ⟨[pv 0 0,vI s],[.box 106 [dB true,dI f,dI u,.own 1 (kE false).sz 0 l.length],Xe 48 (kE false) l],vB (decide (Vl f s)),[.live (.box 106 [dB true,dI f,dI u,.own 1 (kE false).sz 0 l.length]),.live (Xe 48 (kE false) l)]⟩:=by
 refine Holds.of Try.func55 rfl (N:=13) Try.ntmps55 rfl fun w0 B0 S0 U0=>?_
 show T _ (Xz 13 2 w0 S0 U0 B0) ⟨[pv 0 0,vI s],[.live (.box 106 [dB true,dI f,dI u,.own 1 (kE false).sz 0 l.length]),.live (Xe 48 (kE false) l)]⟩ _ _
 refine sR [] ?_
 by_cases hq1:s≥0
 ·refine sR [hY 3 (dT hq1),hY 4 (dT hq1),hS 5 (oY rfl rfl rfl rfl (X8 rfl) (dT hq1) (rCa (ref03_N f u l ‹_› ‹_›) Try.func82 [0,1] [(.tmp 9,pv 0 0)] 2 2)),hY 6 (dT hq1),hP 7 (dT hq1)] (T.ret ?_)
  exact eRt 4 (.one (dB (decide (s<(3*f+1))))) [0,1] p3n (ix (ix trivial))
 refine sR (Xl (hN · true (dF hq1)) [3,4,5,6] (hP 7 (dF hq1)::[])) (T.ret ?_)
 exact eRt 4 (.one (dB false)) [0,1] p45 (ix (ix trivial))
theorem X46 (f:Int) (u:Int) (l:List aE) (s:Int) (hf:0≤f∧f≤2) (hu:0≤u∧u≤8) (hs:-9223372036854775808≤s∧s≤9223372036854775807):Holds Try.prog 52 ⟨[pv 0 0,vI s],[.box 106 [dB true,dI f,dI u,.own 1 (kE false).sz 0 l.length],Xe 48 (kE false) l],vB (decide (U8 f u s)),[.live (.box 106 [dB true,dI f,dI u,.own 1 (kE false).sz 0 l.length]),.live (Xe 48 (kE false) l)]⟩:=by
 refine Holds.of Try.func52 rfl (N:=13) Try.ntmps52 rfl fun w0 B0 S0 U0=>?_
 show T _ (Xz 13 2 w0 S0 U0 B0) ⟨[pv 0 0,vI s],[.live (.box 106 [dB true,dI f,dI u,.own 1 (kE false).sz 0 l.length]),.live (Xe 48 (kE false) l)]⟩ _ _
 refine sR [] ?_
 by_cases hq1:Vl f s
 ·refine sR (hR 2 rfl rfl (rCa (Uj f u l s ‹_› ‹_›) Try.func55 [0,1] [(.tmp 5,pv 0 0),(.tmp 6,vI s)] 2 2)::(Xl (hN · false (dT hq1)) [4,5,6] (hP 7 (dT hq1)::[]))) (T.ret ?_)
  exact eRt 4 (.one (dB true)) [0,1] p46 (ix (ix trivial))
 refine sR [hR 2 rfl rfl (rCa (Uj f u l s ‹_› ‹_›) Try.func55 [0,1] [(.tmp 5,pv 0 0),(.tmp 6,vI s)] 2 2),hY 4 (dF hq1),hY 5 (dF hq1),hS 6 (oY rfl rfl rfl rfl (X8 rfl) (dF hq1) (rCa (X2f f u l s ‹_› ‹_› ‹_›) Try.func46 [0,1] [(.tmp 9,pv 0 0),(.tmp 10,vI s)] 2 2)),hP 7 (dF hq1)] (T.ret ?_)
 exact eRt 4 (.one (dB (decide (Yr u s)))) [0,1] p3r (ix (ix trivial))
section
variable (f:Int) (u:Int) (l:List aE) (te:Bool) (e:aE) (k:Nat)
abbrev Zc:AV:=.tv (.agg [dI e.X4,.d (dsl te false kU8 e.X9)])
abbrev Zd:HS:=.live (.box 106 [dB true,dI f,dI u,.own 1 (kE false).sz 0 l.length])
abbrev Ze:List HS:=[(Zd f u l),.live (Xe 48 (kE false) l),.live (.box 48 [dI e.X4,.d (dsl te false kU8 e.X9)])]
end
theorem X88 (f:Int) (u:Int) (l:List aE) (te:Bool) (e:aE) (hl:l.length≤9223372036854775806):Holds Try.prog 53 ⟨[pv 0 0,.tv (.agg [dI e.X4,.d (dsl te false kU8 e.X9)])],[.box 106 [dB true,dI f,dI u,.own 1 (kE false).sz 0 l.length],Xe 48 (kE false) l],vB (decide (e∈l)),[.live (.box 106 [dB true,dI f,dI u,.own 1 (kE false).sz 0 l.length]),.live (Xe 48 (kE false) l)]⟩:=by
 refine Holds.of Try.func53 rfl (N:=39) Try.ntmps53 rfl fun w0 B0 S0 U0=>?_
 show T _ (Xz 39 2 w0 S0 U0 B0) ⟨[pv 0 0,(Zc te e)],[(Zd f u l),.live (Xe 48 (kE false) l)]⟩ _ _
 refine sR [] (T.seq (sR [] (T.block ?_)))
 refine T.loop (ι:=Nat) (fun (k:Nat)=>⟨[pv 0 0,(Zc te e),aa,pv 2 0,vB false,vI ((k:Nat):Int)],(Ze f u l te e)⟩) (fun (k:Nat)=>(k≤l.length)∧(∀ j,j<k→¬l.getD j zE=e)) (fun (k:Nat)=>l.length-k) (0) ⟨(Nat.zero_le _),(fun j hj=>absurd hj (Nat.not_lt_zero _))⟩ (fun _ _ hG=>Yc [0,1,2] (bm 6 59) rfl rfl hG) ?_
 rintro k ⟨hk,hb⟩
 show T _ _ ⟨[pv 0 0,(Zc te e),aa,pv 2 0,vB false,vI ((k:Nat):Int)],(Ze f u l te e)⟩ _ _
 replace hk:k≤l.length:=hk
 replace hb:∀ j,j<k→¬l.getD j zE=e:=hb
 refine T.seq (sR [] ?_)
 by_cases hq1:((k:Nat):Int)<((l.length:Nat):Int)
 ·refine cT (dT hq1) (T.skip (nT (T.seq (T.block ?_))))
  by_cases hq2:(l.getD k zE).X4=e.X4
  ·refine sD [[],[0],[0,1],[0,1,2],[],[0,1,2,3,4],[0,1,2,3,4,5],[0,1,2,3,4,5,6],[],[8],[0,1,2,3,4,5,6,7,8,9],[0,1,2,3,4,5,6,7,8,9,10],[0,1,2,3,4,5,6,7,8,9,10,11],[0,1,2,3,4,5,6,7,8,9,10,11,12],[0,1,2,3,4,5,6,7,8,9,10,11,12,13],[0,1,2,3,4,5,6,7,8,9,10,11,12,13,14],[0,1,2,3,4,5,6,7,8,9,10,11],[0,1,2,3,4,5,6,7,8,9,10,11,12,13,14,15,16],[0,1,2,3,4,5,6,7,8,9,10,11,12,13,14,15,16,17],[0,1,2,3,4,5,6,7,8,9,10,11,12,13,14,15,16,17,18],[0,1,2,3,4,5,6,7,8,9,10,11],[0,1,2,3,4,5,6,7,8,9,10,11,20],[0,1,2,3,4,5,6,7,8,9,10,11,12,13,14,15,16,17,18,19,20,21],[0,1,2,3,4,5,6,7,8,9,10,11,12,13,14,15,16,17,18,19,20,21,22]] (hR 5 rfl rfl (Ih (k:=.i64) (l:=1) (sz:=(kE false).sz) (off:=0) (n:=l.length) (i:=((k:Nat):Int)) (m:=k) (o':=k*(kE false).sz+0) Try.underlying39 Hm rfl rfl (by omega) (by simp) (X8 rfl) trivial)::(hR 7 rfl rfl (X2k (l:=1) (off:=k*(kE false).sz+0) (i:=k) (j:=0) (T:=48) (sz:=(kE false).sz) (n:=l.length) (el:=We (kE false) l) (c:=.val (.int .i64 (l.getD k zE).X4)) X91 rfl (by omega) (by decide) rfl (X8 rfl) trivial)::(Xl (hY · (dT hq2)) [12,13,14,15,16] (hS 17 (oY rfl rfl rfl rfl (X8 rfl) (dT hq2) (Ih (k:=.i64) (l:=1) (sz:=(kE false).sz) (off:=0) (n:=l.length) (i:=((k:Nat):Int)) (m:=k) (o':=k*(kE false).sz+0) Try.underlying39 Hm rfl rfl (by omega) (by simp) (X8 rfl) p1n))::(hY 18 (dT hq2)::(hS 19 (oY rfl rfl rfl rfl (X8 rfl) (dT hq2) (X2k (l:=1) (off:=k*(kE false).sz+1) (i:=k) (j:=1) (T:=48) (sz:=(kE false).sz) (n:=l.length) (el:=We (kE false) l) (c:=dsl false false kU8 (l.getD k zE).X9) wide_34 rfl (by omega) (by decide) rfl (X8 rfl) p1n))::(hY 20 (dT hq2)::(hY 21 (dT hq2)::(hS 22 (oY rfl rfl rfl rfl (X8 rfl) (dT hq2) (rCa (X66 false false te false (l.getD k zE).X9 e.X9 ) Try.func40 [] [(.tmp 34,slV false false kU8 (l.getD k zE).X9),(.tmp 36,slV te false kU8 e.X9)] 0 0))::(hP 23 (dT hq2)::[])))))))))) ?_
   by_cases hq3:(l.getD k zE).X9=e.X9
   ·refine cT (dT hq3) (sR [] (T.ret (rB (rT (rT (rB (rT ?_)))))))
    exact eRt 4 (.one (dB true)) [0,1] (by have e1:((decide (e∈l)):Bool)=true:=(by exact dT (mem_get (z:=zE) (k:=k) (by omega) (by rw [Uv];exact ⟨by assumption,by assumption⟩)));have hE:=cB e1;exact hE) (ix (ix trivial))
   refine cF (dF hq3) (T.skip (nB (nT (xK [hR 1 rfl rfl (Y9 (u1:=.int .i64 ((k:Nat):Int)) (u2:=.int .i64 1) (v:=.int .i64 ((k+1:Nat):Int)) (W6 pZ5) (X8 rfl) ⟨rfl,trivial⟩)] ?_))))
   refine nL (k+1) ⟨(show (k+1)≤l.length from (by omega)),(show ∀ j,j<(k+1)→¬l.getD j zE=e from (Jy hb (by rw [Uv];intro h1;exact absurd h1.2 ‹_›)))⟩ (show (l.length-(k+1):Nat)<l.length-k from (by omega)) (fun _ _ hG=>Yc [0,1,2] (bm 6 59) rfl rfl hG)
  refine sD [[],[0],[0,1],[0,1,2],[],[0,1,2,3,4],[0,1,2,3,4,5],[0,1,2,3,4,5,6],[],[8],[0,1,2,3,4,5,6,7,8,9],[0,1,2,3,4,5,6,7,8,9,10],[0,1,2,3,4,5,6,7,8,9,10,11],[0,1,2,3,4,5,6,7,8,9,10,11,12],[0,1,2,3,4,5,6,7,8,9,10,11,12,13],[0,1,2,3,4,5,6,7,8,9,10,11,12,13,14],[0,1,2,3,4,5,6,7,8,9,10,11],[0,1,2,3,4,5,6,7,8,9,10,11,12,13,14,15,16],[0,1,2,3,4,5,6,7,8,9,10,11,12,13,14,15,16,17],[0,1,2,3,4,5,6,7,8,9,10,11,12,13,14,15,16,17,18],[0,1,2,3,4,5,6,7,8,9,10,11],[0,1,2,3,4,5,6,7,8,9,10,11,20],[0,1,2,3,4,5,6,7,8,9,10,11,12,13,14,15,16,17,18,19,20,21],[0,1,2,3,4,5,6,7,8,9,10,11,12,13,14,15,16,17,18,19,20,21,22]] (hR 5 rfl rfl (Ih (k:=.i64) (l:=1) (sz:=(kE false).sz) (off:=0) (n:=l.length) (i:=((k:Nat):Int)) (m:=k) (o':=k*(kE false).sz+0) Try.underlying39 Hm rfl rfl (by omega) (by simp) (X8 rfl) trivial)::(hR 7 rfl rfl (X2k (l:=1) (off:=k*(kE false).sz+0) (i:=k) (j:=0) (T:=48) (sz:=(kE false).sz) (n:=l.length) (el:=We (kE false) l) (c:=.val (.int .i64 (l.getD k zE).X4)) X91 rfl (by omega) (by decide) rfl (X8 rfl) trivial)::(Xl (hN · true (dF hq2)) [12,13,14,15,16,17,18,19,20,21,22] (hP 23 (dF hq2)::[])))) ?_
  refine cF (b:=false) rfl (T.skip (nB (nT (xK [hR 1 rfl rfl (Y9 (u1:=.int .i64 ((k:Nat):Int)) (u2:=.int .i64 1) (v:=.int .i64 ((k+1:Nat):Int)) (W6 pZ5) (X8 rfl) ⟨rfl,trivial⟩)] ?_))))
  refine nL (k+1) ⟨(show (k+1)≤l.length from (by omega)),(show ∀ j,j<(k+1)→¬l.getD j zE=e from (Jy hb (by rw [Uv];intro h1;exact absurd h1.1 ‹_›)))⟩ (show (l.length-(k+1):Nat)<l.length-k from (by omega)) (fun _ _ hG=>Yc [0,1,2] (bm 6 59) rfl rfl hG)
 refine cF (dF hq1) (T.exit (xT (xT (xH (nT (sR [] (T.ret ?_)))))))
 exact eRt 4 (.one (dB false)) [0,1] (cB (by exact dF (Xb2 (z:=zE) (k:=k) (by omega) hb))) (ix (ix trivial))
theorem Xa0:Elem Try.prog 39 48 2 32:=⟨Try.underlying39,_,_,Hm,rfl,rfl,rfl,rfl,by decide⟩
section
variable (f:Int) (u:Int) (l:List aE) (s:Int) (tb:Bool) (nb:Bool) (b:List UInt8)
abbrev Zg:HS:=.live (.box 106 [dB true,dI f,dI u,.own 1 (kE false).sz 0 l.length])
abbrev Zh:HObj:=Xe 48 (kE false) l
abbrev Zi:HS:=.live ((Zh l))
abbrev Zj:AV:=vB (!(decide (U8 f u s)))
abbrev Zk:AV:=vB (decide (((b.length:Nat):Int)>16777216))
abbrev Zl:List AV:=[pv 0 0,vI s,slV tb nb kU8 b,aa,aa,aa,pv 2 0,vI 11,aa,aa,aa,aa,(Zj f u s),aa,aa,aa,(Zk b)]
abbrev Zm:HS:=.live (.box 48 [dI 0,.d (.val (.slice none 0 0))])
abbrev Zn:HS:=.live (.box 106 [dB true,dI f,dI u,.own 3 (kE false).sz 0 l.length])
abbrev Zo:List HS:=[(Zn f u l),.dead,Zm,(Zi l)]
abbrev Zp:SV:=dU ([]:List UInt8)
abbrev Zq:List SV:=[dI 0,Zp]
abbrev Zr:List AV:=[pv 0 0,vI s,slV tb nb kU8 b,aa,aa,aa,pv 2 0,vI 0,pv 5 0,aa,aa,aa,(Zj f u s),aa,aa,aa,(Zk b)]
abbrev Zs:List SV:=[dI s,dU b]
abbrev Zt:HS:=.live (.box 48 (Zs s b))
abbrev Zu:List AV:=[pv 0 0,vI s,slV tb nb kU8 b,aa,aa,aa,pv 2 0,vI 0,pv 5 0,aa,aa,aa,(Zj f u s),aa,aa,aa,(Zk b),aa,aa,aa,aa,aa,aa,aa,aa,aa,vB (!(decide ((aE.mk s b)∈l)))]
abbrev Zv:List AV:=[pv 0 0,vI s,slV tb nb kU8 b,aa,aa,aa,pv 2 0,vI 30,aa,aa,aa,aa,(Zj f u s)]
end
theorem Fq (f:Int) (u:Int) (l:List aE) (s:Int) (tb:Bool) (nb:Bool) (b:List UInt8) (hf:0≤f∧f≤2) (hu:0≤u∧u≤8) (hs:-9223372036854775808≤s∧s≤9223372036854775807) (hb:b.length≤140737488355328) (hl:l.length≤2147483648):Holds Try.prog 29 ⟨[pv 0 0,vI s,slV tb nb kU8 b],[.box 106 [dB true,dI f,dI u,.own 1 (kE false).sz 0 l.length],Xe 48 (kE false) l],.tup [.agg [dI (W2 f u s b).X4,dU (W2 f u s b).X9],.one (dI (Ix f u s b))],[.live (.box 106 [dB true,dI f,dI u,.own 2 (kE false).sz 0 (Wz f u l s b).length]),.dead,.live (Xe 48 (kE false) (Wz f u l s b))]⟩:=by
 refine Holds.of Try.func29 rfl (N:=38) Try.ntmps29 rfl fun w0 B0 S0 U0=>?_
 show T _ (Xz 38 2 w0 S0 U0 B0) ⟨[pv 0 0,vI s,slV tb nb kU8 b],[(Zg f u l),(Zi l)]⟩ _ _
 refine sR [] (T.seq (sR [hR 2 rfl rfl (rCa (X46 f u l s ‹_› ‹_› ‹_›) Try.func52 [0,1] [(.tmp 9,pv 0 0),(.tmp 10,vI s)] 2 2)] ?_))
 by_cases hq1:U8 f u s
 rotate_left
 ·refine cT (cn (dF hq1)) (sR [] (T.ret (rT ?_)))
  refine eN ⟨(Zv f u s tb nb b),[(Zg f u l),(Zi l),Zm]⟩ ?_
  refine Xm (s':=⟨(Zv f u s tb nb b),(Zo f u l)⟩) (fun _ _ hG=>Gs.move (s:=⟨(Zv f u s tb nb b),[(Zg f u l),(Zi l),Zm]⟩) 1 3 (o:=(Zh l)) rfl rfl rfl ⟨.inl rfl,p2z⟩ ⟨(.inr pk),⟨(.inl ⟨rfl,rfl⟩),⟨(.inr pZ1),⟨(.inr (.inl ⟨rfl,rfl⟩)),trivial⟩⟩⟩⟩ hG) ?_
  refine eN ⟨(Zv f u s tb nb b),(Zo f u l)⟩ ?_
  refine Xm (s':=⟨(Zv f u s tb nb b),[(Zn f u l),.dead,.live (.box 48 Zq),(Zi l)]⟩) (fun _ _ hG=>W7 (s:=⟨(Zv f u s tb nb b),(Zo f u l)⟩) ⟨.inl rfl,p2z⟩ (kk2 ⟨p2b,⟨.inl rfl,trivial⟩⟩) hG) ?_
  exact eX [.c 6 2 48 0 48 [dI 0,Zp] (.agg Zq),.t 7 (.one (dI 30))] ⟨⟨rfl,rfl,by kernel_rfl,by kernel_rfl,.inl ⟨2,I1,rfl,Nat.le_of_ble_eq_true rfl⟩⟩,⟨⟨rfl,by kernel_rfl⟩,trivial⟩⟩ [0,1,3] (by have e1:((W2 f u s b).X4:Int)=0:=pn;have e2:((W2 f u s b).X9:List UInt8)=([]:List UInt8):=pn;have e3:((Ix f u s b):Int)=30:=pn;have hE:=congr pq e3;exact hE) ⟨⟨rfl,p2t⟩,⟨⟨rfl,p1y⟩,trivial⟩⟩
 refine cF (cn (dT hq1)) (T.skip (nT (T.seq (sR [] ?_))))
 by_cases hq2:((b.length:Nat):Int)>16777216
 ·refine cT (dT hq2) (sR [] (T.ret (rT ?_)))
  refine eN ⟨(Zl f u s tb nb b),[(Zg f u l),(Zi l),Zm]⟩ ?_
  refine Xm (s':=⟨(Zl f u s tb nb b),(Zo f u l)⟩) (fun _ _ hG=>Gs.move (s:=⟨(Zl f u s tb nb b),[(Zg f u l),(Zi l),Zm]⟩) 1 3 (o:=(Zh l)) rfl rfl rfl ⟨.inl rfl,(X6p trivial)⟩ ⟨(.inr pk),⟨(.inl ⟨rfl,rfl⟩),⟨(.inr pZ1),⟨(.inr (.inl ⟨rfl,rfl⟩)),trivial⟩⟩⟩⟩ hG) ?_
  refine eN ⟨(Zl f u s tb nb b),(Zo f u l)⟩ ?_
  refine Xm (s':=⟨(Zl f u s tb nb b),[(Zn f u l),.dead,.live (.box 48 Zq),(Zi l)]⟩) (fun _ _ hG=>W7 (s:=⟨(Zl f u s tb nb b),(Zo f u l)⟩) ⟨.inl rfl,(X6p trivial)⟩ (kk2 ⟨p2b,⟨.inl rfl,trivial⟩⟩) hG) ?_
  exact eX [.c 6 2 48 0 48 [dI 0,Zp] (.agg Zq),.t 7 (.one (dI 11))] ⟨⟨rfl,rfl,by kernel_rfl,by kernel_rfl,.inl ⟨2,I1,rfl,Nat.le_of_ble_eq_true rfl⟩⟩,⟨⟨rfl,by kernel_rfl⟩,trivial⟩⟩ [0,1,3] (by have e1:((W2 f u s b).X4:Int)=0:=pn;have e2:((W2 f u s b).X9:List UInt8)=([]:List UInt8):=pn;have e3:((Ix f u s b):Int)=11:=pn;have hE:=congr pq e3;exact hE) ⟨⟨rfl,p2t⟩,⟨⟨rfl,p1y⟩,trivial⟩⟩
 refine cF (dF hq2) (T.skip (nT ?_))
 refine sR [hR 1 rfl rfl (Yd 3 5 kU8 Vc ([]:List UInt8) [] (cs:=[]) Try.underlying34 Ut rfl I4 rfl rfl rfl pf Wn pZ4 (Vz pZ4) (X8 rfl) trivial),hR 3 rfl rfl (W4 3 4 5 1 kU8 Vc ([]:List UInt8) b b ([]:List UInt8).length (sy:=(.d (dsl tb nb kU8 b))) (rhs:=[]) J1 (by omega) (Jb tb nb kU8 b) (by simp) (by (simp [maxLen,-List.getD_eq_getElem?_getD]<;>omega)) (by (simp [maxLen,-List.getD_eq_getElem?_getD]<;>omega)) (X8 rfl) trivial)] ?_
 refine T.seq ?_
 refine tN ⟨(Zr f u s tb nb b),[(Zg f u l),(Zi l),Zm,.dead,.live (Xe 5 kU8 b),.live (.box 48 [dI s,.own 4 kU8.sz 0 b.length])]⟩ ?_
 refine Vh (s':=⟨(Zr f u s tb nb b),[(Zg f u l),(Zi l),Zm,.dead,.dead,(Zt s b)]⟩) (fun _ _ hG=>Gs.freeze (s:=⟨(Zr f u s tb nb b),[(Zg f u l),(Zi l),Zm,.dead,.live (Xe 5 kU8 b),.live (.box 48 [dI s,.own 4 kU8.sz 0 b.length])]⟩) 4 (el:=We kU8 b) (sz:=kU8.sz) (n:=b.length) rfl ⟨.inl rfl,(X6p trivial)⟩ ⟨pc,⟨pc,⟨pc,⟨pc,⟨(.inl ⟨rfl,rfl⟩),⟨pZ23,trivial⟩⟩⟩⟩⟩⟩ hG) (sR [hR 2 rfl rfl (rCa (X88 f u l false (aE.mk s b) (by omega)) Try.func53 [0,1] [(.tmp 23,pv 0 0),(.tmp 24,.tv (.agg (Zs s b)))] 2 2)] ?_)
 by_cases hq3:(aE.mk s b)∈l
 ·refine cF (cn (dT hq3)) (T.skip (nT (sR [] (T.ret ?_))))
  refine eN ⟨(Zu f u l s tb nb b),[(Zg f u l),(Zi l),(Zt s b),.dead,.dead,(Zt s b)]⟩ ?_
  refine Xm (s':=⟨(Zu f u l s tb nb b),[.live (.box 106 [dB true,dI f,dI u,.own 6 (kE false).sz 0 l.length]),.dead,(Zt s b),.dead,.dead,(Zt s b),(Zi l)]⟩) (fun _ _ hG=>Gs.move (s:=⟨(Zu f u l s tb nb b),[(Zg f u l),(Zi l),(Zt s b),.dead,.dead,(Zt s b)]⟩) 1 6 (o:=(Zh l)) rfl rfl rfl ⟨.inl rfl,(kk2 (kk8 (X6p trivial)))⟩ ⟨(.inr pk),⟨(.inl ⟨rfl,rfl⟩),⟨(.inr pZ1),⟨(.inr pZ1),⟨(.inr pZ1),⟨(.inr pZ1),⟨(.inr (.inl ⟨rfl,rfl⟩)),trivial⟩⟩⟩⟩⟩⟩⟩ hG) ?_
  exact eX [.c 6 2 48 0 48 [dI s,dU b] (.agg (Zs s b)),.t 7 (.one (dI 0))] ⟨⟨rfl,rfl,by kernel_rfl,by kernel_rfl,.inl ⟨2,I1,rfl,Nat.le_of_ble_eq_true rfl⟩⟩,⟨⟨rfl,by kernel_rfl⟩,trivial⟩⟩ [0,1,6] pZ30 ⟨⟨rfl,(by have e1:(l.length:Nat)=(Wz f u l s b).length:=pn;have hE:=congrArg (fun (q1:Nat)=>(.live (.box 106 [dB true,dI f,dI u,.own 6 (kE false).sz 0 q1]):HS)) e1;exact Eq.trans pZ4 hE)⟩,⟨⟨rfl,p1y⟩,trivial⟩⟩
 refine cT (cn (dF hq3)) ?_
 refine xD [[],[],[1],[1,2],[1,2,3],[],[5],[1,2,3,4,5,6],[0,1,2,3,4,5,6,7],[0,1,2,3,4,5,6,7,8],[0,1,2,3,4,5,6,7,8,9]] [hR 6 rfl rfl (Yd 6 48 (kE false) (Vs false) [(aE.mk s b)] [⟨0,.tmp 32,.agg (Zs s b),0⟩] (cs:=[dI s,dU b]) Try.underlying39 Hm rfl X90 rfl rfl rfl pf (Ws rfl rfl pf Wn) pZ4 (Vz pZ4) (X8 rfl) trivial),hR 7 rfl rfl (W4 1 7 48 32 (kE false) (Vs false) l [(aE.mk s b)] (l++[(aE.mk s b)]) l.length (sy:=(.own 6 (kE false).sz 0 [(aE.mk s b)].length)) (rhs:=[(6,.live (Xe 48 (kE false) [(aE.mk s b)]))]) Xa0 (by omega) (Up 6 48 (kE false) [(aE.mk s b)]) p1p (by (simp [maxLen,-List.getD_eq_getElem?_getD]<;>omega)) (by (simp [maxLen,-List.getD_eq_getElem?_getD]<;>omega)) (X8 rfl) trivial)] pZ4 pZ4 pZ4 pZ4 pZ4 pZ4 ?_
 refine nT (sR [] (T.ret ?_))
 exact eX [.c 6 2 48 0 48 [dI s,dU b] (.agg (Zs s b)),.t 7 (.one (dI 0))] ⟨⟨rfl,rfl,by kernel_rfl,by kernel_rfl,.inl ⟨2,I1,rfl,Nat.le_of_ble_eq_true rfl⟩⟩,⟨⟨rfl,by kernel_rfl⟩,trivial⟩⟩ [0,1,7] pZ30 ⟨⟨rfl,(by have e1:((l++[(aE.mk s b)]).length:Nat)=(Wz f u l s b).length:=pn;have hE:=congrArg (fun (q1:Nat)=>(.live (.box 106 [dB true,dI f,dI u,.own 7 (kE false).sz 0 q1]):HS)) e1;exact Eq.trans pZ4 hE)⟩,⟨⟨rfl,(by have e1:(l++[(aE.mk s b)]:List aE)=(Wz f u l s b):=pn;have hE:=congrArg (fun (q1:List aE)=>(.live (Xe 48 (kE false) q1):HS)) e1;exact Eq.trans pZ4 hE)⟩,trivial⟩⟩
theorem Jg (f:Int) (u:Int) (l:List aE) (te:Bool) (e:aE) (hf:0≤f∧f≤2) (hu:0≤u∧u≤8) (hs:-9223372036854775808≤e.X4∧e.X4≤9223372036854775807) (hl:l.length≤9223372036854775806):Holds Try.prog 54 ⟨[pv 0 0,.tv (.agg [dI e.X4,.d (dsl te false kU8 e.X9)])],[.box 106 [dB true,dI f,dI u,.own 1 (kE false).sz 0 l.length],Xe 48 (kE false) l],vI (Wr f u l e),[.live (.box 106 [dB true,dI f,dI u,.own 1 (kE false).sz 0 l.length]),.live (Xe 48 (kE false) l)]⟩:=by
 refine Holds.of Try.func54 rfl (N:=14) Try.ntmps54 rfl fun w0 B0 S0 U0=>?_
 show T _ (Xz 14 2 w0 S0 U0 B0) ⟨[pv 0 0,.tv (.agg [dI e.X4,.d (dsl te false kU8 e.X9)])],[.live (.box 106 [dB true,dI f,dI u,.own 1 (kE false).sz 0 l.length]),.live (Xe 48 (kE false) l)]⟩ _ _
 refine sR [] (T.seq (sR [hR 3 rfl rfl (rCa (X46 f u l e.X4 ‹_› ‹_› ‹_›) Try.func52 [0,1] [(.tmp 5,pv 0 0),(.tmp 7,vI e.X4)] 2 2)] ?_))
 by_cases hq1:U8 f u e.X4
 ·refine cF (cn (dT hq1)) (T.skip (nT (T.seq (sR [hR 2 rfl rfl (rCa (X88 f u l te e ‹_›) Try.func53 [0,1] [(.tmp 10,pv 0 0),(.tmp 11,.tv (.agg [dI e.X4,.d (dsl te false kU8 e.X9)]))] 2 2)] ?_))))
  by_cases hq2:e∈l
  ·refine cF (cn (dT hq2)) (T.skip (nT (sR [] (T.ret ?_))))
   exact eRt 4 (.one (dI 0)) [0,1] (by have e1:((Wr f u l e):Int)=0:=(by (simp [Wr, *];done));have hE:=cI e1;exact hE) (ix (ix trivial))
  refine cT (cn (dF hq2)) (sR [] (T.ret (rT ?_)))
  exact eRt 4 (.one (dI 31)) [0,1] (by have e1:((Wr f u l e):Int)=31:=(by (simp [Wr, *];done));have hE:=cI e1;exact hE) (ix (ix trivial))
 refine cT (cn (dF hq1)) (sR [] (T.ret (rT ?_)))
 exact eRt 4 (.one (dI 30)) [0,1] (by have e1:((Wr f u l e):Int)=30:=(by (simp [Wr, *];done));have hE:=cI e1;exact hE) (ix (ix trivial))
theorem clip_u8 (tb:Bool) (nb:Bool) (b:List UInt8):Holds Try.prog 94 ⟨[slV tb nb kU8 b],[],clV tb nb kU8 b,[]⟩:=by
 refine Holds.of Try.func94 rfl (N:=9) Try.ntmps94 rfl fun w0 B0 S0 U0=>?_
 show T _ (Xz 9 0 w0 S0 U0 B0) ⟨[slV tb nb kU8 b],[]⟩ _ _
 refine sR [] (sR [hR 5 rfl rfl (q_clip tb nb kU8 b (p:=((b.length:Nat):Int)) (q:=((b.length:Nat):Int)) Try.underlying34 Ut rfl (by omega) (by omega) (X8 rfl) trivial)] (T.ret ?_))
 exact eRt 2 (.one (.cl tb nb kU8.sz b.length (We kU8 b))) [] rfl trivial
abbrev Zw (n:Nat):AV:=dv (.int .u64 ((n:Nat):Int))
abbrev Zx (m:Nat):AV:=vI ((m:Nat):Int)
abbrev Zy (j:Nat):AV:=vI ((j-1:Nat):Int)
theorem X5b (tb:Bool) (nb:Bool) (b:List UInt8) (n:Nat) (m:Nat) (hb:b.length≤140737488355000) (hn:n<18446744073709551616) (hm:m≤7):Holds Try.prog 87 ⟨[slV tb nb kU8 b,dv (.int .u64 ((n:Nat):Int)),vI ((m+1:Nat):Int)],[],Y3 0 kU8 0 (b++(Yw n (m+1))).length,[.live (Xe 5 kU8 (b++(Yw n (m+1))))]⟩:=by
 refine Holds.of Try.func87 rfl (N:=22) Try.ntmps87 rfl fun w0 B0 S0 U0=>?_
 show T _ (Xz 22 0 w0 S0 U0 B0) ⟨[slV tb nb kU8 b,(Zw n),vI ((m+1:Nat):Int)],[]⟩ _ _
 refine sR [] (sR [hR 1 rfl rfl (rCa (clip_u8 tb nb b ) Try.func94 [] [(.tmp 7,slV tb nb kU8 b)] 0 0)] (T.seq (T.block ?_)))
 refine T.ofTL ?_
 refine TL.peel (T.seq (sR [] ?_))
 by_cases hq1:((m+1:Nat):Int)>0
 rotate_left
 ·exact absurd (by omega) hq1
 refine cT (dT hq1) (T.skip (nT (T.block (sR [hR 1 rfl rfl (Y9 (u1:=.int .i64 ((m+1:Nat):Int)) (u2:=.int .i64 1) (v:=.int .i64 ((m:Nat):Int)) (X1d pZ5) (X8 rfl) ⟨rfl,trivial⟩)] ?_))))
 refine xR [hR 3 rfl rfl (Y9 (u1:=.int .i64 8) (u2:=.int .i64 ((m:Nat):Int)) (v:=.int .i64 ((8*m:Nat):Int)) (Xbv pZ5) (X8 rfl) ⟨rfl,trivial⟩),hR 4 rfl rfl (Y9 (u1:=.int .u64 ((n:Nat):Int)) (u2:=.int .i64 ((8*m:Nat):Int)) (v:=.int .u64 ((n / 2 ^ (8*m):Nat):Int)) (Xd6 (n:=8*m) rfl pj) (X8 rfl) trivial),hR 5 rfl rfl (I5 (u:=.int .u64 ((n / 2 ^ (8*m):Nat):Int)) (v:=.int .u8 (((UInt8.ofNat (n / 2 ^ (8*m))).toNat:Nat):Int)) (Xd1 Try.underlying117 Try.underlying5) (X8 rfl) trivial),hR 6 rfl rfl (Yd 0 5 kU8 Vc [(UInt8.ofNat (n / 2 ^ (8*m)))] [⟨0,.tmp 18,.one (.d (.val (.int .u8 (((UInt8.ofNat (n / 2 ^ (8*m))).toNat:Nat):Int)))),0⟩] (cs:=[.d (.val (.int .u8 (((UInt8.ofNat (n / 2 ^ (8*m))).toNat:Nat):Int)))]) Try.underlying34 Ut rfl I4 rfl rfl rfl pf (Ws rfl rfl pf Wn) pZ4 (Vz pZ4) (X8 rfl) trivial),hR 7 rfl rfl (Xfe 1 5 1 tb nb kU8 Vc b [(UInt8.ofNat (n / 2 ^ (8*m)))] (b++[(UInt8.ofNat (n / 2 ^ (8*m)))]) (sy:=(.own 0 kU8.sz 0 [(UInt8.ofNat (n / 2 ^ (8*m)))].length)) (rhs:=[(0,.live (Xe 5 kU8 [(UInt8.ofNat (n / 2 ^ (8*m)))]))]) J1 (by (simp [maxLen,-List.getD_eq_getElem?_getD]<;>omega)) (Up 0 5 kU8 [(UInt8.ofNat (n / 2 ^ (8*m)))]) rfl (by (simp [maxLen,-List.getD_eq_getElem?_getD]<;>omega)) (by (simp [maxLen,-List.getD_eq_getElem?_getD]<;>omega)) (X8 rfl) trivial)] pZ4 pZ4 ?_
 refine nB ?_
 refine nP ?_
 refine TL.loop (ι:=Nat×(List UInt8)) (fun (x_:Nat×(List UInt8))=>⟨[Y3 0 kU8 0 x_.2.length,(Zw n),vI ((x_.1:Nat):Int)],[.live (Xe 5 kU8 x_.2)]⟩) (fun (x_:Nat×(List UInt8))=>(x_.1≤m)∧(x_.2++Yw n x_.1=b++Yw n (m+1))) (fun (x_:Nat×(List UInt8))=>x_.1) (m,b++[UInt8.ofNat (n / 2 ^ (8*m))]) ⟨(Nat.le_refl _),(by rw [List.append_assoc];rfl)⟩ (fun _ _ hG=>Wp [1] [true,true,true] (t1:=[Y3 1 kU8 0 (b++[UInt8.ofNat (n / 2 ^ (8*m))]).length,(Zw n),(Zx m)]) (t2:=[Y3 1 kU8 0 (b++[(UInt8.ofNat (n / 2 ^ (8*m)))]).length,(Zw n),(Zx m)]) (h1:=[.live (Xe 5 kU8 (b++[UInt8.ofNat (n / 2 ^ (8*m))]))]) (h2:=[.live (Xe 5 kU8 (b++[(UInt8.ofNat (n / 2 ^ (8*m)))]))]) (congrArg (fun (q1:Nat)=>([Y3 1 kU8 0 q1,(Zw n),(Zx m)]:List AV)) (by rfl)) p2d hG) ?_
 rintro ⟨j,acc⟩ ⟨hj,he⟩
 show T _ _ ⟨[Y3 0 kU8 0 acc.length,(Zw n),vI ((j:Nat):Int)],[.live (Xe 5 kU8 acc)]⟩ _ _
 replace hj:j≤m:=hj
 replace he:acc++Yw n j=b++Yw n (m+1):=he
 have hacc:=X5k he
 refine T.seq (sR [] ?_)
 by_cases hq2:((j:Nat):Int)>0
 ·refine cT (dT hq2) (T.skip (nT (T.block (sR [hR 1 rfl rfl (Y9 (u1:=.int .i64 ((j:Nat):Int)) (u2:=.int .i64 1) (v:=.int .i64 ((j-1:Nat):Int)) (X1d pZ5) (X8 rfl) ⟨rfl,trivial⟩)] ?_))))
  refine xR [hR 3 rfl rfl (Y9 (u1:=.int .i64 8) (u2:=.int .i64 ((j-1:Nat):Int)) (v:=.int .i64 ((8*(j-1):Nat):Int)) (Xbv pZ5) (X8 rfl) ⟨rfl,trivial⟩),hR 4 rfl rfl (Y9 (u1:=.int .u64 ((n:Nat):Int)) (u2:=.int .i64 ((8*(j-1):Nat):Int)) (v:=.int .u64 ((n / 2 ^ (8*(j-1)):Nat):Int)) (Xd6 (n:=8*(j-1)) rfl pj) (X8 rfl) trivial),hR 5 rfl rfl (I5 (u:=.int .u64 ((n / 2 ^ (8*(j-1)):Nat):Int)) (v:=.int .u8 (((UInt8.ofNat (n / 2 ^ (8*(j-1)))).toNat:Nat):Int)) (Xd1 Try.underlying117 Try.underlying5) (X8 rfl) trivial),hR 6 rfl rfl (Yd 1 5 kU8 Vc [(UInt8.ofNat (n / 2 ^ (8*(j-1))))] [⟨0,.tmp 18,.one (.d (.val (.int .u8 (((UInt8.ofNat (n / 2 ^ (8*(j-1)))).toNat:Nat):Int)))),0⟩] (cs:=[.d (.val (.int .u8 (((UInt8.ofNat (n / 2 ^ (8*(j-1)))).toNat:Nat):Int)))]) Try.underlying34 Ut rfl I4 rfl rfl rfl pf (Ws rfl rfl pf Wn) pZ4 (Vz pZ4) (X8 rfl) trivial),hR 7 rfl rfl (W4 0 2 5 1 kU8 Vc acc [(UInt8.ofNat (n / 2 ^ (8*(j-1))))] (acc++[(UInt8.ofNat (n / 2 ^ (8*(j-1))))]) acc.length (sy:=(.own 1 kU8.sz 0 [(UInt8.ofNat (n / 2 ^ (8*(j-1))))].length)) (rhs:=[(1,.live (Xe 5 kU8 [(UInt8.ofNat (n / 2 ^ (8*(j-1))))]))]) J1 (by omega) (Up 1 5 kU8 [(UInt8.ofNat (n / 2 ^ (8*(j-1))))]) p1p (by (simp [maxLen,-List.getD_eq_getElem?_getD]<;>omega)) (by (simp [maxLen,-List.getD_eq_getElem?_getD]<;>omega)) (X8 rfl) trivial)] pZ4 pZ4 ?_
  refine nB ?_
  refine nL (j-1,acc++[UInt8.ofNat (n / 2 ^ (8*(j-1)))]) ⟨(show (j-1)≤m from (by omega)),(show (acc++[UInt8.ofNat (n / 2 ^ (8*(j-1)))])++Yw n (j-1)=b++Yw n (m+1) from (X5j he (by omega)))⟩ (show ((j-1):Nat)<j from (by omega)) (fun _ _ hG=>Wp [2] [true,true,true] (t1:=[Y3 2 kU8 0 (acc++[UInt8.ofNat (n / 2 ^ (8*(j-1)))]).length,(Zw n),(Zy j)]) (t2:=[Y3 2 kU8 0 (acc++[(UInt8.ofNat (n / 2 ^ (8*(j-1))))]).length,(Zw n),(Zy j)]) (h1:=[.live (Xe 5 kU8 (acc++[UInt8.ofNat (n / 2 ^ (8*(j-1)))]))]) (h2:=[.live (Xe 5 kU8 (acc++[(UInt8.ofNat (n / 2 ^ (8*(j-1))))]))]) (congrArg (fun (q1:Nat)=>([Y3 2 kU8 0 q1,(Zw n),(Zy j)]:List AV)) (by rfl)) p2d hG)
 refine cF (dF hq2) (T.exit (xT (xT (xH (nT (sR [] (T.ret ?_)))))))
 exact eRt 6 (.one (.own 0 kU8.sz 0 acc.length)) [0] (by have e1:((b++(Yw n (m+1))).length:Nat)=acc.length:=p3x;have hE:=congrArg (fun (q1:Nat)=>(Y3 0 kU8 0 q1:AV)) e1;exact hE) ⟨⟨rfl,(by have e1:(acc:List UInt8)=b++(Yw n (m+1)):=p3x;have hE:=congrArg (fun (q1:List UInt8)=>(.live (Xe 5 kU8 q1):HS)) e1;exact Eq.trans pZ4 hE)⟩,trivial⟩
theorem Uw (tb:Bool) (nb:Bool) (b:List UInt8) (n:Int) (hb:b.length≤140737488355000):Holds Try.prog 68 ⟨[slV tb nb kU8 b,vI n],[],Y3 0 kU8 0 (b++Ym n).length,[.live (Xe 5 kU8 (b++Ym n))]⟩:=by
 refine Holds.of Try.func68 rfl (N:=9) Try.ntmps68 rfl fun w0 B0 S0 U0=>?_
 show T _ (Xz 9 0 w0 S0 U0 B0) ⟨[slV tb nb kU8 b,vI n],[]⟩ _ _
 have hn:=Xc1 n
 refine sR [] (sR [hR 2 rfl rfl (I5 (u:=.int .i64 n) (v:=.int .u64 ((u64 n:Nat):Int)) (c_u64 Try.underlying2 Try.underlying117) (X8 rfl) trivial),hR 3 rfl rfl (rCa (X5b tb nb b (u64 n) 7 ‹_› ‹_› (by omega)) Try.func87 [0] [(.tmp 5,slV tb nb kU8 b),(.tmp 7,dv (.int .u64 ((u64 n:Nat):Int))),(.const (.int .i64 8),vI 8)] 0 1)] (T.ret ?_))
 exact eRt 4 (.one (.own 0 kU8.sz 0 (b++(Yw (u64 n) 8)).length)) [0] p2e ⟨⟨rfl,p32⟩,trivial⟩
theorem F2 (tb:Bool) (nb:Bool) (b:List UInt8) (n:Int) (hb:b.length≤140737488355000):Holds Try.prog 71 ⟨[slV tb nb kU8 b,vI n],[],Y3 0 kU8 0 (b++W3 n).length,[.live (Xe 5 kU8 (b++W3 n))]⟩:=by
 refine Holds.of Try.func71 rfl (N:=11) Try.ntmps71 rfl fun w0 B0 S0 U0=>?_
 show T _ (Xz 11 0 w0 S0 U0 B0) ⟨[slV tb nb kU8 b,vI n],[]⟩ _ _
 have hn:=Xa2 n
 refine sR [] (sR [hR 2 rfl rfl (Er (k:=.i64) (a:=n) (b:=0) (X8 rfl) ⟨rfl,trivial⟩),hR 3 rfl rfl (X8a (k:=.i64) (a:=max n 0) (b:=4294967295) (X8 rfl) ⟨rfl,trivial⟩),hR 4 rfl rfl (I5 (u:=.int .i64 (min (max n 0) 4294967295)) (v:=.int .u64 ((Ho n:Nat):Int)) (X0a Try.underlying3 Try.underlying117 (by rw [IntKind.wrap_u64];unfold Ho;omega)) (X8 rfl) trivial),hR 5 rfl rfl (rCa (X5b tb nb b (Ho n) 3 ‹_› (by omega) (by omega)) Try.func87 [0] [(.tmp 5,slV tb nb kU8 b),(.tmp 9,dv (.int .u64 ((Ho n:Nat):Int))),(.const (.int .i64 4),vI 4)] 0 1)] (T.ret ?_))
 exact eRt 4 (.one (.own 0 kU8.sz 0 (b++(Yw (Ho n) 4)).length)) [0] p2e ⟨⟨rfl,pZ31⟩,trivial⟩
theorem F3 (tb:Bool) (nb:Bool) (b:List UInt8) (tx:Bool) (nx:Bool) (x:List UInt8) (hb:b.length+x.length≤140737488355000):Holds Try.prog 69 ⟨[slV tb nb kU8 b,slV tx nx kU8 x],[],Y3 0 kU8 0 (b++Wd x).length,[.live (Xe 5 kU8 (b++Wd x))]⟩:=by
 refine Holds.of Try.func69 rfl (N:=11) Try.ntmps69 rfl fun w0 B0 S0 U0=>?_
 show T _ (Xz 11 0 w0 S0 U0 B0) ⟨[slV tb nb kU8 b,slV tx nx kU8 x],[]⟩ _ _
 have hcl:=Uh ((x.length:Nat):Int)
 refine sR [] ?_
 refine sR [hR 3 rfl rfl (rCa (F2 tb nb b ((x.length:Nat):Int) (by omega)) Try.func71 [0] [(.tmp 5,slV tb nb kU8 b),(.tmp 7,vI ((x.length:Nat):Int))] 0 1),hR 5 rfl rfl (W4 0 1 5 1 kU8 Vc (b++W3 ((x.length:Nat):Int)) x (b++W3 ((x.length:Nat):Int)++x) (b++W3 ((x.length:Nat):Int)).length (sy:=(.d (dsl tx nx kU8 x))) (rhs:=[]) J1 (by omega) (Jb tx nx kU8 x) p1p (by (simp [maxLen,-List.getD_eq_getElem?_getD]<;>omega)) (by (simp [maxLen,-List.getD_eq_getElem?_getD]<;>omega)) (X8 rfl) trivial)] ?_
 refine T.ret ?_
 exact eRt 4 (.one (.own 1 kU8.sz 0 (b++W3 ((x.length:Nat):Int)++x).length)) [1] p2o ⟨⟨rfl,p2f⟩,trivial⟩
abbrev Zz (n:Nat):AV:=dv (.int .u64 ((n:Nat):Int))
abbrev Z10 (m:Nat):AV:=vI ((m:Nat):Int)
abbrev Z11 (n:Nat) (j:Nat):SV:=.d (.val (.int .u8 (((UInt8.ofNat (n / 2 ^ (8*(((j:Nat):Int)-1)).toNat)).toNat:Nat):Int)))
theorem X65 (tb:Bool) (nb:Bool) (b:List UInt8) (n:Nat) (m:Nat) (hb:b.length≤140737488355000) (hn:n<18446744073709551616) (hm:m≤8):Holds Try.prog 81 ⟨[slV tb nb kU8 b,dv (.int .u64 ((n:Nat):Int)),vI ((m:Nat):Int)],[],Y3 0 kU8 0 (b++(Yw n m)).length,[.live (Xe 5 kU8 (b++(Yw n m)))]⟩:=by
 refine Holds.of Try.func81 rfl (N:=27) Try.ntmps81 rfl fun w0 B0 S0 U0=>?_
 show T _ (Xz 27 0 w0 S0 U0 B0) ⟨[slV tb nb kU8 b,(Zz n),(Z10 m)],[]⟩ _ _
 refine sR [] ?_
 refine sR [hR 0 rfl rfl (Yd 0 5 kU8 Vc ([]:List UInt8) [] (cs:=[]) Try.underlying34 Ut rfl I4 rfl rfl rfl pf Wn pZ4 (Vz pZ4) (X8 rfl) trivial),hR 2 rfl rfl (W4 0 1 5 1 kU8 Vc ([]:List UInt8) b b ([]:List UInt8).length (sy:=(.d (dsl tb nb kU8 b))) (rhs:=[]) J1 (by omega) (Jb tb nb kU8 b) (by simp) (by (simp [maxLen,-List.getD_eq_getElem?_getD]<;>omega)) (by (simp [maxLen,-List.getD_eq_getElem?_getD]<;>omega)) (X8 rfl) trivial)] ?_
 refine T.seq (sR [hR 1 rfl rfl (Y9 (u1:=.int .i64 ((m:Nat):Int)) (u2:=.int .i64 1) (v:=.int .i64 (((m:Nat):Int)-1)) (X1d pZ5) (X8 rfl) ⟨rfl,trivial⟩)] (T.block ?_))
 refine T.loop (ι:=Nat×(List UInt8)) (fun (x_:Nat×(List UInt8))=>⟨[slV tb nb kU8 b,(Zz n),(Z10 m),aa,aa,aa,dv (.slice none 0 0),Y3 1 kU8 0 x_.2.length,vI (((x_.1:Nat):Int)-1)],[.dead,.live (Xe 5 kU8 x_.2)]⟩) (fun (x_:Nat×(List UInt8))=>(x_.1≤m)∧(x_.2++Yw n x_.1=b++Yw n m)) (fun (x_:Nat×(List UInt8))=>x_.1) (m,b) ⟨(Nat.le_refl _),rfl⟩ (fun _ _ hG=>Wp [3,1] (bm 9 455) (t1:=[slV tb nb kU8 b,(Zz n),(Z10 m),aa,aa,aa,dv (.slice none 0 0),Y3 1 kU8 0 b.length,vI (((m:Nat):Int)-1)]) (h1:=[.dead,.live (Xe 5 kU8 b)]) rfl rfl hG) ?_
 rintro ⟨j,acc⟩ ⟨hj,he⟩
 show T _ _ ⟨[slV tb nb kU8 b,(Zz n),(Z10 m),aa,aa,aa,dv (.slice none 0 0),Y3 1 kU8 0 acc.length,vI (((j:Nat):Int)-1)],[.dead,.live (Xe 5 kU8 acc)]⟩ _ _
 replace hj:j≤m:=hj
 replace he:acc++Yw n j=b++Yw n m:=he
 have hacc:=X5k he
 refine T.seq (sR [] ?_)
 by_cases hq1:(((j:Nat):Int)-1)≥0
 ·refine cT (dT hq1) (T.skip (nT (T.seq (T.block ?_))))
  refine xR [hR 3 rfl rfl (Y9 (u1:=.int .i64 8) (u2:=.int .i64 (((j:Nat):Int)-1)) (v:=.int .i64 (8*(((j:Nat):Int)-1))) (Xbv pZ5) (X8 rfl) ⟨rfl,trivial⟩),hR 4 rfl rfl (Y9 (u1:=.int .u64 ((n:Nat):Int)) (u2:=.int .i64 (8*(((j:Nat):Int)-1))) (v:=.int .u64 ((n / 2 ^ (8*(((j:Nat):Int)-1)).toNat:Nat):Int)) (Xd6 (n:=(8*(((j:Nat):Int)-1)).toNat) (by omega) pj) (X8 rfl) trivial),hR 5 rfl rfl (I5 (u:=.int .u64 ((n / 2 ^ (8*(((j:Nat):Int)-1)).toNat:Nat):Int)) (v:=.int .u8 (((UInt8.ofNat (n / 2 ^ (8*(((j:Nat):Int)-1)).toNat)).toNat:Nat):Int)) (Xd1 Try.underlying117 Try.underlying5) (X8 rfl) trivial),hR 6 rfl rfl (Yd 2 5 kU8 Vc [(UInt8.ofNat (n / 2 ^ (8*(((j:Nat):Int)-1)).toNat))] [⟨0,.tmp 23,.one ((Z11 n j)),0⟩] (cs:=[(Z11 n j)]) Try.underlying34 Ut rfl I4 rfl rfl rfl pf (Ws rfl rfl pf Wn) pZ4 (Vz pZ4) (X8 rfl) trivial),hR 7 rfl rfl (W4 1 3 5 1 kU8 Vc acc [(UInt8.ofNat (n / 2 ^ (8*(((j:Nat):Int)-1)).toNat))] (acc++[(UInt8.ofNat (n / 2 ^ (8*(((j:Nat):Int)-1)).toNat))]) acc.length (sy:=(.own 2 kU8.sz 0 [(UInt8.ofNat (n / 2 ^ (8*(((j:Nat):Int)-1)).toNat))].length)) (rhs:=[(2,.live (Xe 5 kU8 [(UInt8.ofNat (n / 2 ^ (8*(((j:Nat):Int)-1)).toNat))]))]) J1 (by omega) (Up 2 5 kU8 [(UInt8.ofNat (n / 2 ^ (8*(((j:Nat):Int)-1)).toNat))]) p1p (by (simp [maxLen,-List.getD_eq_getElem?_getD]<;>omega)) (by (simp [maxLen,-List.getD_eq_getElem?_getD]<;>omega)) (X8 rfl) trivial)] pZ4 pZ4 ?_
  refine nB (nT (xK [hR 1 rfl rfl (Y9 (u1:=.int .i64 (((j:Nat):Int)-1)) (u2:=.int .i64 1) (v:=.int .i64 ((((j:Nat):Int)-1)-1)) (X1d pZ5) (X8 rfl) ⟨rfl,trivial⟩)] ?_))
  refine nL (j-1,acc++[UInt8.ofNat (n / 2 ^ (8*(((j:Nat):Int)-1)).toNat)]) ⟨(show (j-1)≤m from (by omega)),(show (acc++[UInt8.ofNat (n / 2 ^ (8*(((j:Nat):Int)-1)).toNat)])++Yw n (j-1)=b++Yw n m from (Xaf he (by omega)))⟩ (show ((j-1):Nat)<j from (by omega)) (fun _ _ hG=>Wp [5,3] (bm 9 455) (t1:=[slV tb nb kU8 b,(Zz n),(Z10 m),aa,aa,aa,dv (.slice none 0 0),Y3 3 kU8 0 (acc++[UInt8.ofNat (n / 2 ^ (8*(((j:Nat):Int)-1)).toNat)]).length,vI (((j-1:Nat):Int)-1)]) (t2:=[slV tb nb kU8 b,(Zz n),(Z10 m),aa,aa,aa,dv (.slice none 0 0),Y3 3 kU8 0 (acc++[(UInt8.ofNat (n / 2 ^ (8*(((j:Nat):Int)-1)).toNat))]).length,vI ((((j:Nat):Int)-1)-1)]) (h1:=[.dead,.live (Xe 5 kU8 (acc++[UInt8.ofNat (n / 2 ^ (8*(((j:Nat):Int)-1)).toNat)]))]) (h2:=[.dead,.live (Xe 5 kU8 (acc++[(UInt8.ofNat (n / 2 ^ (8*(((j:Nat):Int)-1)).toNat))]))]) (cg2 (fun (q1:Nat) (q2:Int)=>([slV tb nb kU8 b,(Zz n),(Z10 m),aa,aa,aa,dv (.slice none 0 0),Y3 3 kU8 0 q1,vI q2]:List AV)) (by rfl) (by omega)) (congrArg (fun (q1:List UInt8)=>([.dead,.live (Xe 5 kU8 q1)]:List HS)) (by rfl)) hG)
 refine cF (dF hq1) (T.exit (xT (xT (xH (nT (sR [] (T.ret ?_)))))))
 exact eRt 6 (.one (.own 1 kU8.sz 0 acc.length)) [1] (by have e1:((b++(Yw n m)).length:Nat)=acc.length:=p3x;have hE:=congrArg (fun (q1:Nat)=>(Y3 1 kU8 0 q1:AV)) e1;exact hE) ⟨⟨rfl,(by have e1:(acc:List UInt8)=b++(Yw n m):=p3x;have hE:=congrArg (fun (q1:List UInt8)=>(.live (Xe 5 kU8 q1):HS)) e1;exact Eq.trans pZ4 hE)⟩,trivial⟩
theorem I8 (tb:Bool) (nb:Bool) (b:List UInt8) (n:Int) (hb:b.length≤140737488355000):Holds Try.prog 47 ⟨[slV tb nb kU8 b,vI n],[],Y3 0 kU8 0 (b++Ym n).length,[.live (Xe 5 kU8 (b++Ym n))]⟩:=by
 refine Holds.of Try.func47 rfl (N:=9) Try.ntmps47 rfl fun w0 B0 S0 U0=>?_
 show T _ (Xz 9 0 w0 S0 U0 B0) ⟨[slV tb nb kU8 b,vI n],[]⟩ _ _
 have hn:=Xc1 n
 refine sR [] (sR [hR 2 rfl rfl (I5 (u:=.int .i64 n) (v:=.int .u64 ((u64 n:Nat):Int)) (c_u64 Try.underlying2 Try.underlying117) (X8 rfl) trivial),hR 3 rfl rfl (rCa (X65 tb nb b (u64 n) 8 ‹_› ‹_› (by omega)) Try.func81 [0] [(.tmp 5,slV tb nb kU8 b),(.tmp 7,dv (.int .u64 ((u64 n:Nat):Int))),(.const (.int .i64 8),vI 8)] 0 1)] (T.ret ?_))
 exact eRt 4 (.one (.own 0 kU8.sz 0 (b++(Yw (u64 n) 8)).length)) [0] p2e ⟨⟨rfl,p32⟩,trivial⟩
end Go.Proofs.Ythnefnknoahbkaa.Q
