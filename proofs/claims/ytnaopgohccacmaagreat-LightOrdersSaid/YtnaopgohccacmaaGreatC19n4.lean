import Derived.Test.YtnaopgohccacmaaGreatC19p
import Derived.Shelf.Sort.Plain
import Derived.Shelf.Slices.In.SortNone
namespace Go.Proofs.YtnaopgohccacmaaGreat.Q
set_option linter.unusedVariables false
set_option linter.unusedSimpArgs false
def X0w (n:Int):Prop:=-9223372036854775808≤n∧n≤9223372036854775807
theorem Ic {α:Type} {z:α} {l:List α} {k:Nat} (hk:k<l.length):l.take (k+1)=l.take k++[l.getD k z]:=by
  rw [List.take_add_one,List.getD_eq_getElem?_getD,List.getElem?_eq_getElem hk];rfl
theorem Ud {P:Nat→Prop} {k:Nat} (h:∀ j,j<k→P j) (hk:P k):∀ j,j<k+1→P j:=fun j hj=>by
  rcases Nat.lt_or_ge j k with h1|h1
  · exact h j h1
  · obtain rfl:j=k:=by omega
    exact hk
theorem Xia {α:Type} {a b:List α} {z:α} {k:Nat} (hl:a.length=b.length) (hk:a.length≤k) (h:∀ j,j<k→a.getD j z=b.getD j z):a=b:=by
  apply List.ext_getElem hl
  intro j h1 h2
  have:=h j (by omega)
  simpa [List.getD_eq_getElem?_getD,List.getElem?_eq_getElem h1,List.getElem?_eq_getElem h2] using this
theorem Ur {α:Type} {l:List α} {z:α} {k:Nat} (hk:k<l.length):l.getD k z∈l:=by
  rw [List.getD_eq_getElem?_getD,List.getElem?_eq_getElem hk]
  exact List.getElem_mem hk
theorem mem_get {α:Type} {l:List α} {z e:α} {k:Nat} (hk:k<l.length) (h:l.getD k z=e):e∈l:=h ▸ Ur hk
theorem Xem {α:Type} {l:List α} {z e:α} {k:Nat} (hk:l.length≤k) (h:∀ j,j<k→¬l.getD j z=e):¬e∈l:=fun hm=>by
  obtain ⟨j,hj,rfl⟩:=List.getElem_of_mem hm
  refine h j (by omega) ?_
  rw [List.getD_eq_getElem?_getD,List.getElem?_eq_getElem hj];rfl
theorem X5i {α:Type} {p:α→Prop} {l:List α} {z:α} (h:∀ x,x∈l→p x) (hz:p z) (k:Nat):p (l.getD k z):=by
  rcases Nat.lt_or_ge k l.length with hk|hk
  · exact h _ (Ur hk)
  · rw [List.getD_eq_getElem?_getD,List.getElem?_eq_none hk];exact hz
theorem X9j {α β:Type} {f:β→α→β} {b:β} {z:α} {l:List α} {k:Nat} (hk:k<l.length):(l.take (k+1)).foldl f b=f ((l.take k).foldl f b) (l.getD k z):=by
  rw [Ic (z:=z) hk,List.foldl_append];rfl
def Ig {α:Type} (sz:α→Nat) (n m:Nat) (l:List α):Prop:=l.length≤n∧∀ x,x∈l→sz x≤m
instance {α:Type} (sz:α→Nat) (n m:Nat) (l:List α):Decidable (Ig sz n m l):=inferInstanceAs (Decidable (_∧∀ x,x∈l→sz x≤m))
section
variable {α:Type} {sz:α→Nat} {n m:Nat} {l:List α} {z:α} {k:Nat}
theorem Iw (hf:Ig sz n m l) (hz:sz z≤m) (k:Nat):sz (l.getD k z)≤m:=X5i hf.2 hz k
theorem mem_set {x y:α} (h:x∈l.set k y):x∈l∨x=y:=List.mem_or_eq_of_mem_set h
theorem fewG_set {y:α} (hf:Ig sz n m l) (hy:sz y≤m):Ig sz n m (l.set k y):=⟨by rw [List.length_set];exact hf.1,fun x hx=>by
  rcases mem_set hx with h|h
  · exact hf.2 x h
  · rw [h];exact hy⟩
end
end Go.Proofs.YtnaopgohccacmaaGreat.Q
namespace Go.Proofs.YtnaopgohccacmaaGreat.Q
set_option linter.unusedVariables false
set_option linter.unusedSimpArgs false
def Wv (n:Nat):Nat→List UInt8
  | 0=>[]
  | j+1=>UInt8.ofNat (n / 2 ^ (8*j))::Wv n j
theorem X2q (n:Nat):∀ m,(Wv n m).length=m
  | 0=>rfl
  | m+1=>by rw [Wv,List.length_cons,X2q n m]
theorem X8c {n j m:Nat} {acc b:List UInt8} (he:acc++Wv n j=b++Wv n m) (hj:0<j):(acc++[UInt8.ofNat (n / 2 ^ (8*(j-1)))])++Wv n (j-1)=b++Wv n m:=by
  obtain ⟨i,rfl⟩:∃ i,j=i+1:=⟨j-1,by omega⟩
  rw [← he,List.append_assoc]
  rfl
theorem Xdn {n j m:Nat} {acc b:List UInt8} (he:acc++Wv n j=b++Wv n m) (hj:0<j):(acc++[UInt8.ofNat (n / 2 ^ (8*(((j:Nat):Int)-1)).toNat)])++Wv n (j-1)=b++Wv n m:=by
  rw [show (8*(((j:Nat):Int)-1)).toNat=8*(j-1) by omega]
  exact X8c he hj
theorem Xjt {n j m:Nat} {acc b:List UInt8} (he:acc++Wv n j=b++Wv n m) (hj:j=0):acc=b++Wv n m:=by
  subst hj
  rw [← he,Wv,List.append_nil]
theorem X8d {n j m:Nat} {acc b:List UInt8} (he:acc++Wv n j=b++Wv n m):acc.length+j=b.length+m:=by
  have:=congrArg List.length he
  simpa [X2q] using this
def Vf (l:List UInt8):Nat:=l.foldl (fun n b=>n*2 ^ 8 ||| b.toNat) 0
theorem or_byte (n:Nat) (b:UInt8):n*2 ^ 8 ||| b.toNat=n*256+b.toNat:=by
  have h:=UInt8.toNat_lt b
  rw [← Nat.shiftLeft_eq,← Nat.shiftLeft_add_eq_or_of_lt (i:=8) (by omega),Nat.shiftLeft_eq]
theorem Xel:∀ (l:List UInt8) (a m:Nat),a<256 ^ m→l.foldl (fun n b=>n*2 ^ 8 ||| b.toNat) a<256 ^ (m+l.length)
  | [],a,m,h=>h
  | b::l,a,m,h=>by
    rw [List.foldl_cons,or_byte,List.length_cons,show m+(l.length+1)=(m+1)+l.length by omega]
    refine Xel l _ (m+1) ?_
    rw [Nat.pow_succ]
    have:=UInt8.toNat_lt b
    omega
theorem Xcq (l:List UInt8):Vf l<256 ^ l.length:=by
  have:=Xel l 0 0 (by decide)
  rwa [Nat.zero_add] at this
theorem X1z {l:List UInt8} (h:l.length≤8):Vf l<18446744073709551616:=Nat.lt_of_lt_of_le (Xcq l) p3u
theorem Xek {l:List UInt8} (h:l.length≤7):Vf l<72057594037927936:=Nat.lt_of_lt_of_le (Xcq l) p3u
theorem X4w {l:List UInt8} (h:l.length≤4):Vf l<4294967296:=Nat.lt_of_lt_of_le (Xcq l) p3u
theorem Xbf {l:List UInt8} {k:Nat} (hk:k<l.length):Vf (l.take (k+1))=Vf (l.take k)*2 ^ 8 ||| (l.getD k 0).toNat:=by
  rw [Ic (z:=0) hk]
  unfold Vf
  rw [List.foldl_append]
  rfl
def X58 (n:Int):Nat:=(min (max n 0) 4294967295).toNat
theorem Xj8 (n:Int):X58 n<4294967296:=by unfold X58;omega
def Yv (n:Int):List UInt8:=Wv (u64 n) 8
def U6 (n:Int):List UInt8:=Wv (X58 n) 4
def W2 (x:List UInt8):List UInt8:=U6 ((x.length:Nat):Int)++x
theorem Wt (n:Int):(Yv n).length=8:=X2q _ _
theorem Ii (n:Int):(U6 n).length=4:=X2q _ _
theorem Vi (x:List UInt8):(W2 x).length=x.length+4:=by rw [W2,List.length_append,Ii];omega
end Go.Proofs.YtnaopgohccacmaaGreat.Q
namespace Go.Proofs.YtnaopgohccacmaaGreat.Q
set_option linter.unusedVariables false
set_option linter.unusedSimpArgs false
def okT (rest:List UInt8) (e n m:Int):Prop:=e=0∧n≤((rest.length:Nat):Int)∧m=0
instance (rest:List UInt8) (e n m:Int):Decidable (okT rest e n m):=inferInstanceAs (Decidable (_∧_∧_))
def rdR (rest:List UInt8) (e n m:Int):List UInt8:=if okT rest e n m then rest.drop n.toNat else rest
def rdE (rest:List UInt8) (e n m:Int):Int:=if e≠0 then e else if n>((rest.length:Nat):Int) then 10 else m
theorem X92 {rest:List UInt8} {e n m:Int} (h:okT rest e n m):rdE rest e n m=0:=by
  obtain ⟨h1,h2,h3⟩:=h
  unfold rdE
  rw [if_neg (by omega),if_neg (by omega),h3]
theorem Xgp {rest:List UInt8} {e n m:Int} (h:¬okT rest e n m):rdE rest e n m≠0:=by
  unfold rdE
  split
  · assumption
  · split
    · decide
    · exact fun hm=>h ⟨by omega,by omega,hm⟩
theorem X91 {rest:List UInt8} {e n m:Int} (h:okT rest e n m):rdR rest e n m=rest.drop n.toNat:=if_pos h
theorem Xgo {rest:List UInt8} {e n m:Int} (h:¬okT rest e n m):rdR rest e n m=rest:=if_neg h
def Yu (most:Int) (b:List UInt8):Int:=if ((Vf b:Nat):Int)>max most 0 then 11 else 0
def rdI (rest:List UInt8) (e:Int):Int:=if okT rest e 8 0 then X3e (Vf (rest.take 8)) else 0
def rdC (rest:List UInt8) (e most:Int):Nat:=if okT rest e 4 (Yu most (rest.take 4)) then Vf (rest.take 4) else 0
def okY (rest:List UInt8) (e most:Int):Prop:=okT rest e 4 (Yu most (rest.take 4))∧Vf (rest.take 4)≤(rest.drop 4).length
instance (rest:List UInt8) (e most:Int):Decidable (okY rest e most):=inferInstanceAs (Decidable (_∧_))
def rdY (rest:List UInt8) (e most:Int):List UInt8:=if okY rest e most then (rest.drop 4).take (Vf (rest.take 4)) else []
def Vv (rest:List UInt8) (e most:Int):List UInt8:=if okY rest e most then (rest.drop 4).drop (Vf (rest.take 4)) else rest
def Vo (rest:List UInt8) (e most:Int):Int:=if okT rest e 4 (Yu most (rest.take 4)) then (if Vf (rest.take 4)≤(rest.drop 4).length then 0 else 10) else rdE rest e 4 (Yu most (rest.take 4))
def rdX (rest:List UInt8) (e:Int):Int:=if e=0∧((rest.length:Nat):Int)>0 then 13 else e
theorem X5v {rest:List UInt8} {e most:Int} (h:okT rest e 4 (Yu most (rest.take 4))):rdC rest e most=Vf (rest.take 4):=if_pos h
theorem rdC_lt (rest:List UInt8) (e most:Int):rdC rest e most<4294967296:=by
  unfold rdC;split
  · exact X4w (by simp;omega)
  · decide
theorem U3 (rest:List UInt8) (e n m:Int):(rdR rest e n m).length≤rest.length:=by unfold rdR;split<;>simp
section
variable {rest:List UInt8} {e most:Int}
theorem X62 {n m:Int} (h:rdE rest e n m=0):okT rest e n m:=Classical.byContradiction fun hn=>Xgp hn h
theorem rdY_fail (h:rdE rest e 4 (Yu most (rest.take 4))≠0):rdY rest e most=[]∧Vv rest e most=rest∧Vo rest e most=rdE rest e 4 (Yu most (rest.take 4))∧rdR rest e 4 (Yu most (rest.take 4))=rest:=by
  have h1:¬okT rest e 4 (Yu most (rest.take 4)):=fun hk=>h (X92 hk)
  exact ⟨if_neg fun h2=>h1 h2.1,if_neg fun h2=>h1 h2.1,if_neg h1,Xgo h1⟩
theorem X90 (h:rdE rest e 4 (Yu most (rest.take 4))=0):okT (rdR rest e 4 (Yu most (rest.take 4))) (rdE rest e 4 (Yu most (rest.take 4))) ((rdC rest e most:Nat):Int) 0↔okY rest e most:=by
  have h1:=X62 h
  rw [X91 h1,X5v h1,h]
  show okT (rest.drop 4) 0 _ 0↔_
  unfold okT okY
  constructor
  · exact fun h2=>⟨h1,by have:=h2.2.1;omega⟩
  · exact fun h2=>⟨rfl,by have:=h2.2;omega,rfl⟩
theorem rdY_ok (h:rdE rest e 4 (Yu most (rest.take 4))=0) (h2:okT (rdR rest e 4 (Yu most (rest.take 4))) (rdE rest e 4 (Yu most (rest.take 4))) ((rdC rest e most:Nat):Int) 0) :
    rdY rest e most=(rdR rest e 4 (Yu most (rest.take 4))).take (((rdC rest e most:Nat):Int)).toNat∧Vv rest e most=(rdR rest e 4 (Yu most (rest.take 4))).drop (((rdC rest e most:Nat):Int)).toNat∧Vo rest e most=0:=by
  have h1:=X62 h
  have h3:=(X90 h).1 h2
  rw [X91 h1,X5v h1]
  refine ⟨(if_pos h3).trans rfl,(if_pos h3).trans rfl,?_⟩
  unfold Vo
  rw [if_pos h1,if_pos h3.2]
theorem Xk3 (h:rdE rest e 4 (Yu most (rest.take 4))=0) (h2:¬okT (rdR rest e 4 (Yu most (rest.take 4))) (rdE rest e 4 (Yu most (rest.take 4))) ((rdC rest e most:Nat):Int) 0) :
    rdY rest e most=[]∧Vv rest e most=rest∧Vo rest e most=rdE (rdR rest e 4 (Yu most (rest.take 4))) (rdE rest e 4 (Yu most (rest.take 4))) ((rdC rest e most:Nat):Int) 0:=by
  have h1:=X62 h
  have h3:¬okY rest e most:=fun h4=>h2 ((X90 h).2 h4)
  refine ⟨if_neg h3,if_neg h3,?_⟩
  unfold Vo
  have h4:¬Vf (rest.take 4)≤(rest.drop 4).length:=fun h5=>h3 ⟨h1,h5⟩
  rw [if_pos h1,if_neg h4,h,X91 h1,X5v h1]
  show (10:Int)=rdE (rest.drop 4) 0 _ 0
  unfold rdE
  rw [if_neg (by decide),if_pos (by omega)]
end
theorem X0n (rest:List UInt8) (e most:Int):(rdY rest e most).length≤rest.length:=by unfold rdY;split<;>simp<;>omega
theorem X1u (rest:List UInt8) (e most:Int):(Vv rest e most).length≤rest.length:=by unfold Vv;split<;>simp<;>omega
end Go.Proofs.YtnaopgohccacmaaGreat.Q
namespace Go.Proofs.YtnaopgohccacmaaGreat.Q
set_option linter.unusedVariables false
set_option linter.unusedSimpArgs false
def rfN (B:List UInt8) (a m:Nat):Nat:=if a+m≤B.length then Vf ((B.drop a).take m) else 0
def rfA (B:List UInt8) (a:Nat) (e n m:Int):Nat:=if okT (B.drop a) e n m then a+n.toNat else a
section
variable {B:List UInt8} {a:Nat} {e n m:Int}
theorem Xc4 {m:Nat} (h:a+m≤B.length):rfN B a m=Vf ((B.drop a).take m):=if_pos h
theorem rfN_lt (B:List UInt8) (a:Nat) {m:Nat} (hm:m≤8):rfN B a m<18446744073709551616:=by
  unfold rfN;split
  · exact X1z (Nat.le_trans (List.length_take_le _ _) hm)
  · decide
theorem rfN_lt4 (B:List UInt8) (a:Nat):rfN B a 4<4294967296:=by
  unfold rfN;split
  · exact X4w (List.length_take_le _ _)
  · decide
theorem Xgz {k:Nat} (hk:a+k<B.length):Vf ((B.drop a).take (k+1))=Vf ((B.drop a).take k)*2 ^ 8 ||| (B.getD (a+k) 0).toNat:=by
  rw [Xbf (by simp;omega)]
  congr 2
  simp [List.getD_eq_getElem?_getD]
theorem X8o (h:okT (B.drop a) e n m):rfA B a e n m=a+n.toNat:=if_pos h
theorem rfA_no (h:¬okT (B.drop a) e n m):rfA B a e n m=a:=if_neg h
theorem rfA_le (ha:a≤B.length):rfA B a e n m≤B.length:=by
  unfold rfA;split
  · rename_i h
    have:=h.2.1
    rw [List.length_drop] at this
    omega
  · exact ha
theorem rf_e (h:e≠0) (n m:Int):¬okT (B.drop a) e n m∧rdE (B.drop a) e n m=e:=⟨fun h1=>h h1.1,if_pos h⟩
theorem Xdx {k:Nat} (hn:n=((k:Nat):Int)) (he:¬e≠0) (h:¬a+k≤B.length) (ha:a≤B.length) (m:Int):¬okT (B.drop a) e n m∧rdE (B.drop a) e n m=10:=by
  have hl:(B.drop a).length=B.length-a:=List.length_drop
  subst hn
  refine ⟨fun h1=>?_,?_⟩
  · have:=h1.2.1;omega
  · unfold rdE
    rw [if_neg he,if_pos (by omega)]
theorem rf_m {k:Nat} {c:Int} (hn:n=((k:Nat):Int)) (he:¬e≠0) (h:a+k≤B.length) {m:Int} (hm:m=c) (hc:c≠0):¬okT (B.drop a) e n m∧rdE (B.drop a) e n m=c:=by
  have hl:(B.drop a).length=B.length-a:=List.length_drop
  subst hn
  subst hm
  refine ⟨fun h1=>hc h1.2.2,?_⟩
  unfold rdE
  rw [if_neg he,if_neg (by omega)]
theorem rf_ok {k:Nat} (hn:n=((k:Nat):Int)) (he:¬e≠0) (h:a+k≤B.length) {m:Int} (hm:m=0):okT (B.drop a) e n m∧rdE (B.drop a) e n m=0:=by
  have hl:(B.drop a).length=B.length-a:=List.length_drop
  subst hn
  have hk:okT (B.drop a) e ((k:Nat):Int) m:=⟨Classical.not_not.1 he,by omega,hm⟩
  exact ⟨hk,X92 hk⟩
theorem lim_of {most:Int} (h:a+4≤B.length):Yu most ((B.drop a).take 4)=if ((rfN B a 4:Nat):Int)>max 0 most then 11 else 0:=by
  unfold Yu
  rw [Xc4 h,Int.max_comm]
end
def X7a (B:List UInt8) (a:Nat) (e most:Int):Nat:=if okY (B.drop a) e most then a+4+Vf ((B.drop a).take 4) else a
section
variable {B:List UInt8} {a:Nat} {e most:Int}
theorem Xjx (B:List UInt8) (a:Nat) (e most:Int):B.drop (X7a B a e most)=Vv (B.drop a) e most:=by
  unfold X7a Vv
  split
  · rw [List.drop_drop,List.drop_drop,Nat.add_assoc]
  · rfl
theorem rfA_drop (B:List UInt8) (a:Nat) (e n m:Int):B.drop (rfA B a e n m)=rdR (B.drop a) e n m:=by
  unfold rfA rdR
  split
  · rw [List.drop_drop]
  · rfl
theorem rfYA_le (ha:a≤B.length):X7a B a e most≤B.length:=by
  unfold X7a;split
  · rename_i h
    have h1:=h.1.2.1
    have h2:=h.2
    simp only [List.length_drop] at h1 h2
    omega
  · exact ha
theorem rfY_fail (h:rdE (B.drop a) e 4 (Yu most ((B.drop a).take 4))≠0):rdY (B.drop a) e most=[]∧X7a B a e most=a∧Vo (B.drop a) e most=rdE (B.drop a) e 4 (Yu most ((B.drop a).take 4))∧rfA B a e 4 (Yu most ((B.drop a).take 4))=a:=by
  have h1:¬okT (B.drop a) e 4 (Yu most ((B.drop a).take 4)):=fun hk=>h (X92 hk)
  exact ⟨if_neg fun h2=>h1 h2.1,if_neg fun h2=>h1 h2.1,if_neg h1,rfA_no h1⟩
theorem Xjw (h:rdE (B.drop a) e 4 (Yu most ((B.drop a).take 4))=0) (h2:((rdC (B.drop a) e most:Nat):Int)>((B.length:Nat):Int)-((rfA B a e 4 (Yu most ((B.drop a).take 4)):Nat):Int)) (ha:a≤B.length) :
    rdY (B.drop a) e most=[]∧X7a B a e most=a∧Vo (B.drop a) e most=10:=by
  have h1:=X62 h
  have h4:a+4≤B.length:=by have:=h1.2.1;rw [List.length_drop] at this;omega
  rw [X5v h1,X8o h1] at h2
  have h3:¬Vf ((B.drop a).take 4)≤((B.drop a).drop 4).length:=by simp only [List.length_drop];omega
  refine ⟨if_neg fun hy=>h3 hy.2,if_neg fun hy=>h3 hy.2,?_⟩
  unfold Vo
  rw [if_pos h1,if_neg h3]
theorem rfY_ok (h:rdE (B.drop a) e 4 (Yu most ((B.drop a).take 4))=0) (h2:¬((rdC (B.drop a) e most:Nat):Int)>((B.length:Nat):Int)-((rfA B a e 4 (Yu most ((B.drop a).take 4)):Nat):Int)) (ha:a≤B.length) :
    rfA B a e 4 (Yu most ((B.drop a).take 4))=a+4∧rdC (B.drop a) e most=Vf ((B.drop a).take 4)∧a+4+Vf ((B.drop a).take 4)≤B.length∧rdY (B.drop a) e most=(B.take (a+4+Vf ((B.drop a).take 4))).drop (a+4)∧X7a B a e most=a+4+Vf ((B.drop a).take 4)∧Vo (B.drop a) e most=0:=by
  have h1:=X62 h
  have h4:a+4≤B.length:=by have:=h1.2.1;rw [List.length_drop] at this;omega
  rw [X5v h1,X8o h1] at h2
  have h3:Vf ((B.drop a).take 4)≤((B.drop a).drop 4).length:=by simp only [List.length_drop];omega
  have hy:okY (B.drop a) e most:=⟨h1,h3⟩
  refine ⟨X8o h1,X5v h1,by simp only [List.length_drop] at h3;omega,?_,if_pos hy,?_⟩
  · rw [rdY,if_pos hy,List.drop_drop,List.drop_take,show a+4+Vf ((B.drop a).take 4)-(a+4)=Vf ((B.drop a).take 4) by omega]
  · unfold Vo
    rw [if_pos h1,if_pos h3]
end
end Go.Proofs.YtnaopgohccacmaaGreat.Q
namespace Go.Proofs.YtnaopgohccacmaaGreat.Q
set_option linter.unusedVariables false
set_option linter.unusedSimpArgs false
def szP (l:List (List UInt8)):Nat:=l.foldl (fun n p=>n+(4+p.length)) 5
theorem szP_ge (l:List (List UInt8)):∀ n,n≤l.foldl (fun n p=>n+(4+p.length)) n:=by
  induction l with
  | nil=>exact fun n=>Nat.le_refl _
  | cons p r ih=>exact fun n=>Nat.le_trans (show n≤n+(4+p.length) by omega) (ih _)
theorem Ex (l:List (List UInt8)) (k:Nat):szP (l.take k)≤szP l:=by
  have h:szP l=(l.drop k).foldl (fun n p=>n+(4+p.length)) (szP (l.take k)):=by
    unfold szP
    rw [← List.foldl_append,List.take_append_drop]
  rw [h]
  exact szP_ge _ _
theorem X4a {l:List (List UInt8)} {k:Nat} (hk:k<l.length):szP (l.take (k+1))=szP (l.take k)+(4+(l.getD k []).length):=X9j hk
theorem szP_len (l:List (List UInt8)):∀ n,n+4*l.length≤l.foldl (fun n p=>n+(4+p.length)) n:=by
  induction l with
  | nil=>exact fun n=>by simp
  | cons p r ih=>exact fun n=>by have:=ih (n+(4+p.length));simp only [List.foldl_cons,List.length_cons];omega
theorem Xb0 (l:List (List UInt8)):l.length≤szP l:=by have:=szP_len l 5;unfold szP;omega
def X5z (l:List (List UInt8)):List UInt8:=l.flatMap W2
def ofR (t:UInt8) (n:Nat) (l:List (List UInt8)):List UInt8:=[t]++U6 ((n:Nat):Int)++X5z l
def ofB (t:UInt8) (l:List (List UInt8)):List UInt8:=ofR t l.length l
theorem Xcp (t:UInt8) (n:Nat) (l:List (List UInt8)):(ofR t n l).length=szP l:=by
  have h:∀ (l:List (List UInt8)) (n:Nat),l.foldl (fun n p=>n+(4+p.length)) n=n+(X5z l).length:=by
    intro l
    induction l with
    | nil=>intro n;simp [X5z]
    | cons p r ih =>
      intro n
      have e:X5z (p::r)=W2 p++X5z r:=rfl
      rw [List.foldl_cons,ih,e,List.length_append,Vi]
      omega
  unfold szP
  rw [h,ofR,List.length_append,List.length_append,Ii]
  simp
theorem X0q (t:UInt8) (l:List (List UInt8)):(ofB t l).length=szP l:=Xcp _ _ _
theorem X4u {t:UInt8} {n k:Nat} {l:List (List UInt8)} (hk:k<l.length):ofR t n (l.take (k+1))=ofR t n (l.take k)++W2 (l.getD k []):=by
  rw [Ic (z:=[]) hk]
  simp [ofR,X5z,List.flatMap_append]
theorem Xir (t:UInt8) (l:List (List UInt8)):ofR t l.length (l.take l.length)=ofB t l:=by rw [List.take_length];rfl
end Go.Proofs.YtnaopgohccacmaaGreat.Q
namespace Go.Proofs.YtnaopgohccacmaaGreat.Q
set_option linter.unusedVariables false
set_option linter.unusedSimpArgs false
def szL (x:List UInt8):Nat:=x.length
theorem Xew (s:UInt8) (a:List UInt8):(ofB s [a]).length=9+a.length:=by rw [X0q];show 5+(4+a.length)=_;omega
theorem Xec (s:UInt8) (a b:List UInt8):(ofB s [a,b]).length=13+a.length+b.length:=by rw [X0q];show 5+(4+a.length)+(4+b.length)=_;omega
end Go.Proofs.YtnaopgohccacmaaGreat.Q
namespace Go.Proofs.YtnaopgohccacmaaGreat.Q
set_option linter.unusedVariables false
set_option linter.unusedSimpArgs false
set_option maxRecDepth 100000
abbrev Lv:=List (List UInt8)
theorem X7m {a b:Int} (hb:0<b):-b<a.tmod b∧a.tmod b<b:=by
  have h1:=Int.tmod_lt_of_pos a hb
  refine ⟨?_,h1⟩
  have h2:=Int.tmod_lt_of_pos (-a) hb
  rw [Int.neg_tmod] at h2
  omega
theorem Xkp {α:Type} {sz:α→Nat} {n m m':Nat} {l:List α} (h:Ig sz n m l) (hm:m≤m'):Ig sz n m' l:=⟨h.1,fun x hx=>Nat.le_trans (h.2 x hx) hm⟩
def X23 (x:Nat):Nat:=if x=0 then 0 else Nat.log2 x+1
theorem X9d {x:Nat} (h:0<x):X23 x=Nat.log2 x+1:=if_neg (by omega)
theorem log2_div {x s:Nat} (h:2 ^ s≤x):Nat.log2 x=s+Nat.log2 (x / 2 ^ s):=by
  have hp:0<2 ^ s:=Nat.pow_pos (by decide)
  have hq:x / 2 ^ s≠0:=by have:=Nat.div_pos h hp;omega
  have hx:x≠0:=by omega
  rw [Nat.log2_eq_iff hx]
  have h1:=Nat.log2_self_le hq
  have h2:=@Nat.lt_log2_self (x / 2 ^ s)
  rw [Nat.pow_add,Nat.add_assoc,Nat.pow_add]
  have h3:=Nat.div_add_mod x (2 ^ s)
  have h4:=Nat.mod_lt x hp
  constructor
  · exact Nat.le_trans (Nat.mul_le_mul_left _ h1) (by omega)
  · have h5:2 ^ s*(x / 2 ^ s+1)≤2 ^ s*2 ^ (Nat.log2 (x / 2 ^ s)+1):=Nat.mul_le_mul_left _ h2
    rw [Nat.mul_add] at h5
    omega
theorem Fw {x s:Nat} (h:2 ^ s≤x):X23 x=s+X23 (x / 2 ^ s):=by
  have hp:0<2 ^ s:=Nat.pow_pos (by decide)
  have hq:=Nat.div_pos h hp
  rw [X9d (by omega),X9d hq,log2_div h]
  omega
def half (n:Nat):Nat:=2 ^ Nat.log2 (n-1)
theorem Ie {n:Nat} (h:2≤n):half n<n:=by
  have:=Nat.log2_self_le (n:=n-1) (by omega)
  unfold half
  omega
theorem Jn (n:Nat):0<half n:=Nat.pow_pos (by decide)
theorem half_ge {n:Nat} (h:2≤n):n≤2*half n:=by
  have:=@Nat.lt_log2_self (n-1)
  unfold half
  rw [Nat.pow_succ] at this
  omega
theorem half_of {n K:Nat} (hp:∃ j,K=2 ^ j) (h1:K<n) (h2:n≤2*K):half n=K:=by
  obtain ⟨j,rfl⟩:=hp
  unfold half
  have:Nat.log2 (n-1)=j:=by
    have hp:0<2 ^ j:=Nat.pow_pos (by decide)
    rw [Nat.log2_eq_iff (by omega),Nat.pow_succ]
    omega
  rw [this]
theorem Xf3 {n:Nat} (h:2≤n):n-half n≤half n:=by have:=half_ge h;omega
theorem X28 {n f:Nat} (h:n≤2 ^ (f+1)) (h2:2≤n):half n≤2 ^ f:=by
  unfold half
  have h1:Nat.log2 (n-1)<f+1:=(Nat.log2_lt (by omega)).2 (by omega)
  exact Nat.pow_le_pow_right (by decide) (by omega)
theorem H5 {α:Type} {sz:α→Nat} {n m:Nat} {l:List α} (h:Ig sz n m l) (k:Nat):Ig sz n m (l.take k):=⟨by have:=h.1;rw [List.length_take];omega,fun x hx=>h.2 x (List.mem_of_mem_take hx)⟩
theorem If {α:Type} {sz:α→Nat} {n m:Nat} {l:List α} (h:Ig sz n m l) (k:Nat):Ig sz n m (l.drop k):=⟨by have:=h.1;rw [List.length_drop];omega,fun x hx=>h.2 x (List.mem_of_mem_drop hx)⟩
def E7:Nat→Lv→List UInt8
  | 0,_=>ofB 4 []
  | f+1,l=>if l.length=0 then ofB 4 [] else if l.length=1 then ofB 2 [l.getD 0 []] else ofB 3 [E7 f (l.take (half l.length)),E7 f (l.drop (half l.length))]
def Wo (l:Lv):List UInt8:=E7 l.length l
theorem X1q:∀ (f g:Nat) (l:Lv),l.length≤f→l.length≤g→E7 f l=E7 g l
  | 0,0,_,_,_=>rfl
  | 0,g+1,l,h,_=>by rw [E7,E7,if_pos (by omega)]
  | f+1,0,l,_,h=>by rw [E7,E7,if_pos (by omega)]
  | f+1,g+1,l,h1,h2=>by
    rw [E7,E7]
    split
    · rfl
    · split
      · rfl
      · have hh:=Ie (n:=l.length) (by omega)
        have hp:=Jn l.length
        rw [X1q f g (l.take (half l.length)) p1r p1r,X1q f g (l.drop (half l.length)) pZ28 pZ28]
theorem Xg7 {l:Lv} (h:l.length=0):Wo l=ofB 4 []:=by unfold Wo;rw [h,E7]
theorem Xc3 {l:Lv} (h:l.length=1):Wo l=ofB 2 [l.getD 0 []]:=by unfold Wo;rw [h,E7,if_neg (by omega),if_pos h]
theorem X8n {l:Lv} (h:2≤l.length):Wo l=ofB 3 [Wo (l.take (half l.length)),Wo (l.drop (half l.length))]:=by
  have hh:=Ie h
  have hp:=Jn l.length
  obtain ⟨f,hf⟩:∃ f,l.length=f+1:=⟨l.length-1,by omega⟩
  unfold Wo
  rw [X1q l.length (f+1) l (by omega) (by omega),E7,if_neg (by omega),if_neg (by omega)]
  rw [X1q f _ (l.take (half l.length)) p1r (Nat.le_refl _),X1q f _ (l.drop (half l.length)) pZ28 (Nat.le_refl _)]
theorem root_len:∀ (N:Nat) (l:Lv),l.length=N→1≤l.length→(∀ x,x∈l→x.length≤600)→(Wo l).length+13≤635*l.length:=by
  intro N
  induction N using Nat.strongRecOn with
  | _ N ih =>
    intro l hN h1 hx
    rcases Nat.lt_or_ge l.length 2 with h2|h2
    · rw [Xc3 (by omega),Xew]
      have:=X5i (z:=[]) hx (by decide) 0
      omega
    · have hh:=Ie h2
      have hp:=Jn l.length
      have h1:=ih (l.take (half l.length)).length p1r _ rfl p1r (fun x h=>hx x (List.mem_of_mem_take h))
      have h3:=ih (l.drop (half l.length)).length pZ28 _ rfl pZ28 (fun x h=>hx x (List.mem_of_mem_drop h))
      rw [X8n h2,Xec]
      rw [List.length_take] at h1
      rw [List.length_drop] at h3
      omega
theorem J2 {l:Lv} (hf:Ig szL 40 600 l):(Wo l).length≤25400:=by
  by_cases h0:l.length=0
  · rw [Xg7 h0];decide
  · have h1:=root_len _ l rfl (by omega) hf.2
    have:=hf.1
    omega
def Yr:List UInt8:=[0,1,2,2,3,3,3,3,4,4,4,4,4,4,4,4,5,5,5,5,5,5,5,5,5,5,5,5,5,5,5,5,6,6,6,6,6,6,6,6,6,6,6,6,6,6,6,6,6,6,6,6,6,6,6,6,6,6,6,6,6,6,6,6,7,7,7,7,7,7,7,7,7,7,7,7,7,7,7,7,7,7,7,7,7,7,7,7,7,7,7,7,7,7,7,7,7,7,7,7,7,7,7,7,7,7,7,7,7,7,7,7,7,7,7,7,7,7,7,7,7,7,7,7,7,7,7,7,8,8,8,8,8,8,8,8,8,8,8,8,8,8,8,8,8,8,8,8,8,8,8,8,8,8,8,8,8,8,8,8,8,8,8,8,8,8,8,8,8,8,8,8,8,8,8,8,8,8,8,8,8,8,8,8,8,8,8,8,8,8,8,8,8,8,8,8,8,8,8,8,8,8,8,8,8,8,8,8,8,8,8,8,8,8,8,8,8,8,8,8,8,8,8,8,8,8,8,8,8,8,8,8,8,8,8,8,8,8,8,8,8,8,8,8,8,8,8,8,8,8,8,8,8,8,8,8]
theorem len8_len:Yr.length=256:=rfl
theorem len8_all:∀ x,x<256→(Yr.getD x 0).toNat=X23 x:=by decide +kernel
theorem len8 {x:Nat} (h:x<256):(Yr.getD (UInt8.ofNat x).toNat 0).toNat=X23 x:=by
  have:(UInt8.ofNat x).toNat=x:=by rw [UInt8.toNat_ofNat'];omega
  rw [this]
  exact len8_all x h
theorem log_le {n:Nat} (h:n≤9223372036854775807) (h2:2≤n):Nat.log2 (n-1)≤62:=by
  have h1:Nat.log2 (n-1)<63:=(Nat.log2_lt (by omega)).2 (by have:(2:Nat) ^ 63=9223372036854775808:=(by decide);omega)
  omega
theorem shl_half {n:Nat} (h:n≤9223372036854775807) (h2:2≤n):IntKind.i64.wrap (1*2 ^ Nat.log2 (n-1))=((half n:Nat):Int):=by
  have h1:=Ie h2
  have h3:(1:Int)*2 ^ Nat.log2 (n-1)=((half n:Nat):Int):=by unfold half;simp
  rw [h3,IntKind.wrap_i64]
  omega
end Go.Proofs.YtnaopgohccacmaaGreat.Q
namespace Go.Proofs.YtnaopgohccacmaaGreat.Q
set_option linter.unusedVariables false
set_option linter.unusedSimpArgs false
set_option maxRecDepth 100000
abbrev Step:=Yn
abbrev zS:=Yx
def X02:Nat→Lv→Nat→List Step
  | 0,_,_=>[]
  | f+1,l,i=>if l.length<2 then [] else if i<half l.length then X02 f (l.take (half l.length)) i++[⟨false,Wo (l.drop (half l.length))⟩] else X02 f (l.drop (half l.length)) (i-half l.length)++[⟨true,Wo (l.take (half l.length))⟩]
def U4 (l:Lv) (i:Nat):List Step:=X02 l.length l i
theorem X1y:∀ (f g:Nat) (l:Lv) (i:Nat),l.length≤f→l.length≤g→X02 f l i=X02 g l i
  | 0,0,_,_,_,_=>rfl
  | 0,g+1,l,i,h,_=>by rw [X02,X02,if_pos (by omega)]
  | f+1,0,l,i,_,h=>by rw [X02,X02,if_pos (by omega)]
  | f+1,g+1,l,i,h1,h2=>by
    rw [X02,X02]
    split
    · rfl
    · have hh:=Ie (n:=l.length) (by omega)
      have hp:=Jn l.length
      rw [X1y f g (l.take (half l.length)) i p1r p1r,X1y f g (l.drop (half l.length)) _ pZ28 pZ28]
theorem Xck {l:Lv} (h:l.length<2) (i:Nat):U4 l i=[]:=by
  unfold U4
  cases hl:l.length with
  | zero=>rfl
  | succ f=>rw [X02,if_pos h]
theorem path_2 {l:Lv} (h:2≤l.length) (i:Nat):U4 l i=if i<half l.length then U4 (l.take (half l.length)) i++[⟨false,Wo (l.drop (half l.length))⟩] else U4 (l.drop (half l.length)) (i-half l.length)++[⟨true,Wo (l.take (half l.length))⟩]:=by
  have hh:=Ie h
  have hp:=Jn l.length
  obtain ⟨f,hf⟩:∃ f,l.length=f+1:=⟨l.length-1,by omega⟩
  unfold U4
  rw [X1y l.length (f+1) l i (by omega) (by omega),X02,if_neg (by omega)]
  rw [X1y f _ (l.take (half l.length)) i p1r (Nat.le_refl _),X1y f _ (l.drop (half l.length)) _ pZ28 (Nat.le_refl _)]
theorem Xcj {l:Lv} (h:2≤l.length) {i:Nat} (hi:i<half l.length):U4 l i=U4 (l.take (half l.length)) i++[⟨false,Wo (l.drop (half l.length))⟩]:=by rw [path_2 h,if_pos hi]
theorem Xci {l:Lv} (h:2≤l.length) {i:Nat} (hi:¬i<half l.length):U4 l i=U4 (l.drop (half l.length)) (i-half l.length)++[⟨true,Wo (l.take (half l.length))⟩]:=by rw [path_2 h,if_neg hi]
def okI (l:Lv) (i:Int):Prop:=0≤i∧i<((l.length:Nat):Int)
instance (l:Lv) (i:Int):Decidable (okI l i):=inferInstanceAs (Decidable (_∧_))
def X03 (l:Lv) (i:Int):List Step:=if okI l i then U4 l i.toNat else []
def X4t (l:Lv) (i:Int):Int:=if okI l i then 0 else 2
theorem Xgu:∀ (N:Nat) (l:Lv) (i:Nat),l.length=N→(U4 l i).length≤l.length:=by
  intro N
  induction N using Nat.strongRecOn with
  | _ N ih =>
    intro l i hN
    rcases Nat.lt_or_ge l.length 2 with h2|h2
    · rw [Xck h2];simp
    · have hh:=Ie h2
      have hp:=Jn l.length
      by_cases hi:i<half l.length
      · have h1:=ih (l.take (half l.length)).length p1r (l.take (half l.length)) i rfl
        rw [Xcj h2 hi,List.length_append,List.length_singleton]
        rw [List.length_take] at h1
        omega
      · have h1:=ih (l.drop (half l.length)).length pZ28 (l.drop (half l.length)) (i-half l.length) rfl
        rw [Xci h2 hi,List.length_append,List.length_singleton]
        rw [List.length_drop] at h1
        omega
def H0:Nat→Nat→Nat→List Bool
  | 0,_,_=>[]
  | f+1,i,n=>if n<2 then [] else if i<half n then H0 f i (half n)++[false] else H0 f (i-half n) (n-half n)++[true]
def Wc (i n:Nat):List Bool:=H0 64 i n
theorem X2s:∀ (f g i n:Nat),n≤2 ^ f→n≤2 ^ g→H0 f i n=H0 g i n
  | 0,0,_,_,_,_=>rfl
  | 0,g+1,i,n,h,_=>by rw [H0,H0,if_pos (by have:n≤1:=h;omega)]
  | f+1,0,i,n,_,h=>by rw [H0,H0,if_pos (by have:n≤1:=h;omega)]
  | f+1,g+1,i,n,h1,h2=>by
    rw [H0,H0]
    split
    · rfl
    · rename_i hn
      have a1:=X28 h1 (by omega)
      have a2:=X28 h2 (by omega)
      have a3:=Xf3 (n:=n) (by omega)
      rw [X2s f g i (half n) a1 a2,X2s f g (i-half n) (n-half n) (by omega) (by omega)]
theorem Xi6 {n:Nat} (h:n<2) (i:Nat):Wc i n=[]:=by unfold Wc;rw [H0,if_pos h]
theorem Xi5 {n:Nat} (h:2≤n) (hn:n≤9223372036854775807) (i:Nat):Wc i n=if i<half n then Wc i (half n)++[false] else Wc (i-half n) (n-half n)++[true]:=by
  unfold Wc
  have hp:(2:Nat) ^ 63=9223372036854775808:=by decide
  have hq:(2:Nat) ^ 64=18446744073709551616:=by decide
  have a1:=X28 (n:=n) (f:=63) (by omega) h
  have a3:=Xf3 h
  rw [H0,if_neg (by omega),X2s 63 64 i (half n) a1 (by omega),X2s 63 64 (i-half n) (n-half n) (by omega) (by omega)]
theorem Xi4 {n i:Nat} (h:2≤n) (hn:n≤9223372036854775807) (hi:i<half n):Wc i n=Wc i (half n)++[false]:=by rw [Xi5 h hn,if_pos hi]
theorem Xi3 {n i:Nat} (h:2≤n) (hn:n≤9223372036854775807) (hi:¬i<half n):Wc i n=Wc (i-half n) (n-half n)++[true]:=by rw [Xi5 h hn,if_neg hi]
theorem X3s:∀ (f i n:Nat),(H0 f i n).length≤f
  | 0,_,_=>Nat.le_refl _
  | f+1,i,n=>by
    rw [H0]
    split
    · simp
    · split
      · rw [List.length_append,List.length_singleton];have:=X3s f i (half n);omega
      · rw [List.length_append,List.length_singleton];have:=X3s f (i-half n) (n-half n);omega
theorem Xju (i n:Nat):(Wc i n).length≤64:=X3s 64 i n
def X12 (d:List UInt8) (s:Step):List UInt8:=if s.J5=true then ofB 3 [s.X6,d] else ofB 3 [d,s.X6]
def climb (d:List UInt8) (p:List Step):List UInt8:=p.foldl X12 d
def Ia (root leaf:List UInt8) (i n:Int) (p:List Step):Int :=
  if i<0∨i≥n then 2 else if p.map (fun s=>s.J5)=Wc i.toNat n.toNat then (if climb (ofB 2 [leaf]) p=root then 0 else 90) else 90
def szS (s:Step):Nat:=s.X6.length
theorem Xkw {p:List Step} {m:Nat} (h:∀ s,s∈p→szS s≤m):∀ (d:List UInt8),(climb d p).length≤d.length+(13+m)*p.length:=by
  induction p with
  | nil=>intro d;simp [climb]
  | cons s r ih =>
    intro d
    have h1:=ih (fun x hx=>h x (List.mem_cons_of_mem _ hx)) (X12 d s)
    have h2:s.X6.length≤m:=h s (List.mem_cons_self ..)
    have h3:(X12 d s).length≤d.length+(13+m):=by
      unfold X12
      split<;>rw [Xec]<;>omega
    show (climb (X12 d s) r).length≤_
    rw [List.length_cons,Nat.mul_succ]
    omega
theorem X9w {p:List Step} {k:Nat} (d:List UInt8) (hk:k<p.length):climb d (p.take (k+1))=X12 (climb d (p.take k)) (p.getD k zS):=X9j hk
def revI {α:Type} (z:α) (l:List α) (i:Nat) (ys:List α):Prop:=ys.length=l.length∧∀ t,t<l.length→ys.getD t z=if t<i∨l.length≤t+i then l.getD (l.length-1-t) z else l.getD t z
theorem rev_0 {α:Type} (z:α) (l:List α):revI z l 0 l:=⟨rfl,fun t ht=>by rw [if_neg (by omega)]⟩
theorem Xf4 {α:Type} {z v:α} {l:List α} {i t:Nat} (hi:i<l.length):(l.set i v).getD t z=if t=i then v else l.getD t z:=by
  rw [List.getD_eq_getElem?_getD,List.getElem?_set]
  by_cases h:i=t
  · subst h;simp [hi]
  · rw [if_neg h,if_neg (fun e=>h e.symm),List.getD_eq_getElem?_getD]
theorem Xdy {α:Type} {z:α} {l ys:List α} {i j:Nat} (h:revI z l i ys) (hij:i<j) (hj:j+1+i=l.length):revI z l (i+1) ((ys.set i (ys.getD j z)).set j (ys.getD i z)):=by
  obtain ⟨h1,h2⟩:=h
  refine ⟨by simp [h1],fun t ht=>?_⟩
  rw [Xf4 (by simp;omega),Xf4 (by omega)]
  by_cases e1:t=j
  · subst e1
    rw [if_pos rfl,if_pos (by omega),h2 i (by omega),if_neg (by omega)]
    congr 1
    omega
  · rw [if_neg e1]
    by_cases e2:t=i
    · subst e2
      rw [if_pos rfl,if_pos (by omega),h2 j (by omega),if_neg (by omega)]
      congr 1
      omega
    · rw [if_neg e2,h2 t ht]
      by_cases e3:t<i∨l.length≤t+i
      · rw [if_pos e3,if_pos (by omega)]
      · rw [if_neg e3,if_neg (by omega)]
theorem Xib {α:Type} {z:α} {l ys:List α} {i:Nat} (h:revI z l i ys) (hi:l.length≤2*i+1):ys=l.reverse:=by
  obtain ⟨h1,h2⟩:=h
  refine List.ext_getElem (by simp [h1]) fun t a1 a2=>?_
  have h3:=h2 t (by omega)
  rw [List.getElem_reverse]
  have h4:ys.getD t z=ys[t]:=by rw [List.getD_eq_getElem?_getD,List.getElem?_eq_getElem a1];rfl
  rw [← h4,h3]
  split
  · rw [List.getD_eq_getElem?_getD,List.getElem?_eq_getElem (by omega)];rfl
  · have h5:t=l.length-1-t:=by omega
    rw [List.getD_eq_getElem?_getD,List.getElem?_eq_getElem (by omega)]
    simp only [Option.getD_some]
    congr 1
theorem Xgt {l X:Lv} {i j:Nat} {D:List Step} (he:U4 l i=U4 X j++D.reverse) (h2:2≤X.length) (hj:j<half X.length):U4 l i=U4 (X.take (half X.length)) j++(D++[Yn.mk false (Wo (X.drop (half X.length)))]).reverse:=by
  rw [he,Xcj h2 hj];simp
theorem Xgs {l X:Lv} {i j:Nat} {D:List Step} (he:U4 l i=U4 X j++D.reverse) (h2:2≤X.length) (hj:¬j<half X.length):U4 l i=U4 (X.drop (half X.length)) (j-half X.length)++(D++[Yn.mk true (Wo (X.take (half X.length)))]).reverse:=by
  rw [he,Xci h2 hj];simp
theorem path_end {l X:Lv} {i j:Nat} {D:List Step} (he:U4 l i=U4 X j++D.reverse) (h:X.length<2):D.reverse=U4 l i:=by rw [he,Xck h];rfl
theorem Xdq {i n j m:Nat} {D:List Bool} (he:Wc i n=Wc j m++D.reverse) (h2:2≤m) (hm:m≤9223372036854775807) (hj:j<half m):Wc i n=Wc j (half m)++(D++[false]).reverse:=by
  rw [he,Xi4 h2 hm hj];simp
theorem Xdp {i n j m:Nat} {D:List Bool} (he:Wc i n=Wc j m++D.reverse) (h2:2≤m) (hm:m≤9223372036854775807) (hj:¬j<half m):Wc i n=Wc (j-half m) (m-half m)++(D++[true]).reverse:=by
  rw [he,Xi3 h2 hm hj];simp
theorem Xb3 {i n j m:Nat} {D:List Bool} (he:Wc i n=Wc j m++D.reverse) (h:m<2):D.reverse=Wc i n:=by rw [he,Xi6 h];rfl
theorem sides_D {i n j m:Nat} {D:List Bool} (he:Wc i n=Wc j m++D.reverse):D.length≤64:=by
  have h1:=congrArg List.length he
  have h2:=Xju i n
  rw [List.length_append,List.length_reverse] at h1
  omega
section
variable {root leaf:List UInt8} {i n:Int} {p:List Step} {k:Nat}
theorem Xbt (h:i<0∨i≥n):Ia root leaf i n p=2:=if_pos h
theorem chk_len (h0:¬(i<0∨i≥n)) (h:¬(Wc i.toNat n.toNat).length=p.length):Ia root leaf i n p=90:=by
  rw [Ia,if_neg h0,if_neg fun e=>h (by rw [← e,List.length_map])]
theorem chk_at (h0:¬(i<0∨i≥n)) (hk:k<p.length) (h:(p.getD k zS).J5≠(Wc i.toNat n.toNat).getD k false):Ia root leaf i n p=90:=by
  rw [Ia,if_neg h0,if_neg fun e=>h ?_]
  rw [← e,List.getD_eq_getElem?_getD,List.getD_eq_getElem?_getD,List.getElem?_map,List.getElem?_eq_getElem hk]
  rfl
theorem chk_end (h0:¬(i<0∨i≥n)) (hl:(Wc i.toNat n.toNat).length=p.length) (hk:p.length≤k) (hb:∀ t,t<k→(p.getD t zS).J5=(Wc i.toNat n.toNat).getD t false):Ia root leaf i n p=if climb (ofB 2 [leaf]) (p.take k)=root then 0 else 90:=by
  have e:p.map (fun s=>s.J5)=Wc i.toNat n.toNat:=by
    refine Xia (z:=false) (k:=p.length) (by rw [List.length_map,hl]) (by rw [List.length_map];omega) fun j hj=>?_
    rw [← hb j (by omega),List.getD_eq_getElem?_getD,List.getD_eq_getElem?_getD,List.getElem?_map,List.getElem?_eq_getElem hj]
    rfl
  rw [Ia,if_neg h0,if_pos e,List.take_of_length_le hk]
end
end Go.Proofs.YtnaopgohccacmaaGreat.Q
namespace Go.Proofs.YtnaopgohccacmaaGreat.Q
set_option linter.unusedVariables false
set_option linter.unusedSimpArgs false
set_option maxRecDepth 100000
theorem Xbs (d:List UInt8) (p:List Step) (s:Step):climb d (p++[s])=X12 (climb d p) s:=by unfold climb;rw [List.foldl_append];rfl
theorem Xkm {α:Type} {z:α} {l:List α} {j k:Nat} (h:j<k):(l.take k).getD j z=l.getD j z:=by
  rw [List.getD_eq_getElem?_getD,List.getD_eq_getElem?_getD,List.getElem?_take_of_lt h]
theorem Xkn {α:Type} {z:α} {l:List α} {j k:Nat}:(l.drop k).getD j z=l.getD (k+j) z:=by
  rw [List.getD_eq_getElem?_getD,List.getD_eq_getElem?_getD,List.getElem?_drop]
theorem Xeb:∀ (N:Nat) (l:Lv) (j:Nat),l.length=N→N≤9223372036854775807→j<N→(U4 l j).map (fun s=>s.J5)=Wc j N∧climb (ofB 2 [l.getD j []]) (U4 l j)=Wo l:=by
  intro N
  induction N using Nat.strongRecOn with
  | _ N ih =>
    intro l j hN hN2 hj
    subst hN
    rcases Nat.lt_or_ge l.length 2 with h2|h2
    · obtain rfl:j=0:=by omega
      rw [Xck h2,Xi6 h2,Xc3 (by omega)]
      exact ⟨rfl,rfl⟩
    · have hh:=Ie h2
      have hp:=Jn l.length
      have lt:(l.take (half l.length)).length=half l.length:=by rw [List.length_take];omega
      have ld:(l.drop (half l.length)).length=l.length-half l.length:=List.length_drop
      by_cases hi:j<half l.length
      · obtain ⟨a,b⟩:=ih (half l.length) hh (l.take (half l.length)) j lt (by omega) hi
        rw [Xcj h2 hi,Xi4 h2 hN2 hi,List.map_append,a,Xbs,X8n h2]
        rw [Xkm hi] at b
        rw [b]
        exact ⟨rfl,rfl⟩
      · obtain ⟨a,b⟩:=ih (l.length-half l.length) (by omega) (l.drop (half l.length)) (j-half l.length) ld (by omega) (by omega)
        rw [Xci h2 hi,Xi3 h2 hN2 hi,List.map_append,a,Xbs,X8n h2]
        rw [Xkn,show half l.length+(j-half l.length)=j by omega] at b
        rw [b]
        exact ⟨rfl,rfl⟩
theorem pathB_ok {l:Lv} {j:Nat} (h:j<l.length):X03 l ((j:Nat):Int)=U4 l j:=by rw [X03,if_pos ⟨by omega,by omega⟩];rfl
theorem Xkb {l:Lv} {j:Nat} (hl:l.length≤40) (h:j<l.length):Ia (Wo l) (l.getD j []) ((j:Nat):Int) ((l.length:Nat):Int) (X03 l ((j:Nat):Int))=0:=by
  obtain ⟨a,b⟩:=Xeb l.length l j rfl (by omega) h
  rw [pathB_ok h,Ia,if_neg (by omega),if_pos (by rw [a];rfl),if_pos b]
theorem few_path {l:Lv} (hf:Ig szL 40 600 l) (i:Int):Ig szS 70 30000 (X03 l i):=by
  have key:∀ (N:Nat) (l:Lv) (j:Nat),l.length=N→Ig szL 40 600 l→∀ s,s∈U4 l j→szS s≤30000:=by
    intro N
    induction N using Nat.strongRecOn with
    | _ N ih =>
      intro l j hN hf s hs
      rcases Nat.lt_or_ge l.length 2 with h2|h2
      · rw [Xck h2] at hs;cases hs
      · have hh:=Ie h2
        have hp:=Jn l.length
        by_cases hi:j<half l.length
        · rw [Xcj h2 hi,List.mem_append] at hs
          rcases hs with hs|hs
          · exact ih _ p1r (l.take (half l.length)) j rfl (H5 hf _) s hs
          · obtain rfl:=List.mem_singleton.1 hs
            have:=J2 (If hf (half l.length))
            show (Wo (l.drop (half l.length))).length≤30000
            omega
        · rw [Xci h2 hi,List.mem_append] at hs
          rcases hs with hs|hs
          · exact ih _ pZ28 (l.drop (half l.length)) (j-half l.length) rfl (If hf _) s hs
          · obtain rfl:=List.mem_singleton.1 hs
            have:=J2 (H5 hf (half l.length))
            show (Wo (l.take (half l.length))).length≤30000
            omega
  unfold X03
  split
  · exact ⟨by have:=Xgu _ l i.toNat rfl;have:=hf.1;omega,key _ l _ rfl hf⟩
  · exact ⟨by simp,fun s h=>by cases h⟩
end Go.Proofs.YtnaopgohccacmaaGreat.Q
namespace Go.Proofs.YtnaopgohccacmaaGreat.Q
set_option linter.unusedVariables false
set_option linter.unusedSimpArgs false
def fOf (f:Int):Int:=min (max f 0) 2
def cOf (c:Int):Int:=min (max c 0) 8
theorem Xhf (f:Int):0≤fOf f∧fOf f≤2:=by unfold fOf;omega
theorem Xho (f:Int):0≤cOf f∧cOf f≤8:=by unfold cOf;omega
def Wm (f s:Int):Prop:=s≥0∧s<3*f+1
def I8 (u s:Int):Prop:=s≥1000∧s-1000<u
def Um (f u s:Int):Prop:=Wm f s∨I8 u s
instance (f s:Int):Decidable (Wm f s):=inferInstanceAs (Decidable (_∧_))
instance (f s:Int):Decidable (I8 f s):=inferInstanceAs (Decidable (_∧_))
instance (f u s:Int):Decidable (Um f u s):=inferInstanceAs (Decidable (_∨_))
def W1 (f v:Int):Int:=if v<0 then 0 else v % (3*f+1)
def orgA (u s:Int):Int:=if I8 u s then (s-1000) % 4 else -1
def Ey (f u s:Int) (b:List UInt8):Int:=if Um f u s then (if ((b.length:Nat):Int)>16777216 then 11 else 0) else 30
def Hk (f u s:Int) (b:List UInt8):aE:=if Ey f u s b=0 then ⟨s,b⟩ else zE
abbrev Tab:=List (Yb×Bool)
def X4e (f u:Int) (rows:Tab) (s:Int) (b:List UInt8):Tab:=if Ey f u s b=0 then mput rows ⟨s,b⟩ true else rows
def Xd (f u:Int) (rows:Tab) (e:aE):Int:=if Um f u e.X2 then (if mhas rows ⟨e.X2,e.X7⟩=true then 0 else 31) else 30
def putL (l:List aE) (e:aE):List aE:=if e∈l then l else l++[e]
def Vg (f u:Int) (l:List aE) (s:Int) (b:List UInt8):List aE:=if Ey f u s b=0 then putL l ⟨s,b⟩ else l
def X9 (f u:Int) (l:List aE) (e:aE):Int:=if Um f u e.X2 then (if e∈l then 0 else 31) else 30
def keyE (e:aE):Yb:=⟨e.X2,e.X7⟩
theorem X9f {e e':aE}:keyE e=keyE e'↔e=e':=by cases e;cases e';simp [keyE]
def Vr (l:List aE):Tab:=l.map fun e=>(keyE e,true)
theorem mhas_tab (l:List aE) (e:aE):mhas (Vr l) (keyE e)=decide (e∈l):=by
  induction l with
  | nil=>simp [Vr,mhas]
  | cons a r ih =>
    simp only [Vr,List.map_cons,mhas,X9f] at ih ⊢
    by_cases h:a=e
    · simp [h]
    · have:(e=a)=False:=by simp;exact fun q=>h q.symm
      simp only [if_neg h,List.mem_cons,this,false_or]
      exact ih
theorem mput_tab (l:List aE) (e:aE):mput (Vr l) (keyE e) true=Vr (putL l e):=by
  induction l with
  | nil=>simp [Vr,mput,putL]
  | cons a r ih =>
    by_cases h:a=e
    · subst h
      simp [Vr,mput,putL,X9f]
    · have h1:mput (Vr (a::r)) (keyE e) true=(keyE a,true)::mput (Vr r) (keyE e) true:=by
        simp only [Vr,List.map_cons,mput,X9f,if_neg h]
      rw [h1,ih]
      have h2:¬e=a:=fun q=>h q.symm
      by_cases h3:e∈r
      · simp [putL,h3,Vr]
      · simp [putL,h3,h2,Vr]
theorem Xdo (f u:Int) (l:List aE) (s:Int) (b:List UInt8):X4e f u (Vr l) s b=Vr (Vg f u l s b):=by
  unfold X4e Vg
  split
  · exact mput_tab l ⟨s,b⟩
  · rfl
theorem Xkz (f u:Int) (l:List aE) (e:aE):Xd f u (Vr l) e=X9 f u l e:=by
  unfold Xd X9
  split
  · rw [show (⟨e.X2,e.X7⟩:Yb)=keyE e from rfl,mhas_tab]
    simp
  · rfl
theorem putL_len (l:List aE) (e:aE):(putL l e).length≤l.length+1:=by unfold putL;split<;>simp
theorem X2r (f u:Int) (l:List aE) (s:Int) (b:List UInt8):(Vg f u l s b).length≤l.length+1:=by
  unfold Vg;split
  · exact putL_len _ _
  · omega
end Go.Proofs.YtnaopgohccacmaaGreat.Q
namespace Go.Proofs.YtnaopgohccacmaaGreat.Q
set_option linter.unusedVariables false
set_option linter.unusedSimpArgs false
def V3 {α:Type} (z:α) (L:List α) (k:Nat):List α:=L.take k++List.replicate (L.length-k) z
theorem fill_0 {α:Type} (z:α) (L:List α):V3 z L 0=List.replicate L.length z:=by simp [V3]
theorem X0a {α:Type} (z:α) (L:List α) (k:Nat):(V3 z L k).length=L.length:=by simp [V3];omega
theorem Xf9 {α:Type} {z:α} {L:List α} {k:Nat} (hk:k<L.length):(V3 z L k).set k (L.getD k z)=V3 z L (k+1):=by
  unfold V3
  rw [Ic (z:=z) hk,List.append_assoc]
  have h1:(L.take k).length=k:=by rw [List.length_take];omega
  rw [List.set_append_right _ _ (by omega),h1,Nat.sub_self]
  obtain ⟨m,hm⟩:∃ m,L.length-k=m+1:=⟨L.length-k-1,by omega⟩
  rw [hm,show L.length-(k+1)=m by omega]
  rfl
theorem fill_end {α:Type} {z:α} {L:List α} {k:Nat} (hk:L.length≤k):V3 z L k=L:=by
  unfold V3
  rw [List.take_of_length_le hk,show L.length-k=0 by omega]
  simp
end Go.Proofs.YtnaopgohccacmaaGreat.Q
namespace Go.Proofs.YtnaopgohccacmaaGreat.Q
set_option linter.unusedVariables false
set_option linter.unusedSimpArgs false
set_option maxRecDepth 100000
def Wa (l:List Int):List UInt8:=l.flatMap Yv
theorem X68 {l:List Int} {k:Nat} (hk:k<l.length):Wa (l.take (k+1))=Wa (l.take k)++Yv (l.getD k 0):=by
  rw [Ic (z:=0) hk];simp [Wa]
theorem Xey {l:List Int} (hk:0<l.length):Wa (l.take 1)=Yv (l.getD 0 0):=by rw [X68 hk];simp [Wa]
theorem I9 (l:List Int):(Wa l).length=8*l.length:=by
  induction l with
  | nil=>rfl
  | cons a r ih =>
    have:Wa (a::r)=Yv a++Wa r:=by simp [Wa]
    rw [this,List.length_append,ih,Wt,List.length_cons]
    omega
def Vp (e:aE) (r:Y4):List UInt8:=Yv e.X2++W2 e.X7++Yv r.Xu++Yv r.Xl
theorem X66 (e:aE) (r:Y4):(Vp e r).length=28+e.X7.length:=by
  simp only [Vp,List.length_append,Wt,Vi];omega
def Vx (b:Xs):Int:=if b.Xq<1∨b.Xq>1099511627776 then 100 else if ¬b.Xh.length=b.Xt.length∨4<b.Xt.length then 102 else 0
def Yd (b:Xs):Lv:=List.zipWith Vp b.Xh b.Xt
theorem Uh (b:Xs):(Yd b).length=min b.Xh.length b.Xt.length:=by simp [Yd]
theorem Fx {b:Xs} {k:Nat} (h1:k<b.Xh.length) (h2:k<b.Xt.length):(Yd b).getD k []=Vp (b.Xh.getD k zE) (b.Xt.getD k Yk):=by
  simp only [Yd,List.getD_eq_getElem?_getD,List.getElem?_zipWith,List.getElem?_eq_getElem h1,List.getElem?_eq_getElem h2]
  rfl
def szE (e:aE):Nat:=e.X7.length
def Fb (b:Xs):Prop:=Ig szE 20 500 b.Xh∧b.Xt.length≤20∧b.Y9.length≤10000000
instance (b:Xs):Decidable (Fb b):=inferInstanceAs (Decidable (_∧_∧_))
theorem Jh {b:Xs} (h:Fb b):Ig szL 40 600 (Yd b):=by
  obtain ⟨h1,h2,h3⟩:=h
  refine ⟨by rw [Uh];omega,fun x hx=>?_⟩
  obtain ⟨k,hk,rfl⟩:=List.getElem_of_mem hx
  have hl:=Uh b
  have hg:=Fx (b:=b) (k:=k) (by omega) (by omega)
  rw [List.getD_eq_getElem?_getD,List.getElem?_eq_getElem hk] at hg
  simp only [Option.getD_some] at hg
  have hb:(b.Xh.getD k zE).X7.length≤500:=Iw (sz:=szE) h1 (by decide) k
  show ((Yd b)[k]).length≤600
  rw [hg,X66]
  omega
def V2 (b:Xs):Yh:=⟨b.Xq,b.Y9,(((Yd b).length:Nat):Int),Wo (Yd b)⟩
def E0 (h:Yh):List UInt8:=ofB 5 [Yv h.Xq,h.Y9,Yv h.Yl,h.Wf]
def fewW (b:Xs):Prop:=Ig szE 20 20000 b.Xh∧b.Xt.length≤20∧b.Y9.length≤10000000
instance (b:Xs):Decidable (fewW b):=inferInstanceAs (Decidable (_∧_∧_))
theorem X9o {b:Xs} (h:Fb b):fewW b:=⟨⟨h.1.1,fun x hx=>Nat.le_trans (h.1.2 x hx) (by decide)⟩,h.2⟩
theorem Eg {b:Xs} (h:fewW b):Ig szL 40 20100 (Yd b):=by
  obtain ⟨h1,h2,h3⟩:=h
  refine ⟨by rw [Uh];omega,fun x hx=>?_⟩
  obtain ⟨k,hk,rfl⟩:=List.getElem_of_mem hx
  have hl:=Uh b
  have hg:=Fx (b:=b) (k:=k) (by omega) (by omega)
  rw [List.getD_eq_getElem?_getD,List.getElem?_eq_getElem hk] at hg
  simp only [Option.getD_some] at hg
  have hb:(b.Xh.getD k zE).X7.length≤20000:=Iw (sz:=szE) h1 (by decide) k
  show ((Yd b)[k]).length≤20100
  rw [hg,X66]
  omega
theorem sz4 (a b c d:List UInt8):szP [a,b,c,d]=5+(4+a.length)+(4+b.length)+(4+c.length)+(4+d.length):=rfl
theorem Xf1 {b:Xs} (h:Fb b):(V2 b).Y9.length≤10000000∧(V2 b).Wf.length≤10000000∧(V2 b).Yl≤9223372036854775807:=by
  have h1:=h.2.2
  have h2:=J2 (Jh h)
  have h3:=(Jh h).1
  refine ⟨?_,?_,?_⟩
  · show b.Y9.length≤_;omega
  · show (Wo (Yd b)).length≤_;omega
  · show (((Yd b).length:Nat):Int)≤_;omega
theorem Xja {b:Xs} (h:Vx b=0):b.Xh.length=b.Xt.length∧b.Xt.length≤4∧1≤b.Xq∧b.Xq≤1099511627776:=by
  unfold Vx at h
  split at h
  · exact absurd h (by decide)
  · split at h
    · exact absurd h (by decide)
    · omega
end Go.Proofs.YtnaopgohccacmaaGreat.Q
namespace Go.Proofs.YtnaopgohccacmaaGreat.Q
set_option linter.unusedVariables false
set_option linter.unusedSimpArgs false
set_option maxRecDepth 100000
def E9 (b:Xs) (i:Int):List Step:=if Vx b=0 then X03 (Yd b) i else []
def H2 (b:Xs) (i:Int):Int:=if Vx b=0 then X4t (Yd b) i else Vx b
theorem Xii {b:Xs} {i:Int} (hf:Fb b) (h:H2 b i=0):Vx b=0∧0≤i∧i<((b.Xh.length:Nat):Int)∧i<((b.Xt.length:Nat):Int) ∧
    Ia (V2 b).Wf (Vp (b.Xh.getD i.toNat zE) (b.Xt.getD i.toNat Yk)) i (V2 b).Yl (E9 b i)=0∧Ig szS 70 30000 (E9 b i)∧(b.Xh.getD i.toNat zE).X7.length≤500:=by
  have hc:Vx b=0:=by
    apply Classical.byContradiction
    intro hn
    rw [H2,if_neg hn] at h
    exact hn h
  rw [H2,if_pos hc] at h
  have hl:=Uh b
  have ho:okI (Yd b) i:=by
    apply Classical.byContradiction
    intro hn
    rw [X4t,if_neg hn] at h
    exact absurd h (by decide)
  obtain ⟨o1,o2⟩:=ho
  have hp:=Xkb (l:=Yd b) (j:=i.toNat) (Jh hf).1 (by omega)
  rw [Fx (by omega) (by omega),show ((i.toNat:Nat):Int)=i by omega] at hp
  refine ⟨hc,o1,by omega,by omega,?_,?_,Iw (sz:=szE) hf.1 (by decide) _⟩
  · rw [E9,if_pos hc];exact hp
  · rw [E9,if_pos hc];exact few_path (Jh hf) i
end Go.Proofs.YtnaopgohccacmaaGreat.Q
namespace Go.Proofs.YtnaopgohccacmaaGreat.Q
set_option linter.unusedVariables false
set_option linter.unusedSimpArgs false
set_option maxRecDepth 100000
abbrev Links:=List Yi
def lnk (b:Xs):Yi:=⟨b,E0 (V2 b)⟩
def W3 (L:List Xs):Links:=L.map lnk
theorem Id (L:List Xs):(W3 L).length=L.length:=List.length_map ..
def hdL (d:List UInt8) (l:Links):List UInt8:=if l.length=0 then d else (l.getD (l.length-1) Ws).X2c
def X5h (h:Int) (d:List UInt8) (l:Links) (b:Xs):Int:=if Vx b=0 then (if b.Xq-1=h+((l.length:Nat):Int) then (if b.Y9=hdL d l then 0 else 101) else 100) else Vx b
def X16 (h:Int) (d:List UInt8) (l:Links) (b:Xs):Links:=if X5h h d l b=0 then l++[lnk b] else l
def inL (h:Int) (n:Nat) (x:Int):Prop:=h<x∧x≤h+((n:Nat):Int)
instance (h:Int) (n:Nat) (x:Int):Decidable (inL h n x):=inferInstanceAs (Decidable (_∧_))
def Yz (h:Int) (l:Links) (x:Int):Xs:=if inL h l.length x then (l.getD (x-h-1).toNat Ws).Ut else Wp
def Xa3 (h:Int) (n:Nat) (x:Int):Int:=if inL h n x then 0 else 4
theorem set_same {α:Type} {z:α} {l:List α} {k:Nat} (hk:k<l.length):l.set k (l.getD k z)=l:=by
  rw [List.getD_eq_getElem?_getD,List.getElem?_eq_getElem hk]
  exact List.set_getElem_self hk
def Xbq (l:Links):Prop:=∀ x,x∈l→Fb x.Ut
instance (l:Links):Decidable (Xbq l):=inferInstanceAs (Decidable (∀ x,x∈l→Fb x.Ut))
theorem Xbp {l:Links} (hw:Xbq l) (k:Nat):Fb (l.getD k Ws).Ut:=X5i (p:=fun (x:Yi)=>Fb x.Ut) hw (by decide) k
section
variable {h:Int} {d:List UInt8} {l:Links} {b:Xs}
theorem X84 (hc:Vx b≠0):X5h h d l b=Vx b∧X16 h d l b=l:=by
  have e:X5h h d l b=Vx b:=if_neg hc
  exact ⟨e,if_neg (by rw [e];exact hc)⟩
theorem X83 (hc:¬Vx b≠0) (hh:b.Xq-1≠h+((l.length:Nat):Int)):X5h h d l b=100∧X16 h d l b=l:=by
  have e:X5h h d l b=100:=by rw [X5h,if_pos (Classical.not_not.1 hc),if_neg hh]
  exact ⟨e,if_neg (by rw [e];decide)⟩
theorem X82 (hc:¬Vx b≠0) (hh:¬b.Xq-1≠h+((l.length:Nat):Int)) (hp:b.Y9≠hdL d l):X5h h d l b=101∧X16 h d l b=l:=by
  have e:X5h h d l b=101:=by rw [X5h,if_pos (Classical.not_not.1 hc),if_pos (Classical.not_not.1 hh),if_neg hp]
  exact ⟨e,if_neg (by rw [e];decide)⟩
theorem Xaa (hc:¬Vx b≠0) (hh:¬b.Xq-1≠h+((l.length:Nat):Int)) (hp:¬b.Y9≠hdL d l):X5h h d l b=0∧X16 h d l b=l++[lnk b]:=by
  have e:X5h h d l b=0:=by rw [X5h,if_pos (Classical.not_not.1 hc),if_pos (Classical.not_not.1 hh),if_pos (Classical.not_not.1 hp)]
  exact ⟨e,if_pos e⟩
end
def X72 (L:List Xs):Prop:=∀ b,b∈L→Fb b
instance (L:List Xs):Decidable (X72 L):=inferInstanceAs (Decidable (∀ b,b∈L→Fb b))
theorem Xko {L:List Xs} (hw:X72 L) (k:Nat):Fb (L.getD k Wp):=X5i (p:=fun (x:Xs)=>Fb x) hw (by decide) k
theorem Xbi {L:List Xs} (hw:X72 L):Xbq (W3 L):=fun x hx=>by
  obtain ⟨b,hb,rfl⟩:=List.mem_map.1 hx
  exact hw b hb
def atB (d:List UInt8) (L:List Xs) (n:Nat):List UInt8:=if n=0 then d else E0 (V2 (L.getD (n-1) Wp))
theorem Xbh {L:List Xs} {k:Nat} (hk:k<L.length):(W3 L).getD k Ws=lnk (L.getD k Wp):=by
  rw [List.getD_eq_getElem?_getD,List.getD_eq_getElem?_getD,W3,List.getElem?_map,List.getElem?_eq_getElem hk]
  rfl
theorem X9i (d:List UInt8) (L:List Xs):hdL d (W3 L)=atB d L L.length:=by
  unfold hdL atB
  rw [Id]
  by_cases h:L.length=0
  · rw [if_pos h,if_pos h]
  · rw [if_neg h,if_neg h,Xbh (by omega)]
    rfl
def rblk (h:Int) (L:List Xs) (x:Int):Xs:=if inL h L.length x then L.getD (x-h-1).toNat Wp else Wp
theorem Xl1 (h:Int) (L:List Xs) (x:Int):Yz h (W3 L) x=rblk h L x:=by
  unfold Yz rblk
  rw [Id]
  by_cases hi:inL h L.length x
  · have:=hi.1;have:=hi.2
    rw [if_pos hi,if_pos hi,Xbh (by omega)]
    rfl
  · rw [if_neg hi,if_neg hi]
def X3i (h:Int) (d:List UInt8) (L:List Xs) (b:Xs):Int:=X5h h d (W3 L) b
def Hc (h:Int) (d:List UInt8) (L:List Xs) (b:Xs):List Xs:=if X3i h d L b=0 then L++[b] else L
section
variable {h:Int} {d:List UInt8} {L:List Xs} {b:Xs}
theorem X95 (hc:Vx b≠0):X3i h d L b=Vx b∧Hc h d L b=L:=by
  have e:X3i h d L b=Vx b:=(X84 hc).1
  exact ⟨e,if_neg (by rw [e];exact hc)⟩
theorem X94 (hc:¬Vx b≠0) (hh:b.Xq≠h+((L.length:Nat):Int)+1):X3i h d L b=100∧Hc h d L b=L:=by
  have e:X3i h d L b=100:=(X83 (l:=W3 L) hc (by rw [Id];omega)).1
  exact ⟨e,if_neg (by rw [e];decide)⟩
theorem X93 (hc:¬Vx b≠0) (hh:¬b.Xq≠h+((L.length:Nat):Int)+1) (hp:b.Y9≠atB d L L.length):X3i h d L b=101∧Hc h d L b=L:=by
  have e:X3i h d L b=101:=(X82 (l:=W3 L) hc (by rw [Id];omega) (by rw [X9i];exact hp)).1
  exact ⟨e,if_neg (by rw [e];decide)⟩
theorem X7s (hc:¬Vx b≠0) (hh:¬b.Xq≠h+((L.length:Nat):Int)+1) (hp:¬b.Y9≠atB d L L.length):X3i h d L b=0∧Hc h d L b=L++[b]:=by
  have e:X3i h d L b=0:=(Xaa (l:=W3 L) hc (by rw [Id];omega) (by rw [X9i];exact hp)).1
  exact ⟨e,if_pos e⟩
end
end Go.Proofs.YtnaopgohccacmaaGreat.Q
namespace Go.Proofs.YtnaopgohccacmaaGreat.Q
set_option linter.unusedVariables false
set_option linter.unusedSimpArgs false
set_option maxRecDepth 100000
def Jw (a b:Int):Int:=IntKind.i64.wrap ((BitVec.ofInt 64 a &&& BitVec.ofInt 64 b).toNat:Int)
def orI (a b:Int):Int:=IntKind.i64.wrap ((BitVec.ofInt 64 a ||| BitVec.ofInt 64 b).toNat:Int)
section
variable {P:Program}
theorem Xd9 {t:TypeId} {a b c:Int} (h:Jw a b=c):Iq P .and t (.int .i64 a) (.int .i64 b) (.int .i64 c):=Uj (.inl fun _=>by simp) (.inl (by simp)) fun w=>by
  subst h
  rfl
theorem X74 {t:TypeId} {a b c:Int} (h:orI a b=c):Iq P .or t (.int .i64 a) (.int .i64 b) (.int .i64 c):=Uj (.inl fun _=>by simp) (.inl (by simp)) fun w=>by
  subst h
  rfl
end
def Yj (k:Int):J4:=if k=1 then ⟨20,0,1,7⟩ else if k=2 then ⟨75,0,1,4⟩ else if k=3 then ⟨11,0,1,7⟩ else if k=4 then ⟨11,0,1,7⟩ else if k=5 then ⟨10,0,1,7⟩ else if k=6 then ⟨323,1,0,7⟩ else if k=7 then ⟨193,1,1,7⟩ else if k=8 then ⟨37,0,1,7⟩ else if k=9 then ⟨2,0,0,7⟩ else if k=10 then ⟨256,0,1,7⟩ else if k=11 then ⟨82,0,1,7⟩ else ⟨0,0,1,7⟩
def Xp (k:Int):aH:=if k=1 then ⟨false,false,true,false,true,false,false,false,false⟩ else if k=2 then ⟨true,true,false,true,false,false,true,false,false⟩ else if k=3 then ⟨true,true,false,true,false,false,false,false,false⟩ else if k=4 then ⟨true,true,false,true,false,false,false,false,false⟩ else if k=5 then ⟨false,true,false,true,false,false,false,false,false⟩ else if k=6 then ⟨true,true,false,false,false,false,true,false,true⟩ else if k=7 then ⟨true,false,false,false,false,false,true,true,false⟩ else if k=8 then ⟨true,false,true,false,false,true,false,false,false⟩ else if k=9 then ⟨false,true,false,false,false,false,false,false,false⟩ else if k=10 then ⟨false,false,false,false,false,false,false,false,true⟩ else if k=11 then ⟨false,true,false,false,true,false,true,false,false⟩ else ⟨false,false,false,false,false,false,false,false,false⟩
def okK (k:Int):Prop:=1≤k∧k≤11
instance (k:Int):Decidable (okK k):=inferInstanceAs (Decidable (_∧_))
theorem kinds (k:Int):k=1∨k=2∨k=3∨k=4∨k=5∨k=6∨k=7∨k=8∨k=9∨k=10∨k=11∨¬okK k:=by unfold okK;omega
theorem Xb4 {k:Int} (h:¬okK k):Yj k=⟨0,0,1,7⟩:=by
  unfold okK at h
  unfold Yj
  rw [if_neg (by omega),if_neg (by omega),if_neg (by omega),if_neg (by omega),if_neg (by omega),if_neg (by omega),if_neg (by omega),if_neg (by omega),if_neg (by omega),if_neg (by omega),if_neg (by omega)]
theorem Xiy {k:Int} (h:¬okK k):Xp k=⟨false,false,false,false,false,false,false,false,false⟩:=by
  unfold okK at h
  unfold Xp
  rw [if_neg (by omega),if_neg (by omega),if_neg (by omega),if_neg (by omega),if_neg (by omega),if_neg (by omega),if_neg (by omega),if_neg (by omega),if_neg (by omega),if_neg (by omega),if_neg (by omega)]
def Uy (h:aH):Nat→Bool
  | 0=>h.Xb
  | 1=>h.Xg
  | 2=>h.Xe
  | 3=>h.X6
  | 4=>h.Xc
  | 5=>h.X0
  | 6=>h.Xa
  | 7=>h.Xw
  | 8=>h.X5
  | _=>false
def bits9 (h:aH):List Bool:=[h.Xb,h.Xg,h.Xe,h.X6,h.Xc,h.X0,h.Xa,h.Xw,h.X5]
def bitsS (n:Int):List Bool:=[decide (Jw n 1≠0),decide (Jw n 2≠0),decide (Jw n 4≠0),decide (Jw n 8≠0),decide (Jw n 16≠0),decide (Jw n 32≠0),decide (Jw n 64≠0),decide (Jw n 128≠0),decide (Jw n 256≠0)]
theorem X8e (k:Int):bitsS (Yj k).Vw=bits9 (Xp k):=by
  rcases kinds k with h|h|h|h|h|h|h|h|h|h|h|h
  case inr.inr.inr.inr.inr.inr.inr.inr.inr.inr.inr=>rw [Xb4 h,Xiy h];decide +kernel
  all_goals (subst h;decide +kernel)
theorem Xje {n:Int} {h:aH} (e:bitsS n=bits9 h):(Jw n 1=0↔¬h.Xb=true)∧(Jw n 2=0↔¬h.Xg=true)∧(Jw n 4=0↔¬h.Xe=true)∧(Jw n 8=0↔¬h.X6=true)∧(Jw n 16=0↔¬h.Xc=true)∧(Jw n 32=0↔¬h.X0=true)∧(Jw n 64=0↔¬h.Xa=true)∧(Jw n 128=0↔¬h.Xw=true)∧(Jw n 256=0↔¬h.X5=true):=by
  unfold bitsS bits9 at e
  simp only [List.cons.injEq,and_true] at e
  obtain ⟨e1,e2,e3,e4,e5,e6,e7,e8,e9⟩:=e
  have key:∀ {x:Int} {b:Bool},decide (x≠0)=b→(x=0↔¬b=true):=fun {x b} q=>by subst q;simp
  exact ⟨key e1,key e2,key e3,key e4,key e5,key e6,key e7,key e8,key e9⟩
theorem Xjf {k:Int} {j:Nat} (hj:j≤8):Jw (Yj k).Vw ((2 ^ j:Nat):Int)=0↔¬Uy (Xp k) j=true:=by
  obtain ⟨e1,e2,e3,e4,e5,e6,e7,e8,e9⟩:=Xje (X8e k)
  rcases (by omega:j=0∨j=1∨j=2∨j=3∨j=4∨j=5∨j=6∨j=7∨j=8) with h|h|h|h|h|h|h|h|h<;>subst h<;>assumption
theorem pow_le {j:Nat} (hj:j≤9):((2 ^ j:Nat):Int)≤256↔j≤8:=by
  rcases (by omega:j=0∨j=1∨j=2∨j=3∨j=4∨j=5∨j=6∨j=7∨j=8∨j=9) with h|h|h|h|h|h|h|h|h|h<;>subst h<;>decide
theorem pow_le9 {j:Nat} (hj:j≤9):2 ^ j≤512:=Nat.pow_le_pow_right (n:=2) (by decide) hj
theorem X0o {j i:Nat} (hj:j≤9) (h:((2 ^ j:Nat):Int)=((2 ^ i:Nat):Int)):j=i:=Nat.pow_right_inj (a:=2) (by decide) |>.1 (Int.ofNat.inj h)
def inM (s:J4) (f n lo hi:Int):Prop:=if Jw s.Vw f=0 then 0≤n∧n≤0 else lo≤n∧n≤hi
instance (s:J4) (f n lo hi:Int):Decidable (inM s f n lo hi):=by unfold inM;infer_instance
def X2b (l:List aC):Prop:=∀ c,c∈l→c.Xo.length≤7
instance (l:List aC):Decidable (X2b l):=inferInstanceAs (Decidable (∀ c,c∈l→_))
theorem X2a {l:List aC} {k:Nat} (hb:∀ j,j<k→(l.getD j zC).Xo.length≤7) (hk:l.length≤k):X2b l:=fun c hc=>by
  obtain ⟨j,hj,rfl⟩:=List.getElem_of_mem hc
  have:=hb j (by omega)
  rw [List.getD_eq_getElem?_getD,List.getElem?_eq_getElem hj] at this
  exact this
def idxV (l:List aC):Int:=if X2b l then -1 else ((l.findIdx fun c=>decide (7<c.Xo.length):Nat):Int)
theorem idx_no {l:List aC} {k:Nat} (hb:∀ j,j<k→(l.getD j zC).Xo.length≤7) (hk:l.length≤k):idxV l=-1:=if_pos (X2a hb hk)
theorem idx_at {l:List aC} {k:Nat} (hb:∀ j,j<k→(l.getD j zC).Xo.length≤7) (hk:k<l.length) (h:7<(l.getD k zC).Xo.length):idxV l=((k:Nat):Int):=by
  have e:∀ j (hj:j<l.length),l.getD j zC=l[j]:=fun j hj=>by rw [List.getD_eq_getElem?_getD,List.getElem?_eq_getElem hj];rfl
  have hn:¬X2b l:=fun w=>by
    have:=w _ (Ur (z:=zC) hk)
    omega
  rw [idxV,if_neg hn,(List.findIdx_eq hk).2 ⟨?_,fun j hj=>?_⟩]
  · rw [e k hk] at h;exact decide_eq_true h
  · have:=hb j hj
    rw [e j (by omega)] at this
    exact decide_eq_false (by omega)
theorem idx_few (l:List aC):idxV l≥0↔¬X2b l:=by
  unfold idxV
  split
  · rename_i h;exact ⟨(fun w=>by omega),fun w=>absurd h w⟩
  · rename_i h;exact ⟨fun _=>h,fun _=>Int.natCast_nonneg _⟩
def X6k (m:aM):Prop:=okK m.X1∧inM (Yj m.X1) 1 m.Xb (Yj m.X1).Ww 1099511627776∧inM (Yj m.X1) 2 m.Xg (Yj m.X1).Va 1099511627776∧inM (Yj m.X1) 4 m.Xe 0 1099511627776∧inM (Yj m.X1) 4 m.Y3 1 1099511627776 ∧
  inM (Yj m.X1) 64 (m.Xa.length:Nat) 0 (Yj m.X1).Vq∧inM (Yj m.X1) 128 (m.Xw.length:Nat) 0 8∧inM (Yj m.X1) 256 (m.X5.length:Nat) 0 8∧inM (Yj m.X1) 8 (m.X6.length:Nat) 0 (m.X6.length:Nat)∧inM (Yj m.X1) 16 (m.Xc.length:Nat) 0 (m.Xc.length:Nat) ∧
  (Jw (Yj m.X1).Vw 32≠0∨m.X0=Yk)∧(m.X1≠1∨((m.Xc.length:Nat):Int)≤4096)∧(m.X1≠10∨((m.X5.length:Nat):Int)=1)∧X2b m.X5
instance (m:aM):Decidable (X6k m):=by unfold X6k;infer_instance
def X7h (m:aM):Int:=if X6k m then 0 else 120
theorem chk0 {m:aM}:X7h m=0↔X6k m:=by
  unfold X7h
  split
  · exact ⟨fun _=>‹_›,fun _=>rfl⟩
  · exact ⟨pZs,fun h=>absurd h ‹_›⟩
theorem nbB {b:Bool} (h:b=false):¬b=true:=fun q=>by rw [h] at q;cases q
def X0r (n:Int) (had:Bool) (lo:Int):Prop:=if had=true then n≥lo∧n≤1099511627776 else n=0
instance (n:Int) (had:Bool) (lo:Int):Decidable (X0r n had lo):=by unfold X0r;infer_instance
def X43 (k:Int):Int:=if k=6 then 1 else if k=7 then 1 else 0
def X38 (k:Int):Int:=if k=6 then 0 else if k=7 then 1 else if k=9 then 0 else 1
def maxB (k:Int) (h:aH):Int:=if k=2 then 4 else if h.Xa=true then 7 else 0
def maxP (h:aH):Int:=if h.Xw=true then 8 else 0
def Ev (m:aM) (h:aH):Prop:=((m.Xa.length:Nat):Int)≤maxB m.X1 h∧((m.Xw.length:Nat):Int)≤maxP h∧¬(m.X1=10∧((m.X5.length:Nat):Int)≠1)∧¬(¬h.X5=true∧((m.X5.length:Nat):Int)>0)∧((m.X5.length:Nat):Int)≤8∧X2b m.X5
instance (m:aM) (h:aH):Decidable (Ev m h):=by unfold Ev;infer_instance
def wellR (m:aM) (h:aH):Prop:=okK m.X1∧X0r m.Xb h.Xb (X43 m.X1)∧X0r m.Xg h.Xg (X38 m.X1)∧X0r m.Xe h.Xe 0∧X0r m.Y3 h.Xe 1∧¬(m.X1=1∧((m.Xc.length:Nat):Int)>4096) ∧
  ¬(¬h.X6=true∧m.X6≠[])∧¬(¬h.Xc=true∧((m.Xc.length:Nat):Int)>0)∧¬(¬h.X0=true∧m.X0≠Yk)∧Ev m h
theorem lo_is (k:Int):(Yj k).Ww=X43 k∧(Yj k).Va=X38 k∧((Xp k).Xa=true→(Yj k).Vq=maxB k (Xp k))∧(¬(Xp k).Xa=true→maxB k (Xp k)=0):=by
  rcases kinds k with h|h|h|h|h|h|h|h|h|h|h|h
  case inr.inr.inr.inr.inr.inr.inr.inr.inr.inr.inr =>
    rw [Xb4 h,Xiy h]
    unfold okK at h
    refine ⟨?_,?_,(fun q=>by cases q),fun _=>?_⟩
    · unfold X43;rw [if_neg (by omega),if_neg (by omega)]
    · unfold X38;rw [if_neg (by omega),if_neg (by omega),if_neg (by omega)]
    · unfold maxB;rw [if_neg (by omega)];rfl
  all_goals (subst h;decide +kernel)
theorem Xcx {s:J4} {f n lo:Int} {b:Bool} (h:Jw s.Vw f=0↔¬b=true):inM s f n lo 1099511627776↔X0r n b lo:=by
  unfold inM X0r
  by_cases q:b=true
  · rw [if_neg (fun w=>h.1 w q),if_pos q]
  · rw [if_pos (h.2 q),if_neg q];omega
theorem in_len {s:J4} {f:Int} {n:Nat} {hi:Int} {b:Bool} (h:Jw s.Vw f=0↔¬b=true) (hh:b=true→(n:Int)≤hi):inM s f (n:Nat) 0 hi↔¬(¬b=true∧(n:Int)>0):=by
  unfold inM
  by_cases q:b=true
  · rw [if_neg (fun w=>h.1 w q)];exact ⟨fun _ w=>w.1 q,fun _=>⟨Int.natCast_nonneg _,hh q⟩⟩
  · rw [if_pos (h.2 q)];exact ⟨(fun w v=>by have:=v.2;omega),fun w=>⟨Int.natCast_nonneg _,Int.not_lt.1 (fun v=>w ⟨q,v⟩)⟩⟩
theorem Xha {s:J4} {f:Int} {n:Nat} {hi:Int} {b:Bool} (h:Jw s.Vw f=0↔¬b=true):inM s f (n:Nat) 0 hi↔(n:Int)≤if b=true then hi else 0:=by
  unfold inM
  by_cases q:b=true
  · rw [if_neg (fun w=>h.1 w q),if_pos q];omega
  · rw [if_pos (h.2 q),if_neg q];omega
theorem V1 (m:aM):X6k m↔wellR m (Xp m.X1):=by
  obtain ⟨e1,e2,e3,e4,e5,e6,e7,e8,e9⟩:=Xje (X8e m.X1)
  obtain ⟨l1,l2,l3,l4⟩:=lo_is m.X1
  have hB:inM (Yj m.X1) 64 (m.Xa.length:Nat) 0 (Yj m.X1).Vq↔((m.Xa.length:Nat):Int)≤maxB m.X1 (Xp m.X1):=by
    rw [Xha e7]
    split
    · rw [l3 (by assumption)]
    · rw [l4 (by assumption)]
  have hC:inM (Yj m.X1) 256 (m.X5.length:Nat) 0 8↔¬(¬(Xp m.X1).X5=true∧((m.X5.length:Nat):Int)>0)∧((m.X5.length:Nat):Int)≤8:=by
    rw [Xha e9]
    split
    · rename_i q;exact ⟨fun w=>⟨fun v=>v.1 q,w⟩,fun w=>w.2⟩
    · rename_i q;exact ⟨fun w=>⟨(fun v=>by have:=v.2;omega),by omega⟩,fun w=>Int.not_lt.1 (fun v=>w.1 ⟨q,v⟩)⟩
  have hD:inM (Yj m.X1) 8 (m.X6.length:Nat) 0 (m.X6.length:Nat)↔¬(¬(Xp m.X1).X6=true∧m.X6≠[]):=by
    rw [in_len e4 (fun _=>Int.le_refl _)]
    have:((m.X6.length:Nat):Int)>0↔m.X6≠[]:=by
      rw [← List.length_pos_iff];omega
    rw [this]
  have hP:=Xha (n:=m.Xw.length) (hi:=8) e8
  have hV:=Xcx (n:=m.Xb) (lo:=(Yj m.X1).Ww) e1
  have hS:=Xcx (n:=m.Xg) (lo:=(Yj m.X1).Va) e2
  have hA:=in_len (n:=m.Xc.length) (hi:=((m.Xc.length:Nat):Int)) e5 (fun _=>Int.le_refl _)
  have hR:(Jw (Yj m.X1).Vw 32≠0∨m.X0=Yk)↔¬(¬(Xp m.X1).X0=true∧m.X0≠Yk):=by
    rw [Ne,e6,Classical.not_not]
    constructor
    · rintro (w|w) v
      · exact v.1 w
      · exact v.2 w
    · intro w
      by_cases q:(Xp m.X1).X0=true
      · exact .inl q
      · exact .inr (Classical.byContradiction fun v=>w ⟨q,v⟩)
  unfold X6k wellR Ev maxP
  rw [hB,hC,hD,hP,hV,hS,hA,hR,Xcx e3,Xcx e3,l1,l2]
  constructor
  · rintro ⟨a1,a2,a3,a4,a5,a6,a7,⟨a8,a9⟩,a10,a11,a12,a13,a14,a15⟩
    exact ⟨a1,a2,a3,a4,a5,fun w=>by rcases a13 with q|q<;>omega,a10,a11,a12,a6,a7,fun w=>by rcases a14 with q|q<;>omega,a8,a9,a15⟩
  · rintro ⟨a1,a2,a3,a4,a5,a6,a7,a8,a9,b1,b2,b3,b4,b5,b6⟩
    exact ⟨a1,a2,a3,a4,a5,b1,b2,⟨b4,b5⟩,a7,a8,a9,by omega,by omega,b6⟩
end Go.Proofs.YtnaopgohccacmaaGreat.Q
namespace Go.Proofs.YtnaopgohccacmaaGreat.Q
set_option linter.unusedVariables false
set_option linter.unusedSimpArgs false
section
variable {P:Program} {bs:Base}
theorem Uk {s:St} (s':St) {x y:Code} {Q:Exit→Act→World→Prop} (h1:T P bs s x (Exit.then (fun a w=>Gs bs s' a w) Q)) (h2:T P bs s' y Q):T P bs s (.seq x y) Q:=by
  refine T.seq fun a w hG b k cs=>?_
  obtain ⟨e,a',w',hq,harr⟩:=h1 a w hG b k cs
  refine ⟨e,a',w',?_,harr⟩
  cases e with
  | normal=>exact h2 a' w' hq
  | _=>exact hq
theorem nJ {s:St} {Q:Exit→Act→World→Prop}:Ends bs s .normal (Exit.then (fun a w=>Gs bs s a w) Q):=fun a w h=>h
end
end Go.Proofs.YtnaopgohccacmaaGreat.Q
namespace Go.Proofs.YtnaopgohccacmaaGreat.Q
open Go Go.RowKit
set_option linter.unusedVariables false
set_option linter.unusedSimpArgs false
set_option maxRecDepth 100000
set_option maxHeartbeats 4000000
theorem X8x (ta:Bool) (na:Bool) (tb:Bool) (nb:Bool) (a:List UInt8) (b:List UInt8):Holds Tryz.prog 23 ⟨[slV ta na kU8 a,slV tb nb kU8 b],[],vB (decide (a=b)),[]⟩:=by
 refine Holds.of Tryz.func23 rfl (N:=10) Tryz.ntmps23 rfl fun w0 B0 S0 U0=>?_
 show T _ (Y5 10 0 w0 S0 U0 B0) ⟨[slV ta na kU8 a,slV tb nb kU8 b],[]⟩ _ _
 refine sR [] (sR [hR 1 rfl rfl (Fg () a (ys:=(.d (dsl ta na kU8 a))) (rhs:=[]) Tryz.underlying25 Tryz.underlying5 Tryz.underlying9 (Jc ta na kU8 a) (X3 rfl) trivial),hR 3 rfl rfl (Fg () b (ys:=(.d (dsl tb nb kU8 b))) (rhs:=[]) Tryz.underlying25 Tryz.underlying5 Tryz.underlying9 (Jc tb nb kU8 b) (X3 rfl) trivial)] (T.ret ?_))
 exact eRt 4 (.one (dB (decide (a=b)))) [] rfl trivial
theorem J1:Tryz.prog.info? 5=some Tryz.t5:=by kernel_rfl
theorem Im:Zero Tryz.prog 5 [.int .u8 0]:=⟨_,_,J1,rfl,rfl⟩
theorem J8:Elem Tryz.prog 25 5 1 1:=⟨Tryz.underlying25,_,_,J1,rfl,rfl,rfl,rfl,by decide⟩
theorem E1 (ta:Bool) (na:Bool) (a:List UInt8) (hp:a.length≤140737488355328):Holds Tryz.prog 51 ⟨[slV ta na kU8 a],[],Y7 0 kU8 0 a.length,[.live (Xf 5 kU8 a)]⟩:=by
 refine Holds.of Tryz.func51 rfl (N:=8) Tryz.ntmps51 rfl fun w0 B0 S0 U0=>?_
 show T _ (Y5 8 0 w0 S0 U0 B0) ⟨[slV ta na kU8 a],[]⟩ _ _
 cases na
 ·refine Xdc (k:=0) rfl (fun h0=>?_) ?_
  ·have h0:=List.eq_nil_of_length_eq_zero h0
   subst h0
   show T _ _ ⟨[dv (.slice none 0 0)],[]⟩ _ _
   refine sR [] (T.seq (sR [hR 1 rfl rfl (Yg (u1:=.slice none 0 0) (u2:=.slice none 0 0) (v:=.bool true) (X6h Tryz.underlying25) (X3 rfl) ⟨rfl,trivial⟩)] (cT (b:=true) rfl (sR [] (T.ret (rT ?_))))))
   refine eN ⟨[dv (.slice none 0 0),aa,dv (.slice none 0 0),aa,vB true],[]⟩ ?_
   refine X8 (s':=⟨[dv (.slice none 0 0),aa,Y7 0 kU8 0 0,aa,vB true],[.live (Xf 5 kU8 ([]:List UInt8))]⟩) (fun _ _ hG=>Vz 0 2 5 kU8 rfl rfl hG) ?_
   exact eRt 2 (.one (.own 0 kU8.sz 0 0)) [0] p2f (ix trivial)
  show T _ _ ⟨[slV ta true kU8 a],[]⟩ _ _
  refine sR [] (T.seq (sR [hR 1 rfl rfl (X2u (s:=.d (dsl ta true kU8 a)) Tryz.underlying25 (.inl rfl) (X3 rfl) ⟨rfl,trivial⟩)] (cF (b:=false) rfl (T.skip (nT ?_)))))
  refine sR [hR 0 rfl rfl (Ye 0 5 kU8 Vs ([]:List UInt8) [] (cs:=[]) Tryz.underlying25 J1 rfl Im rfl rfl rfl pd W5 pZ8 (V6 pZ8) (X3 rfl) trivial),hR 2 rfl rfl (W0 0 1 5 1 kU8 Vs ([]:List UInt8) a a ([]:List UInt8).length (sy:=(.d (dsl ta true kU8 a))) (rhs:=[]) J8 (by omega) (Jc ta true kU8 a) (by simp) (by (simp [maxLen,-List.getD_eq_getElem?_getD]<;>omega)) (by (simp [maxLen,-List.getD_eq_getElem?_getD]<;>omega)) (X3 rfl) trivial)] ?_
  refine T.ret ?_
  exact eRt 2 (.one (.own 1 kU8.sz 0 a.length)) [1] rfl (ix trivial)
 refine sR [] (T.seq (sR [hR 1 rfl rfl (X2u (s:=.d (dsl ta true kU8 a)) Tryz.underlying25 (.inl rfl) (X3 rfl) ⟨rfl,trivial⟩)] (cF (b:=false) rfl (T.skip (nT ?_)))))
 refine sR [hR 0 rfl rfl (Ye 0 5 kU8 Vs ([]:List UInt8) [] (cs:=[]) Tryz.underlying25 J1 rfl Im rfl rfl rfl pd W5 pZ8 (V6 pZ8) (X3 rfl) trivial),hR 2 rfl rfl (W0 0 1 5 1 kU8 Vs ([]:List UInt8) a a ([]:List UInt8).length (sy:=(.d (dsl ta true kU8 a))) (rhs:=[]) J8 (by omega) (Jc ta true kU8 a) (by simp) (by (simp [maxLen,-List.getD_eq_getElem?_getD]<;>omega)) (by (simp [maxLen,-List.getD_eq_getElem?_getD]<;>omega)) (X3 rfl) trivial)] ?_
 refine T.ret ?_
 exact eRt 2 (.one (.own 1 kU8.sz 0 a.length)) [1] rfl (ix trivial)
theorem X19:Tryz.prog.info? 3=some Tryz.t3:=by kernel_rfl
theorem Xl4 (f:Int) (u:Int):Holds Tryz.prog 34 ⟨[vI f,vI u],[],pv 0 0,[.live (.box 130 [dI (3*(fOf f)+1),dI (cOf u),.mref 1]),.live (mpK Xi Y8 ([]:List (Yb×Bool)))]⟩:=by
 refine Holds.of Tryz.func34 rfl (N:=16) Tryz.ntmps34 rfl fun w0 B0 S0 U0=>?_
 show T _ (Y5 16 0 w0 S0 U0 B0) ⟨[vI f,vI u],[]⟩ _ _
 refine sR [] (sR [hR 1 rfl rfl (X3j (k:=.i64) (a:=f) (b:=0) (X3 rfl) ⟨rfl,trivial⟩),hR 2 rfl rfl (X96 (k:=.i64) (a:=max f 0) (b:=2) (X3 rfl) ⟨rfl,trivial⟩),hR 3 rfl rfl (Yg (u1:=.int .i64 3) (u2:=.int .i64 (min (max f 0) 2)) (v:=.int .i64 (3*(min (max f 0) 2))) (Xa5 pb) (X3 rfl) ⟨rfl,trivial⟩),hR 4 rfl rfl (Yg (u1:=.int .i64 (3*(min (max f 0) 2))) (u2:=.int .i64 1) (v:=.int .i64 ((3*(min (max f 0) 2))+1)) (W8 pb) (X3 rfl) ⟨rfl,trivial⟩),hR 6 rfl rfl (X3j (k:=.i64) (a:=u) (b:=0) (X3 rfl) ⟨rfl,trivial⟩),hR 7 rfl rfl (X96 (k:=.i64) (a:=max u 0) (b:=8) (X3 rfl) ⟨rfl,trivial⟩),hR 8 rfl rfl (X5w 0 Xi Y8 (X3 rfl))] (T.ret ?_))
 exact eRt 4 (.one (.ptr 1 0)) [1,0] rfl ⟨⟨rfl,(by have e1:((3*(min (max f 0) 2))+1:Int)=3*(fOf f)+1:=(by rfl);have e2:(min (max u 0) 8:Int)=(cOf u):=(by rfl);have hE:=congr (congrArg (fun (q1:Int) (q2:Int)=>(.live (.box 130 [dI q1,dI q2,.mref 0]):HS)) e1) e2;exact Eq.trans pZ8 hE)⟩,(ix trivial)⟩
theorem wide_3:Wide Tryz.prog 3 none:=⟨_,Tryz.underlying3,(fun _ h=>by cases h),(fun _ _ h=>by cases h)⟩
theorem X5g (f:Int) (u:Int) (rows:List (Yb×Bool)) (hf:0≤f∧f≤2) (hu:0≤u∧u≤8):Holds Tryz.prog 82 ⟨[pv 0 0],[.box 130 [dI (3*f+1),dI u,.mref 1],mpK Xi Y8 rows],vI (3*f+1),[.live (.box 130 [dI (3*f+1),dI u,.mref 1]),.live (mpK Xi Y8 rows)]⟩:=by
 refine Holds.of Tryz.func82 rfl (N:=9) Tryz.ntmps82 rfl fun w0 B0 S0 U0=>?_
 show T _ (Y5 9 2 w0 S0 U0 B0) ⟨[pv 0 0],[.live (.box 130 [dI (3*f+1),dI u,.mref 1]),.live (mpK Xi Y8 rows)]⟩ _ _
 refine sR [] (T.seq (sR [] (cF (b:=false) rfl (T.skip (nT (sR [] (T.ret ?_)))))))
 exact eRt 2 (.one (dI (3*f+1))) [0,1] rfl (ix (ix trivial))
theorem authn_F (f:Int) (u:Int) (rows:List (Yb×Bool)) (hf:0≤f∧f≤2) (hu:0≤u∧u≤8):Holds Tryz.prog 83 ⟨[pv 0 0],[.box 130 [dI (3*f+1),dI u,.mref 1],mpK Xi Y8 rows],vI f,[.live (.box 130 [dI (3*f+1),dI u,.mref 1]),.live (mpK Xi Y8 rows)]⟩:=by
 refine Holds.of Tryz.func83 rfl (N:=6) Tryz.ntmps83 rfl fun w0 B0 S0 U0=>?_
 show T _ (Y5 6 2 w0 S0 U0 B0) ⟨[pv 0 0],[.live (.box 130 [dI (3*f+1),dI u,.mref 1]),.live (mpK Xi Y8 rows)]⟩ _ _
 refine sR [] (sR [hR 1 rfl rfl (rCa (X5g f u rows ‹_› ‹_›) Tryz.func82 [0,1] [(.tmp 3,pv 0 0)] 2 2),hR 2 rfl rfl (Yg (u1:=.int .i64 (3*f+1)) (u2:=.int .i64 3) (v:=.int .i64 ((3*f+1) / 3)) (b_quoP (by omega) (by omega) pb) (X3 rfl) ⟨rfl,trivial⟩)] (T.ret ?_))
 exact eRt 2 (.one (dI ((3*f+1) / 3))) [0,1] (cI (by omega)) (ix (ix trivial))
theorem Xaw (f:Int) (u:Int) (rows:List (Yb×Bool)) (hf:0≤f∧f≤2) (hu:0≤u∧u≤8):Holds Tryz.prog 152 ⟨[pv 0 0],[.box 130 [dI (3*f+1),dI u,.mref 1],mpK Xi Y8 rows],vI u,[.live (.box 130 [dI (3*f+1),dI u,.mref 1]),.live (mpK Xi Y8 rows)]⟩:=by
 refine Holds.of Tryz.func152 rfl (N:=9) Tryz.ntmps152 rfl fun w0 B0 S0 U0=>?_
 show T _ (Y5 9 2 w0 S0 U0 B0) ⟨[pv 0 0],[.live (.box 130 [dI (3*f+1),dI u,.mref 1]),.live (mpK Xi Y8 rows)]⟩ _ _
 refine sR [] (T.seq (sR [] (cF (b:=false) rfl (T.skip (nT (sR [] (T.ret ?_)))))))
 exact eRt 2 (.one (dI u)) [0,1] rfl (ix (ix trivial))
theorem X5f (f:Int) (u:Int) (rows:List (Yb×Bool)) (hf:0≤f∧f≤2) (hu:0≤u∧u≤8):Holds Tryz.prog 33 ⟨[pv 0 0],[.box 130 [dI (3*f+1),dI u,.mref 1],mpK Xi Y8 rows],vI (2*f+1),[.live (.box 130 [dI (3*f+1),dI u,.mref 1]),.live (mpK Xi Y8 rows)]⟩:=by
 refine Holds.of Tryz.func33 rfl (N:=8) Tryz.ntmps33 rfl fun w0 B0 S0 U0=>?_
 show T _ (Y5 8 2 w0 S0 U0 B0) ⟨[pv 0 0],[.live (.box 130 [dI (3*f+1),dI u,.mref 1]),.live (mpK Xi Y8 rows)]⟩ _ _
 refine sR [] (sR [hR 1 rfl rfl (rCa (X5g f u rows ‹_› ‹_›) Tryz.func82 [0,1] [(.tmp 3,pv 0 0)] 2 2),hR 3 rfl rfl (rCa (authn_F f u rows ‹_› ‹_›) Tryz.func83 [0,1] [(.tmp 5,pv 0 0)] 2 2),hR 4 rfl rfl (Yg (u1:=.int .i64 (3*f+1)) (u2:=.int .i64 f) (v:=.int .i64 ((3*f+1)-f)) (Uu pb) (X3 rfl) trivial)] (T.ret ?_))
 exact eRt 2 (.one (dI ((3*f+1)-f))) [0,1] (cI (by omega)) (ix (ix trivial))
theorem Xav (f:Int) (u:Int) (rows:List (Yb×Bool)) (s:Int) (hf:0≤f∧f≤2) (hu:0≤u∧u≤8):Holds Tryz.prog 174 ⟨[pv 0 0,vI s],[.box 130 [dI (3*f+1),dI u,.mref 1],mpK Xi Y8 rows],vI (W1 f s),[.live (.box 130 [dI (3*f+1),dI u,.mref 1]),.live (mpK Xi Y8 rows)]⟩:=by
 refine Holds.of Tryz.func174 rfl (N:=18) Tryz.ntmps174 rfl fun w0 B0 S0 U0=>?_
 show T _ (Y5 18 2 w0 S0 U0 B0) ⟨[pv 0 0,vI s],[.live (.box 130 [dI (3*f+1),dI u,.mref 1]),.live (mpK Xi Y8 rows)]⟩ _ _
 refine sR [] (T.seq ?_)
 by_cases hq1:(3*f+1)=0
 ·refine sR [hR 1 rfl rfl (rCa (X5g f u rows ‹_› ‹_›) Tryz.func82 [0,1] [(.tmp 5,pv 0 0)] 2 2),hN 4 false (dT hq1),hN 5 false (dT hq1),hP 6 (dT hq1)] (cT (b:=true) rfl (sR [] (T.ret (rT ?_))))
  exact eRt 4 (.one (dI 0)) [0,1] (cI (show ((W1 f s):Int)=0 from (by omega))) (ix (ix trivial))
 refine sR [hR 1 rfl rfl (rCa (X5g f u rows ‹_› ‹_›) Tryz.func82 [0,1] [(.tmp 5,pv 0 0)] 2 2),hY 4 (dF hq1),hY 5 (dF hq1),hP 6 (dF hq1)] ?_
 by_cases hq2:s<0
 ·refine cT (dT hq2) (sR [] (T.ret (rT ?_)))
  exact eRt 4 (.one (dI 0)) [0,1] p55 (ix (ix trivial))
 refine cF (dF hq2) (T.skip (nT (sR [hR 5 rfl rfl (Yg (u1:=.int .i64 s) (u2:=.int .i64 (3*f+1)) (v:=.int .i64 (s % (3*f+1))) (X6g (by omega) (by omega)) (X3 rfl) trivial)] (T.ret ?_))))
 exact eRt 4 (.one (dI (s % (3*f+1)))) [0,1] p4q (ix (ix trivial))
theorem Xda (f:Int) (u:Int) (rows:List (Yb×Bool)) (s:Int) (hf:0≤f∧f≤2) (hu:0≤u∧u≤8) (hs:-9223372036854775808≤s∧s≤9223372036854775807):Holds Tryz.prog 123 ⟨[pv 0 0,vI s],[.box 130 [dI (3*f+1),dI u,.mref 1],mpK Xi Y8 rows],vB (decide (I8 u s)),[.live (.box 130 [dI (3*f+1),dI u,.mref 1]),.live (mpK Xi Y8 rows)]⟩:=by
 refine Holds.of Tryz.func123 rfl (N:=14) Tryz.ntmps123 rfl fun w0 B0 S0 U0=>?_
 show T _ (Y5 14 2 w0 S0 U0 B0) ⟨[pv 0 0,vI s],[.live (.box 130 [dI (3*f+1),dI u,.mref 1]),.live (mpK Xi Y8 rows)]⟩ _ _
 refine sR [] ?_
 by_cases hq1:s≥1000
 ·refine sR [hY 3 (dT hq1),hS 4 (oY rfl rfl rfl rfl (X3 rfl) (dT hq1) (Yg (u1:=.int .i64 s) (u2:=.int .i64 1000) (v:=.int .i64 (s-1000)) (Uu pb) (X3 rfl) ⟨rfl,trivial⟩)),hY 5 (dT hq1),hS 6 (oY rfl rfl rfl rfl (X3 rfl) (dT hq1) (rCa (Xaw f u rows ‹_› ‹_›) Tryz.func152 [0,1] [(.tmp 10,pv 0 0)] 2 2)),hY 7 (dT hq1),hP 8 (dT hq1)] (T.ret ?_)
  exact eRt 4 (.one (dB (decide ((s-1000)<u)))) [0,1] p44 (ix (ix trivial))
 refine sR (Xr (hN · true (dF hq1)) [3,4,5,6,7] (hP 8 (dF hq1)::[])) (T.ret ?_)
 exact eRt 4 (.one (dB false)) [0,1] p4r (ix (ix trivial))
theorem Jv (f:Int) (u:Int) (rows:List (Yb×Bool)) (s:Int) (hf:0≤f∧f≤2) (hu:0≤u∧u≤8):Holds Tryz.prog 79 ⟨[pv 0 0,vI s],[.box 130 [dI (3*f+1),dI u,.mref 1],mpK Xi Y8 rows],vB (decide (Wm f s)),[.live (.box 130 [dI (3*f+1),dI u,.mref 1]),.live (mpK Xi Y8 rows)]⟩:=by
 refine Holds.of Tryz.func79 rfl (N:=13) Tryz.ntmps79 rfl fun w0 B0 S0 U0=>?_
 show T _ (Y5 13 2 w0 S0 U0 B0) ⟨[pv 0 0,vI s],[.live (.box 130 [dI (3*f+1),dI u,.mref 1]),.live (mpK Xi Y8 rows)]⟩ _ _
 refine sR [] ?_
 by_cases hq1:s≥0
 ·refine sR [hY 3 (dT hq1),hY 4 (dT hq1),hS 5 (oY rfl rfl rfl rfl (X3 rfl) (dT hq1) (rCa (X5g f u rows ‹_› ‹_›) Tryz.func82 [0,1] [(.tmp 9,pv 0 0)] 2 2)),hY 6 (dT hq1),hP 7 (dT hq1)] (T.ret ?_)
  exact eRt 4 (.one (dB (decide (s<(3*f+1))))) [0,1] p43 (ix (ix trivial))
 refine sR (Xr (hN · true (dF hq1)) [3,4,5,6] (hP 7 (dF hq1)::[])) (T.ret ?_)
 exact eRt 4 (.one (dB false)) [0,1] p4n (ix (ix trivial))
theorem X75 (f:Int) (u:Int) (rows:List (Yb×Bool)) (s:Int) (hf:0≤f∧f≤2) (hu:0≤u∧u≤8) (hs:-9223372036854775808≤s∧s≤9223372036854775807):Holds Tryz.prog 68 ⟨[pv 0 0,vI s],[.box 130 [dI (3*f+1),dI u,.mref 1],mpK Xi Y8 rows],vB (decide (Um f u s)),[.live (.box 130 [dI (3*f+1),dI u,.mref 1]),.live (mpK Xi Y8 rows)]⟩:=by
 refine Holds.of Tryz.func68 rfl (N:=13) Tryz.ntmps68 rfl fun w0 B0 S0 U0=>?_
 show T _ (Y5 13 2 w0 S0 U0 B0) ⟨[pv 0 0,vI s],[.live (.box 130 [dI (3*f+1),dI u,.mref 1]),.live (mpK Xi Y8 rows)]⟩ _ _
 refine sR [] ?_
 by_cases hq1:Wm f s
 ·refine sR (hR 2 rfl rfl (rCa (Jv f u rows s ‹_› ‹_›) Tryz.func79 [0,1] [(.tmp 5,pv 0 0),(.tmp 6,vI s)] 2 2)::(Xr (hN · false (dT hq1)) [4,5,6] (hP 7 (dT hq1)::[]))) (T.ret ?_)
  exact eRt 4 (.one (dB true)) [0,1] p3s (ix (ix trivial))
 refine sR [hR 2 rfl rfl (rCa (Jv f u rows s ‹_› ‹_›) Tryz.func79 [0,1] [(.tmp 5,pv 0 0),(.tmp 6,vI s)] 2 2),hY 4 (dF hq1),hY 5 (dF hq1),hS 6 (oY rfl rfl rfl rfl (X3 rfl) (dF hq1) (rCa (Xda f u rows s ‹_› ‹_› ‹_›) Tryz.func123 [0,1] [(.tmp 9,pv 0 0),(.tmp 10,vI s)] 2 2)),hP 7 (dF hq1)] (T.ret ?_)
 exact eRt 4 (.one (dB (decide (I8 u s)))) [0,1] p3k (ix (ix trivial))
theorem Wy:Tryz.prog.info? 43=some Tryz.t43:=by kernel_rfl
theorem H8:Zero Tryz.prog 43 [.int .i64 0,.slice none 0 0]:=⟨_,_,Wy,rfl,rfl⟩
theorem U9:Tryz.prog.info? 25=some Tryz.t25:=by kernel_rfl
theorem Hx:Wide Tryz.prog 43 (some 2):=⟨_,_,Tryz.underlying43,.inl ⟨_,rfl⟩,Wy,rfl⟩
section
variable (f:Int) (u:Int) (s:Int) (tb:Bool) (nb:Bool) (b:List UInt8)
end
section
variable (f:Int) (u:Int) (rows:List (Yb×Bool)) (s:Int) (tb:Bool) (nb:Bool) (b:List UInt8)
abbrev Z4:HS:=.live (.box 130 [dI (3*f+1),dI u,.mref 1])
abbrev Z5:HS:=.live (mpK Xi Y8 rows)
abbrev Z6:List AV:=[pv 0 0,vI s,slV tb nb kU8 b,aa,aa,aa,pv 2 0,vI 11,vB (!(decide (Um f u s))),aa,aa,aa,aa,aa,vB (decide (((b.length:Nat):Int)>16777216))]
abbrev Z7:HS:=.live (.box 43 [dI 0,.d (.val (.slice none 0 0))])
abbrev Z8:SV:=dU ([]:List UInt8)
abbrev Z9:List SV:=[dI 0,Z8]
abbrev Za:List AV:=[pv 0 0,vI s,slV tb nb kU8 b,aa,aa,aa,pv 2 0,vI 0,vB (!(decide (Um f u s))),aa,aa,aa,aa,aa,vB (decide (((b.length:Nat):Int)>16777216))]
abbrev Zb:List AV:=[pv 0 0,vI s,slV tb nb kU8 b,aa,aa,aa,pv 2 0,vI 30,vB (!(decide (Um f u s)))]
end
theorem Xa8 (f:Int) (u:Int) (rows:List (Yb×Bool)) (s:Int) (tb:Bool) (nb:Bool) (b:List UInt8) (hf:0≤f∧f≤2) (hu:0≤u∧u≤8) (hs:-9223372036854775808≤s∧s≤9223372036854775807) (hb:b.length≤140737488355328):Holds Tryz.prog 26 ⟨[pv 0 0,vI s,slV tb nb kU8 b],[.box 130 [dI (3*f+1),dI u,.mref 1],mpK Xi Y8 rows],.tup [.agg [dI (Hk f u s b).X2,dU (Hk f u s b).X7],.one (dI (Ey f u s b))],[.live (.box 130 [dI (3*f+1),dI u,.mref 1]),.live (mpK Xi Y8 (X4e f u rows s b))]⟩:=by
 refine Holds.of Tryz.func26 rfl (N:=31) Tryz.ntmps26 rfl fun w0 B0 S0 U0=>?_
 show T _ (Y5 31 2 w0 S0 U0 B0) ⟨[pv 0 0,vI s,slV tb nb kU8 b],[(Z4 f u),(Z5 rows)]⟩ _ _
 refine sR [] (T.seq (T.block (sR [hR 2 rfl rfl (rCa (X75 f u rows s ‹_› ‹_› ‹_›) Tryz.func68 [0,1] [(.tmp 9,pv 0 0),(.tmp 10,vI s)] 2 2)] ?_)))
 by_cases hq1:Um f u s
 ·refine cF (cn (dT hq1)) (sR [] ?_)
  by_cases hq2:((b.length:Nat):Int)>16777216
  ·refine cT (dT hq2) (sR [] (T.ret (rB (rT ?_))))
   refine eN ⟨(Z6 f u s tb nb b),[(Z4 f u),(Z5 rows),Z7]⟩ ?_
   refine X8 (s':=⟨(Z6 f u s tb nb b),[(Z4 f u),(Z5 rows),.live (.box 43 Z9)]⟩) (fun _ _ hG=>Ym (s:=⟨(Z6 f u s tb nb b),[(Z4 f u),(Z5 rows),Z7]⟩) ⟨.inl rfl,(kk2 p3f)⟩ (kk2 ⟨p35,trivial⟩) hG) ?_
   exact eX [.c 6 2 43 0 43 [dI 0,Z8] (.agg Z9),.t 7 (.one (dI 11))] ⟨⟨rfl,rfl,by kernel_rfl,by kernel_rfl,.inl ⟨2,Hx,rfl,Nat.le_of_ble_eq_true rfl⟩⟩,⟨⟨rfl,by kernel_rfl⟩,trivial⟩⟩ [0,1] (by have e1:((Hk f u s b).X2:Int)=0:=p1d;have e2:((Hk f u s b).X7:List UInt8)=([]:List UInt8):=p1d;have e3:((Ey f u s b):Int)=11:=p1d;have hE:=congr pZ13 e3;exact hE) (ix ⟨⟨rfl,p2x⟩,trivial⟩)
  refine cF (dF hq2) (T.skip (nB (nT ?_)))
  refine sD [[],[0],[0,1],[0,1,2],[],[],[5],[4,5,6],[0,1,2,3,4,5,6,7]] [hR 6 rfl rfl (Fg () b (ys:=(.d (dsl tb nb kU8 b))) (rhs:=[]) Tryz.underlying25 Tryz.underlying5 Tryz.underlying9 (Jc tb nb kU8 b) (X3 rfl) trivial),hR 8 rfl rfl (X1w 1 rows (Yb.mk s b) true (kd:=Y8) (ak:=.tv (.agg [dI s,dS b])) (tv:=.one (dB true)) Tryz.underlying128 X18 ⟨[.int .i64 s,Ys b],rfl,rfl⟩ rfl ⟨.inl rfl,trivial⟩ ⟨rfl,trivial⟩)] (sR [hR 2 rfl rfl (rCa (E1 tb nb b ‹_›) Tryz.func51 [3] [(.tmp 28,slV tb nb kU8 b)] 0 1)] (T.ret ?_))
  refine eN ⟨(Za f u s tb nb b),[(Z4 f u),.live (mpK Xi Y8 (mput rows (Yb.mk s b) true)),.live (.box 43 [dI s,.own 3 kU8.sz 0 b.length]),.live (Xf 5 kU8 b)]⟩ ?_
  refine X8 (s':=⟨(Za f u s tb nb b),[(Z4 f u),.live (mpK Xi Y8 (mput rows (Yb.mk s b) true)),.live (.box 43 [dI s,dU b]),.dead]⟩) (fun _ _ hG=>Gs.freeze (s:=⟨(Za f u s tb nb b),[(Z4 f u),.live (mpK Xi Y8 (mput rows (Yb.mk s b) true)),.live (.box 43 [dI s,.own 3 kU8.sz 0 b.length]),.live (Xf 5 kU8 b)]⟩) 3 (el:=W6 kU8 b) (sz:=kU8.sz) (n:=b.length) rfl ⟨.inl rfl,(kk2 p3f)⟩ ⟨pZ5,⟨pZ5,⟨p2s,⟨(.inl ⟨rfl,rfl⟩),trivial⟩⟩⟩⟩ hG) ?_
  exact eX [.c 6 2 43 0 43 [dI s,dU b] (.agg [dI s,dU b]),.t 7 (.one (dI 0))] ⟨⟨rfl,rfl,by kernel_rfl,by kernel_rfl,.inl ⟨2,Hx,rfl,Nat.le_of_ble_eq_true rfl⟩⟩,⟨⟨rfl,by kernel_rfl⟩,trivial⟩⟩ [0,1] (by have e1:((Hk f u s b).X2:Int)=s:=p1d;have e2:((Hk f u s b).X7:List UInt8)=b:=p1d;have e3:((Ey f u s b):Int)=0:=p1d;have hE:=congr pZ13 e3;exact hE) (ix ⟨⟨rfl,(by have e1:((mput rows (Yb.mk s b) true):List (Yb×Bool))=(X4e f u rows s b):=p1d;have hE:=congrArg (fun (q1:List (Yb×Bool))=>(.live (mpK Xi Y8 q1):HS)) e1;exact Eq.trans pZ8 hE)⟩,trivial⟩)
 refine cT (cn (dF hq1)) (sR [] (T.ret (rB (rT ?_))))
 refine eN ⟨(Zb f u s tb nb b),[(Z4 f u),(Z5 rows),Z7]⟩ ?_
 refine X8 (s':=⟨(Zb f u s tb nb b),[(Z4 f u),(Z5 rows),.live (.box 43 Z9)]⟩) (fun _ _ hG=>Ym (s:=⟨(Zb f u s tb nb b),[(Z4 f u),(Z5 rows),Z7]⟩) ⟨.inl rfl,(kk8 trivial)⟩ (kk2 ⟨p35,trivial⟩) hG) ?_
 exact eX [.c 6 2 43 0 43 [dI 0,Z8] (.agg Z9),.t 7 (.one (dI 30))] ⟨⟨rfl,rfl,by kernel_rfl,by kernel_rfl,.inl ⟨2,Hx,rfl,Nat.le_of_ble_eq_true rfl⟩⟩,⟨⟨rfl,by kernel_rfl⟩,trivial⟩⟩ [0,1] (by have e1:((Hk f u s b).X2:Int)=0:=p1d;have e2:((Hk f u s b).X7:List UInt8)=([]:List UInt8):=p1d;have e3:((Ey f u s b):Int)=30:=p1d;have hE:=congr pZ13 e3;exact hE) (ix ⟨⟨rfl,p2x⟩,trivial⟩)
theorem Xhw:Wide Tryz.prog 25 none:=⟨_,Tryz.underlying25,(fun _ h=>by cases h),(fun _ _ h=>by cases h)⟩
theorem X27:Tryz.prog.info? 4=some Tryz.t4:=by kernel_rfl
theorem Xc0:ZeroM Tryz.prog 4 [.bool false]:=⟨_,_,X27,rfl,rfl,fun _=>rfl⟩
theorem Xfv (f:Int) (u:Int) (rows:List (Yb×Bool)) (te:Bool) (e:aE) (hf:0≤f∧f≤2) (hu:0≤u∧u≤8) (hs:-9223372036854775808≤e.X2∧e.X2≤9223372036854775807):Holds Tryz.prog 186 ⟨[pv 0 0,.tv (.agg [dI e.X2,.d (dsl te false kU8 e.X7)])],[.box 130 [dI (3*f+1),dI u,.mref 1],mpK Xi Y8 rows],vI (Xd f u rows e),[.live (.box 130 [dI (3*f+1),dI u,.mref 1]),.live (mpK Xi Y8 rows)]⟩:=by
 refine Holds.of Tryz.func186 rfl (N:=28) Tryz.ntmps186 rfl fun w0 B0 S0 U0=>?_
 show T _ (Y5 28 2 w0 S0 U0 B0) ⟨[pv 0 0,.tv (.agg [dI e.X2,.d (dsl te false kU8 e.X7)])],[.live (.box 130 [dI (3*f+1),dI u,.mref 1]),.live (mpK Xi Y8 rows)]⟩ _ _
 refine sR [] (T.seq (sR [hR 3 rfl rfl (rCa (X75 f u rows e.X2 ‹_› ‹_› ‹_›) Tryz.func68 [0,1] [(.tmp 7,pv 0 0),(.tmp 9,vI e.X2)] 2 2)] ?_))
 by_cases hq1:Um f u e.X2
 ·refine cF (cn (dT hq1)) (T.skip (nT (T.seq ?_)))
  refine sD [[],[0],[0,1],[0,1,2],[],[4],[],[6],[6,7],[4,5,6,7,8],[0,1,2,3,4,5,6,7,8,9],[0,1,2,3,4,5,6,7,8,9,10],[0,1,2,3,4,5,6,7,8,9,10,11],[0,1,2,3,4,5,6,7,8,9,10,11],[0,1,2,3,4,5,6,7,8,9,10,11,12],[0,1,2,3,4,5,6,7,8,9,10,11,12,13,14]] [hR 8 rfl rfl (Fg () e.X7 (ys:=(.d (dsl te false kU8 e.X7))) (rhs:=[]) Tryz.underlying25 Tryz.underlying5 Tryz.underlying9 (Jc te false kU8 e.X7) (X3 rfl) trivial),hR 10 rfl rfl (Xk6 1 rows (Yb.mk e.X2 e.X7) (.one (dB (mget rows (Yb.mk e.X2 e.X7) false))) (ak:=.tv (.agg [dI e.X2,dS e.X7])) (kd:=Y8) Tryz.underlying128 X18 ⟨[.int .i64 e.X2,Ys e.X7],rfl,rfl⟩ Xc0 ⟨.inl rfl,trivial⟩ rfl (X3 rfl) trivial)] (sR [] ?_)
  by_cases hq2:(mhas rows (Yb.mk e.X2 e.X7))=true
  ·refine cF (cn hq2) (T.skip (nT (sR [] (T.ret ?_))))
   exact eRt 4 (.one (dI 0)) [0,1] (by have e1:((Xd f u rows e):Int)=0:=(by (simp [Xd, *];done));have hE:=cI e1;exact hE) (ix (ix trivial))
  replace hq2:=Bool.eq_false_iff.2 hq2
  refine cT (cn hq2) (sR [] (T.ret (rT ?_)))
  exact eRt 4 (.one (dI 31)) [0,1] (by have e1:((Xd f u rows e):Int)=31:=(by (simp [Xd, *];done));have hE:=cI e1;exact hE) (ix (ix trivial))
 refine cT (cn (dF hq1)) (sR [] (T.ret (rT ?_)))
 exact eRt 4 (.one (dI 30)) [0,1] (by have e1:((Xd f u rows e):Int)=30:=(by (simp [Xd, *];done));have hE:=cI e1;exact hE) (ix (ix trivial))
end Go.Proofs.YtnaopgohccacmaaGreat.Q
namespace Go.Proofs.YtnaopgohccacmaaGreat.Q
set_option linter.unusedVariables false
set_option linter.unusedSimpArgs false
set_option maxRecDepth 100000
end Go.Proofs.YtnaopgohccacmaaGreat.Q
namespace Go.Proofs.YtnaopgohccacmaaGreat.Q
open Go.Shelf
end Go.Proofs.YtnaopgohccacmaaGreat.Q
namespace Go.Proofs.YtnaopgohccacmaaGreat.Q
set_option linter.unusedVariables false
set_option linter.unusedSimpArgs false
set_option maxRecDepth 100000
section
variable {P:Program} {bs:Base}
end
end Go.Proofs.YtnaopgohccacmaaGreat.Q
namespace Go.Proofs.YtnaopgohccacmaaGreat.Q
set_option linter.unusedVariables false
set_option linter.unusedSimpArgs false
set_option maxRecDepth 100000
section
variable {f:Int} {l xs ys:List Int} {i j k p q:Nat}
end
end Go.Proofs.YtnaopgohccacmaaGreat.Q
namespace Go.Proofs.YtnaopgohccacmaaGreat.Q
open Go Go.RowKit
set_option linter.unusedVariables false
set_option linter.unusedSimpArgs false
set_option maxRecDepth 100000
set_option maxHeartbeats 4000000
theorem X5m:Zero Tryz.prog 3 [.int .i64 0]:=⟨_,_,X19,rfl,rfl⟩
section
variable (f:Int) (u:Int) (rows:List (Yb×Bool)) (tx:Bool) (nx:Bool) (x:List Int) (k:Nat)
end
section
variable (f:Int) (u:Int) (rows:List (Yb×Bool)) (xs:List Int) (i:Nat) (j:Nat)
end
section
variable (xs:List Int) (k:Nat) (p:Nat) (q:Nat)
end
end Go.Proofs.YtnaopgohccacmaaGreat.Q
namespace Go.Proofs.YtnaopgohccacmaaGreat.Q
set_option linter.unusedVariables false
set_option linter.unusedSimpArgs false
set_option maxRecDepth 100000
section
variable {f:Int} {l:List aE} {k:Nat}
end
section
variable {P:Program}
end
end Go.Proofs.YtnaopgohccacmaaGreat.Q
namespace Go.Proofs.YtnaopgohccacmaaGreat.Q
open Go Go.RowKit
set_option linter.unusedVariables false
set_option linter.unusedSimpArgs false
set_option maxRecDepth 100000
set_option maxHeartbeats 4000000
theorem Xgi (ta:Bool) (tb:Bool) (a:aE) (b:aE):Holds Tryz.prog 21 ⟨[.tv (.agg [dI a.X2,.d (dsl ta false kU8 a.X7)]),.tv (.agg [dI b.X2,.d (dsl tb false kU8 b.X7)])],[],vB (decide (a=b)),[]⟩:=by
 refine Holds.of Tryz.func21 rfl (N:=17) Tryz.ntmps21 rfl fun w0 B0 S0 U0=>?_
 show T _ (Y5 17 0 w0 S0 U0 B0) ⟨[.tv (.agg [dI a.X2,.d (dsl ta false kU8 a.X7)]),.tv (.agg [dI b.X2,.d (dsl tb false kU8 b.X7)])],[]⟩ _ _
 refine sR [] ?_
 by_cases hq1:a.X2=b.X2
 ·refine sR (Xr (hY · (dT hq1)) [6,7,8,9] (hS 10 (oY rfl rfl rfl rfl (X3 rfl) (dT hq1) (rCa (X8x ta false tb false a.X7 b.X7 ) Tryz.func23 [] [(.tmp 12,slV ta false kU8 a.X7),(.tmp 14,slV tb false kU8 b.X7)] 0 0))::(hP 11 (dT hq1)::[]))) (T.ret ?_)
  exact eRt 4 (.one (dB (decide (a.X7=b.X7)))) [] (by have e1:((decide (a=b)):Bool)=(decide (a.X7=b.X7)):=(by simp [Je, *]);have hE:=cB e1;exact hE) trivial
 refine sR (Xr (hN · true (dF hq1)) [6,7,8,9,10] (hP 11 (dF hq1)::[])) (T.ret ?_)
 exact eRt 4 (.one (dB false)) [] (by have e1:((decide (a=b)):Bool)=false:=(by simp [Je, *]);have hE:=cB e1;exact hE) trivial
theorem Xk1 (f:Int) (u:Int):Holds Tryz.prog 35 ⟨[vI f,vI u],[],pv 0 0,[.live (.box 135 [dB true,dI (fOf f),dI (cOf u),.own 1 (kE false).sz 0 ([]:List aE).length]),.live (Xf 43 (kE false) ([]:List aE))]⟩:=by
 refine Holds.of Tryz.func35 rfl (N:=13) Tryz.ntmps35 rfl fun w0 B0 S0 U0=>?_
 show T _ (Y5 13 0 w0 S0 U0 B0) ⟨[vI f,vI u],[]⟩ _ _
 refine sR [] (sR [hR 1 rfl rfl (X96 (k:=.i64) (a:=f) (b:=2) (X3 rfl) ⟨rfl,trivial⟩),hR 2 rfl rfl (X3j (k:=.i64) (a:=0) (b:=min f 2) (X3 rfl) ⟨rfl,trivial⟩),hR 4 rfl rfl (X96 (k:=.i64) (a:=u) (b:=8) (X3 rfl) ⟨rfl,trivial⟩),hR 5 rfl rfl (X3j (k:=.i64) (a:=0) (b:=min u 8) (X3 rfl) ⟨rfl,trivial⟩)] (T.ret ?_))
 refine eN ⟨[vI f,vI u,aa,aa,pv 0 0],[.live (.box 135 [dB true,dI (max 0 (min f 2)),dI (max 0 (min u 8)),.d (.val (.slice none 0 0))])]⟩ ?_
 refine X8 (s':=⟨[vI f,vI u,aa,aa,pv 0 0],[.live (.box 135 [dB true,dI (max 0 (min f 2)),dI (max 0 (min u 8)),.own 1 (kE false).sz 0 0]),.live (Xf 43 (kE false) ([]:List aE))]⟩) (fun _ _ hG=>J6 1 0 3 43 (kE false) (Tb:=135) (cs:=[dB true,dI (max 0 (min f 2)),dI (max 0 (min u 8)),.d (.val (.slice none 0 0))]) rfl rfl rfl hG) ?_
 exact eRt 4 (.one (.ptr 0 0)) [0,1] rfl ⟨⟨rfl,(by have e1:(max 0 (min f 2):Int)=(fOf f):=(by (simp only [fOf,cOf];omega));have e2:(max 0 (min u 8):Int)=(cOf u):=(by (simp only [fOf,cOf];omega));have e3:(0:Nat)=([]:List aE).length:=(by rfl);have hE:=congr (congr (congrArg (fun (q1:Int) (q2:Int) (q3:Nat)=>(.live (.box 135 [dB true,dI q1,dI q2,.own 1 (kE false).sz 0 q3]):HS)) e1) e2) e3;exact Eq.trans pZ8 hE)⟩,(ix trivial)⟩
end Go.Proofs.YtnaopgohccacmaaGreat.Q
