import Derived.Test.YtnaopgohccacmaaGreatC19p
namespace Go.Proofs.YtnaopgohccacmaaGreat.Q
set_option linter.unusedVariables false
set_option linter.unusedSimpArgs false
def X24 (n:Int):Prop:=-9223372036854775808≤n∧n≤9223372036854775807
theorem Hq {α:Type} {z:α} {l:List α} {k:Nat} (hk:k<l.length):l.take (k+1)=l.take k++[l.getD k z]:=by
  rw [List.take_add_one,List.getD_eq_getElem?_getD,List.getElem?_eq_getElem hk];rfl
theorem U5 {P:Nat→Prop} {k:Nat} (h:∀ j,j<k→P j) (hk:P k):∀ j,j<k+1→P j:=fun j hj=>by
  rcases Nat.lt_or_ge j k with h1|h1
  · exact h j h1
  · obtain rfl:j=k:=by omega
    exact hk
theorem rows_eq {α:Type} {a b:List α} {z:α} {k:Nat} (hl:a.length=b.length) (hk:a.length≤k) (h:∀ j,j<k→a.getD j z=b.getD j z):a=b:=by
  apply List.ext_getElem hl
  intro j h1 h2
  have:=h j (by omega)
  simpa [List.getD_eq_getElem?_getD,List.getElem?_eq_getElem h1,List.getElem?_eq_getElem h2] using this
theorem J5 {α:Type} {l:List α} {z:α} {k:Nat} (hk:k<l.length):l.getD k z∈l:=by
  rw [List.getD_eq_getElem?_getD,List.getElem?_eq_getElem hk]
  exact List.getElem_mem hk
theorem mem_get {α:Type} {l:List α} {z e:α} {k:Nat} (hk:k<l.length) (h:l.getD k z=e):e∈l:=h ▸ J5 hk
theorem Xe7 {α:Type} {l:List α} {z e:α} {k:Nat} (hk:l.length≤k) (h:∀ j,j<k→¬l.getD j z=e):¬e∈l:=fun hm=>by
  obtain ⟨j,hj,rfl⟩:=List.getElem_of_mem hm
  refine h j (by omega) ?_
  rw [List.getD_eq_getElem?_getD,List.getElem?_eq_getElem hj];rfl
theorem X5e {α:Type} {p:α→Prop} {l:List α} {z:α} (h:∀ x,x∈l→p x) (hz:p z) (k:Nat):p (l.getD k z):=by
  rcases Nat.lt_or_ge k l.length with hk|hk
  · exact h _ (J5 hk)
  · rw [List.getD_eq_getElem?_getD,List.getElem?_eq_none hk];exact hz
theorem X9o {α β:Type} {f:β→α→β} {b:β} {z:α} {l:List α} {k:Nat} (hk:k<l.length):(l.take (k+1)).foldl f b=f ((l.take k).foldl f b) (l.getD k z):=by
  rw [Hq (z:=z) hk,List.foldl_append];rfl
def Jp {α:Type} (sz:α→Nat) (n m:Nat) (l:List α):Prop:=l.length≤n∧∀ x,x∈l→sz x≤m
instance {α:Type} (sz:α→Nat) (n m:Nat) (l:List α):Decidable (Jp sz n m l):=inferInstanceAs (Decidable (_∧∀ x,x∈l→sz x≤m))
section
variable {α:Type} {sz:α→Nat} {n m:Nat} {l:List α} {z:α} {k:Nat}
theorem Ie (hf:Jp sz n m l) (hz:sz z≤m) (k:Nat):sz (l.getD k z)≤m:=X5e hf.2 hz k
theorem mem_set {x y:α} (h:x∈l.set k y):x∈l∨x=y:=List.mem_or_eq_of_mem_set h
theorem fewG_set {y:α} (hf:Jp sz n m l) (hy:sz y≤m):Jp sz n m (l.set k y):=⟨by rw [List.length_set];exact hf.1,fun x hx=>by
  rcases mem_set hx with h|h
  · exact hf.2 x h
  · rw [h];exact hy⟩
end
end Go.Proofs.YtnaopgohccacmaaGreat.Q
namespace Go.Proofs.YtnaopgohccacmaaGreat.Q
set_option linter.unusedVariables false
set_option linter.unusedSimpArgs false
def Wr (n:Nat):Nat→List UInt8
  | 0=>[]
  | j+1=>UInt8.ofNat (n / 2 ^ (8*j))::Wr n j
theorem X2k (n:Nat):∀ m,(Wr n m).length=m
  | 0=>rfl
  | m+1=>by rw [Wr,List.length_cons,X2k n m]
theorem X8b {n j m:Nat} {acc b:List UInt8} (he:acc++Wr n j=b++Wr n m) (hj:0<j):(acc++[UInt8.ofNat (n / 2 ^ (8*(j-1)))])++Wr n (j-1)=b++Wr n m:=by
  obtain ⟨i,rfl⟩:∃ i,j=i+1:=⟨j-1,by omega⟩
  rw [← he,List.append_assoc]
  rfl
theorem Xdc {n j m:Nat} {acc b:List UInt8} (he:acc++Wr n j=b++Wr n m) (hj:0<j):(acc++[UInt8.ofNat (n / 2 ^ (8*(((j:Nat):Int)-1)).toNat)])++Wr n (j-1)=b++Wr n m:=by
  rw [show (8*(((j:Nat):Int)-1)).toNat=8*(j-1) by omega]
  exact X8b he hj
theorem Xiv {n j m:Nat} {acc b:List UInt8} (he:acc++Wr n j=b++Wr n m) (hj:j=0):acc=b++Wr n m:=by
  subst hj
  rw [← he,Wr,List.append_nil]
theorem X8c {n j m:Nat} {acc b:List UInt8} (he:acc++Wr n j=b++Wr n m):acc.length+j=b.length+m:=by
  have:=congrArg List.length he
  simpa [X2k] using this
def Vd (l:List UInt8):Nat:=l.foldl (fun n b=>n*2 ^ 8 ||| b.toNat) 0
theorem or_byte (n:Nat) (b:UInt8):n*2 ^ 8 ||| b.toNat=n*256+b.toNat:=by
  have h:=UInt8.toNat_lt b
  rw [← Nat.shiftLeft_eq,← Nat.shiftLeft_add_eq_or_of_lt (i:=8) (by omega),Nat.shiftLeft_eq]
theorem Xe6:∀ (l:List UInt8) (a m:Nat),a<256 ^ m→l.foldl (fun n b=>n*2 ^ 8 ||| b.toNat) a<256 ^ (m+l.length)
  | [],a,m,h=>h
  | b::l,a,m,h=>by
    rw [List.foldl_cons,or_byte,List.length_cons,show m+(l.length+1)=(m+1)+l.length by omega]
    refine Xe6 l _ (m+1) ?_
    rw [Nat.pow_succ]
    have:=UInt8.toNat_lt b
    omega
theorem Xcd (l:List UInt8):Vd l<256 ^ l.length:=by
  have:=Xe6 l 0 0 (by decide)
  rwa [Nat.zero_add] at this
theorem X1t {l:List UInt8} (h:l.length≤8):Vd l<18446744073709551616:=Nat.lt_of_lt_of_le (Xcd l) p46
theorem Xe5 {l:List UInt8} (h:l.length≤7):Vd l<72057594037927936:=Nat.lt_of_lt_of_le (Xcd l) p46
theorem X4u {l:List UInt8} (h:l.length≤4):Vd l<4294967296:=Nat.lt_of_lt_of_le (Xcd l) p46
theorem Xb6 {l:List UInt8} {k:Nat} (hk:k<l.length):Vd (l.take (k+1))=Vd (l.take k)*2 ^ 8 ||| (l.getD k 0).toNat:=by
  rw [Hq (z:=0) hk]
  unfold Vd
  rw [List.foldl_append]
  rfl
def X56 (n:Int):Nat:=(min (max n 0) 4294967295).toNat
theorem Xi8 (n:Int):X56 n<4294967296:=by unfold X56;omega
def Yx (n:Int):List UInt8:=Wr (u64 n) 8
def U7 (n:Int):List UInt8:=Wr (X56 n) 4
def W3 (x:List UInt8):List UInt8:=U7 ((x.length:Nat):Int)++x
theorem Wq (n:Int):(Yx n).length=8:=X2k _ _
theorem Ik (n:Int):(U7 n).length=4:=X2k _ _
theorem Vg (x:List UInt8):(W3 x).length=x.length+4:=by rw [W3,List.length_append,Ik];omega
end Go.Proofs.YtnaopgohccacmaaGreat.Q
namespace Go.Proofs.YtnaopgohccacmaaGreat.Q
set_option linter.unusedVariables false
set_option linter.unusedSimpArgs false
def okT (rest:List UInt8) (e n m:Int):Prop:=e=0∧n≤((rest.length:Nat):Int)∧m=0
instance (rest:List UInt8) (e n m:Int):Decidable (okT rest e n m):=inferInstanceAs (Decidable (_∧_∧_))
def rdR (rest:List UInt8) (e n m:Int):List UInt8:=if okT rest e n m then rest.drop n.toNat else rest
def rdE (rest:List UInt8) (e n m:Int):Int:=if e≠0 then e else if n>((rest.length:Nat):Int) then 10 else m
theorem X96 {rest:List UInt8} {e n m:Int} (h:okT rest e n m):rdE rest e n m=0:=by
  obtain ⟨h1,h2,h3⟩:=h
  unfold rdE
  rw [if_neg (by omega),if_neg (by omega),h3]
theorem Xg5 {rest:List UInt8} {e n m:Int} (h:¬okT rest e n m):rdE rest e n m≠0:=by
  unfold rdE
  split
  · assumption
  · split
    · decide
    · exact fun hm=>h ⟨by omega,by omega,hm⟩
theorem X95 {rest:List UInt8} {e n m:Int} (h:okT rest e n m):rdR rest e n m=rest.drop n.toNat:=if_pos h
theorem Xg4 {rest:List UInt8} {e n m:Int} (h:¬okT rest e n m):rdR rest e n m=rest:=if_neg h
def Yu (most:Int) (b:List UInt8):Int:=if ((Vd b:Nat):Int)>max most 0 then 11 else 0
def rdI (rest:List UInt8) (e:Int):Int:=if okT rest e 8 0 then X36 (Vd (rest.take 8)) else 0
def rdC (rest:List UInt8) (e most:Int):Nat:=if okT rest e 4 (Yu most (rest.take 4)) then Vd (rest.take 4) else 0
def okY (rest:List UInt8) (e most:Int):Prop:=okT rest e 4 (Yu most (rest.take 4))∧Vd (rest.take 4)≤(rest.drop 4).length
instance (rest:List UInt8) (e most:Int):Decidable (okY rest e most):=inferInstanceAs (Decidable (_∧_))
def rdY (rest:List UInt8) (e most:Int):List UInt8:=if okY rest e most then (rest.drop 4).take (Vd (rest.take 4)) else []
def Vw (rest:List UInt8) (e most:Int):List UInt8:=if okY rest e most then (rest.drop 4).drop (Vd (rest.take 4)) else rest
def V5 (rest:List UInt8) (e most:Int):Int:=if okT rest e 4 (Yu most (rest.take 4)) then (if Vd (rest.take 4)≤(rest.drop 4).length then 0 else 10) else rdE rest e 4 (Yu most (rest.take 4))
def rdX (rest:List UInt8) (e:Int):Int:=if e=0∧((rest.length:Nat):Int)>0 then 13 else e
theorem X5s {rest:List UInt8} {e most:Int} (h:okT rest e 4 (Yu most (rest.take 4))):rdC rest e most=Vd (rest.take 4):=if_pos h
theorem rdC_lt (rest:List UInt8) (e most:Int):rdC rest e most<4294967296:=by
  unfold rdC;split
  · exact X4u (by simp;omega)
  · decide
theorem U3 (rest:List UInt8) (e n m:Int):(rdR rest e n m).length≤rest.length:=by unfold rdR;split<;>simp
section
variable {rest:List UInt8} {e most:Int}
theorem X5y {n m:Int} (h:rdE rest e n m=0):okT rest e n m:=Classical.byContradiction fun hn=>Xg5 hn h
theorem rdY_fail (h:rdE rest e 4 (Yu most (rest.take 4))≠0):rdY rest e most=[]∧Vw rest e most=rest∧V5 rest e most=rdE rest e 4 (Yu most (rest.take 4))∧rdR rest e 4 (Yu most (rest.take 4))=rest:=by
  have h1:¬okT rest e 4 (Yu most (rest.take 4)):=fun hk=>h (X96 hk)
  exact ⟨if_neg fun h2=>h1 h2.1,if_neg fun h2=>h1 h2.1,if_neg h1,Xg4 h1⟩
theorem X94 (h:rdE rest e 4 (Yu most (rest.take 4))=0):okT (rdR rest e 4 (Yu most (rest.take 4))) (rdE rest e 4 (Yu most (rest.take 4))) ((rdC rest e most:Nat):Int) 0↔okY rest e most:=by
  have h1:=X5y h
  rw [X95 h1,X5s h1,h]
  show okT (rest.drop 4) 0 _ 0↔_
  unfold okT okY
  constructor
  · exact fun h2=>⟨h1,by have:=h2.2.1;omega⟩
  · exact fun h2=>⟨rfl,by have:=h2.2;omega,rfl⟩
theorem rdY_ok (h:rdE rest e 4 (Yu most (rest.take 4))=0) (h2:okT (rdR rest e 4 (Yu most (rest.take 4))) (rdE rest e 4 (Yu most (rest.take 4))) ((rdC rest e most:Nat):Int) 0) :
    rdY rest e most=(rdR rest e 4 (Yu most (rest.take 4))).take (((rdC rest e most:Nat):Int)).toNat∧Vw rest e most=(rdR rest e 4 (Yu most (rest.take 4))).drop (((rdC rest e most:Nat):Int)).toNat∧V5 rest e most=0:=by
  have h1:=X5y h
  have h3:=(X94 h).1 h2
  rw [X95 h1,X5s h1]
  refine ⟨(if_pos h3).trans rfl,(if_pos h3).trans rfl,?_⟩
  unfold V5
  rw [if_pos h1,if_pos h3.2]
theorem Xj1 (h:rdE rest e 4 (Yu most (rest.take 4))=0) (h2:¬okT (rdR rest e 4 (Yu most (rest.take 4))) (rdE rest e 4 (Yu most (rest.take 4))) ((rdC rest e most:Nat):Int) 0) :
    rdY rest e most=[]∧Vw rest e most=rest∧V5 rest e most=rdE (rdR rest e 4 (Yu most (rest.take 4))) (rdE rest e 4 (Yu most (rest.take 4))) ((rdC rest e most:Nat):Int) 0:=by
  have h1:=X5y h
  have h3:¬okY rest e most:=fun h4=>h2 ((X94 h).2 h4)
  refine ⟨if_neg h3,if_neg h3,?_⟩
  unfold V5
  have h4:¬Vd (rest.take 4)≤(rest.drop 4).length:=fun h5=>h3 ⟨h1,h5⟩
  rw [if_pos h1,if_neg h4,h,X95 h1,X5s h1]
  show (10:Int)=rdE (rest.drop 4) 0 _ 0
  unfold rdE
  rw [if_neg (by decide),if_pos (by omega)]
end
theorem X0i (rest:List UInt8) (e most:Int):(rdY rest e most).length≤rest.length:=by unfold rdY;split<;>simp<;>omega
theorem X1n (rest:List UInt8) (e most:Int):(Vw rest e most).length≤rest.length:=by unfold Vw;split<;>simp<;>omega
end Go.Proofs.YtnaopgohccacmaaGreat.Q
namespace Go.Proofs.YtnaopgohccacmaaGreat.Q
set_option linter.unusedVariables false
set_option linter.unusedSimpArgs false
def rfN (B:List UInt8) (a m:Nat):Nat:=if a+m≤B.length then Vd ((B.drop a).take m) else 0
def rfA (B:List UInt8) (a:Nat) (e n m:Int):Nat:=if okT (B.drop a) e n m then a+n.toNat else a
section
variable {B:List UInt8} {a:Nat} {e n m:Int}
theorem Xbw {m:Nat} (h:a+m≤B.length):rfN B a m=Vd ((B.drop a).take m):=if_pos h
theorem rfN_lt (B:List UInt8) (a:Nat) {m:Nat} (hm:m≤8):rfN B a m<18446744073709551616:=by
  unfold rfN;split
  · exact X1t (Nat.le_trans (List.length_take_le _ _) hm)
  · decide
theorem rfN_lt4 (B:List UInt8) (a:Nat):rfN B a 4<4294967296:=by
  unfold rfN;split
  · exact X4u (List.length_take_le _ _)
  · decide
theorem Xgc {k:Nat} (hk:a+k<B.length):Vd ((B.drop a).take (k+1))=Vd ((B.drop a).take k)*2 ^ 8 ||| (B.getD (a+k) 0).toNat:=by
  rw [Xb6 (by simp;omega)]
  congr 2
  simp [List.getD_eq_getElem?_getD]
theorem X8o (h:okT (B.drop a) e n m):rfA B a e n m=a+n.toNat:=if_pos h
theorem rfA_no (h:¬okT (B.drop a) e n m):rfA B a e n m=a:=if_neg h
theorem Xfu (ha:a≤B.length):rfA B a e n m≤B.length:=by
  unfold rfA;split
  · rename_i h
    have:=h.2.1
    rw [List.length_drop] at this
    omega
  · exact ha
theorem rf_e (h:e≠0) (n m:Int):¬okT (B.drop a) e n m∧rdE (B.drop a) e n m=e:=⟨fun h1=>h h1.1,if_pos h⟩
theorem Xdj {k:Nat} (hn:n=((k:Nat):Int)) (he:¬e≠0) (h:¬a+k≤B.length) (ha:a≤B.length) (m:Int):¬okT (B.drop a) e n m∧rdE (B.drop a) e n m=10:=by
  have hl:(B.drop a).length=B.length-a:=List.length_drop
  subst hn
  refine ⟨fun h1=>?_,?_⟩
  · have:=h1.2.1;omega
  · unfold rdE
    rw [if_neg he,if_pos (by omega)]
theorem rf_m {k:Nat} {c:Int} (hn:n=((k:Nat):Int)) (he:¬e≠0) (h:a+k≤B.length) {m:Int} (hm:m=c) (hc:c≠0):¬okT (B.drop a) e n m∧rdE (B.drop a) e n m=c:=by
  have hl:(B.drop a).length=B.length-a:=List.length_drop
  subst hn
  subst hm
  refine ⟨fun h1=>hc h1.2.2,?_⟩
  unfold rdE
  rw [if_neg he,if_neg (by omega)]
theorem rf_ok {k:Nat} (hn:n=((k:Nat):Int)) (he:¬e≠0) (h:a+k≤B.length) {m:Int} (hm:m=0):okT (B.drop a) e n m∧rdE (B.drop a) e n m=0:=by
  have hl:(B.drop a).length=B.length-a:=List.length_drop
  subst hn
  have hk:okT (B.drop a) e ((k:Nat):Int) m:=⟨Classical.not_not.1 he,by omega,hm⟩
  exact ⟨hk,X96 hk⟩
theorem lim_of {most:Int} (h:a+4≤B.length):Yu most ((B.drop a).take 4)=if ((rfN B a 4:Nat):Int)>max 0 most then 11 else 0:=by
  unfold Yu
  rw [Xbw h,Int.max_comm]
end
def H6 (B:List UInt8) (a:Nat) (e most:Int):Nat:=if okY (B.drop a) e most then a+4+Vd ((B.drop a).take 4) else a
section
variable {B:List UInt8} {a:Nat} {e most:Int}
theorem X5o (B:List UInt8) (a:Nat) (e most:Int):B.drop (H6 B a e most)=Vw (B.drop a) e most:=by
  unfold H6 Vw
  split
  · rw [List.drop_drop,List.drop_drop,Nat.add_assoc]
  · rfl
theorem Xdk (B:List UInt8) (a:Nat) (e n m:Int):B.drop (rfA B a e n m)=rdR (B.drop a) e n m:=by
  unfold rfA rdR
  split
  · rw [List.drop_drop]
  · rfl
theorem Xbv (ha:a≤B.length):H6 B a e most≤B.length:=by
  unfold H6;split
  · rename_i h
    have h1:=h.1.2.1
    have h2:=h.2
    simp only [List.length_drop] at h1 h2
    omega
  · exact ha
theorem rfY_fail (h:rdE (B.drop a) e 4 (Yu most ((B.drop a).take 4))≠0):rdY (B.drop a) e most=[]∧H6 B a e most=a∧V5 (B.drop a) e most=rdE (B.drop a) e 4 (Yu most ((B.drop a).take 4))∧rfA B a e 4 (Yu most ((B.drop a).take 4))=a:=by
  have h1:¬okT (B.drop a) e 4 (Yu most ((B.drop a).take 4)):=fun hk=>h (X96 hk)
  exact ⟨if_neg fun h2=>h1 h2.1,if_neg fun h2=>h1 h2.1,if_neg h1,rfA_no h1⟩
theorem Xix (h:rdE (B.drop a) e 4 (Yu most ((B.drop a).take 4))=0) (h2:((rdC (B.drop a) e most:Nat):Int)>((B.length:Nat):Int)-((rfA B a e 4 (Yu most ((B.drop a).take 4)):Nat):Int)) (ha:a≤B.length) :
    rdY (B.drop a) e most=[]∧H6 B a e most=a∧V5 (B.drop a) e most=10:=by
  have h1:=X5y h
  have h4:a+4≤B.length:=by have:=h1.2.1;rw [List.length_drop] at this;omega
  rw [X5s h1,X8o h1] at h2
  have h3:¬Vd ((B.drop a).take 4)≤((B.drop a).drop 4).length:=by simp only [List.length_drop];omega
  refine ⟨if_neg fun hy=>h3 hy.2,if_neg fun hy=>h3 hy.2,?_⟩
  unfold V5
  rw [if_pos h1,if_neg h3]
theorem rfY_ok (h:rdE (B.drop a) e 4 (Yu most ((B.drop a).take 4))=0) (h2:¬((rdC (B.drop a) e most:Nat):Int)>((B.length:Nat):Int)-((rfA B a e 4 (Yu most ((B.drop a).take 4)):Nat):Int)) (ha:a≤B.length) :
    rfA B a e 4 (Yu most ((B.drop a).take 4))=a+4∧rdC (B.drop a) e most=Vd ((B.drop a).take 4)∧a+4+Vd ((B.drop a).take 4)≤B.length∧rdY (B.drop a) e most=(B.take (a+4+Vd ((B.drop a).take 4))).drop (a+4)∧H6 B a e most=a+4+Vd ((B.drop a).take 4)∧V5 (B.drop a) e most=0:=by
  have h1:=X5y h
  have h4:a+4≤B.length:=by have:=h1.2.1;rw [List.length_drop] at this;omega
  rw [X5s h1,X8o h1] at h2
  have h3:Vd ((B.drop a).take 4)≤((B.drop a).drop 4).length:=by simp only [List.length_drop];omega
  have hy:okY (B.drop a) e most:=⟨h1,h3⟩
  refine ⟨X8o h1,X5s h1,by simp only [List.length_drop] at h3;omega,?_,if_pos hy,?_⟩
  · rw [rdY,if_pos hy,List.drop_drop,List.drop_take,show a+4+Vd ((B.drop a).take 4)-(a+4)=Vd ((B.drop a).take 4) by omega]
  · unfold V5
    rw [if_pos h1,if_pos h3]
end
end Go.Proofs.YtnaopgohccacmaaGreat.Q
namespace Go.Proofs.YtnaopgohccacmaaGreat.Q
set_option linter.unusedVariables false
set_option linter.unusedSimpArgs false
def szP (l:List (List UInt8)):Nat:=l.foldl (fun n p=>n+(4+p.length)) 5
theorem szP_ge (l:List (List UInt8)):∀ n,n≤l.foldl (fun n p=>n+(4+p.length)) n:=by
  induction l with
  | nil=>exact fun n=>Nat.le_refl _
  | cons p r ih=>exact fun n=>Nat.le_trans (show n≤n+(4+p.length) by omega) (ih _)
theorem Es (l:List (List UInt8)) (k:Nat):szP (l.take k)≤szP l:=by
  have h:szP l=(l.drop k).foldl (fun n p=>n+(4+p.length)) (szP (l.take k)):=by
    unfold szP
    rw [← List.foldl_append,List.take_append_drop]
  rw [h]
  exact szP_ge _ _
theorem X47 {l:List (List UInt8)} {k:Nat} (hk:k<l.length):szP (l.take (k+1))=szP (l.take k)+(4+(l.getD k []).length):=X9o hk
theorem szP_len (l:List (List UInt8)):∀ n,n+4*l.length≤l.foldl (fun n p=>n+(4+p.length)) n:=by
  induction l with
  | nil=>exact fun n=>by simp
  | cons p r ih=>exact fun n=>by have:=ih (n+(4+p.length));simp only [List.foldl_cons,List.length_cons];omega
theorem Xas (l:List (List UInt8)):l.length≤szP l:=by have:=szP_len l 5;unfold szP;omega
def X5u (l:List (List UInt8)):List UInt8:=l.flatMap W3
def ofR (t:UInt8) (n:Nat) (l:List (List UInt8)):List UInt8:=[t]++U7 ((n:Nat):Int)++X5u l
def ofB (t:UInt8) (l:List (List UInt8)):List UInt8:=ofR t l.length l
theorem Xcc (t:UInt8) (n:Nat) (l:List (List UInt8)):(ofR t n l).length=szP l:=by
  have h:∀ (l:List (List UInt8)) (n:Nat),l.foldl (fun n p=>n+(4+p.length)) n=n+(X5u l).length:=by
    intro l
    induction l with
    | nil=>intro n;simp [X5u]
    | cons p r ih =>
      intro n
      have e:X5u (p::r)=W3 p++X5u r:=rfl
      rw [List.foldl_cons,ih,e,List.length_append,Vg]
      omega
  unfold szP
  rw [h,ofR,List.length_append,List.length_append,Ik]
  simp
theorem X2p (t:UInt8) (l:List (List UInt8)):(ofB t l).length=szP l:=Xcc _ _ _
theorem X4t {t:UInt8} {n k:Nat} {l:List (List UInt8)} (hk:k<l.length):ofR t n (l.take (k+1))=ofR t n (l.take k)++W3 (l.getD k []):=by
  rw [Hq (z:=[]) hk]
  simp [ofR,X5u,List.flatMap_append]
theorem Xhs (t:UInt8) (l:List (List UInt8)):ofR t l.length (l.take l.length)=ofB t l:=by rw [List.take_length];rfl
end Go.Proofs.YtnaopgohccacmaaGreat.Q
namespace Go.Proofs.YtnaopgohccacmaaGreat.Q
set_option linter.unusedVariables false
set_option linter.unusedSimpArgs false
def szL (x:List UInt8):Nat:=x.length
theorem X9i (s:UInt8) (a:List UInt8):(ofB s [a]).length=9+a.length:=by rw [X2p];show 5+(4+a.length)=_;omega
theorem Xe0 (s:UInt8) (a b:List UInt8):(ofB s [a,b]).length=13+a.length+b.length:=by rw [X2p];show 5+(4+a.length)+(4+b.length)=_;omega
end Go.Proofs.YtnaopgohccacmaaGreat.Q
namespace Go.Proofs.YtnaopgohccacmaaGreat.Q
set_option linter.unusedVariables false
set_option linter.unusedSimpArgs false
set_option maxRecDepth 100000
abbrev Lv:=List (List UInt8)
theorem X7l {a b:Int} (hb:0<b):-b<a.tmod b∧a.tmod b<b:=by
  have h1:=Int.tmod_lt_of_pos a hb
  refine ⟨?_,h1⟩
  have h2:=Int.tmod_lt_of_pos (-a) hb
  rw [Int.neg_tmod] at h2
  omega
theorem Xjn {α:Type} {sz:α→Nat} {n m m':Nat} {l:List α} (h:Jp sz n m l) (hm:m≤m'):Jp sz n m' l:=⟨h.1,fun x hx=>Nat.le_trans (h.2 x hx) hm⟩
def X1y (x:Nat):Nat:=if x=0 then 0 else Nat.log2 x+1
theorem X9h {x:Nat} (h:0<x):X1y x=Nat.log2 x+1:=if_neg (by omega)
theorem log2_div {x s:Nat} (h:2 ^ s≤x):Nat.log2 x=s+Nat.log2 (x / 2 ^ s):=by
  have hp:0<2 ^ s:=Nat.pow_pos (by decide)
  have hq:x / 2 ^ s≠0:=by have:=Nat.div_pos h hp;omega
  have hx:x≠0:=by omega
  rw [Nat.log2_eq_iff hx]
  have h1:=Nat.log2_self_le hq
  have h2:=@Nat.lt_log2_self (x / 2 ^ s)
  rw [Nat.pow_add,Nat.add_assoc,Nat.pow_add]
  have h3:=Nat.div_add_mod x (2 ^ s)
  have h4:=Nat.mod_lt x hp
  constructor
  · exact Nat.le_trans (Nat.mul_le_mul_left _ h1) (by omega)
  · have h5:2 ^ s*(x / 2 ^ s+1)≤2 ^ s*2 ^ (Nat.log2 (x / 2 ^ s)+1):=Nat.mul_le_mul_left _ h2
    rw [Nat.mul_add] at h5
    omega
theorem Fo {x s:Nat} (h:2 ^ s≤x):X1y x=s+X1y (x / 2 ^ s):=by
  have hp:0<2 ^ s:=Nat.pow_pos (by decide)
  have hq:=Nat.div_pos h hp
  rw [X9h (by omega),X9h hq,log2_div h]
  omega
def half (n:Nat):Nat:=2 ^ Nat.log2 (n-1)
theorem Jo {n:Nat} (h:2≤n):half n<n:=by
  have:=Nat.log2_self_le (n:=n-1) (by omega)
  unfold half
  omega
theorem J4 (n:Nat):0<half n:=Nat.pow_pos (by decide)
theorem half_ge {n:Nat} (h:2≤n):n≤2*half n:=by
  have:=@Nat.lt_log2_self (n-1)
  unfold half
  rw [Nat.pow_succ] at this
  omega
theorem half_of {n K:Nat} (hp:∃ j,K=2 ^ j) (h1:K<n) (h2:n≤2*K):half n=K:=by
  obtain ⟨j,rfl⟩:=hp
  unfold half
  have:Nat.log2 (n-1)=j:=by
    have hp:0<2 ^ j:=Nat.pow_pos (by decide)
    rw [Nat.log2_eq_iff (by omega),Nat.pow_succ]
    omega
  rw [this]
theorem Xem {n:Nat} (h:2≤n):n-half n≤half n:=by have:=half_ge h;omega
theorem X25 {n f:Nat} (h:n≤2 ^ (f+1)) (h2:2≤n):half n≤2 ^ f:=by
  unfold half
  have h1:Nat.log2 (n-1)<f+1:=(Nat.log2_lt (by omega)).2 (by omega)
  exact Nat.pow_le_pow_right (by decide) (by omega)
theorem Ig {α:Type} {sz:α→Nat} {n m:Nat} {l:List α} (h:Jp sz n m l) (k:Nat):Jp sz n m (l.take k):=⟨by have:=h.1;rw [List.length_take];omega,fun x hx=>h.2 x (List.mem_of_mem_take hx)⟩
theorem Jy {α:Type} {sz:α→Nat} {n m:Nat} {l:List α} (h:Jp sz n m l) (k:Nat):Jp sz n m (l.drop k):=⟨by have:=h.1;rw [List.length_drop];omega,fun x hx=>h.2 x (List.mem_of_mem_drop hx)⟩
def E4:Nat→Lv→List UInt8
  | 0,_=>ofB 4 []
  | f+1,l=>if l.length=0 then ofB 4 [] else if l.length=1 then ofB 2 [l.getD 0 []] else ofB 3 [E4 f (l.take (half l.length)),E4 f (l.drop (half l.length))]
def W7 (l:Lv):List UInt8:=E4 l.length l
theorem X1g:∀ (f g:Nat) (l:Lv),l.length≤f→l.length≤g→E4 f l=E4 g l
  | 0,0,_,_,_=>rfl
  | 0,g+1,l,h,_=>by rw [E4,E4,if_pos (by omega)]
  | f+1,0,l,_,h=>by rw [E4,E4,if_pos (by omega)]
  | f+1,g+1,l,h1,h2=>by
    rw [E4,E4]
    split
    · rfl
    · split
      · rfl
      · have hh:=Jo (n:=l.length) (by omega)
        have hp:=J4 l.length
        rw [X1g f g (l.take (half l.length)) p1z p1z,X1g f g (l.drop (half l.length)) p2d p2d]
theorem Xfs {l:Lv} (h:l.length=0):W7 l=ofB 4 []:=by unfold W7;rw [h,E4]
theorem Xbt {l:Lv} (h:l.length=1):W7 l=ofB 2 [l.getD 0 []]:=by unfold W7;rw [h,E4,if_neg (by omega),if_pos h]
theorem X8n {l:Lv} (h:2≤l.length):W7 l=ofB 3 [W7 (l.take (half l.length)),W7 (l.drop (half l.length))]:=by
  have hh:=Jo h
  have hp:=J4 l.length
  obtain ⟨f,hf⟩:∃ f,l.length=f+1:=⟨l.length-1,by omega⟩
  unfold W7
  rw [X1g l.length (f+1) l (by omega) (by omega),E4,if_neg (by omega),if_neg (by omega)]
  rw [X1g f _ (l.take (half l.length)) p1z (Nat.le_refl _),X1g f _ (l.drop (half l.length)) p2d (Nat.le_refl _)]
theorem root_len:∀ (N:Nat) (l:Lv),l.length=N→1≤l.length→(∀ x,x∈l→x.length≤600)→(W7 l).length+13≤635*l.length:=by
  intro N
  induction N using Nat.strongRecOn with
  | _ N ih =>
    intro l hN h1 hx
    rcases Nat.lt_or_ge l.length 2 with h2|h2
    · rw [Xbt (by omega),X9i]
      have:=X5e (z:=[]) hx (by decide) 0
      omega
    · have hh:=Jo h2
      have hp:=J4 l.length
      have h1:=ih (l.take (half l.length)).length p1z _ rfl p1z (fun x h=>hx x (List.mem_of_mem_take h))
      have h3:=ih (l.drop (half l.length)).length p2d _ rfl p2d (fun x h=>hx x (List.mem_of_mem_drop h))
      rw [X8n h2,Xe0]
      rw [List.length_take] at h1
      rw [List.length_drop] at h3
      omega
theorem Ug {l:Lv} (hf:Jp szL 40 600 l):(W7 l).length≤25400:=by
  by_cases h0:l.length=0
  · rw [Xfs h0];decide
  · have h1:=root_len _ l rfl (by omega) hf.2
    have:=hf.1
    omega
def Yr:List UInt8:=[0,1,2,2,3,3,3,3,4,4,4,4,4,4,4,4,5,5,5,5,5,5,5,5,5,5,5,5,5,5,5,5,6,6,6,6,6,6,6,6,6,6,6,6,6,6,6,6,6,6,6,6,6,6,6,6,6,6,6,6,6,6,6,6,7,7,7,7,7,7,7,7,7,7,7,7,7,7,7,7,7,7,7,7,7,7,7,7,7,7,7,7,7,7,7,7,7,7,7,7,7,7,7,7,7,7,7,7,7,7,7,7,7,7,7,7,7,7,7,7,7,7,7,7,7,7,7,7,8,8,8,8,8,8,8,8,8,8,8,8,8,8,8,8,8,8,8,8,8,8,8,8,8,8,8,8,8,8,8,8,8,8,8,8,8,8,8,8,8,8,8,8,8,8,8,8,8,8,8,8,8,8,8,8,8,8,8,8,8,8,8,8,8,8,8,8,8,8,8,8,8,8,8,8,8,8,8,8,8,8,8,8,8,8,8,8,8,8,8,8,8,8,8,8,8,8,8,8,8,8,8,8,8,8,8,8,8,8,8,8,8,8,8,8,8,8,8,8,8,8,8,8,8,8,8,8]
theorem len8_len:Yr.length=256:=rfl
theorem len8_all:∀ x,x<256→(Yr.getD x 0).toNat=X1y x:=by decide +kernel
theorem len8 {x:Nat} (h:x<256):(Yr.getD (UInt8.ofNat x).toNat 0).toNat=X1y x:=by
  have:(UInt8.ofNat x).toNat=x:=by rw [UInt8.toNat_ofNat'];omega
  rw [this]
  exact len8_all x h
theorem log_le {n:Nat} (h:n≤9223372036854775807) (h2:2≤n):Nat.log2 (n-1)≤62:=by
  have h1:Nat.log2 (n-1)<63:=(Nat.log2_lt (by omega)).2 (by have:(2:Nat) ^ 63=9223372036854775808:=(by decide);omega)
  omega
theorem shl_half {n:Nat} (h:n≤9223372036854775807) (h2:2≤n):IntKind.i64.wrap (1*2 ^ Nat.log2 (n-1))=((half n:Nat):Int):=by
  have h1:=Jo h2
  have h3:(1:Int)*2 ^ Nat.log2 (n-1)=((half n:Nat):Int):=by unfold half;simp
  rw [h3,IntKind.wrap_i64]
  omega
end Go.Proofs.YtnaopgohccacmaaGreat.Q
