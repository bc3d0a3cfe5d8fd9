import Derived.Test.YthnefnknoahbkaaGreatC18p
import Derived.Shelf.Sort.Plain
import Derived.Shelf.Slices.In.SortNone
namespace Go.Proofs.YthnefnknoahbkaaGreat.Q
set_option linter.unusedVariables false
set_option linter.unusedSimpArgs false
def Fu (n:Int):Prop:=-9223372036854775808≤n∧n≤9223372036854775807
theorem Ic {α:Type} {z:α} {l:List α} {k:Nat} (hk:k<l.length):l.take (k+1)=l.take k++[l.getD k z]:=by
  rw [List.take_add_one,List.getD_eq_getElem?_getD,List.getElem?_eq_getElem hk];rfl
theorem Ju {P:Nat→Prop} {k:Nat} (h:∀ j,j<k→P j) (hk:P k):∀ j,j<k+1→P j:=fun j hj=>by
  rcases Nat.lt_or_ge j k with h1|h1
  · exact h j h1
  · obtain rfl:j=k:=by omega
    exact hk
theorem rows_eq {α:Type} {a b:List α} {z:α} {k:Nat} (hl:a.length=b.length) (hk:a.length≤k) (h:∀ j,j<k→a.getD j z=b.getD j z):a=b:=by
  apply List.ext_getElem hl
  intro j h1 h2
  have:=h j (by omega)
  simpa [List.getD_eq_getElem?_getD,List.getElem?_eq_getElem h1,List.getElem?_eq_getElem h2] using this
theorem Vn {α:Type} {l:List α} {z:α} {k:Nat} (hk:k<l.length):l.getD k z∈l:=by
  rw [List.getD_eq_getElem?_getD,List.getElem?_eq_getElem hk]
  exact List.getElem_mem hk
theorem mem_get {α:Type} {l:List α} {z e:α} {k:Nat} (hk:k<l.length) (h:l.getD k z=e):e∈l:=h ▸ Vn hk
theorem Xaj {α:Type} {l:List α} {z e:α} {k:Nat} (hk:l.length≤k) (h:∀ j,j<k→¬l.getD j z=e):¬e∈l:=fun hm=>by
  obtain ⟨j,hj,rfl⟩:=List.getElem_of_mem hm
  refine h j (by omega) ?_
  rw [List.getD_eq_getElem?_getD,List.getElem?_eq_getElem hj];rfl
section
variable {α:Type} {sz:α→Nat} {n m:Nat} {l:List α} {z:α} {k:Nat}
end
end Go.Proofs.YthnefnknoahbkaaGreat.Q
namespace Go.Proofs.YthnefnknoahbkaaGreat.Q
set_option linter.unusedVariables false
set_option linter.unusedSimpArgs false
def W7 (n:Nat):Nat→List UInt8
  | 0=>[]
  | j+1=>UInt8.ofNat (n / 2 ^ (8*j))::W7 n j
theorem X0l (n:Nat):∀ m,(W7 n m).length=m
  | 0=>rfl
  | m+1=>by rw [W7,List.length_cons,X0l n m]
theorem X5d {n j m:Nat} {acc b:List UInt8} (he:acc++W7 n j=b++W7 n m) (hj:0<j):(acc++[UInt8.ofNat (n / 2 ^ (8*(j-1)))])++W7 n (j-1)=b++W7 n m:=by
  obtain ⟨i,rfl⟩:∃ i,j=i+1:=⟨j-1,by omega⟩
  rw [← he,List.append_assoc]
  rfl
theorem Xa0 {n j m:Nat} {acc b:List UInt8} (he:acc++W7 n j=b++W7 n m) (hj:0<j):(acc++[UInt8.ofNat (n / 2 ^ (8*(((j:Nat):Int)-1)).toNat)])++W7 n (j-1)=b++W7 n m:=by
  rw [show (8*(((j:Nat):Int)-1)).toNat=8*(j-1) by omega]
  exact X5d he hj
theorem Xez {n j m:Nat} {acc b:List UInt8} (he:acc++W7 n j=b++W7 n m) (hj:j=0):acc=b++W7 n m:=by
  subst hj
  rw [← he,W7,List.append_nil]
theorem X5e {n j m:Nat} {acc b:List UInt8} (he:acc++W7 n j=b++W7 n m):acc.length+j=b.length+m:=by
  have:=congrArg List.length he
  simpa [X0l] using this
def Wy (l:List UInt8):Nat:=l.foldl (fun n b=>n*2 ^ 8 ||| b.toNat) 0
theorem or_byte (n:Nat) (b:UInt8):n*2 ^ 8 ||| b.toNat=n*256+b.toNat:=by
  have h:=UInt8.toNat_lt b
  rw [← Nat.shiftLeft_eq,← Nat.shiftLeft_add_eq_or_of_lt (i:=8) (by omega),Nat.shiftLeft_eq]
theorem Xai:∀ (l:List UInt8) (a m:Nat),a<256 ^ m→l.foldl (fun n b=>n*2 ^ 8 ||| b.toNat) a<256 ^ (m+l.length)
  | [],a,m,h=>h
  | b::l,a,m,h=>by
    rw [List.foldl_cons,or_byte,List.length_cons,show m+(l.length+1)=(m+1)+l.length by omega]
    refine Xai l _ (m+1) ?_
    rw [Nat.pow_succ]
    have:=UInt8.toNat_lt b
    omega
theorem X9a (l:List UInt8):Wy l<256 ^ l.length:=by
  have:=Xai l 0 0 (by decide)
  rwa [Nat.zero_add] at this
theorem X2i {l:List UInt8} (h:l.length≤8):Wy l<18446744073709551616:=Nat.lt_of_lt_of_le (X9a l) p3q
theorem Xah {l:List UInt8} (h:l.length≤7):Wy l<72057594037927936:=Nat.lt_of_lt_of_le (X9a l) p3q
theorem X2j {l:List UInt8} (h:l.length≤4):Wy l<4294967296:=Nat.lt_of_lt_of_le (X9a l) p3q
theorem X8a {l:List UInt8} {k:Nat} (hk:k<l.length):Wy (l.take (k+1))=Wy (l.take k)*2 ^ 8 ||| (l.getD k 0).toNat:=by
  rw [Ic (z:=0) hk]
  unfold Wy
  rw [List.foldl_append]
  rfl
def X2s (n:Int):Nat:=(min (max n 0) 4294967295).toNat
theorem Xed (n:Int):X2s n<4294967296:=by unfold X2s;omega
def Ym (n:Int):List UInt8:=W7 (u64 n) 8
def Wh (n:Int):List UInt8:=W7 (X2s n) 4
def Wl (x:List UInt8):List UInt8:=Wh ((x.length:Nat):Int)++x
theorem Yl (n:Int):(Ym n).length=8:=X0l _ _
theorem I0 (n:Int):(Wh n).length=4:=X0l _ _
theorem Wn (x:List UInt8):(Wl x).length=x.length+4:=by rw [Wl,List.length_append,I0];omega
end Go.Proofs.YthnefnknoahbkaaGreat.Q
namespace Go.Proofs.YthnefnknoahbkaaGreat.Q
set_option linter.unusedVariables false
set_option linter.unusedSimpArgs false
def okT (rest:List UInt8) (e n m:Int):Prop:=e=0∧n≤((rest.length:Nat):Int)∧m=0
instance (rest:List UInt8) (e n m:Int):Decidable (okT rest e n m):=inferInstanceAs (Decidable (_∧_∧_))
def rdR (rest:List UInt8) (e n m:Int):List UInt8:=if okT rest e n m then rest.drop n.toNat else rest
def rdE (rest:List UInt8) (e n m:Int):Int:=if e≠0 then e else if n>((rest.length:Nat):Int) then 10 else m
theorem X66 {rest:List UInt8} {e n m:Int} (h:okT rest e n m):rdE rest e n m=0:=by
  obtain ⟨h1,h2,h3⟩:=h
  unfold rdE
  rw [if_neg (by omega),if_neg (by omega),h3]
theorem Xc1 {rest:List UInt8} {e n m:Int} (h:¬okT rest e n m):rdE rest e n m≠0:=by
  unfold rdE
  split
  · assumption
  · split
    · decide
    · exact fun hm=>h ⟨by omega,by omega,hm⟩
theorem X65 {rest:List UInt8} {e n m:Int} (h:okT rest e n m):rdR rest e n m=rest.drop n.toNat:=if_pos h
theorem Xc0 {rest:List UInt8} {e n m:Int} (h:¬okT rest e n m):rdR rest e n m=rest:=if_neg h
def Yc (most:Int) (b:List UInt8):Int:=if ((Wy b:Nat):Int)>max most 0 then 11 else 0
def rdI (rest:List UInt8) (e:Int):Int:=if okT rest e 8 0 then X1y (Wy (rest.take 8)) else 0
def rdC (rest:List UInt8) (e most:Int):Nat:=if okT rest e 4 (Yc most (rest.take 4)) then Wy (rest.take 4) else 0
def okY (rest:List UInt8) (e most:Int):Prop:=okT rest e 4 (Yc most (rest.take 4))∧Wy (rest.take 4)≤(rest.drop 4).length
instance (rest:List UInt8) (e most:Int):Decidable (okY rest e most):=inferInstanceAs (Decidable (_∧_))
def rdY (rest:List UInt8) (e most:Int):List UInt8:=if okY rest e most then (rest.drop 4).take (Wy (rest.take 4)) else []
def Ia (rest:List UInt8) (e most:Int):List UInt8:=if okY rest e most then (rest.drop 4).drop (Wy (rest.take 4)) else rest
def Jb (rest:List UInt8) (e most:Int):Int:=if okT rest e 4 (Yc most (rest.take 4)) then (if Wy (rest.take 4)≤(rest.drop 4).length then 0 else 10) else rdE rest e 4 (Yc most (rest.take 4))
def rdX (rest:List UInt8) (e:Int):Int:=if e=0∧((rest.length:Nat):Int)>0 then 13 else e
theorem X36 {rest:List UInt8} {e most:Int} (h:okT rest e 4 (Yc most (rest.take 4))):rdC rest e most=Wy (rest.take 4):=if_pos h
theorem rdC_lt (rest:List UInt8) (e most:Int):rdC rest e most<4294967296:=by
  unfold rdC;split
  · exact X2j p4b
  · decide
theorem U6 (rest:List UInt8) (e n m:Int):(rdR rest e n m).length≤rest.length:=by unfold rdR;split<;>simp
section
variable {rest:List UInt8} {e most:Int}
theorem X3b {n m:Int} (h:rdE rest e n m=0):okT rest e n m:=Classical.byContradiction fun hn=>Xc1 hn h
theorem rdY_fail (h:rdE rest e 4 (Yc most (rest.take 4))≠0):rdY rest e most=[]∧Ia rest e most=rest∧Jb rest e most=rdE rest e 4 (Yc most (rest.take 4))∧rdR rest e 4 (Yc most (rest.take 4))=rest:=by
  have h1:¬okT rest e 4 (Yc most (rest.take 4)):=fun hk=>h (X66 hk)
  exact ⟨if_neg fun h2=>h1 h2.1,if_neg fun h2=>h1 h2.1,if_neg h1,Xc0 h1⟩
theorem X63 (h:rdE rest e 4 (Yc most (rest.take 4))=0):okT (rdR rest e 4 (Yc most (rest.take 4))) (rdE rest e 4 (Yc most (rest.take 4))) ((rdC rest e most:Nat):Int) 0↔okY rest e most:=by
  have h1:=X3b h
  rw [X65 h1,X36 h1,h]
  show okT (rest.drop 4) 0 _ 0↔_
  unfold okT okY
  constructor
  · exact fun h2=>⟨h1,by have:=h2.2.1;omega⟩
  · exact fun h2=>⟨rfl,by have:=h2.2;omega,rfl⟩
theorem rdY_ok (h:rdE rest e 4 (Yc most (rest.take 4))=0) (h2:okT (rdR rest e 4 (Yc most (rest.take 4))) (rdE rest e 4 (Yc most (rest.take 4))) ((rdC rest e most:Nat):Int) 0) :
    rdY rest e most=(rdR rest e 4 (Yc most (rest.take 4))).take (((rdC rest e most:Nat):Int)).toNat∧Ia rest e most=(rdR rest e 4 (Yc most (rest.take 4))).drop (((rdC rest e most:Nat):Int)).toNat∧Jb rest e most=0:=by
  have h1:=X3b h
  have h3:=(X63 h).1 h2
  rw [X65 h1,X36 h1]
  refine ⟨(if_pos h3).trans rfl,(if_pos h3).trans rfl,?_⟩
  unfold Jb
  rw [if_pos h1,if_pos h3.2]
theorem Xf9 (h:rdE rest e 4 (Yc most (rest.take 4))=0) (h2:¬okT (rdR rest e 4 (Yc most (rest.take 4))) (rdE rest e 4 (Yc most (rest.take 4))) ((rdC rest e most:Nat):Int) 0) :
    rdY rest e most=[]∧Ia rest e most=rest∧Jb rest e most=rdE (rdR rest e 4 (Yc most (rest.take 4))) (rdE rest e 4 (Yc most (rest.take 4))) ((rdC rest e most:Nat):Int) 0:=by
  have h1:=X3b h
  have h3:¬okY rest e most:=fun h4=>h2 ((X63 h).2 h4)
  refine ⟨if_neg h3,if_neg h3,?_⟩
  unfold Jb
  have h4:¬Wy (rest.take 4)≤(rest.drop 4).length:=fun h5=>h3 ⟨h1,h5⟩
  rw [if_pos h1,if_neg h4,h,X65 h1,X36 h1]
  show (10:Int)=rdE (rest.drop 4) 0 _ 0
  unfold rdE
  rw [if_neg (by decide),if_pos (by omega)]
end
theorem X4u (rest:List UInt8) (e most:Int):(rdY rest e most).length≤rest.length:=by unfold rdY;split<;>simp<;>omega
theorem X64 (rest:List UInt8) (e most:Int):(Ia rest e most).length≤rest.length:=by unfold Ia;split<;>simp<;>omega
end Go.Proofs.YthnefnknoahbkaaGreat.Q
namespace Go.Proofs.YthnefnknoahbkaaGreat.Q
set_option linter.unusedVariables false
set_option linter.unusedSimpArgs false
def rfN (B:List UInt8) (a m:Nat):Nat:=if a+m≤B.length then Wy ((B.drop a).take m) else 0
def rfA (B:List UInt8) (a:Nat) (e n m:Int):Nat:=if okT (B.drop a) e n m then a+n.toNat else a
section
variable {B:List UInt8} {a:Nat} {e n m:Int}
theorem X8w {m:Nat} (h:a+m≤B.length):rfN B a m=Wy ((B.drop a).take m):=if_pos h
theorem rfN_lt (B:List UInt8) (a:Nat) {m:Nat} (hm:m≤8):rfN B a m<18446744073709551616:=by
  unfold rfN;split
  · exact X2i (Nat.le_trans (List.length_take_le _ _) hm)
  · decide
theorem rfN_lt4 (B:List UInt8) (a:Nat):rfN B a 4<4294967296:=by
  unfold rfN;split
  · exact X2j (List.length_take_le _ _)
  · decide
theorem Xc6 {k:Nat} (hk:a+k<B.length):Wy ((B.drop a).take (k+1))=Wy ((B.drop a).take k)*2 ^ 8 ||| (B.getD (a+k) 0).toNat:=by
  rw [X8a p4b]
  congr 2
  simp [List.getD_eq_getElem?_getD]
theorem X5r (h:okT (B.drop a) e n m):rfA B a e n m=a+n.toNat:=if_pos h
theorem rfA_no (h:¬okT (B.drop a) e n m):rfA B a e n m=a:=if_neg h
theorem rfA_le (ha:a≤B.length):rfA B a e n m≤B.length:=by
  unfold rfA;split
  · rename_i h
    have:=h.2.1
    rw [List.length_drop] at this
    omega
  · exact ha
theorem rf_e (h:e≠0) (n m:Int):¬okT (B.drop a) e n m∧rdE (B.drop a) e n m=e:=⟨fun h1=>h h1.1,if_pos h⟩
theorem Xa7 {k:Nat} (hn:n=((k:Nat):Int)) (he:¬e≠0) (h:¬a+k≤B.length) (ha:a≤B.length) (m:Int):¬okT (B.drop a) e n m∧rdE (B.drop a) e n m=10:=by
  have hl:(B.drop a).length=B.length-a:=List.length_drop
  subst hn
  refine ⟨fun h1=>?_,?_⟩
  · have:=h1.2.1;omega
  · unfold rdE
    rw [if_neg he,if_pos (by omega)]
theorem rf_m {k:Nat} {c:Int} (hn:n=((k:Nat):Int)) (he:¬e≠0) (h:a+k≤B.length) {m:Int} (hm:m=c) (hc:c≠0):¬okT (B.drop a) e n m∧rdE (B.drop a) e n m=c:=by
  have hl:(B.drop a).length=B.length-a:=List.length_drop
  subst hn
  subst hm
  refine ⟨fun h1=>hc h1.2.2,?_⟩
  unfold rdE
  rw [if_neg he,if_neg (by omega)]
theorem rf_ok {k:Nat} (hn:n=((k:Nat):Int)) (he:¬e≠0) (h:a+k≤B.length) {m:Int} (hm:m=0):okT (B.drop a) e n m∧rdE (B.drop a) e n m=0:=by
  have hl:(B.drop a).length=B.length-a:=List.length_drop
  subst hn
  have hk:okT (B.drop a) e ((k:Nat):Int) m:=⟨Classical.not_not.1 he,by omega,hm⟩
  exact ⟨hk,X66 hk⟩
theorem lim_of {most:Int} (h:a+4≤B.length):Yc most ((B.drop a).take 4)=if ((rfN B a 4:Nat):Int)>max 0 most then 11 else 0:=by
  unfold Yc
  rw [X8w h,Int.max_comm]
end
def X4i (B:List UInt8) (a:Nat) (e most:Int):Nat:=if okY (B.drop a) e most then a+4+Wy ((B.drop a).take 4) else a
section
variable {B:List UInt8} {a:Nat} {e most:Int}
theorem Xf3 (B:List UInt8) (a:Nat) (e most:Int):B.drop (X4i B a e most)=Ia (B.drop a) e most:=by
  unfold X4i Ia
  split
  · rw [List.drop_drop,List.drop_drop,Nat.add_assoc]
  · rfl
theorem rfA_drop (B:List UInt8) (a:Nat) (e n m:Int):B.drop (rfA B a e n m)=rdR (B.drop a) e n m:=by
  unfold rfA rdR
  split
  · rw [List.drop_drop]
  · rfl
theorem rfYA_le (ha:a≤B.length):X4i B a e most≤B.length:=by
  unfold X4i;split
  · rename_i h
    have h1:=h.1.2.1
    have h2:=h.2
    simp only [List.length_drop] at h1 h2
    omega
  · exact ha
theorem rfY_fail (h:rdE (B.drop a) e 4 (Yc most ((B.drop a).take 4))≠0):rdY (B.drop a) e most=[]∧X4i B a e most=a∧Jb (B.drop a) e most=rdE (B.drop a) e 4 (Yc most ((B.drop a).take 4))∧rfA B a e 4 (Yc most ((B.drop a).take 4))=a:=by
  have h1:¬okT (B.drop a) e 4 (Yc most ((B.drop a).take 4)):=fun hk=>h (X66 hk)
  exact ⟨if_neg fun h2=>h1 h2.1,if_neg fun h2=>h1 h2.1,if_neg h1,rfA_no h1⟩
theorem Xf2 (h:rdE (B.drop a) e 4 (Yc most ((B.drop a).take 4))=0) (h2:((rdC (B.drop a) e most:Nat):Int)>((B.length:Nat):Int)-((rfA B a e 4 (Yc most ((B.drop a).take 4)):Nat):Int)) (ha:a≤B.length) :
    rdY (B.drop a) e most=[]∧X4i B a e most=a∧Jb (B.drop a) e most=10:=by
  have h1:=X3b h
  have h4:a+4≤B.length:=by have:=h1.2.1;rw [List.length_drop] at this;omega
  rw [X36 h1,X5r h1] at h2
  have h3:¬Wy ((B.drop a).take 4)≤((B.drop a).drop 4).length:=by simp only [List.length_drop];omega
  refine ⟨if_neg fun hy=>h3 hy.2,if_neg fun hy=>h3 hy.2,?_⟩
  unfold Jb
  rw [if_pos h1,if_neg h3]
theorem rfY_ok (h:rdE (B.drop a) e 4 (Yc most ((B.drop a).take 4))=0) (h2:¬((rdC (B.drop a) e most:Nat):Int)>((B.length:Nat):Int)-((rfA B a e 4 (Yc most ((B.drop a).take 4)):Nat):Int)) (ha:a≤B.length) :
    rfA B a e 4 (Yc most ((B.drop a).take 4))=a+4∧rdC (B.drop a) e most=Wy ((B.drop a).take 4)∧a+4+Wy ((B.drop a).take 4)≤B.length∧rdY (B.drop a) e most=(B.take (a+4+Wy ((B.drop a).take 4))).drop (a+4)∧X4i B a e most=a+4+Wy ((B.drop a).take 4)∧Jb (B.drop a) e most=0:=by
  have h1:=X3b h
  have h4:a+4≤B.length:=by have:=h1.2.1;rw [List.length_drop] at this;omega
  rw [X36 h1,X5r h1] at h2
  have h3:Wy ((B.drop a).take 4)≤((B.drop a).drop 4).length:=by simp only [List.length_drop];omega
  have hy:okY (B.drop a) e most:=⟨h1,h3⟩
  refine ⟨X5r h1,X36 h1,by simp only [List.length_drop] at h3;omega,?_,if_pos hy,?_⟩
  · rw [rdY,if_pos hy,List.drop_drop,List.drop_take,show a+4+Wy ((B.drop a).take 4)-(a+4)=Wy ((B.drop a).take 4) by omega]
  · unfold Jb
    rw [if_pos h1,if_pos h3]
end
end Go.Proofs.YthnefnknoahbkaaGreat.Q
namespace Go.Proofs.YthnefnknoahbkaaGreat.Q
set_option linter.unusedVariables false
set_option linter.unusedSimpArgs false
def fOf (f:Int):Int:=min (max f 0) 2
def cOf (c:Int):Int:=min (max c 0) 8
theorem Xcm (f:Int):0≤fOf f∧fOf f≤2:=by unfold fOf;omega
theorem Xcy (f:Int):0≤cOf f∧cOf f≤8:=by unfold cOf;omega
def Yg (f s:Int):Prop:=s≥0∧s<3*f+1
def Wb (u s:Int):Prop:=s≥1000∧s-1000<u
def U7 (f u s:Int):Prop:=Yg f s∨Wb u s
instance (f s:Int):Decidable (Yg f s):=inferInstanceAs (Decidable (_∧_))
instance (f s:Int):Decidable (Wb f s):=inferInstanceAs (Decidable (_∧_))
instance (f u s:Int):Decidable (U7 f u s):=inferInstanceAs (Decidable (_∨_))
def primaryA (f v:Int):Int:=if v<0 then 0 else v % (3*f+1)
def orgA (u s:Int):Int:=if Wb u s then (s-1000) % 4 else -1
def Hb (f u s:Int) (b:List UInt8):Int:=if U7 f u s then (if ((b.length:Nat):Int)>16777216 then 11 else 0) else 30
def W1 (f u s:Int) (b:List UInt8):aE:=if Hb f u s b=0 then ⟨s,b⟩ else zE
abbrev Tab:=List (Xv×Bool)
def Ij (f u:Int) (rows:Tab) (s:Int) (b:List UInt8):Tab:=if Hb f u s b=0 then mput rows ⟨s,b⟩ true else rows
def V5 (f u:Int) (rows:Tab) (e:aE):Int:=if U7 f u e.f_Signer then (if mhas rows ⟨e.f_Signer,e.X7⟩=true then 0 else 31) else 30
theorem X7v (f u s:Int) (b:List UInt8):(W1 f u s b).X7.length≤b.length:=by
  unfold W1
  split
  · exact Nat.le_refl _
  · exact Nat.zero_le _
def X37 (l:List aE) (e:aE):List aE:=if e∈l then l else l++[e]
def Wx (f u:Int) (l:List aE) (s:Int) (b:List UInt8):List aE:=if Hb f u s b=0 then X37 l ⟨s,b⟩ else l
def Wf (f u:Int) (l:List aE) (e:aE):Int:=if U7 f u e.f_Signer then (if e∈l then 0 else 31) else 30
def keyE (e:aE):Xv:=⟨e.f_Signer,e.X7⟩
theorem X6k {e e':aE}:keyE e=keyE e'↔e=e':=by cases e;cases e';simp [keyE]
def Wq (l:List aE):Tab:=l.map fun e=>(keyE e,true)
theorem mhas_tab (l:List aE) (e:aE):mhas (Wq l) (keyE e)=decide (e∈l):=by
  induction l with
  | nil=>simp [Wq,mhas]
  | cons a r ih =>
    simp only [Wq,List.map_cons,mhas,X6k] at ih ⊢
    by_cases h:a=e
    · simp [h]
    · have:(e=a)=False:=by simp;exact fun q=>h q.symm
      simp only [if_neg h,List.mem_cons,this,false_or]
      exact ih
theorem mput_tab (l:List aE) (e:aE):mput (Wq l) (keyE e) true=Wq (X37 l e):=by
  induction l with
  | nil=>simp [Wq,mput,X37]
  | cons a r ih =>
    by_cases h:a=e
    · subst h
      simp [Wq,mput,X37,X6k]
    · have h1:mput (Wq (a::r)) (keyE e) true=(keyE a,true)::mput (Wq r) (keyE e) true:=by
        simp only [Wq,List.map_cons,mput,X6k,if_neg h]
      rw [h1,ih]
      have h2:¬e=a:=fun q=>h q.symm
      by_cases h3:e∈r
      · simp [X37,h3,Wq]
      · simp [X37,h3,h2,Wq]
theorem Xa1 (f u:Int) (l:List aE) (s:Int) (b:List UInt8):Ij f u (Wq l) s b=Wq (Wx f u l s b):=by
  unfold Ij Wx
  split
  · exact mput_tab l ⟨s,b⟩
  · rfl
theorem Xg1 (f u:Int) (l:List aE) (e:aE):V5 f u (Wq l) e=Wf f u l e:=by
  unfold V5 Wf
  split
  · rw [show (⟨e.f_Signer,e.X7⟩:Xv)=keyE e from rfl,mhas_tab]
    simp
  · rfl
theorem putL_len (l:List aE) (e:aE):(X37 l e).length≤l.length+1:=by unfold X37;split<;>simp
theorem X7w (f u:Int) (l:List aE) (s:Int) (b:List UInt8):(Wx f u l s b).length≤l.length+1:=by
  unfold Wx;split
  · exact putL_len _ _
  · omega
end Go.Proofs.YthnefnknoahbkaaGreat.Q
namespace Go.Proofs.YthnefnknoahbkaaGreat.Q
set_option linter.unusedVariables false
set_option linter.unusedSimpArgs false
set_option maxRecDepth 100000
def J0 (a b:Int):Int:=IntKind.i64.wrap ((BitVec.ofInt 64 a &&& BitVec.ofInt 64 b).toNat:Int)
def orI (a b:Int):Int:=IntKind.i64.wrap ((BitVec.ofInt 64 a ||| BitVec.ofInt 64 b).toNat:Int)
section
variable {P:Program}
theorem X71 {t:TypeId} {a b c:Int} (h:J0 a b=c):Jv P .and t (.int .i64 a) (.int .i64 b) (.int .i64 c):=Vs (.inl fun _=>by simp) (.inl (by simp)) fun w=>by
  subst h
  rfl
theorem X4a {t:TypeId} {a b c:Int} (h:orI a b=c):Jv P .or t (.int .i64 a) (.int .i64 b) (.int .i64 c):=Vs (.inl fun _=>by simp) (.inl (by simp)) fun w=>by
  subst h
  rfl
end
def Y3 (k:Int):Uj:=if k=1 then ⟨20,0,1,7⟩ else if k=2 then ⟨75,0,1,4⟩ else if k=3 then ⟨11,0,1,7⟩ else if k=4 then ⟨11,0,1,7⟩ else if k=5 then ⟨10,0,1,7⟩ else if k=6 then ⟨323,1,0,7⟩ else if k=7 then ⟨193,1,1,7⟩ else if k=8 then ⟨37,0,1,7⟩ else if k=9 then ⟨2,0,0,7⟩ else if k=10 then ⟨256,0,1,7⟩ else if k=11 then ⟨82,0,1,7⟩ else ⟨0,0,1,7⟩
def Xg (k:Int):aH:=if k=1 then ⟨false,false,true,false,true,false,false,false,false⟩ else if k=2 then ⟨true,true,false,true,false,false,true,false,false⟩ else if k=3 then ⟨true,true,false,true,false,false,false,false,false⟩ else if k=4 then ⟨true,true,false,true,false,false,false,false,false⟩ else if k=5 then ⟨false,true,false,true,false,false,false,false,false⟩ else if k=6 then ⟨true,true,false,false,false,false,true,false,true⟩ else if k=7 then ⟨true,false,false,false,false,false,true,true,false⟩ else if k=8 then ⟨true,false,true,false,false,true,false,false,false⟩ else if k=9 then ⟨false,true,false,false,false,false,false,false,false⟩ else if k=10 then ⟨false,false,false,false,false,false,false,false,true⟩ else if k=11 then ⟨false,true,false,false,true,false,true,false,false⟩ else ⟨false,false,false,false,false,false,false,false,false⟩
def okK (k:Int):Prop:=1≤k∧k≤11
instance (k:Int):Decidable (okK k):=inferInstanceAs (Decidable (_∧_))
theorem kinds (k:Int):k=1∨k=2∨k=3∨k=4∨k=5∨k=6∨k=7∨k=8∨k=9∨k=10∨k=11∨¬okK k:=by unfold okK;omega
theorem X7x {k:Int} (h:¬okK k):Y3 k=⟨0,0,1,7⟩:=by
  unfold okK at h
  unfold Y3
  rw [if_neg (by omega),if_neg (by omega),if_neg (by omega),if_neg (by omega),if_neg (by omega),if_neg (by omega),if_neg (by omega),if_neg (by omega),if_neg (by omega),if_neg (by omega),if_neg (by omega)]
theorem Xdv {k:Int} (h:¬okK k):Xg k=⟨false,false,false,false,false,false,false,false,false⟩:=by
  unfold okK at h
  unfold Xg
  rw [if_neg (by omega),if_neg (by omega),if_neg (by omega),if_neg (by omega),if_neg (by omega),if_neg (by omega),if_neg (by omega),if_neg (by omega),if_neg (by omega),if_neg (by omega),if_neg (by omega)]
def U8 (h:aH):Nat→Bool
  | 0=>h.Xr
  | 1=>h.Xy
  | 2=>h.Xa
  | 3=>h.Xb
  | 4=>h.Xi
  | 5=>h.X1
  | 6=>h.Xe
  | 7=>h.Xp
  | 8=>h.X5
  | _=>false
def bits9 (h:aH):List Bool:=[h.Xr,h.Xy,h.Xa,h.Xb,h.Xi,h.X1,h.Xe,h.Xp,h.X5]
def bitsS (n:Int):List Bool:=[decide (J0 n 1≠0),decide (J0 n 2≠0),decide (J0 n 4≠0),decide (J0 n 8≠0),decide (J0 n 16≠0),decide (J0 n 32≠0),decide (J0 n 64≠0),decide (J0 n 128≠0),decide (J0 n 256≠0)]
theorem X5g (k:Int):bitsS (Y3 k).V4=bits9 (Xg k):=by
  rcases kinds k with h|h|h|h|h|h|h|h|h|h|h|h
  case inr.inr.inr.inr.inr.inr.inr.inr.inr.inr.inr=>rw [X7x h,Xdv h];decide +kernel
  all_goals (subst h;decide +kernel)
theorem Xeg {n:Int} {h:aH} (e:bitsS n=bits9 h):(J0 n 1=0↔¬h.Xr=true)∧(J0 n 2=0↔¬h.Xy=true)∧(J0 n 4=0↔¬h.Xa=true)∧(J0 n 8=0↔¬h.Xb=true)∧(J0 n 16=0↔¬h.Xi=true)∧(J0 n 32=0↔¬h.X1=true)∧(J0 n 64=0↔¬h.Xe=true)∧(J0 n 128=0↔¬h.Xp=true)∧(J0 n 256=0↔¬h.X5=true):=by
  unfold bitsS bits9 at e
  simp only [List.cons.injEq,and_true] at e
  obtain ⟨e1,e2,e3,e4,e5,e6,e7,e8,e9⟩:=e
  have key:∀ {x:Int} {b:Bool},decide (x≠0)=b→(x=0↔¬b=true):=fun {x b} q=>by subst q;simp
  exact ⟨key e1,key e2,key e3,key e4,key e5,key e6,key e7,key e8,key e9⟩
theorem X52 {k:Int} {j:Nat} (hj:j≤8):J0 (Y3 k).V4 ((2 ^ j:Nat):Int)=0↔¬U8 (Xg k) j=true:=by
  obtain ⟨e1,e2,e3,e4,e5,e6,e7,e8,e9⟩:=Xeg (X5g k)
  rcases (by omega:j=0∨j=1∨j=2∨j=3∨j=4∨j=5∨j=6∨j=7∨j=8) with h|h|h|h|h|h|h|h|h<;>subst h<;>assumption
theorem X95 {j:Nat} (hj:j≤9):((2 ^ j:Nat):Int)≤256↔j≤8:=by
  rcases (by omega:j=0∨j=1∨j=2∨j=3∨j=4∨j=5∨j=6∨j=7∨j=8∨j=9) with h|h|h|h|h|h|h|h|h|h<;>subst h<;>decide
theorem Xdk {j:Nat} (hj:j≤9):2 ^ j≤512:=Nat.pow_le_pow_right (n:=2) (by decide) hj
theorem J5 {j i:Nat} (hj:j≤9) (h:((2 ^ j:Nat):Int)=((2 ^ i:Nat):Int)):j=i:=Nat.pow_right_inj (a:=2) (by decide) |>.1 (Int.ofNat.inj h)
def inM (s:Uj) (f n lo hi:Int):Prop:=if J0 s.V4 f=0 then 0≤n∧n≤0 else lo≤n∧n≤hi
instance (s:Uj) (f n lo hi:Int):Decidable (inM s f n lo hi):=by unfold inM;infer_instance
def X03 (l:List aC):Prop:=∀ c,c∈l→c.Yi.length≤7
instance (l:List aC):Decidable (X03 l):=inferInstanceAs (Decidable (∀ c,c∈l→_))
theorem X02 {l:List aC} {k:Nat} (hb:∀ j,j<k→(l.getD j zC).Yi.length≤7) (hk:l.length≤k):X03 l:=fun c hc=>by
  obtain ⟨j,hj,rfl⟩:=List.getElem_of_mem hc
  have:=hb j (by omega)
  rw [List.getD_eq_getElem?_getD,List.getElem?_eq_getElem hj] at this
  exact this
def idxV (l:List aC):Int:=if X03 l then -1 else ((l.findIdx fun c=>decide (7<c.Yi.length):Nat):Int)
theorem idx_no {l:List aC} {k:Nat} (hb:∀ j,j<k→(l.getD j zC).Yi.length≤7) (hk:l.length≤k):idxV l=-1:=if_pos (X02 hb hk)
theorem idx_at {l:List aC} {k:Nat} (hb:∀ j,j<k→(l.getD j zC).Yi.length≤7) (hk:k<l.length) (h:7<(l.getD k zC).Yi.length):idxV l=((k:Nat):Int):=by
  have e:∀ j (hj:j<l.length),l.getD j zC=l[j]:=fun j hj=>by rw [List.getD_eq_getElem?_getD,List.getElem?_eq_getElem hj];rfl
  have hn:¬X03 l:=fun w=>by
    have:=w _ (Vn (z:=zC) hk)
    omega
  rw [idxV,if_neg hn,(List.findIdx_eq hk).2 ⟨?_,fun j hj=>?_⟩]
  · rw [e k hk] at h;exact decide_eq_true h
  · have:=hb j hj
    rw [e j (by omega)] at this
    exact decide_eq_false (by omega)
theorem idx_few (l:List aC):idxV l≥0↔¬X03 l:=by
  unfold idxV
  split
  · rename_i h;exact ⟨(fun w=>by omega),fun w=>absurd h w⟩
  · rename_i h;exact ⟨fun _=>h,fun _=>Int.natCast_nonneg _⟩
def X3r (m:aM):Prop:=okK m.X2∧inM (Y3 m.X2) 1 m.Xr (Y3 m.X2).W4 1099511627776∧inM (Y3 m.X2) 2 m.Xy (Y3 m.X2).Wm 1099511627776∧inM (Y3 m.X2) 4 m.Xa 0 1099511627776∧inM (Y3 m.X2) 4 m.Xw 1 1099511627776 ∧
  inM (Y3 m.X2) 64 (m.Xe.length:Nat) 0 (Y3 m.X2).V7∧inM (Y3 m.X2) 128 (m.Xp.length:Nat) 0 8∧inM (Y3 m.X2) 256 (m.X5.length:Nat) 0 8∧inM (Y3 m.X2) 8 (m.Xb.length:Nat) 0 (m.Xb.length:Nat)∧inM (Y3 m.X2) 16 (m.Xi.length:Nat) 0 (m.Xi.length:Nat) ∧
  (J0 (Y3 m.X2).V4 32≠0∨m.X1=Yf)∧(m.X2≠1∨((m.Xi.length:Nat):Int)≤4096)∧(m.X2≠10∨((m.X5.length:Nat):Int)=1)∧X03 m.X5
instance (m:aM):Decidable (X3r m):=by unfold X3r;infer_instance
def X1t (m:aM):Int:=if X3r m then 0 else 120
theorem chk0 {m:aM}:X1t m=0↔X3r m:=by
  unfold X1t
  split
  · exact ⟨fun _=>‹_›,fun _=>rfl⟩
  · exact ⟨p1b,fun h=>absurd h ‹_›⟩
theorem nbB {b:Bool} (h:b=false):¬b=true:=fun q=>by rw [h] at q;cases q
def Fs (n:Int) (had:Bool) (lo:Int):Prop:=if had=true then n≥lo∧n≤1099511627776 else n=0
instance (n:Int) (had:Bool) (lo:Int):Decidable (Fs n had lo):=by unfold Fs;infer_instance
def X1q (k:Int):Int:=if k=6 then 1 else if k=7 then 1 else 0
def X10 (k:Int):Int:=if k=6 then 0 else if k=7 then 1 else if k=9 then 0 else 1
def maxB (k:Int) (h:aH):Int:=if k=2 then 4 else if h.Xe=true then 7 else 0
def maxP (h:aH):Int:=if h.Xp=true then 8 else 0
def F9 (m:aM) (h:aH):Prop:=((m.Xe.length:Nat):Int)≤maxB m.X2 h∧((m.Xp.length:Nat):Int)≤maxP h∧¬(m.X2=10∧((m.X5.length:Nat):Int)≠1)∧¬(¬h.X5=true∧((m.X5.length:Nat):Int)>0)∧((m.X5.length:Nat):Int)≤8∧X03 m.X5
instance (m:aM) (h:aH):Decidable (F9 m h):=by unfold F9;infer_instance
def wellR (m:aM) (h:aH):Prop:=okK m.X2∧Fs m.Xr h.Xr (X1q m.X2)∧Fs m.Xy h.Xy (X10 m.X2)∧Fs m.Xa h.Xa 0∧Fs m.Xw h.Xa 1∧¬(m.X2=1∧((m.Xi.length:Nat):Int)>4096) ∧
  ¬(¬h.Xb=true∧m.Xb≠[])∧¬(¬h.Xi=true∧((m.Xi.length:Nat):Int)>0)∧¬(¬h.X1=true∧m.X1≠Yf)∧F9 m h
theorem lo_is (k:Int):(Y3 k).W4=X1q k∧(Y3 k).Wm=X10 k∧((Xg k).Xe=true→(Y3 k).V7=maxB k (Xg k))∧(¬(Xg k).Xe=true→maxB k (Xg k)=0):=by
  rcases kinds k with h|h|h|h|h|h|h|h|h|h|h|h
  case inr.inr.inr.inr.inr.inr.inr.inr.inr.inr.inr =>
    rw [X7x h,Xdv h]
    unfold okK at h
    refine ⟨?_,?_,(fun q=>by cases q),fun _=>?_⟩
    · unfold X1q;rw [if_neg (by omega),if_neg (by omega)]
    · unfold X10;rw [if_neg (by omega),if_neg (by omega),if_neg (by omega)]
    · unfold maxB;rw [if_neg (by omega)];rfl
  all_goals (subst h;decide +kernel)
theorem X9f {s:Uj} {f n lo:Int} {b:Bool} (h:J0 s.V4 f=0↔¬b=true):inM s f n lo 1099511627776↔Fs n b lo:=by
  unfold inM Fs
  by_cases q:b=true
  · rw [if_neg (fun w=>h.1 w q),if_pos q]
  · rw [if_pos (h.2 q),if_neg q];omega
theorem in_len {s:Uj} {f:Int} {n:Nat} {hi:Int} {b:Bool} (h:J0 s.V4 f=0↔¬b=true) (hh:b=true→(n:Int)≤hi):inM s f (n:Nat) 0 hi↔¬(¬b=true∧(n:Int)>0):=by
  unfold inM
  by_cases q:b=true
  · rw [if_neg (fun w=>h.1 w q)];exact ⟨fun _ w=>w.1 q,fun _=>⟨Int.natCast_nonneg _,hh q⟩⟩
  · rw [if_pos (h.2 q)];exact ⟨(fun w v=>by have:=v.2;omega),fun w=>⟨Int.natCast_nonneg _,Int.not_lt.1 (fun v=>w ⟨q,v⟩)⟩⟩
theorem Xcj {s:Uj} {f:Int} {n:Nat} {hi:Int} {b:Bool} (h:J0 s.V4 f=0↔¬b=true):inM s f (n:Nat) 0 hi↔(n:Int)≤if b=true then hi else 0:=by
  unfold inM
  by_cases q:b=true
  · rw [if_neg (fun w=>h.1 w q),if_pos q];omega
  · rw [if_pos (h.2 q),if_neg q];omega
theorem Wg (m:aM):X3r m↔wellR m (Xg m.X2):=by
  obtain ⟨e1,e2,e3,e4,e5,e6,e7,e8,e9⟩:=Xeg (X5g m.X2)
  obtain ⟨l1,l2,l3,l4⟩:=lo_is m.X2
  have hB:inM (Y3 m.X2) 64 (m.Xe.length:Nat) 0 (Y3 m.X2).V7↔((m.Xe.length:Nat):Int)≤maxB m.X2 (Xg m.X2):=by
    rw [Xcj e7]
    split
    · rw [l3 (by assumption)]
    · rw [l4 (by assumption)]
  have hC:inM (Y3 m.X2) 256 (m.X5.length:Nat) 0 8↔¬(¬(Xg m.X2).X5=true∧((m.X5.length:Nat):Int)>0)∧((m.X5.length:Nat):Int)≤8:=by
    rw [Xcj e9]
    split
    · rename_i q;exact ⟨fun w=>⟨fun v=>v.1 q,w⟩,fun w=>w.2⟩
    · rename_i q;exact ⟨fun w=>⟨(fun v=>by have:=v.2;omega),by omega⟩,fun w=>Int.not_lt.1 (fun v=>w.1 ⟨q,v⟩)⟩
  have hD:inM (Y3 m.X2) 8 (m.Xb.length:Nat) 0 (m.Xb.length:Nat)↔¬(¬(Xg m.X2).Xb=true∧m.Xb≠[]):=by
    rw [in_len e4 (fun _=>Int.le_refl _)]
    have:((m.Xb.length:Nat):Int)>0↔m.Xb≠[]:=by
      rw [← List.length_pos_iff];omega
    rw [this]
  have hP:=Xcj (n:=m.Xp.length) (hi:=8) e8
  have hV:=X9f (n:=m.Xr) (lo:=(Y3 m.X2).W4) e1
  have hS:=X9f (n:=m.Xy) (lo:=(Y3 m.X2).Wm) e2
  have hA:=in_len (n:=m.Xi.length) (hi:=((m.Xi.length:Nat):Int)) e5 (fun _=>Int.le_refl _)
  have hR:(J0 (Y3 m.X2).V4 32≠0∨m.X1=Yf)↔¬(¬(Xg m.X2).X1=true∧m.X1≠Yf):=by
    rw [Ne,e6,Classical.not_not]
    constructor
    · rintro (w|w) v
      · exact v.1 w
      · exact v.2 w
    · intro w
      by_cases q:(Xg m.X2).X1=true
      · exact .inl q
      · exact .inr (Classical.byContradiction fun v=>w ⟨q,v⟩)
  unfold X3r wellR F9 maxP
  rw [hB,hC,hD,hP,hV,hS,hA,hR,X9f e3,X9f e3,l1,l2]
  constructor
  · rintro ⟨a1,a2,a3,a4,a5,a6,a7,⟨a8,a9⟩,a10,a11,a12,a13,a14,a15⟩
    exact ⟨a1,a2,a3,a4,a5,fun w=>by rcases a13 with q|q<;>omega,a10,a11,a12,a6,a7,fun w=>by rcases a14 with q|q<;>omega,a8,a9,a15⟩
  · rintro ⟨a1,a2,a3,a4,a5,a6,a7,a8,a9,b1,b2,b3,b4,b5,b6⟩
    exact ⟨a1,a2,a3,a4,a5,b1,b2,⟨b4,b5⟩,a7,a8,a9,by omega,by omega,b6⟩
end Go.Proofs.YthnefnknoahbkaaGreat.Q
namespace Go.Proofs.YthnefnknoahbkaaGreat.Q
set_option linter.unusedVariables false
set_option linter.unusedSimpArgs false
section
variable {P:Program} {bs:Base}
theorem Va {s:St} (s':St) {x y:Code} {Q:Exit→Act→World→Prop} (h1:T P bs s x (Exit.then (fun a w=>Gs bs s' a w) Q)) (h2:T P bs s' y Q):T P bs s (.seq x y) Q:=by
  refine T.seq fun a w hG b k cs=>?_
  obtain ⟨e,a',w',hq,harr⟩:=h1 a w hG b k cs
  refine ⟨e,a',w',?_,harr⟩
  cases e with
  | normal=>exact h2 a' w' hq
  | _=>exact hq
theorem nJ {s:St} {Q:Exit→Act→World→Prop}:Ends bs s .normal (Exit.then (fun a w=>Gs bs s a w) Q):=fun a w h=>h
end
end Go.Proofs.YthnefnknoahbkaaGreat.Q
namespace Go.Proofs.YthnefnknoahbkaaGreat.Q
open Go Go.RowKit
set_option linter.unusedVariables false
set_option linter.unusedSimpArgs false
set_option maxRecDepth 100000
set_option maxHeartbeats 4000000
theorem X5z (ta:Bool) (na:Bool) (tb:Bool) (nb:Bool) (a:List UInt8) (b:List UInt8):Holds Tryz.prog 77 ⟨[slV ta na kU8 a,slV tb nb kU8 b],[],vB (decide (a=b)),[]⟩:=by
 refine Holds.of Tryz.func77 rfl (N:=10) Tryz.ntmps77 rfl fun w0 B0 S0 U0=>?_
 show T _ (Y0 10 0 w0 S0 U0 B0) ⟨[slV ta na kU8 a,slV tb nb kU8 b],[]⟩ _ _
 refine sR [] (sR [hR 1 rfl rfl (X0o () a (ys:=(.d (dsl ta na kU8 a))) (rhs:=[]) Tryz.underlying34 Tryz.underlying5 Tryz.underlying9 (Up ta na kU8 a) (X4 rfl) trivial),hR 3 rfl rfl (X0o () b (ys:=(.d (dsl tb nb kU8 b))) (rhs:=[]) Tryz.underlying34 Tryz.underlying5 Tryz.underlying9 (Up tb nb kU8 b) (X4 rfl) trivial)] (T.ret ?_))
 exact eRt 4 (.one (dB (decide (a=b)))) [] rfl trivial
theorem Ur:Tryz.prog.info? 5=some Tryz.t5:=by kernel_rfl
theorem I1:Zero Tryz.prog 5 [.int .u8 0]:=⟨_,_,Ur,rfl,rfl⟩
theorem Uz:Elem Tryz.prog 34 5 1 1:=⟨Tryz.underlying34,_,_,Ur,rfl,rfl,rfl,rfl,by decide⟩
theorem X07 (ta:Bool) (na:Bool) (a:List UInt8) (hp:a.length≤140737488355328):Holds Tryz.prog 50 ⟨[slV ta na kU8 a],[],Xx 0 kU8 0 a.length,[.live (Xc 5 kU8 a)]⟩:=by
 refine Holds.of Tryz.func50 rfl (N:=8) Tryz.ntmps50 rfl fun w0 B0 S0 U0=>?_
 show T _ (Y0 8 0 w0 S0 U0 B0) ⟨[slV ta na kU8 a],[]⟩ _ _
 cases na
 ·refine X9q (k:=0) rfl (fun h0=>?_) ?_
  ·have h0:=List.eq_nil_of_length_eq_zero h0
   subst h0
   show T _ _ ⟨[dv (.slice none 0 0)],[]⟩ _ _
   refine sR [] (T.seq (sR [hR 1 rfl rfl (Y4 (u1:=.slice none 0 0) (u2:=.slice none 0 0) (v:=.bool true) (X3n Tryz.underlying34) (X4 rfl) ⟨rfl,trivial⟩)] (cT (b:=true) rfl (sR [] (T.ret (rT ?_))))))
   refine eN ⟨[dv (.slice none 0 0),aa,dv (.slice none 0 0),aa,vB true],[]⟩ ?_
   refine Xh (s':=⟨[dv (.slice none 0 0),aa,Xx 0 kU8 0 0,aa,vB true],[.live (Xc 5 kU8 ([]:List UInt8))]⟩) (fun _ _ hG=>Vw 0 2 5 kU8 rfl rfl hG) ?_
   exact eRt 2 (.one (.own 0 kU8.sz 0 0)) [0] p2j (ix trivial)
  show T _ _ ⟨[slV ta true kU8 a],[]⟩ _ _
  refine sR [] (T.seq (sR [hR 1 rfl rfl (X0n (s:=.d (dsl ta true kU8 a)) Tryz.underlying34 (.inl rfl) (X4 rfl) ⟨rfl,trivial⟩)] (cF (b:=false) rfl (T.skip (nT ?_)))))
  refine sR [hR 0 rfl rfl (Yb 0 5 kU8 V9 ([]:List UInt8) [] (cs:=[]) Tryz.underlying34 Ur rfl I1 rfl rfl rfl pf Wa pZ2 (Vk pZ2) (X4 rfl) trivial),hR 2 rfl rfl (Yq 0 1 5 1 kU8 V9 ([]:List UInt8) a a ([]:List UInt8).length (sy:=(.d (dsl ta true kU8 a))) (rhs:=[]) Uz (by omega) (Up ta true kU8 a) (by simp) (by (simp [maxLen,-List.getD_eq_getElem?_getD]<;>omega)) (by (simp [maxLen,-List.getD_eq_getElem?_getD]<;>omega)) (X4 rfl) trivial)] ?_
  refine T.ret ?_
  exact eRt 2 (.one (.own 1 kU8.sz 0 a.length)) [1] rfl (ix trivial)
 refine sR [] (T.seq (sR [hR 1 rfl rfl (X0n (s:=.d (dsl ta true kU8 a)) Tryz.underlying34 (.inl rfl) (X4 rfl) ⟨rfl,trivial⟩)] (cF (b:=false) rfl (T.skip (nT ?_)))))
 refine sR [hR 0 rfl rfl (Yb 0 5 kU8 V9 ([]:List UInt8) [] (cs:=[]) Tryz.underlying34 Ur rfl I1 rfl rfl rfl pf Wa pZ2 (Vk pZ2) (X4 rfl) trivial),hR 2 rfl rfl (Yq 0 1 5 1 kU8 V9 ([]:List UInt8) a a ([]:List UInt8).length (sy:=(.d (dsl ta true kU8 a))) (rhs:=[]) Uz (by omega) (Up ta true kU8 a) (by simp) (by (simp [maxLen,-List.getD_eq_getElem?_getD]<;>omega)) (by (simp [maxLen,-List.getD_eq_getElem?_getD]<;>omega)) (X4 rfl) trivial)] ?_
 refine T.ret ?_
 exact eRt 2 (.one (.own 1 kU8.sz 0 a.length)) [1] rfl (ix trivial)
theorem Jr:Tryz.prog.info? 3=some Tryz.t3:=by kernel_rfl
theorem Xg8 (f:Int) (u:Int):Holds Tryz.prog 12 ⟨[vI f,vI u],[],pv 0 0,[.live (.box 99 [dI (3*(fOf f)+1),dI (cOf u),.mref 1]),.live (mpK X9 Y6 ([]:List (Xv×Bool)))]⟩:=by
 refine Holds.of Tryz.func12 rfl (N:=16) Tryz.ntmps12 rfl fun w0 B0 S0 U0=>?_
 show T _ (Y0 16 0 w0 S0 U0 B0) ⟨[vI f,vI u],[]⟩ _ _
 refine sR [] (sR [hR 1 rfl rfl (X2e (k:=.i64) (a:=f) (b:=0) (X4 rfl) ⟨rfl,trivial⟩),hR 2 rfl rfl (X85 (k:=.i64) (a:=max f 0) (b:=2) (X4 rfl) ⟨rfl,trivial⟩),hR 3 rfl rfl (Y4 (u1:=.int .i64 3) (u2:=.int .i64 (min (max f 0) 2)) (v:=.int .i64 (3*(min (max f 0) 2))) (Xbh pZ5) (X4 rfl) ⟨rfl,trivial⟩),hR 4 rfl rfl (Y4 (u1:=.int .i64 (3*(min (max f 0) 2))) (u2:=.int .i64 1) (v:=.int .i64 ((3*(min (max f 0) 2))+1)) (Yn pZ5) (X4 rfl) ⟨rfl,trivial⟩),hR 6 rfl rfl (X2e (k:=.i64) (a:=u) (b:=0) (X4 rfl) ⟨rfl,trivial⟩),hR 7 rfl rfl (X85 (k:=.i64) (a:=max u 0) (b:=8) (X4 rfl) ⟨rfl,trivial⟩),hR 8 rfl rfl (X86 0 X9 Y6 (X4 rfl))] (T.ret ?_))
 exact eRt 4 (.one (.ptr 1 0)) [1,0] rfl ⟨⟨rfl,(by have e1:((3*(min (max f 0) 2))+1:Int)=3*(fOf f)+1:=(by rfl);have e2:(min (max u 0) 8:Int)=(cOf u):=(by rfl);have hE:=congr (congrArg (fun (q1:Int) (q2:Int)=>(.live (.box 99 [dI q1,dI q2,.mref 0]):HS)) e1) e2;exact Eq.trans pZ2 hE)⟩,(ix trivial)⟩
theorem H1:Wide Tryz.prog 3 none:=⟨_,Tryz.underlying3,(fun _ h=>by cases h),(fun _ _ h=>by cases h)⟩
theorem Xej (f:Int) (u:Int) (rows:List (Xv×Bool)) (hf:0≤f∧f≤2) (hu:0≤u∧u≤8):Holds Tryz.prog 38 ⟨[pv 0 0],[.box 99 [dI (3*f+1),dI u,.mref 1],mpK X9 Y6 rows],vI (3*f+1),[.live (.box 99 [dI (3*f+1),dI u,.mref 1]),.live (mpK X9 Y6 rows)]⟩:=by
 refine Holds.of Tryz.func38 rfl (N:=9) Tryz.ntmps38 rfl fun w0 B0 S0 U0=>?_
 show T _ (Y0 9 2 w0 S0 U0 B0) ⟨[pv 0 0],[.live (.box 99 [dI (3*f+1),dI u,.mref 1]),.live (mpK X9 Y6 rows)]⟩ _ _
 refine sR [] (T.seq (sR [] (cF (b:=false) rfl (T.skip (nT (sR [] (T.ret ?_)))))))
 exact eRt 2 (.one (dI (3*f+1))) [0,1] rfl (ix (ix trivial))
theorem X7o (f:Int) (u:Int) (rows:List (Xv×Bool)) (hf:0≤f∧f≤2) (hu:0≤u∧u≤8):Holds Tryz.prog 98 ⟨[pv 0 0],[.box 99 [dI (3*f+1),dI u,.mref 1],mpK X9 Y6 rows],vI u,[.live (.box 99 [dI (3*f+1),dI u,.mref 1]),.live (mpK X9 Y6 rows)]⟩:=by
 refine Holds.of Tryz.func98 rfl (N:=9) Tryz.ntmps98 rfl fun w0 B0 S0 U0=>?_
 show T _ (Y0 9 2 w0 S0 U0 B0) ⟨[pv 0 0],[.live (.box 99 [dI (3*f+1),dI u,.mref 1]),.live (mpK X9 Y6 rows)]⟩ _ _
 refine sR [] (T.seq (sR [] (cF (b:=false) rfl (T.skip (nT (sR [] (T.ret ?_)))))))
 exact eRt 2 (.one (dI u)) [0,1] rfl (ix (ix trivial))
theorem Fy (f:Int) (u:Int) (rows:List (Xv×Bool)) (hf:0≤f∧f≤2) (hu:0≤u∧u≤8):Holds Tryz.prog 10 ⟨[pv 0 0],[.box 99 [dI (3*f+1),dI u,.mref 1],mpK X9 Y6 rows],vI (f+1),[.live (.box 99 [dI (3*f+1),dI u,.mref 1]),.live (mpK X9 Y6 rows)]⟩:=by
 refine Holds.of Tryz.func10 rfl (N:=7) Tryz.ntmps10 rfl fun w0 B0 S0 U0=>?_
 show T _ (Y0 7 2 w0 S0 U0 B0) ⟨[pv 0 0],[.live (.box 99 [dI (3*f+1),dI u,.mref 1]),.live (mpK X9 Y6 rows)]⟩ _ _
 refine sR [] (sR [hR 1 rfl rfl (rCa (Xej f u rows ‹_› ‹_›) Tryz.func38 [0,1] [(.tmp 3,pv 0 0)] 2 2),hR 2 rfl rfl (Y4 (u1:=.int .i64 (3*f+1)) (u2:=.int .i64 2) (v:=.int .i64 ((3*f+1)+2)) (Yn pZ5) (X4 rfl) ⟨rfl,trivial⟩),hR 3 rfl rfl (Y4 (u1:=.int .i64 ((3*f+1)+2)) (u2:=.int .i64 3) (v:=.int .i64 (((3*f+1)+2) / 3)) (b_quoP (by omega) (by omega) pZ5) (X4 rfl) ⟨rfl,trivial⟩)] (T.ret ?_))
 exact eRt 2 (.one (dI (((3*f+1)+2) / 3))) [0,1] (cI (by omega)) (ix (ix trivial))
theorem X2v (f:Int) (u:Int) (rows:List (Xv×Bool)) (s:Int) (hf:0≤f∧f≤2) (hu:0≤u∧u≤8) (hs:-9223372036854775808≤s∧s≤9223372036854775807):Holds Tryz.prog 69 ⟨[pv 0 0,vI s],[.box 99 [dI (3*f+1),dI u,.mref 1],mpK X9 Y6 rows],vB (decide (Wb u s)),[.live (.box 99 [dI (3*f+1),dI u,.mref 1]),.live (mpK X9 Y6 rows)]⟩:=by
 refine Holds.of Tryz.func69 rfl (N:=14) Tryz.ntmps69 rfl fun w0 B0 S0 U0=>?_
 show T _ (Y0 14 2 w0 S0 U0 B0) ⟨[pv 0 0,vI s],[.live (.box 99 [dI (3*f+1),dI u,.mref 1]),.live (mpK X9 Y6 rows)]⟩ _ _
 refine sR [] ?_
 by_cases hq1:s≥1000
 ·refine sR [hY 3 (dT hq1),hS 4 (oY rfl rfl rfl rfl (X4 rfl) (dT hq1) (Y4 (u1:=.int .i64 s) (u2:=.int .i64 1000) (v:=.int .i64 (s-1000)) (X0e pZ5) (X4 rfl) ⟨rfl,trivial⟩)),hY 5 (dT hq1),hS 6 (oY rfl rfl rfl rfl (X4 rfl) (dT hq1) (rCa (X7o f u rows ‹_› ‹_›) Tryz.func98 [0,1] [(.tmp 10,pv 0 0)] 2 2)),hY 7 (dT hq1),hP 8 (dT hq1)] (T.ret ?_)
  exact eRt 4 (.one (dB (decide ((s-1000)<u)))) [0,1] p3z (ix (ix trivial))
 refine sR (Xf (hN · true (dF hq1)) [3,4,5,6,7] (hP 8 (dF hq1)::[])) (T.ret ?_)
 exact eRt 4 (.one (dB false)) [0,1] p4k (ix (ix trivial))
theorem J4 (f:Int) (u:Int) (rows:List (Xv×Bool)) (s:Int) (hf:0≤f∧f≤2) (hu:0≤u∧u≤8):Holds Tryz.prog 35 ⟨[pv 0 0,vI s],[.box 99 [dI (3*f+1),dI u,.mref 1],mpK X9 Y6 rows],vB (decide (Yg f s)),[.live (.box 99 [dI (3*f+1),dI u,.mref 1]),.live (mpK X9 Y6 rows)]⟩:=by
 refine Holds.of Tryz.func35 rfl (N:=13) Tryz.ntmps35 rfl fun w0 B0 S0 U0=>?_
 show T _ (Y0 13 2 w0 S0 U0 B0) ⟨[pv 0 0,vI s],[.live (.box 99 [dI (3*f+1),dI u,.mref 1]),.live (mpK X9 Y6 rows)]⟩ _ _
 refine sR [] ?_
 by_cases hq1:s≥0
 ·refine sR [hY 3 (dT hq1),hY 4 (dT hq1),hS 5 (oY rfl rfl rfl rfl (X4 rfl) (dT hq1) (rCa (Xej f u rows ‹_› ‹_›) Tryz.func38 [0,1] [(.tmp 9,pv 0 0)] 2 2)),hY 6 (dT hq1),hP 7 (dT hq1)] (T.ret ?_)
  exact eRt 4 (.one (dB (decide (s<(3*f+1))))) [0,1] p3x (ix (ix trivial))
 refine sR (Xf (hN · true (dF hq1)) [3,4,5,6] (hP 7 (dF hq1)::[])) (T.ret ?_)
 exact eRt 4 (.one (dB false)) [0,1] p4h (ix (ix trivial))
theorem X4c (f:Int) (u:Int) (rows:List (Xv×Bool)) (s:Int) (hf:0≤f∧f≤2) (hu:0≤u∧u≤8) (hs:-9223372036854775808≤s∧s≤9223372036854775807):Holds Tryz.prog 49 ⟨[pv 0 0,vI s],[.box 99 [dI (3*f+1),dI u,.mref 1],mpK X9 Y6 rows],vB (decide (U7 f u s)),[.live (.box 99 [dI (3*f+1),dI u,.mref 1]),.live (mpK X9 Y6 rows)]⟩:=by
 refine Holds.of Tryz.func49 rfl (N:=13) Tryz.ntmps49 rfl fun w0 B0 S0 U0=>?_
 show T _ (Y0 13 2 w0 S0 U0 B0) ⟨[pv 0 0,vI s],[.live (.box 99 [dI (3*f+1),dI u,.mref 1]),.live (mpK X9 Y6 rows)]⟩ _ _
 refine sR [] ?_
 by_cases hq1:Yg f s
 ·refine sR (hR 2 rfl rfl (rCa (J4 f u rows s ‹_› ‹_›) Tryz.func35 [0,1] [(.tmp 5,pv 0 0),(.tmp 6,vI s)] 2 2)::(Xf (hN · false (dT hq1)) [4,5,6] (hP 7 (dT hq1)::[]))) (T.ret ?_)
  exact eRt 4 (.one (dB true)) [0,1] p4j (ix (ix trivial))
 refine sR [hR 2 rfl rfl (rCa (J4 f u rows s ‹_› ‹_›) Tryz.func35 [0,1] [(.tmp 5,pv 0 0),(.tmp 6,vI s)] 2 2),hY 4 (dF hq1),hY 5 (dF hq1),hS 6 (oY rfl rfl rfl rfl (X4 rfl) (dF hq1) (rCa (X2v f u rows s ‹_› ‹_› ‹_›) Tryz.func69 [0,1] [(.tmp 9,pv 0 0),(.tmp 10,vI s)] 2 2)),hP 7 (dF hq1)] (T.ret ?_)
 exact eRt 4 (.one (dB (decide (Wb u s)))) [0,1] p42 (ix (ix trivial))
theorem Xg7 (f:Int) (u:Int) (rows:List (Xv×Bool)) (s:Int) (hf:0≤f∧f≤2) (hu:0≤u∧u≤8) (hs:-9223372036854775808≤s∧s≤9223372036854775807):Holds Tryz.prog 39 ⟨[pv 0 0,vI s],[.box 99 [dI (3*f+1),dI u,.mref 1],mpK X9 Y6 rows],vI (orgA u s),[.live (.box 99 [dI (3*f+1),dI u,.mref 1]),.live (mpK X9 Y6 rows)]⟩:=by
 refine Holds.of Tryz.func39 rfl (N:=12) Tryz.ntmps39 rfl fun w0 B0 S0 U0=>?_
 show T _ (Y0 12 2 w0 S0 U0 B0) ⟨[pv 0 0,vI s],[.live (.box 99 [dI (3*f+1),dI u,.mref 1]),.live (mpK X9 Y6 rows)]⟩ _ _
 refine sR [] (T.seq (sR [hR 2 rfl rfl (rCa (X2v f u rows s ‹_› ‹_› ‹_›) Tryz.func69 [0,1] [(.tmp 5,pv 0 0),(.tmp 6,vI s)] 2 2)] ?_))
 by_cases hq1:Wb u s
 ·have hcl:1000≤s:=by have h':=hq1;simp only [Wb] at h';omega
  refine cF (cn (dT hq1)) (T.skip (nT (sR [hR 1 rfl rfl (Y4 (u1:=.int .i64 s) (u2:=.int .i64 1000) (v:=.int .i64 (s-1000)) (X0e pZ5) (X4 rfl) ⟨rfl,trivial⟩),hR 2 rfl rfl (Y4 (u1:=.int .i64 (s-1000)) (u2:=.int .i64 4) (v:=.int .i64 ((s-1000) % 4)) (b_remP (by omega) (by omega)) (X4 rfl) ⟨rfl,trivial⟩)] (T.ret ?_))))
  exact eRt 4 (.one (dI ((s-1000) % 4))) [0,1] (by have e1:((orgA u s):Int)=(s-1000) % 4:=p3b;have hE:=cI e1;exact hE) (ix (ix trivial))
 refine cT (cn (dF hq1)) (sR [] (T.ret (rT ?_)))
 exact eRt 4 (.one (dI (-1))) [0,1] (by have e1:((orgA u s):Int)=(-1):=p3b;have hE:=cI e1;exact hE) (ix (ix trivial))
theorem I3:Tryz.prog.info? 53=some Tryz.t53:=by kernel_rfl
theorem X8t:Zero Tryz.prog 53 [.int .i64 0,.slice none 0 0]:=⟨_,_,I3,rfl,rfl⟩
theorem Ib:Wide Tryz.prog 53 (some 2):=⟨_,_,Tryz.underlying53,.inl ⟨_,rfl⟩,I3,rfl⟩
section
variable (f:Int) (u:Int) (s:Int) (tb:Bool) (nb:Bool) (b:List UInt8)
end
section
variable (f:Int) (u:Int) (rows:List (Xv×Bool)) (s:Int) (tb:Bool) (nb:Bool) (b:List UInt8)
abbrev Z4:HS:=.live (.box 99 [dI (3*f+1),dI u,.mref 1])
abbrev Z5:HS:=.live (mpK X9 Y6 rows)
abbrev Z6:List AV:=[pv 0 0,vI s,slV tb nb kU8 b,aa,aa,aa,pv 2 0,vI 11,vB (!(decide (U7 f u s))),aa,aa,aa,aa,aa,vB (decide (((b.length:Nat):Int)>16777216))]
abbrev Z7:HS:=.live (.box 53 [dI 0,.d (.val (.slice none 0 0))])
abbrev Z8:SV:=dU ([]:List UInt8)
abbrev Z9:List SV:=[dI 0,Z8]
abbrev Za:List AV:=[pv 0 0,vI s,slV tb nb kU8 b,aa,aa,aa,pv 2 0,vI 0,vB (!(decide (U7 f u s))),aa,aa,aa,aa,aa,vB (decide (((b.length:Nat):Int)>16777216))]
abbrev Zb:List AV:=[pv 0 0,vI s,slV tb nb kU8 b,aa,aa,aa,pv 2 0,vI 30,vB (!(decide (U7 f u s)))]
end
theorem Fz (f:Int) (u:Int) (rows:List (Xv×Bool)) (s:Int) (tb:Bool) (nb:Bool) (b:List UInt8) (hf:0≤f∧f≤2) (hu:0≤u∧u≤8) (hs:-9223372036854775808≤s∧s≤9223372036854775807) (hb:b.length≤140737488355328):Holds Tryz.prog 22 ⟨[pv 0 0,vI s,slV tb nb kU8 b],[.box 99 [dI (3*f+1),dI u,.mref 1],mpK X9 Y6 rows],.tup [.agg [dI (W1 f u s b).f_Signer,dU (W1 f u s b).X7],.one (dI (Hb f u s b))],[.live (.box 99 [dI (3*f+1),dI u,.mref 1]),.live (mpK X9 Y6 (Ij f u rows s b))]⟩:=by
 refine Holds.of Tryz.func22 rfl (N:=31) Tryz.ntmps22 rfl fun w0 B0 S0 U0=>?_
 show T _ (Y0 31 2 w0 S0 U0 B0) ⟨[pv 0 0,vI s,slV tb nb kU8 b],[(Z4 f u),(Z5 rows)]⟩ _ _
 refine sR [] (T.seq (T.block (sR [hR 2 rfl rfl (rCa (X4c f u rows s ‹_› ‹_› ‹_›) Tryz.func49 [0,1] [(.tmp 9,pv 0 0),(.tmp 10,vI s)] 2 2)] ?_)))
 by_cases hq1:U7 f u s
 ·refine cF (cn (dT hq1)) (sR [] ?_)
  by_cases hq2:((b.length:Nat):Int)>16777216
  ·refine cT (dT hq2) (sR [] (T.ret (rB (rT ?_))))
   refine eN ⟨(Z6 f u s tb nb b),[(Z4 f u),(Z5 rows),Z7]⟩ ?_
   refine Xh (s':=⟨(Z6 f u s tb nb b),[(Z4 f u),(Z5 rows),.live (.box 53 Z9)]⟩) (fun _ _ hG=>We (s:=⟨(Z6 f u s tb nb b),[(Z4 f u),(Z5 rows),Z7]⟩) ⟨.inl rfl,(kk2 p39)⟩ (kk2 ⟨pZ31,trivial⟩) hG) ?_
   exact eX [.c 6 2 53 0 53 [dI 0,Z8] (.agg Z9),.t 7 (.one (dI 11))] ⟨⟨rfl,rfl,by kernel_rfl,by kernel_rfl,.inl ⟨2,Ib,rfl,Nat.le_of_ble_eq_true rfl⟩⟩,⟨⟨rfl,by kernel_rfl⟩,trivial⟩⟩ [0,1] (by have e1:((W1 f u s b).f_Signer:Int)=0:=p1k;have e2:((W1 f u s b).X7:List UInt8)=([]:List UInt8):=p1k;have e3:((Hb f u s b):Int)=11:=p1k;have hE:=congr pr e3;exact hE) (ix ⟨⟨rfl,p2x⟩,trivial⟩)
  refine cF (dF hq2) (T.skip (nB (nT ?_)))
  refine sD [[],[0],[0,1],[0,1,2],[],[],[5],[4,5,6],[0,1,2,3,4,5,6,7]] [hR 6 rfl rfl (X0o () b (ys:=(.d (dsl tb nb kU8 b))) (rhs:=[]) Tryz.underlying34 Tryz.underlying5 Tryz.underlying9 (Up tb nb kU8 b) (X4 rfl) trivial),hR 8 rfl rfl (Es 1 rows (Xv.mk s b) true (kd:=Y6) (ak:=.tv (.agg [dI s,dS b])) (tv:=.one (dB true)) Tryz.underlying97 E5 ⟨[.int .i64 s,J9 b],rfl,rfl⟩ rfl ⟨.inl rfl,trivial⟩ ⟨rfl,trivial⟩)] (sR [hR 2 rfl rfl (rCa (X07 tb nb b ‹_›) Tryz.func50 [3] [(.tmp 28,slV tb nb kU8 b)] 0 1)] (T.ret ?_))
  refine eN ⟨(Za f u s tb nb b),[(Z4 f u),.live (mpK X9 Y6 (mput rows (Xv.mk s b) true)),.live (.box 53 [dI s,.own 3 kU8.sz 0 b.length]),.live (Xc 5 kU8 b)]⟩ ?_
  refine Xh (s':=⟨(Za f u s tb nb b),[(Z4 f u),.live (mpK X9 Y6 (mput rows (Xv.mk s b) true)),.live (.box 53 [dI s,dU b]),.dead]⟩) (fun _ _ hG=>Gs.freeze (s:=⟨(Za f u s tb nb b),[(Z4 f u),.live (mpK X9 Y6 (mput rows (Xv.mk s b) true)),.live (.box 53 [dI s,.own 3 kU8.sz 0 b.length]),.live (Xc 5 kU8 b)]⟩) 3 (el:=Yu kU8 b) (sz:=kU8.sz) (n:=b.length) rfl ⟨.inl rfl,(kk2 p39)⟩ ⟨pd,⟨pd,⟨pZ27,⟨(.inl ⟨rfl,rfl⟩),trivial⟩⟩⟩⟩ hG) ?_
  exact eX [.c 6 2 53 0 53 [dI s,dU b] (.agg [dI s,dU b]),.t 7 (.one (dI 0))] ⟨⟨rfl,rfl,by kernel_rfl,by kernel_rfl,.inl ⟨2,Ib,rfl,Nat.le_of_ble_eq_true rfl⟩⟩,⟨⟨rfl,by kernel_rfl⟩,trivial⟩⟩ [0,1] (by have e1:((W1 f u s b).f_Signer:Int)=s:=p1k;have e2:((W1 f u s b).X7:List UInt8)=b:=p1k;have e3:((Hb f u s b):Int)=0:=p1k;have hE:=congr pr e3;exact hE) (ix ⟨⟨rfl,(by have e1:((mput rows (Xv.mk s b) true):List (Xv×Bool))=(Ij f u rows s b):=p1k;have hE:=congrArg (fun (q1:List (Xv×Bool))=>(.live (mpK X9 Y6 q1):HS)) e1;exact Eq.trans pZ2 hE)⟩,trivial⟩)
 refine cT (cn (dF hq1)) (sR [] (T.ret (rB (rT ?_))))
 refine eN ⟨(Zb f u s tb nb b),[(Z4 f u),(Z5 rows),Z7]⟩ ?_
 refine Xh (s':=⟨(Zb f u s tb nb b),[(Z4 f u),(Z5 rows),.live (.box 53 Z9)]⟩) (fun _ _ hG=>We (s:=⟨(Zb f u s tb nb b),[(Z4 f u),(Z5 rows),Z7]⟩) ⟨.inl rfl,(kk8 trivial)⟩ (kk2 ⟨pZ31,trivial⟩) hG) ?_
 exact eX [.c 6 2 53 0 53 [dI 0,Z8] (.agg Z9),.t 7 (.one (dI 30))] ⟨⟨rfl,rfl,by kernel_rfl,by kernel_rfl,.inl ⟨2,Ib,rfl,Nat.le_of_ble_eq_true rfl⟩⟩,⟨⟨rfl,by kernel_rfl⟩,trivial⟩⟩ [0,1] (by have e1:((W1 f u s b).f_Signer:Int)=0:=p1k;have e2:((W1 f u s b).X7:List UInt8)=([]:List UInt8):=p1k;have e3:((Hb f u s b):Int)=30:=p1k;have hE:=congr pr e3;exact hE) (ix ⟨⟨rfl,p2x⟩,trivial⟩)
theorem X8u:Wide Tryz.prog 34 none:=⟨_,Tryz.underlying34,(fun _ h=>by cases h),(fun _ _ h=>by cases h)⟩
theorem iat_4:Tryz.prog.info? 4=some Tryz.t4:=by kernel_rfl
theorem zerom_4:ZeroM Tryz.prog 4 [.bool false]:=⟨_,_,iat_4,rfl,rfl,fun _=>rfl⟩
theorem X4e (f:Int) (u:Int) (rows:List (Xv×Bool)) (te:Bool) (e:aE) (hf:0≤f∧f≤2) (hu:0≤u∧u≤8) (hs:-9223372036854775808≤e.f_Signer∧e.f_Signer≤9223372036854775807):Holds Tryz.prog 53 ⟨[pv 0 0,.tv (.agg [dI e.f_Signer,.d (dsl te false kU8 e.X7)])],[.box 99 [dI (3*f+1),dI u,.mref 1],mpK X9 Y6 rows],vI (V5 f u rows e),[.live (.box 99 [dI (3*f+1),dI u,.mref 1]),.live (mpK X9 Y6 rows)]⟩:=by
 refine Holds.of Tryz.func53 rfl (N:=28) Tryz.ntmps53 rfl fun w0 B0 S0 U0=>?_
 show T _ (Y0 28 2 w0 S0 U0 B0) ⟨[pv 0 0,.tv (.agg [dI e.f_Signer,.d (dsl te false kU8 e.X7)])],[.live (.box 99 [dI (3*f+1),dI u,.mref 1]),.live (mpK X9 Y6 rows)]⟩ _ _
 refine sR [] (T.seq (sR [hR 3 rfl rfl (rCa (X4c f u rows e.f_Signer ‹_› ‹_› ‹_›) Tryz.func49 [0,1] [(.tmp 7,pv 0 0),(.tmp 9,vI e.f_Signer)] 2 2)] ?_))
 by_cases hq1:U7 f u e.f_Signer
 ·refine cF (cn (dT hq1)) (T.skip (nT (T.seq ?_)))
  refine sD [[],[0],[0,1],[0,1,2],[],[4],[],[6],[6,7],[4,5,6,7,8],[0,1,2,3,4,5,6,7,8,9],[0,1,2,3,4,5,6,7,8,9,10],[0,1,2,3,4,5,6,7,8,9,10,11],[0,1,2,3,4,5,6,7,8,9,10,11],[0,1,2,3,4,5,6,7,8,9,10,11,12],[0,1,2,3,4,5,6,7,8,9,10,11,12,13,14]] [hR 8 rfl rfl (X0o () e.X7 (ys:=(.d (dsl te false kU8 e.X7))) (rhs:=[]) Tryz.underlying34 Tryz.underlying5 Tryz.underlying9 (Up te false kU8 e.X7) (X4 rfl) trivial),hR 10 rfl rfl (Xfc 1 rows (Xv.mk e.f_Signer e.X7) (.one (dB (mget rows (Xv.mk e.f_Signer e.X7) false))) (ak:=.tv (.agg [dI e.f_Signer,dS e.X7])) (kd:=Y6) Tryz.underlying97 E5 ⟨[.int .i64 e.f_Signer,J9 e.X7],rfl,rfl⟩ zerom_4 ⟨.inl rfl,trivial⟩ rfl (X4 rfl) trivial)] (sR [] ?_)
  by_cases hq2:(mhas rows (Xv.mk e.f_Signer e.X7))=true
  ·refine cF (cn hq2) (T.skip (nT (sR [] (T.ret ?_))))
   exact eRt 4 (.one (dI 0)) [0,1] (by have e1:((V5 f u rows e):Int)=0:=(by (simp [V5, *];done));have hE:=cI e1;exact hE) (ix (ix trivial))
  replace hq2:=Bool.eq_false_iff.2 hq2
  refine cT (cn hq2) (sR [] (T.ret (rT ?_)))
  exact eRt 4 (.one (dI 31)) [0,1] (by have e1:((V5 f u rows e):Int)=31:=(by (simp [V5, *];done));have hE:=cI e1;exact hE) (ix (ix trivial))
 refine cT (cn (dF hq1)) (sR [] (T.ret (rT ?_)))
 exact eRt 4 (.one (dI 30)) [0,1] (by have e1:((V5 f u rows e):Int)=30:=(by (simp [V5, *];done));have hE:=cI e1;exact hE) (ix (ix trivial))
end Go.Proofs.YthnefnknoahbkaaGreat.Q
namespace Go.Proofs.YthnefnknoahbkaaGreat.Q
set_option linter.unusedVariables false
set_option linter.unusedSimpArgs false
set_option maxRecDepth 100000
def J2 (xs:List Int):List Int:=xs.mergeSort fun x y=>decide (x≤y)
theorem X22 (xs:List Int):(J2 xs).length=xs.length:=List.length_mergeSort _
theorem put_get (d:Array Int) (cur:Array Value) {j:Nat} (hj:j<d.size) (hc:j<cur.size):(Go.Sort.putCells (Value.int .i64) 0 d cur)[j]?=some (.int .i64 d[j]!):=by
  simp only [Go.Sort.putCells,Array.getElem?_mapIdx,Array.getElem?_eq_getElem hc,Option.map_some,Nat.sub_zero]
  rw [if_pos ⟨Nat.zero_le _,by omega⟩]
theorem row_at {w:World} {b n:Nat} {d:Array Int} {cur:Array Value} {T:Nat} {fr:Nat×Nat} {os:Array Obj} (h:w.heap[b]?=some (.cells cur T fr)):(Go.Sort.grow (Go.Sort.putRow (Value.int .i64) (Go.Sort.ahead w n) b 0 d) os).heap[b]?=some (.cells (Go.Sort.putCells (Value.int .i64) 0 d cur) T fr):=by
  have hb:b<w.heap.size:=by
    rcases Nat.lt_or_ge b w.heap.size with q|q
    · exact q
    · rw [Array.getElem?_eq_none (by omega)] at h;cases h
  rw [Go.Sort.heap_grow_old _ _ (by simpa [Go.Sort.ahead] using hb)]
  simp only [Go.Sort.putRow,Go.Sort.mapBlock,Go.Sort.ahead,Array.getElem?_modify,if_true,h,Option.map_some,Go.Sort.onCells]
theorem Xf1 {w:World} {b n k:Nat} {d:Array Int} {os:Array Obj} (hk:k<w.heap.size) (hne:k≠b):(Go.Sort.grow (Go.Sort.putRow (Value.int .i64) (Go.Sort.ahead w n) b 0 d) os).heap[k]?=w.heap[k]?:=by
  rw [Go.Sort.heap_grow_old _ _ (by simpa [Go.Sort.ahead] using hk)]
  simp only [Go.Sort.putRow,Go.Sort.mapBlock,Go.Sort.ahead,Array.getElem?_modify]
  rw [if_neg (Ne.symm hne)]
theorem Xbs {P:Program} {ρ:Go.Shelf.Ren} (L:Go.Proofs.Lays.n189 P ρ) (T:Nat) (xs:List Int) (hx:xs.length≤1000000000):Holds P (ρ.f 189) ⟨[Xx 0 (Y8 .i64) 0 xs.length],[Xc T (Y8 .i64) xs],.tup [],[.live (Xc T (Y8 .i64) (J2 xs))]⟩:=by
  intro w B S U vs hl g
  obtain ⟨v,rfl⟩:∃ v,vs=[v]:=by
    match vs,hl with
    | [v],_=>exact ⟨v,rfl⟩
  have h0:V2 B S U w (.own 0 1 0 xs.length) v:=g.tm 0
  have ho:Ii B S U w 0 (Xc T (Y8 .i64) xs):=g.ob 0 _ rfl
  have hone:∀ {l:Nat} {o:HObj} {h:HS},hget [h] l=.live o→l=0∧h=.live o:=fun {l o h} e=>by
    cases l with
    | zero=>exact ⟨rfl,e⟩
    | succ l=>cases e
  rcases h0 with ⟨hB,_,hn,rfl⟩|⟨b,κ,o,cap,hB,rfl,hoc,hcap,hoo⟩
  · have hx:xs=[]:=List.eq_nil_of_length_eq_zero hn
    subst hx
    rw [show J2 []=[] from List.mergeSort_nil ..]
    refine (Go.Proofs.Any.slices_Sort_int_none L none 0 w).mono fun e w' ⟨he,hw⟩=>?_
    subst he hw
    refine ⟨_,B,S,U,rfl,?_⟩
    exact { g with
      df:=rfl
      sz:=rfl
      tm:=fun k=>by
        cases k with
        | zero=>exact ⟨[],rfl,trivial⟩
        | succ k=>exact trivial
      ob:=fun l o e=>g.ob l o e }
  · rcases ho with ⟨h,_⟩|⟨b',κ',cur,hB',hheap,hcs,hnκ,hκm,hel⟩
    · rw [hB] at h;cases h
    · rw [hB] at hB'
      obtain ⟨rfl,rfl⟩:b=b'∧κ=κ':=by
        simp only [Option.some.injEq,Prod.mk.injEq] at hB';exact hB'
      have ho:o=0:=by rw [hoo (.inr rfl)]
      subst ho
      have hcs:cur.size=κ:=by rw [hcs];exact Nat.mul_one _
      have hb:b<w.heap.size:=by
        rcases Nat.lt_or_ge b w.heap.size with q|q
        · exact q
        · rw [Array.getElem?_eq_none (by omega)] at hheap;cases hheap
      have hH:Go.Sort.Holds (Value.int .i64) w b 0 xs.toArray:=fun j hj=>by
        have hj:j<xs.length:=by simpa using hj
        obtain ⟨u,hu,hd⟩:=hel j hj 0 (by decide)
        have hu:cur[j]?=some u:=by rw [← hu];rw [show j*(Y8 .i64).sz+0=j from Nat.mul_one j]
        have hd:u=.int .i64 (xs.getD j 0):=hd
        refine ⟨?_,by simp [World.frozen?,hheap]⟩
        rw [show (⟨b,0+j,none⟩:Addr)=⟨b,j,none⟩ by rw [Nat.zero_add]]
        have:w.cell? ⟨b,j,none⟩=cur[j]?:=by simp [World.cell?,hheap]
        rw [this,hu,hd]
        simp [List.getElem!_eq_getElem?_getD,List.getD_eq_getElem?_getD]
      refine (Go.Proofs.Any.slices_Sort_int L b 0 cap xs w hH hb (by omega)).mono fun e w' ⟨he,n,os,hw⟩=>?_
      have hw:w'=Go.Sort.grow (Go.Sort.putRow (Value.int .i64) (Go.Sort.ahead w n) b 0 (J2 xs).toArray) os:=hw
      subst he hw
      have hat:=row_at (n:=n) (d:=(J2 xs).toArray) (os:=os) hheap
      have hC:Cs 1 B b:=⟨0,κ,by decide,hB⟩
      have hsz:(Go.Sort.grow (Go.Sort.putRow (Value.int .i64) (Go.Sort.ahead w n) b 0 (J2 xs).toArray) os).heap.size=w.heap.size+os.size:=by
        rw [Go.Sort.size_grow,Go.Sort.size_putRow];rfl
      refine ⟨_,B,S,U,rfl,?_⟩
      exact { g with
        df:=rfl
        sz:=rfl
        tm:=fun k=>by
          cases k with
          | zero=>exact ⟨[],rfl,trivial⟩
          | succ k=>exact trivial
        ob:=fun l o e=>by
          obtain ⟨rfl,e⟩:=hone e
          cases e
          refine .inr ⟨b,κ,_,hB,hat,?_,?_,hκm,fun i hi j hj=>?_⟩
          · simp [Go.Sort.putCells,hcs];exact (Nat.mul_one κ).symm
          · rw [X22];exact hnκ
          · have hj:j<1:=hj
            have hi:i<(J2 xs).length:=hi
            have hi2:=hi
            rw [X22] at hi2
            refine ⟨.int .i64 ((J2 xs).getD i 0),?_,?_⟩
            · rw [show i*(Y8 .i64).sz+j=i by rw [show (Y8 .i64).sz=1 from rfl];omega,put_get _ _ (by simpa using hi) (by omega)]
              simp [List.getElem!_eq_getElem?_getD,List.getD_eq_getElem?_getD]
            · exact rfl
        nj:=fun l l' o o' e e' hne=>absurd ((hone e).1.trans (hone e').1.symm) hne
        sp:=fun l o p e hp=>by
          obtain ⟨rfl,_⟩:=hone e
          exact g.sp 0 _ p rfl hp
        cf:=fun l o p e hp=>by
          obtain ⟨rfl,_⟩:=hone e
          exact g.cf 0 _ p rfl hp
        fr:=fun l e=>by
          cases l with
          | zero=>cases e
          | succ l=>exact g.fr (l+1) rfl
        ub:=fun k hk=>by rw [hsz];exact Nat.lt_of_lt_of_le (g.ub k hk) (Nat.le_add_right _ _)
        ps:=fun k hk hc=>by
          have hne:k≠b:=fun q=>hc (q ▸ hC)
          have hk:k<w.heap.size:=hk
          exact Xf1 hk hne
        hs:=by rw [hsz];exact Nat.le_add_right _ _
        os:=rfl
        tp:=rfl
        op:=rfl }
end Go.Proofs.YthnefnknoahbkaaGreat.Q
namespace Go.Proofs.YthnefnknoahbkaaGreat.Q
open Go.Shelf
def Xao:Go.Shelf.Ren:=⟨fun|189=>36|125=>68|257=>67|128=>96|129=>97|294=>87|295=>88|296=>89|297=>90|298=>91|299=>92|216=>93|300=>94|301=>95|328=>108|329=>109|330=>110|331=>111|332=>112|215=>113|343=>118|n=>n,fun|28=>47|3=>3|46=>131|0=>0|51=>156|53=>118|4=>4|183=>148|182=>147|131=>153|5=>5|9=>9|218=>166|222=>170|228=>175|229=>124|n=>n,fun|n=>n⟩
theorem lays189:Go.Proofs.Lays.n189 Tryz.prog Xao:={
  mixed:=by kernel_rfl
  f125:=Tryz.func68.trans F5
  f128:=Tryz.func96.trans F5
  f129:=Tryz.func97.trans F5
  f189:=Tryz.func36.trans F5
  f215:=Tryz.func113.trans F5
  f216:=Tryz.func93.trans F5
  f257:=Tryz.func67.trans F5
  f294:=Tryz.func87.trans F5
  f295:=Tryz.func88.trans F5
  f296:=Tryz.func89.trans F5
  f297:=Tryz.func90.trans F5
  f298:=Tryz.func91.trans F5
  f299:=Tryz.func92.trans F5
  f300:=Tryz.func94.trans F5
  f301:=Tryz.func95.trans F5
  f328:=Tryz.func108.trans F5
  f329:=Tryz.func109.trans F5
  f330:=Tryz.func110.trans F5
  f331:=Tryz.func111.trans F5
  f332:=Tryz.func112.trans F5
  f343:=Tryz.func118.trans F5
  t0:=Tryz.underlying0
  a0:=Tryz.isAgg0
  z0:=Tryz.sizeOf0
  v0:=Tryz.zeroValue0
  t3:=Tryz.underlying3
  a3:=Tryz.isAgg3
  z3:=Tryz.sizeOf3
  v3:=Tryz.zeroValue3
  t4:=Tryz.underlying4
  a4:=Tryz.isAgg4
  z4:=Tryz.sizeOf4
  v4:=Tryz.zeroValue4
  t5:=Tryz.underlying5
  a5:=Tryz.isAgg5
  z5:=Tryz.sizeOf5
  v5:=Tryz.zeroValue5
  t9:=Tryz.underlying9
  a9:=Tryz.isAgg9
  z9:=Tryz.sizeOf9
  v9:=Tryz.zeroValue9
  t28:=Tryz.underlying47
  a28:=Tryz.isAgg47
  z28:=Tryz.sizeOf47
  v28:=Tryz.zeroValue47
  t46:=Tryz.underlying131
  a46:=Tryz.isAgg131
  z46:=Tryz.sizeOf131
  v46:=Tryz.zeroValue131
  t51:=Tryz.underlying156
  a51:=Tryz.isAgg156
  z51:=Tryz.sizeOf156
  v51:=Tryz.zeroValue156
  t53:=Tryz.underlying118
  a53:=Tryz.isAgg118
  z53:=Tryz.sizeOf118
  v53:=Tryz.zeroValue118
  t131:=Tryz.underlying153
  a131:=Tryz.isAgg153
  z131:=Tryz.sizeOf153
  v131:=Tryz.zeroValue153
  t182:=Tryz.underlying147
  a182:=Tryz.isAgg147
  z182:=Tryz.sizeOf147
  v182:=Tryz.zeroValue147
  t183:=Tryz.underlying148
  a183:=Tryz.isAgg148
  z183:=Tryz.sizeOf148
  v183:=Tryz.zeroValue148
  t218:=Tryz.underlying166
  a218:=Tryz.isAgg166
  z218:=Tryz.sizeOf166
  v218:=Tryz.zeroValue166
  t222:=Tryz.underlying170
  a222:=Tryz.isAgg170
  z222:=Tryz.sizeOf170
  v222:=Tryz.zeroValue170
  t228:=Tryz.underlying175
  a228:=Tryz.isAgg175
  z228:=Tryz.sizeOf175
  v228:=Tryz.zeroValue175
  t229:=Tryz.underlying124
  a229:=Tryz.isAgg124
  z229:=Tryz.sizeOf124
  v229:=Tryz.zeroValue124 }
end Go.Proofs.YthnefnknoahbkaaGreat.Q
namespace Go.Proofs.YthnefnknoahbkaaGreat.Q
set_option linter.unusedVariables false
set_option linter.unusedSimpArgs false
set_option maxRecDepth 100000
theorem X7b (n:Nat):(Builtin.zeroCells #[.int .i64 0] n).toList=List.replicate n (Value.int .i64 0):=by
  have e:(fun i:Nat=>(#[Value.int .i64 0]:Array Value)[i % (#[Value.int .i64 0]:Array Value).size]!)=fun _=>Value.int .i64 0:=funext fun i=>by
    rw [show (#[Value.int .i64 0]:Array Value).size=1 from rfl,Nat.mod_one];rfl
  unfold Builtin.zeroCells
  rw [e,Array.toList_map,List.map_const',Array.length_toList]
  simp
section
variable {P:Program} {bs:Base}
theorem Xad (l T:Nat) (xs ys:List Int) (d0 dn:Nat) {x:Operand} {t e bytes ty:TypeId} {pos:String} {af:Array Edge} {gd:Option (Nat×Bool)} (hE:Elem P t e 1 bytes) (hz:Zero P e [.int .i64 0]) (hd:d0+dn≤xs.length) (hys:xs.take d0++List.replicate dn 0++xs.drop (d0+dn)=ys) (hc:cOk [(x,Xx l (Y8 .i64) d0 dn)]) :
    ORule P bs ⟨none,.call { callee:=.builtin .clear,args:=#[x],argTypes:=#[t] },ty,pos,af,gd⟩
      ⟨Yv [(x,Xx l (Y8 .i64) d0 dn)],[(l,.live (Xc T (Y8 .i64) xs))],[],[(l,.live (Xc T (Y8 .i64) ys))]⟩ :=
  .unitV rfl hc fun B S U s a w g hh he=>by
    have hylen:ys.length=xs.length:=by rw [← hys];simp;omega
    obtain ⟨ht,inf,z,hi,hzo,_,_,_,_⟩:=hE
    obtain ⟨inf',z',hi',hzo',hzc⟩:=hz
    rw [hi] at hi'
    cases hi'
    rw [hzo] at hzo'
    cases hzo'
    have hzc:z.cells=#[.int .i64 0]:=by rw [← Array.toList_inj];exact hzc
    have elY:∀ i,i<xs.length→ys.getD i 0=if d0≤i∧i<d0+dn then 0 else xs.getD i 0:=by
      intro i hi
      rw [← hys]
      simp only [List.getD_eq_getElem?_getD,List.append_assoc]
      by_cases h1:i<d0
      · rw [if_neg (by omega),List.getElem?_append_left p4b,List.getElem?_take,if_pos h1]
      · by_cases h2:i<d0+dn
        · rw [if_pos (by omega),List.getElem?_append_right p4b,List.getElem?_append_left p4b]
          simp only [List.length_take,List.getElem?_replicate]
          rw [if_pos (by omega)];rfl
        · rw [if_neg (by omega),List.getElem?_append_right p4b,List.getElem?_append_right p4b]
          simp only [List.length_take,List.length_replicate,List.getElem?_drop]
          congr 2
          omega
    have g0:∀ (w':World) (b κ:Nat) (cur':Array Value),B l=some (some (b,κ))→(∀ c,c≠b→w'.heap[c]?=w.heap[c]?)→w'.heap.size=w.heap.size→w'.heap[b]?=some (.cells cur' T (0,0))→cur'.size=κ→xs.length≤κ→κ≤maxLen→w'.os=w.os→w'.tape=w.tape→w'.output=w.output →
        (∀ i,i<ys.length→cur'[i]?=some (.int .i64 (ys.getD i 0)))→G bs B S U ⟨s.t,hset s.h l (.live (Xc T (Y8 .i64) ys))⟩ a w':=by
      intro w' b κ cur' hb hoth hsz' hcur' hcs hxk hkm hos htp hop hel
      have hP:Pres (fun b=>S b∨U b) w w':=fun c hc'=>by
        have hU:U c:=hc'.elim (g.su c) id
        exact hoth c fun e=>g.sp l _ (b,κ) hh.1 hb (e ▸ hU)
      refine g.upd (fun k=>k=l) _ (fun k hk=>by simp [Yd,hk]) (fun _ _ h=>h) (fun _ _=>rfl) (fun _ h=>h) (fun _ h=>h) g.su (fun b hb=>by rw [hsz'];exact g.ub b hb) (fun _ h=>.inl h) (fun _ h=>.inl h)
        (fun k y' hk hy'=>?_) (fun k k' _ _ _ _ h h' _ _ hne=>absurd (h.trans h'.symm) hne) (fun c hc hne=>hoth c (hne l _ (b,κ) rfl hh.1 hb)) (fun k hk h=>?_) (fun k y q _ hk hq=>g.sp k y q hk hq) (by omega) hos htp hop
      · subst hk
        rw [Yd,if_pos rfl] at hy'
        cases hy'
        refine ⟨.inr ⟨b,κ,cur',hb,hcur',by rw [hcs];exact (Nat.mul_one κ).symm,by omega,hkm,fun i hi j hj=>?_⟩,fun p hp=>⟨g.sp k _ p hh.1 hp,g.cf k _ p hh.1 hp,fun k' o' q hk' ho' hq=>g.nj k' k o' _ ho' hh.1 hk' q p hq hp⟩⟩
        have hj:j<1:=hj
        refine ⟨_,?_,(rfl:Value.int .i64 (ys.getD i 0)=_)⟩
        rw [show i*(Y8 .i64).sz+j=i by rw [show (Y8 .i64).sz=1 from rfl];omega]
        exact hel i hi
      · subst hk;rw [Yd,if_pos rfl] at h;cases h
    have hx:V2 B S U w (.own l 1 d0 dn) (a.eval x):=he.1
    have gsame:ys=xs→G bs B S U ⟨s.t,hset s.h l (.live (Xc T (Y8 .i64) ys))⟩ a w:=fun hysx=>by
      rw [hysx]
      have hsame:∀ k,hget (hsets s.h [(l,.live (Xc T (Y8 .i64) xs))]) k=hget s.h k:=fun k=>by
        show hget (hset s.h l (.live (Xc T (Y8 .i64) xs))) k=_
        rw [Yd]
        split
        · rename_i h;rw [h];exact hh.1.symm
        · rfl
      exact { g with ob:=fun k o' e=>g.ob k o' p3y,nj:=fun k k' o1 o2 e e'=>g.nj k k' o1 o2 p3y (by rw [← hsame k'];exact e'),sp:=fun k o' p e=>g.sp k o' p p3y,cf:=fun k o' p e=>g.cf k o' p p3y,fr:=fun k e=>g.fr k p3y }
    rcases hx with ⟨hb,h0,hn0,hv⟩|⟨b,κ,o,cap,hb,hv,hcap,hle,ho⟩
    · have hysx:ys=xs:=by rw [← hys,h0,hn0];simp
      refine ⟨.tuple #[],w,B,S,U,?_,gsame hysx⟩
      simp [execOp,resolve,invoke,builtin,hv,Builtin.clear_,Xu ht,Sem.run_bind]
    · by_cases hd0:dn=0
      · have hysx:ys=xs:=by rw [← hys,hd0];simp
        refine ⟨.tuple #[],w,B,S,U,?_,gsame hysx⟩
        subst hd0
        simp [execOp,resolve,invoke,builtin,hv,Builtin.clear_,Xu ht,Sem.run_bind]
      · rcases g.ob l _ hh.1 with ⟨hob,_⟩|⟨b',κ',cur,hb',hcur,hcsz,hnk,hkm,hel⟩
        · rw [hb] at hob;cases hob
        · rw [hb] at hb'
          cases hb'
          have hblt:b<w.heap.size:=(Array.getElem?_eq_some_iff.1 hcur).1
          have hcsz:cur.size=κ:=by rw [hcsz];exact Nat.mul_one κ
          have hod:o=d0:=by rw [ho (.inl (by omega))];exact Nat.mul_one d0
          subst hod
          obtain ⟨cur',hrun,hsz',hget⟩:=Id (P:=P) (b:=b) (T:=T) (List.replicate dn (Value.int .i64 0)) cur o 0 w hcur p4b (fun v hv=>by rw [List.mem_replicate] at hv;rw [hv.2];rfl)
          refine ⟨.tuple #[],{ w with heap:=w.heap.setIfInBounds b (.cells cur' T (0,0)) },B,S,U,?_,g0 _ b κ cur' hb (fun c hc=>by simp [Array.getElem?_setIfInBounds,Ne.symm hc]) (by simp) (by simp [hblt]) (by rw [hsz',hcsz]) hnk hkm rfl rfl rfl (fun i hi=>?_)⟩
          · obtain ⟨dm,rfl⟩:∃ dm,dn=dm+1:=⟨dn-1,by omega⟩
            have hclr:(Builtin.clear_ #[t] ty #[.slice (some ⟨b,o,none⟩) (dm+1) cap]).run P w=.ok (.tuple #[]) { w with heap:=w.heap.setIfInBounds b (.cells cur' T (0,0)) }:=by
              simp [Builtin.clear_,Xu ht,Sem.run_bind,Iw hi hzo,hzc,X7b,hrun]
            simp only [execOp,resolve,hv,invoke,builtin,Sem.run_bind,Sem.run_pure,Result.andThen_ok,List.map_toArray,List.map_cons,List.map_nil]
            rw [hclr]
            rfl
          · rw [hget,elY i (by omega)]
            simp only [List.length_replicate,Nat.add_zero]
            by_cases hcase:o≤i∧i<o+dn
            · rw [if_pos hcase,if_pos hcase,List.getElem?_replicate,if_pos (by omega)]
            · rw [if_neg hcase,if_neg hcase]
              obtain ⟨u,hu,hdd⟩:=hel i (by omega) 0 (by decide)
              have hdd:u=.int .i64 (xs.getD i 0):=hdd
              rw [← hdd,← hu,show i*(Y8 .i64).sz+0=i from Nat.mul_one i]
end
end Go.Proofs.YthnefnknoahbkaaGreat.Q
namespace Go.Proofs.YthnefnknoahbkaaGreat.Q
set_option linter.unusedVariables false
set_option linter.unusedSimpArgs false
set_option maxRecDepth 100000
def Ul (f:Int) (l:List Int):List Int:=l.filter fun s=>decide (Yg f s)
def allR (f:Int) (l:List Int):Prop:=∀ s,s∈l→Yg f s
instance (f:Int) (l:List Int):Decidable (allR f l):=inferInstanceAs (Decidable (∀ s,s∈l→_))
def Hh (f:Int) (l:List Int):Nat:=l.findIdx fun s=>decide (¬Yg f s)
def X2m (f:Int) (l:List Int):Int:=if allR f l then -1 else ((Hh f l:Nat):Int)
section
variable {f:Int} {l xs ys:List Int} {i j k p q:Nat}
theorem getI {l:List Int} {j:Nat} (hj:j<l.length):l.getD j 0=l[j]:=by rw [List.getD_eq_getElem?_getD,List.getElem?_eq_getElem hj];rfl
theorem idxR_no (hb:∀ j,j<k→Yg f (l.getD j 0)) (hk:l.length≤k):X2m f l=-1:=if_pos fun s hs=>by
  obtain ⟨j,hj,rfl⟩:=List.getElem_of_mem hs
  rw [← getI hj];exact hb j (by omega)
theorem idxR_at (hb:∀ j,j<k→Yg f (l.getD j 0)) (hk:k<l.length) (h:¬Yg f (l.getD k 0)):X2m f l=((k:Nat):Int):=by
  have hn:¬allR f l:=fun w=>h (w _ (Vn (z:=0) hk))
  rw [X2m,if_neg hn,Hh,(List.findIdx_eq hk).2 ⟨?_,fun j hj=>?_⟩]
  · rw [getI hk] at h;exact decide_eq_true h
  · have:=hb j hj
    rw [getI (by omega)] at this
    exact decide_eq_false (fun w=>w this)
theorem idxR_all (h:X2m f l=-1):Ul f l=l:=by
  unfold X2m at h
  split at h
  · rename_i w;exact List.filter_eq_self.2 fun s hs=>decide_eq_true (w s hs)
  · omega
theorem idxR_is (h:¬X2m f l=-1):X2m f l=((Hh f l:Nat):Int)∧Hh f l<l.length∧l.take (Hh f l)=Ul f (l.take (Hh f l+1)):=by
  unfold X2m at h ⊢
  split at h
  · exact absurd rfl h
  · rename_i w
    rw [if_neg w]
    have hx:∃ s,s∈l∧¬Yg f s:=Classical.byContradiction fun v=>w fun s hs=>Classical.byContradiction fun u=>v ⟨s,hs,u⟩
    have hlt:Hh f l<l.length:=List.findIdx_lt_length_of_exists (by obtain ⟨s,h1,h2⟩:=hx;exact ⟨s,h1,decide_eq_true h2⟩)
    refine ⟨rfl,hlt,?_⟩
    have h1:decide (¬Yg f (l[Hh f l]'hlt))=true:=List.findIdx_getElem (w:=hlt)
    have h1:¬Yg f (l[Hh f l]'hlt):=by simpa using h1
    rw [Ic (z:=0) hlt,Ul,List.filter_append,getI hlt,List.filter_cons_of_neg (by simpa using h1),List.filter_nil,List.append_nil]
    refine (List.filter_eq_self.2 fun s hs=>?_).symm
    obtain ⟨m,hm,rfl⟩:=List.getElem_of_mem hs
    have hm2:m<Hh f l:=by rw [List.length_take] at hm;omega
    have:=List.not_of_lt_findIdx (p:=fun s=>decide (¬Yg f s)) (xs:=l) hm2
    rw [List.getElem_take]
    simpa using this
theorem Xa3 (hi:i<ys.length) (v:Int):(ys.set i v).take (i+1)=ys.take i++[v]:=by
  rw [Ic (z:=0) (by rw [List.length_set];exact hi),List.take_set_of_le (Nat.le_refl _),List.getD_eq_getElem?_getD,List.getElem?_set_self hi];rfl
theorem Xda {m:Nat} (v:Int) (h:m≠i):(ys.set i v).getD m 0=ys.getD m 0:=by rw [List.getD_eq_getElem?_getD,List.getD_eq_getElem?_getD,List.getElem?_set_ne (Ne.symm h)]
theorem del_yes (hij:i<j) (hj:j<xs.length) (hl:ys.length=xs.length) (h:ys.take i=Ul f (xs.take j)) (hd:∀ m,j≤m→ys.getD m 0=xs.getD m 0) (hr:Yg f (ys.getD j 0)):(ys.set i (ys.getD j 0)).take (i+1)=Ul f (xs.take (j+1))∧∀ m,j+1≤m→(ys.set i (ys.getD j 0)).getD m 0=xs.getD m 0:=by
  refine ⟨?_,fun m hm=>by rw [Xda _ (by omega)];exact hd m (by omega)⟩
  have e:=hd j (Nat.le_refl _)
  rw [e] at hr ⊢
  rw [Xa3 (by omega),h,Ic (z:=0) hj,Ul,Ul,List.filter_append,List.filter_cons_of_pos (by simpa using hr),List.filter_nil]
theorem del_no (hj:j<xs.length) (h:ys.take i=Ul f (xs.take j)) (hd:∀ m,j≤m→ys.getD m 0=xs.getD m 0) (hr:¬Yg f (ys.getD j 0)):ys.take i=Ul f (xs.take (j+1))∧∀ m,j+1≤m→ys.getD m 0=xs.getD m 0:=by
  refine ⟨?_,fun m hm=>hd m (by omega)⟩
  have e:=hd j (Nat.le_refl _)
  rw [e] at hr
  rw [h,Ic (z:=0) hj,Ul,Ul,List.filter_append,List.filter_cons_of_neg (by simpa using hr),List.filter_nil,List.append_nil]
theorem Xe6 {z:List Int} {n:Nat} (hi:i≤ys.length):(ys.take i++List.replicate n 0++z).take i=ys.take i:=by
  rw [List.append_assoc,List.take_append_of_le_length p4c,List.take_of_length_le p4c]
theorem Xe2 (hj:xs.length≤j) (h:ys.take i=Ul f (xs.take j)):ys.take i=Ul f xs:=by rw [h,List.take_of_length_le hj]
theorem fil_len (f:Int) (l:List Int):(Ul f l).length≤l.length:=List.length_filter_le _ _
def Hj (xs:List Int):Nat→List Int
  | 0=>[]
  | n+1=>if 0<n∧xs.getD n 0=xs.getD (n-1) 0 then Hj xs n else Hj xs n++[xs.getD n 0]
def X06 (xs:List Int):List Int:=Hj xs xs.length
theorem X6u:∀ {n:Nat},n≤xs.length→(∀ m,1≤m→m<n→¬xs.getD m 0=xs.getD (m-1) 0)→Hj xs n=xs.take n
  | 0,_,_=>rfl
  | n+1,hn,h=>by
    rw [Hj,if_neg (fun w=>h n w.1 (by omega) w.2),X6u (by omega) fun m h1 h2=>h m h1 (by omega),Ic (z:=0) (by omega)]
theorem Xb7 (hk:xs.length≤k) (h:∀ m,1≤m→m<k→¬xs.getD m 0=xs.getD (m-1) 0):X06 xs=xs:=by
  unfold X06
  rw [X6u (Nat.le_refl _) fun m h1 h2=>h m h1 (by omega),List.take_of_length_le (Nat.le_refl _)]
theorem Xfz (h:((xs.length:Nat):Int)<2):X06 xs=xs:=Xb7 (k:=xs.length) (Nat.le_refl _) fun m h1 h2=>by omega
theorem Xfy (hk1:1≤k) (hk:k<xs.length) (h:∀ m,1≤m→m<k→¬xs.getD m 0=xs.getD (m-1) 0) (he:xs.getD k 0=xs.getD (k-1) 0):xs.take k=Hj xs (k+1):=by
  rw [Hj,if_pos ⟨by omega,he⟩,X6u (by omega) h]
theorem cpt_yes (hp:p<k+q) (hq:1≤q) (hl:ys.length=xs.length) (hk:k+q<xs.length) (h:ys.take p=Hj xs (k+q)) (hd:∀ m,k+q-1≤m→ys.getD m 0=xs.getD m 0) (hne:ys.getD (k+q) 0≠ys.getD (k+(q-1)) 0):(ys.set p (ys.getD (k+q) 0)).take (p+1)=Hj xs (k+(q+1))∧∀ m,k+(q+1)-1≤m→(ys.set p (ys.getD (k+q) 0)).getD m 0=xs.getD m 0:=by
  refine ⟨?_,fun m hm=>by rw [Xda _ (by omega)];exact hd m (by omega)⟩
  rw [hd (k+q) (by omega),hd (k+(q-1)) (by omega)] at hne
  rw [hd (k+q) (by omega),Xa3 (by omega),h,← Nat.add_assoc,Hj,if_neg (fun w=>hne (by rw [w.2];congr 1;omega))]
theorem cpt_no (hp:p<k+q) (hq:1≤q) (hk:k+q<xs.length) (h:ys.take p=Hj xs (k+q)) (hd:∀ m,k+q-1≤m→ys.getD m 0=xs.getD m 0) (hne:¬ys.getD (k+q) 0≠ys.getD (k+(q-1)) 0):ys.take p=Hj xs (k+(q+1))∧∀ m,k+(q+1)-1≤m→ys.getD m 0=xs.getD m 0:=by
  refine ⟨?_,fun m hm=>hd m (by omega)⟩
  have hne:=Classical.not_not.1 hne
  rw [hd (k+q) (by omega),hd (k+(q-1)) (by omega)] at hne
  rw [h,← Nat.add_assoc,Hj,if_pos ⟨by omega,by rw [hne];congr 1;omega⟩]
theorem Xe8 (hk:xs.length≤k+q) (hk2:k+q≤xs.length) (h:ys.take p=Hj xs (k+q)):ys.take p=X06 xs:=by rw [h,show k+q=xs.length by omega];rfl
end
def X3l (f:Int) (l:List Int):Nat:=((List.range (3*f+1).toNat).filter fun (i:Nat)=>decide (((i:Nat):Int)∈l)).length
theorem X51 {xs:List Int} {s:Int}:∀ {n:Nat},n≤xs.length→(s∈Hj xs n↔∃ m,m<n∧xs.getD m 0=s)
  | 0,_=>⟨p1b,fun ⟨m,h,_⟩=>absurd h (Nat.not_lt_zero _)⟩
  | n+1,hn=>by
    rw [Hj]
    split
    · rename_i h
      rw [X51 (n:=n) (by omega)]
      exact ⟨fun ⟨m,h1,h2⟩=>⟨m,by omega,h2⟩,fun ⟨m,h1,h2⟩=>by
        rcases Nat.lt_or_ge m n with q|q
        · exact ⟨m,q,h2⟩
        · exact ⟨n-1,by omega,by rw [← h.2,show n=m by omega];exact h2⟩⟩
    · rw [List.mem_append,List.mem_singleton,X51 (n:=n) (by omega)]
      exact ⟨fun w=>w.elim (fun ⟨m,h1,h2⟩=>⟨m,by omega,h2⟩) fun w=>⟨n,by omega,w.symm⟩,fun ⟨m,h1,h2⟩=>by
        rcases Nat.lt_or_ge m n with q|q
        · exact .inl ⟨m,q,h2⟩
        · exact .inr (by rw [← h2,show m=n by omega])⟩
theorem X8n {xs:List Int} (hs:∀ i j,i≤j→j<xs.length→xs.getD i 0≤xs.getD j 0):∀ {n:Nat},n≤xs.length→(Hj xs n).Nodup
  | 0,_=>List.nodup_nil
  | n+1,hn=>by
    have ih:=X8n hs (n:=n) (by omega)
    rw [Hj]
    split
    · exact ih
    · rename_i h
      rw [List.nodup_append]
      refine ⟨ih,by simp,fun a ha b hb=>?_⟩
      rw [List.mem_singleton] at hb
      subst hb
      obtain ⟨m,h1,h2⟩:=(X51 (by omega)).1 ha
      intro e
      have hn1:xs.getD n 0≤xs.getD (n-1) 0:=by rw [← e,← h2];exact hs m (n-1) (by omega) (by omega)
      have hn2:=hs (n-1) n (by omega) (by omega)
      exact h ⟨by omega,by omega⟩
theorem sort_le {xs:List Int}:∀ i j,i≤j→j<(J2 xs).length→(J2 xs).getD i 0≤(J2 xs).getD j 0:=fun i j hij hj=>by
  rcases Nat.lt_or_ge i j with q|q
  · have h:(J2 xs).Pairwise (fun x y=>decide (x≤y)=true):=List.pairwise_mergeSort (fun a b c h1 h2=>by simp at h1 h2 ⊢;omega) (fun a b=>by simp;omega) xs
    have:=List.pairwise_iff_getElem.1 h i j (by omega) hj q
    rw [getI (by omega),getI hj]
    simpa using this
  · rw [show i=j by omega];exact Int.le_refl _
theorem cnt_is {f:Int} (hf:0≤f∧f≤2) (l:List Int):(X06 (J2 (Ul f l))).length=X3l f l:=by
  have h1:(X06 (J2 (Ul f l))).Nodup:=X8n sort_le (Nat.le_refl _)
  have h2:(((List.range (3*f+1).toNat).filter fun (i:Nat)=>decide (((i:Nat):Int)∈l)).map Int.ofNat).Nodup:=List.pairwise_map.2 ((List.nodup_range.sublist List.filter_sublist).imp fun hab e=>hab (Int.ofNat.inj e))
  have hm:∀ s,s∈X06 (J2 (Ul f l))↔s∈((List.range (3*f+1).toNat).filter fun (i:Nat)=>decide (((i:Nat):Int)∈l)).map Int.ofNat:=fun s=>by
    have e1:s∈X06 (J2 (Ul f l))↔s∈J2 (Ul f l):=by
      unfold X06
      rw [X51 (Nat.le_refl _)]
      constructor
      · rintro ⟨m,h,rfl⟩;exact Vn h
      · intro h
        obtain ⟨m,hm,rfl⟩:=List.getElem_of_mem h
        exact ⟨m,hm,getI hm⟩
    rw [e1,J2,List.mem_mergeSort,Ul,List.mem_filter,List.mem_map]
    constructor
    · rintro ⟨h3,h4⟩
      have h4:Yg f s:=by simpa using h4
      refine ⟨s.toNat,List.mem_filter.2 ⟨List.mem_range.2 (by have:=h4.1;have:=h4.2;omega),decide_eq_true ?_⟩,?_⟩
      · rw [show ((s.toNat:Nat):Int)=s by have:=h4.1;omega];exact h3
      · show ((s.toNat:Nat):Int)=s;have:=h4.1;omega
    · rintro ⟨i,h3,rfl⟩
      obtain ⟨h4,h5⟩:=List.mem_filter.1 h3
      have h4:=List.mem_range.1 h4
      exact ⟨by simpa using h5,decide_eq_true ⟨Int.natCast_nonneg _,by show ((i:Nat):Int)<_;omega⟩⟩
  have:=((List.perm_ext_iff_of_nodup h1 h2).2 hm).length_eq
  rw [this,List.length_map];rfl
end Go.Proofs.YthnefnknoahbkaaGreat.Q
namespace Go.Proofs.YthnefnknoahbkaaGreat.Q
open Go Go.RowKit
set_option linter.unusedVariables false
set_option linter.unusedSimpArgs false
set_option maxRecDepth 100000
set_option maxHeartbeats 4000000
theorem X8o (f:Int) (u:Int) (rows:List (Xv×Bool)) (s:Int) (hf:0≤f∧f≤2) (hu:0≤u∧u≤8):Holds Tryz.prog 34 ⟨[vI s,pv 0 0],[.box 26 [.ptr 1 0],.box 99 [dI (3*f+1),dI u,.mref 2],mpK X9 Y6 rows],vB (decide (¬Yg f s)),[.live (.box 26 [.ptr 1 0]),.live (.box 99 [dI (3*f+1),dI u,.mref 2]),.live (mpK X9 Y6 rows)]⟩:=by
 refine Holds.of Tryz.func34 rfl (N:=8) Tryz.ntmps34 rfl fun w0 B0 S0 U0=>?_
 show T _ (Y0 8 3 w0 S0 U0 B0) ⟨[vI s,pv 0 0],[.live (.box 26 [.ptr 1 0]),.live (.box 99 [dI (3*f+1),dI u,.mref 2]),.live (mpK X9 Y6 rows)]⟩ _ _
 refine sR [] (sR [hR 2 rfl rfl (rCa (J4 f u rows s ‹_› ‹_›) Tryz.func35 [1,2] [(.tmp 4,pv 1 0),(.tmp 5,vI s)] 2 2)] (T.ret ?_))
 exact eRt 3 (.one (dB (!(decide (Yg f s))))) [0,1,2] (cB (by exact decide_not)) (ix (ix (ix trivial)))
theorem X2z:Zero Tryz.prog 3 [.int .i64 0]:=⟨_,_,Jr,rfl,rfl⟩
theorem X0t:Elem Tryz.prog 47 3 1 8:=⟨Tryz.underlying47,_,_,Jr,rfl,rfl,rfl,rfl,by decide⟩
theorem Xg0 (tx:Bool) (nx:Bool) (x:List Int) (hx:x.length≤1000000):Holds Tryz.prog 33 ⟨[slV tx nx (Y8 .i64) x],[],Xx 0 (Y8 .i64) 0 x.length,[.live (Xc 3 (Y8 .i64) x)]⟩:=by
 refine Holds.of Tryz.func33 rfl (N:=8) Tryz.ntmps33 rfl fun w0 B0 S0 U0=>?_
 show T _ (Y0 8 0 w0 S0 U0 B0) ⟨[slV tx nx (Y8 .i64) x],[]⟩ _ _
 cases nx
 ·refine X9q (k:=0) rfl (fun h0=>?_) ?_
  ·have h0:=List.eq_nil_of_length_eq_zero h0
   subst h0
   show T _ _ ⟨[dv (.slice none 0 0)],[]⟩ _ _
   refine sR [] (T.seq (sR [hR 1 rfl rfl (Y4 (u1:=.slice none 0 0) (u2:=.slice none 0 0) (v:=.bool true) (X3n Tryz.underlying47) (X4 rfl) ⟨rfl,trivial⟩)] (cT (b:=true) rfl (sR [] (T.ret (rT ?_))))))
   refine eN ⟨[dv (.slice none 0 0),aa,dv (.slice none 0 0),aa,vB true],[]⟩ ?_
   refine Xh (s':=⟨[dv (.slice none 0 0),aa,Xx 0 (Y8 .i64) 0 0,aa,vB true],[.live (Xc 3 (Y8 .i64) ([]:List Int))]⟩) (fun _ _ hG=>Vw 0 2 3 (Y8 .i64) rfl rfl hG) ?_
   exact eRt 2 (.one (.own 0 (Y8 .i64).sz 0 0)) [0] (congrArg (fun (q1:Nat)=>(Xx 0 (Y8 .i64) 0 q1:AV)) (by rfl)) (ix trivial)
  show T _ _ ⟨[slV tx true (Y8 .i64) x],[]⟩ _ _
  refine sR [] (T.seq (sR [hR 1 rfl rfl (X0n (s:=.d (dsl tx true (Y8 .i64) x)) Tryz.underlying47 (.inl rfl) (X4 rfl) ⟨rfl,trivial⟩)] (cF (b:=false) rfl (T.skip (nT ?_)))))
  refine sR [hR 0 rfl rfl (Yb 0 3 (Y8 .i64) (Hu .i64) ([]:List Int) [] (cs:=[]) Tryz.underlying47 Jr rfl X2z rfl rfl rfl pf Wa pZ2 (Vk pZ2) (X4 rfl) trivial),hR 2 rfl rfl (Yq 0 1 3 8 (Y8 .i64) (Hu .i64) ([]:List Int) x x ([]:List Int).length (sy:=(.d (dsl tx true (Y8 .i64) x))) (rhs:=[]) X0t (by omega) (Up tx true (Y8 .i64) x) (by simp) (by (simp [maxLen,-List.getD_eq_getElem?_getD]<;>omega)) (by (simp [maxLen,-List.getD_eq_getElem?_getD]<;>omega)) (X4 rfl) trivial)] ?_
  refine T.ret ?_
  exact eRt 2 (.one (.own 1 (Y8 .i64).sz 0 x.length)) [1] rfl (ix trivial)
 refine sR [] (T.seq (sR [hR 1 rfl rfl (X0n (s:=.d (dsl tx true (Y8 .i64) x)) Tryz.underlying47 (.inl rfl) (X4 rfl) ⟨rfl,trivial⟩)] (cF (b:=false) rfl (T.skip (nT ?_)))))
 refine sR [hR 0 rfl rfl (Yb 0 3 (Y8 .i64) (Hu .i64) ([]:List Int) [] (cs:=[]) Tryz.underlying47 Jr rfl X2z rfl rfl rfl pf Wa pZ2 (Vk pZ2) (X4 rfl) trivial),hR 2 rfl rfl (Yq 0 1 3 8 (Y8 .i64) (Hu .i64) ([]:List Int) x x ([]:List Int).length (sy:=(.d (dsl tx true (Y8 .i64) x))) (rhs:=[]) X0t (by omega) (Up tx true (Y8 .i64) x) (by simp) (by (simp [maxLen,-List.getD_eq_getElem?_getD]<;>omega)) (by (simp [maxLen,-List.getD_eq_getElem?_getD]<;>omega)) (X4 rfl) trivial)] ?_
 refine T.ret ?_
 exact eRt 2 (.one (.own 1 (Y8 .i64).sz 0 x.length)) [1] rfl (ix trivial)
section
variable (f:Int) (u:Int) (rows:List (Xv×Bool)) (tx:Bool) (nx:Bool) (x:List Int) (k:Nat)
abbrev Zc:List HS:=[.live (.box 26 [.ptr 1 0]),.live (.box 99 [dI (3*f+1),dI u,.mref 2]),.live (mpK X9 Y6 rows)]
abbrev Zd:AV:=vI ((x.length:Nat):Int)
end
theorem Xfs (f:Int) (u:Int) (rows:List (Xv×Bool)) (tx:Bool) (nx:Bool) (x:List Int) (hf:0≤f∧f≤2) (hu:0≤u∧u≤8) (hx:x.length≤1000000):Holds Tryz.prog 66 ⟨[slV tx nx (Y8 .i64) x,sv (.clo 34 [0])],[.box 26 [.ptr 1 0],.box 99 [dI (3*f+1),dI u,.mref 2],mpK X9 Y6 rows],vI (X2m f x),[.live (.box 26 [.ptr 1 0]),.live (.box 99 [dI (3*f+1),dI u,.mref 2]),.live (mpK X9 Y6 rows)]⟩:=by
 refine Holds.of Tryz.func66 rfl (N:=19) Tryz.ntmps66 rfl fun w0 B0 S0 U0=>?_
 show T _ (Y0 19 3 w0 S0 U0 B0) ⟨[slV tx nx (Y8 .i64) x,sv (.clo 34 [0])],(Zc f u rows)⟩ _ _
 refine sR [] (T.seq (sR [] (T.block ?_)))
 refine T.loop (ι:=Nat) (fun (k:Nat)=>⟨[slV tx nx (Y8 .i64) x,sv (.clo 34 [0]),aa,aa,vI 0,aa,aa,(Zd x),vI ((k:Nat):Int)],(Zc f u rows)⟩) (fun (k:Nat)=>(k≤x.length)∧(∀ j,j<k→Yg f (x.getD j 0))) (fun (k:Nat)=>x.length-k) (0) ⟨(Nat.zero_le _),(fun j hj=>absurd hj (Nat.not_lt_zero _))⟩ (fun _ _ hG=>Y9 [0,1,2] (bm 9 403) rfl rfl hG) ?_
 rintro k ⟨hk,hb⟩
 show T _ _ ⟨[slV tx nx (Y8 .i64) x,sv (.clo 34 [0]),aa,aa,vI 0,aa,aa,(Zd x),vI ((k:Nat):Int)],(Zc f u rows)⟩ _ _
 replace hk:k≤x.length:=hk
 replace hb:∀ j,j<k→Yg f (x.getD j 0):=hb
 refine sR [] (T.seq ?_)
 by_cases hq1:((k:Nat):Int)<((x.length:Nat):Int)
 ·refine cT (dT hq1) (T.skip (nT (T.seq (T.block (sR [] (sR [hR 3 rfl rfl (Yo tx nx (Y8 .i64) x k (k:=.i64) (i:=((k:Nat):Int)) Tryz.underlying47 Jr rfl rfl (by omega) (X4 rfl) trivial),hR 5 rfl rfl (Xdi (ls:=[0]) (X8o f u rows (x.getD k 0) ‹_› ‹_›) Tryz.func34 rfl (by decide) [0,1,2] [] (l:=[(.tmp 15,vI (x.getD k 0))]) [] rfl 3 3 rfl rfl rfl rfl rfl rfl rfl rfl rfl ⟨.inl ⟨rfl,rfl⟩,⟨.inl ⟨rfl,rfl⟩,trivial⟩⟩ rfl p3w (.inl rfl) (X4 rfl) trivial)] ?_))))))
  by_cases hq2:¬Yg f (x.getD k 0)
  ·refine cT (dT hq2) (sR [] (T.ret (rB (rT (rT (rB (rT ?_)))))))
   exact eRt 4 (.one (dI ((k:Nat):Int))) [0,1,2] (cI (by exact idxR_at hb (by omega) ‹_›)) (ix (ix (ix trivial)))
  refine cF (dF hq2) (T.skip (nB (nT (xK [hR 0 rfl rfl (Y4 (u1:=.int .i64 ((k:Nat):Int)) (u2:=.int .i64 1) (v:=.int .i64 ((k+1:Nat):Int)) (Yn pZ5) (X4 rfl) ⟨rfl,trivial⟩)] ?_))))
  refine nL (k+1) ⟨(show (k+1)≤x.length from (by omega)),(show ∀ j,j<(k+1)→Yg f (x.getD j 0) from (Ju hb (Classical.not_not.1 ‹_›)))⟩ (show (x.length-(k+1):Nat)<x.length-k from (by omega)) (fun _ _ hG=>Y9 [0,1,2] (bm 9 403) rfl rfl hG)
 refine cF (dF hq1) (T.exit (xT (xT (xH (nT (sR [] (T.ret ?_)))))))
 exact eRt 4 (.one (dI (-1))) [0,1,2] (cI (by exact idxR_no hb (by omega))) (ix (ix (ix trivial)))
theorem Xee:Cells Tryz.prog 3 1:=⟨_,Jr,rfl⟩
section
variable (f:Int) (u:Int) (rows:List (Xv×Bool)) (xs:List Int) (i:Nat) (j:Nat)
abbrev Zg:AV:=Xx 0 (Y8 .i64) 0 xs.length
abbrev Zh:HS:=.live (.box 26 [.ptr 2 0])
abbrev Zi:HS:=.live (.box 99 [dI (3*f+1),dI u,.mref 3])
abbrev Zj:HS:=.live (mpK X9 Y6 rows)
abbrev Zk:List HS:=[.live (Xc 3 (Y8 .i64) xs),Zh,(Zi f u),(Zj rows)]
abbrev Zl:List AV:=[(Zg xs),sv (.clo 34 [1]),aa,aa,dv (.slice none 0 0),vI (X2m f xs),aa,aa,aa,aa,aa,aa,vB (decide ((X2m f xs)=(-1)))]
abbrev Zm:List AV:=[(Zg xs),sv (.clo 34 [1]),aa,aa,dv (.slice none 0 0),vI ((Hh f xs:Nat):Int),aa,aa,aa,aa,aa,aa,vB (decide ((X2m f xs)=(-1)))]
abbrev Zq:List AV:=[(Zg xs),sv (.clo 34 [1]),aa,aa,Xx 0 (Y8 .i64) 0 i,vI ((i:Nat):Int),vI ((j:Nat):Int),aa,aa,aa,aa,aa,aa,aa,aa,aa,aa,aa,aa,vB (decide (((j:Nat):Int)<((xs.length:Nat):Int)))]
end
theorem Xco (f:Int) (u:Int) (rows:List (Xv×Bool)) (xs:List Int) (hf:0≤f∧f≤2) (hu:0≤u∧u≤8) (hx:xs.length≤1000000):Holds Tryz.prog 32 ⟨[Xx 0 (Y8 .i64) 0 xs.length,sv (.clo 34 [1])],[Xc 3 (Y8 .i64) xs,.box 26 [.ptr 2 0],.box 99 [dI (3*f+1),dI u,.mref 3],mpK X9 Y6 rows],Xx 0 (Y8 .i64) 0 (Ul f xs).length,[.live (Xc 3 (Y8 .i64) (Ul f xs)),.live (.box 26 [.ptr 2 0]),.live (.box 99 [dI (3*f+1),dI u,.mref 3]),.live (mpK X9 Y6 rows)]⟩:=by
 refine Holds.of Tryz.func32 rfl (N:=42) Tryz.ntmps32 rfl fun w0 B0 S0 U0=>?_
 show T _ (Y0 42 4 w0 S0 U0 B0) ⟨[(Zg xs),sv (.clo 34 [1])],(Zk f u rows xs)⟩ _ _
 refine sR [] (sR [hR 2 rfl rfl (Wk (Xfs f u rows true false xs ‹_› ‹_› ‹_›) Tryz.func66 rfl (by decide) [1,2,3] [0] (l:=[(.tmp 8,(Zg xs)),(.tmp 9,sv (.clo 34 [1]))]) [(0,.live (Xc 3 (Y8 .i64) xs))] rfl 3 3 rfl rfl rfl rfl rfl rfl rfl rfl rfl ⟨.inr (.inl ⟨rfl,p1b,rfl,rfl,by simp,3,xs.length,Yu (Y8 .i64) xs,List.Mem.head _,pg,fun i j=>by rw [Nat.zero_add]⟩),⟨.inl ⟨rfl,rfl⟩,trivial⟩⟩ rfl pZ4 (.inr ⟨trivial,(And.intro (And.intro trivial trivial) (And.intro (And.intro trivial (And.intro trivial (And.intro trivial trivial))) (And.intro (X3f X2l) trivial)))⟩) (X4 rfl) trivial)] (T.seq (sR [] ?_)))
 by_cases hq1:(X2m f xs)=(-1)
 ·have hid:=idxR_all hq1
  refine cT (dT hq1) (sR [] (T.ret (rT ?_)))
  exact eRt 4 (.one (.own 0 (Y8 .i64).sz 0 xs.length)) [0,1,2,3] (by have e1:((Ul f xs).length:Nat)=xs.length:=(by (rw [hid]));have hE:=congrArg (fun (q1:Nat)=>(Xx 0 (Y8 .i64) 0 q1:AV)) e1;exact hE) ⟨⟨rfl,(by have e1:(xs:List Int)=(Ul f xs):=(by exact hid.symm);have hE:=congrArg (fun (q1:List Int)=>(.live (Xc 3 (Y8 .i64) q1):HS)) e1;exact Eq.trans pZ2 hE)⟩,(ix (ix (ix trivial)))⟩
 have hid:=idxR_is hq1;have hid1:=hid.1;have hid2:=hid.2.1;have hid3:=hid.2.2
 refine cF (dF hq1) (T.skip (nT (T.seq ?_)))
 refine tN ⟨(Zl f xs),(Zk f u rows xs)⟩ ?_
 refine Wv (s':=⟨(Zm f xs),(Zk f u rows xs)⟩) (fun _ _ hG=>Y9 [0,1,2,3] (bm 13 4147) (t2:=(Zl f xs)) (congrArg (fun (q1:Int)=>([(Zg xs),sv (.clo 34 [1]),aa,aa,dv (.slice none 0 0),vI q1,aa,aa,aa,aa,aa,aa,vB (decide ((X2m f xs)=(-1)))]:List AV)) (by exact hid1.symm)) rfl hG) (sR [hR 1 rfl rfl (Y4 (u1:=.int .i64 ((Hh f xs:Nat):Int)) (u2:=.int .i64 1) (v:=.int .i64 (((Hh f xs)+1:Nat):Int)) (Yn pZ5) (X4 rfl) ⟨rfl,trivial⟩)] (T.block ?_))
 refine T.loop (ι:=Nat×Nat×(List Int)) (fun (x_:Nat×Nat×(List Int))=>⟨[(Zg xs),sv (.clo 34 [1]),aa,aa,aa,vI ((x_.1:Nat):Int),vI ((x_.2.1:Nat):Int)],[.live (Xc 3 (Y8 .i64) x_.2.2),Zh,(Zi f u),(Zj rows)]⟩) (fun (x_:Nat×Nat×(List Int))=>(x_.2.1≤xs.length)∧(x_.1<x_.2.1)∧(x_.2.2.length=xs.length)∧(x_.2.2.take x_.1=Ul f (xs.take x_.2.1))∧(∀ m,x_.2.1≤m→x_.2.2.getD m 0=xs.getD m 0)) (fun (x_:Nat×Nat×(List Int))=>xs.length-x_.2.1) ((Hh f xs),((Hh f xs)+1),xs) ⟨(show ((Hh f xs)+1)≤xs.length from (by omega)),(show (Hh f xs)<((Hh f xs)+1) from (by omega)),(show xs.length=xs.length from rfl),(show xs.take (Hh f xs)=Ul f (xs.take ((Hh f xs)+1)) from hid3),(show ∀ m,((Hh f xs)+1)≤m→xs.getD m 0=xs.getD m 0 from (fun _ _=>rfl))⟩ (fun _ _ hG=>Y9 [0,1,2,3] (bm 7 99) (t2:=[(Zg xs),sv (.clo 34 [1]),aa,aa,aa,vI ((Hh f xs:Nat):Int),vI (((Hh f xs)+1:Nat):Int)]) (cg2 (fun (q1:Int) (q2:Int)=>([(Zg xs),sv (.clo 34 [1]),aa,aa,aa,vI q1,vI q2]:List AV)) (by rfl) (by rfl)) rfl hG) ?_
 rintro ⟨i,j,ys⟩ ⟨hj,hij,hyl,hys,hyd⟩
 show T _ _ ⟨[(Zg xs),sv (.clo 34 [1]),aa,aa,aa,vI ((i:Nat):Int),vI ((j:Nat):Int)],[.live (Xc 3 (Y8 .i64) ys),Zh,(Zi f u),(Zj rows)]⟩ _ _
 replace hj:j≤xs.length:=hj
 replace hij:i<j:=hij
 replace hyl:ys.length=xs.length:=hyl
 replace hys:ys.take i=Ul f (xs.take j):=hys
 replace hyd:∀ m,j≤m→ys.getD m 0=xs.getD m 0:=hyd
 refine T.seq (sR [] ?_)
 by_cases hq2:((j:Nat):Int)<((xs.length:Nat):Int)
 ·refine cT (dT hq2) (T.skip (nT (T.seq (T.block (sR [hR 2 rfl rfl (V3 (k:=.i64) (l:=0) (sz:=(Y8 .i64).sz) (off:=0) (n:=xs.length) (i:=((j:Nat):Int)) (m:=j) (o':=j*(Y8 .i64).sz+0) Tryz.underlying47 Jr rfl rfl (by omega) (by simp) (X4 rfl) trivial),hR 3 rfl rfl (Uy (l:=0) (off:=j*(Y8 .i64).sz+0) (i:=j) (j:=0) (T:=3) (sz:=(Y8 .i64).sz) (n:=ys.length) (el:=Yu (Y8 .i64) ys) (c:=.val (.int .i64 (ys.getD j 0))) H1 rfl (by omega) (by decide) rfl (X4 rfl) trivial)] (sR [hR 2 rfl rfl (Xdi (ls:=[1]) (X8o f u rows (ys.getD j 0) ‹_› ‹_›) Tryz.func34 rfl (by decide) [1,2,3] [] (l:=[(.tmp 27,vI (ys.getD j 0))]) [] rfl 3 3 rfl rfl rfl rfl rfl rfl rfl rfl rfl ⟨.inl ⟨rfl,rfl⟩,⟨.inl ⟨rfl,rfl⟩,trivial⟩⟩ rfl p3w (.inl rfl) (X4 rfl) trivial)] ?_))))))
  by_cases hq3:¬Yg f (ys.getD j 0)
  ·have hdn:=del_no (by omega) hys hyd hq3;have hdn1:=hdn.1;have hdn2:=hdn.2
   refine cF (cn (dT hq3)) (T.skip (nB (nT (xK [hR 1 rfl rfl (Y4 (u1:=.int .i64 ((j:Nat):Int)) (u2:=.int .i64 1) (v:=.int .i64 ((j+1:Nat):Int)) (Yn pZ5) (X4 rfl) ⟨rfl,trivial⟩)] ?_))))
   refine nL (i,j+1,ys) ⟨(show (j+1)≤xs.length from (by omega)),(show i<(j+1) from (by omega)),(show ys.length=xs.length from ‹_›),(show ys.take i=Ul f (xs.take (j+1)) from hdn1),(show ∀ m,(j+1)≤m→ys.getD m 0=xs.getD m 0 from hdn2)⟩ (show (xs.length-(j+1):Nat)<xs.length-j from (by omega)) (fun _ _ hG=>Y9 [0,1,2,3] (bm 7 99) rfl rfl hG)
  have hdn:=del_yes hij (by omega) hyl hys hyd (Classical.not_not.1 hq3);have hdn1:=hdn.1;have hdn2:=hdn.2
  refine cT (cn (dF hq3)) (sR [hR 3 rfl rfl (V3 (k:=.i64) (l:=0) (sz:=(Y8 .i64).sz) (off:=0) (n:=xs.length) (i:=((i:Nat):Int)) (m:=i) (o':=i*(Y8 .i64).sz+0) Tryz.underlying47 Jr rfl rfl (by omega) (by simp) (X4 rfl) trivial),hR 4 rfl rfl (Xac 0 3 (Y8 .i64) ys (ys.getD j 0) i 0 1 [.val (.int .i64 (ys.getD j 0))] (tv:=.one (dI (ys.getD j 0))) (off:=i*(Y8 .i64).sz+0) Xee ⟨.inl rfl,trivial⟩ rfl rfl (by omega) (by decide) rfl (by intro j hj;replace hj:j<1:=hj;rcases j with _|j<;>first|rfl|omega) trivial)] ?_)
  refine xK [hR 1 rfl rfl (Y4 (u1:=.int .i64 ((i:Nat):Int)) (u2:=.int .i64 1) (v:=.int .i64 ((i+1:Nat):Int)) (Yn pZ5) (X4 rfl) ⟨rfl,trivial⟩)] (nB (nT (xK [hR 1 rfl rfl (Y4 (u1:=.int .i64 ((j:Nat):Int)) (u2:=.int .i64 1) (v:=.int .i64 ((j+1:Nat):Int)) (Yn pZ5) (X4 rfl) ⟨rfl,trivial⟩)] ?_)))
  refine nL (i+1,j+1,(ys.set i (ys.getD j 0))) ⟨(show (j+1)≤xs.length from (by omega)),(show (i+1)<(j+1) from (by omega)),(show (ys.set i (ys.getD j 0)).length=xs.length from (by (rw [List.length_set];assumption))),(show (ys.set i (ys.getD j 0)).take (i+1)=Ul f (xs.take (j+1)) from hdn1),(show ∀ m,(j+1)≤m→(ys.set i (ys.getD j 0)).getD m 0=xs.getD m 0 from hdn2)⟩ (show (xs.length-(j+1):Nat)<xs.length-j from (by omega)) (fun _ _ hG=>Y9 [0,1,2,3] (bm 7 99) rfl rfl hG)
 refine cF (dF hq2) (T.exit (xT (xT (xH (nT (sR [hR 2 rfl rfl (Er (lo0:=0) (sz:=(Y8 .i64).sz) (off:=0) (n:=xs.length) (l:=i) (h:=xs.length) (off':=i) (n':=(xs.length-i)) (lo:=some (.tmp 37,((i:Nat):Int))) (hi:=none) Tryz.underlying47 Jr rfl rfl rfl rfl rfl (by omega) (by omega) (by omega) (by omega) (X4 rfl) trivial),hR 3 rfl rfl (Xad 0 3 ys (ys.take i++List.replicate (xs.length-i) 0++ys.drop (i+(xs.length-i)):List Int) i (xs.length-i) X0t X2z (by omega) rfl trivial)] (sR [hR 2 rfl rfl (Er (lo0:=0) (sz:=(Y8 .i64).sz) (off:=0) (n:=xs.length) (l:=0) (h:=i) (off':=0) (n':=i) (lo:=none) (hi:=some (.tmp 40,((i:Nat):Int))) Tryz.underlying47 Jr rfl rfl rfl rfl rfl (by omega) (by omega) (by omega) (by omega) (X4 rfl) trivial)] (T.ret ?_))))))))
 refine eN ⟨(Zq xs i j),[.live (Xc 3 (Y8 .i64) (ys.take i++List.replicate (xs.length-i) 0++ys.drop (i+(xs.length-i)):List Int)),Zh,(Zi f u),(Zj rows)]⟩ ?_
 refine Xh (s':=⟨(Zq xs i j),[.live (Xc 3 (Y8 .i64) ((ys.take i++List.replicate (xs.length-i) 0++ys.drop (i+(xs.length-i)):List Int).take i)),Zh,(Zi f u),(Zj rows)]⟩) (fun _ _ hG=>Xbk 0 3 (Y8 .i64) (ys.take i++List.replicate (xs.length-i) 0++ys.drop (i+(xs.length-i)):List Int) ((ys.take i++List.replicate (xs.length-i) 0++ys.drop (i+(xs.length-i)):List Int).take i) i rfl rfl hG) ?_
 exact eRt 4 (.one (.own 0 (Y8 .i64).sz 0 i)) [0,1,2,3] (by have e1:((Ul f xs).length:Nat)=i:=(by (have h9:=congrArg List.length (Xe2 (by omega) hys);rw [List.length_take] at h9;omega));have hE:=congrArg (fun (q1:Nat)=>(Xx 0 (Y8 .i64) 0 q1:AV)) e1;exact hE) ⟨⟨rfl,(by have e1:(((ys.take i++List.replicate (xs.length-i) 0++ys.drop (i+(xs.length-i)):List Int).take i):List Int)=(Ul f xs):=(by (rw [Xe6 (by omega),Xe2 (by omega) hys]));have hE:=congrArg (fun (q1:List Int)=>(.live (Xc 3 (Y8 .i64) q1):HS)) e1;exact Eq.trans pZ2 hE)⟩,(ix (ix (ix trivial)))⟩
theorem sort_int (xs:List Int) (hx:xs.length≤1000000000):Holds Tryz.prog 36 ⟨[Xx 0 (Y8 .i64) 0 xs.length],[Xc 3 (Y8 .i64) xs],.tup [],[.live (Xc 3 (Y8 .i64) (J2 xs))]⟩:=Xbs lays189 3 xs hx
section
variable (xs:List Int) (k:Nat) (p:Nat) (q:Nat)
abbrev Zr:AV:=Xx 0 (Y8 .i64) 0 xs.length
abbrev Zs:List HS:=[.live (Xc 3 (Y8 .i64) xs)]
abbrev Zt:AV:=vB (decide (((xs.length:Nat):Int)<2))
abbrev Zu:List AV:=[(Zr xs),aa,dv (.slice none 0 0),vI ((k:Nat):Int),aa,aa,aa,aa,(Zt xs)]
abbrev Zw:AV:=Xx 0 (Y8 .i64) k (xs.length-k)
abbrev Zy:List AV:=[(Zr xs),aa,Xx 0 (Y8 .i64) 0 p,vI ((p:Nat):Int),(Zw xs k),vI ((q:Nat):Int),aa,aa,aa,aa,aa,aa,aa,aa,aa,aa,aa,aa,aa,aa,aa,aa,aa,aa,aa,aa,aa,aa,aa,aa,aa,aa,vB (decide (((q:Nat):Int)<((xs.length-k:Nat):Int)))]
end
theorem Xb8 (xs:List Int) (hx:xs.length≤1000000):Holds Tryz.prog 37 ⟨[Xx 0 (Y8 .i64) 0 xs.length],[Xc 3 (Y8 .i64) xs],Xx 0 (Y8 .i64) 0 (X06 xs).length,[.live (Xc 3 (Y8 .i64) (X06 xs))]⟩:=by
 refine Holds.of Tryz.func37 rfl (N:=61) Tryz.ntmps37 rfl fun w0 B0 S0 U0=>?_
 show T _ (Y0 61 1 w0 S0 U0 B0) ⟨[(Zr xs)],(Zs xs)⟩ _ _
 refine sR [] (T.seq (sR [] ?_))
 by_cases hq1:((xs.length:Nat):Int)<2
 ·have hsh:=Xfz hq1
  refine cT (dT hq1) (sR [] (T.ret (rT ?_)))
  exact eRt 2 (.one (.own 0 (Y8 .i64).sz 0 xs.length)) [0] p3e ⟨⟨rfl,p3a⟩,trivial⟩
 refine cF (dF hq1) (T.skip (nT (T.seq (sR [] (T.block ?_)))))
 refine T.loop (ι:=Nat) (fun (k:Nat)=>⟨(Zu xs k),(Zs xs)⟩) (fun (k:Nat)=>(k≤xs.length)∧(1≤k)∧(∀ m,1≤m→m<k→¬xs.getD m 0=xs.getD (m-1) 0)) (fun (k:Nat)=>xs.length-k) (1) ⟨(by omega),(Nat.le_refl _),(fun m h1 h2=>by omega)⟩ (fun _ _ hG=>Y9 [0] (bm 9 269) rfl rfl hG) ?_
 rintro k ⟨hk,hk1,hb⟩
 show T _ _ ⟨(Zu xs k),(Zs xs)⟩ _ _
 replace hk:k≤xs.length:=hk
 replace hk1:1≤k:=hk1
 replace hb:∀ m,1≤m→m<k→¬xs.getD m 0=xs.getD (m-1) 0:=hb
 refine T.seq (sR [] ?_)
 by_cases hq2:((k:Nat):Int)<((xs.length:Nat):Int)
 rotate_left
 ·have hsh:=Xb7 (k:=k) (by omega) hb
  refine cF (dF hq2) (T.exit (xT (xT (xH (nT (sR [] (T.ret ?_)))))))
  exact eRt 2 (.one (.own 0 (Y8 .i64).sz 0 xs.length)) [0] p3e ⟨⟨rfl,p3a⟩,trivial⟩
 refine cT (dT hq2) (T.skip (nT (T.seq (T.block ?_))))
 refine sD [[],[],[0,1],[0,1,2],[],[],[5],[4,5,6],[4,5,6,7],[0,1,2,3,4,5,6,7,8]] [hR 2 rfl rfl (V3 (k:=.i64) (l:=0) (sz:=(Y8 .i64).sz) (off:=0) (n:=xs.length) (i:=((k:Nat):Int)) (m:=k) (o':=k*(Y8 .i64).sz+0) Tryz.underlying47 Jr rfl rfl (by omega) (by simp) (X4 rfl) trivial),hR 3 rfl rfl (Uy (l:=0) (off:=k*(Y8 .i64).sz+0) (i:=k) (j:=0) (T:=3) (sz:=(Y8 .i64).sz) (n:=xs.length) (el:=Yu (Y8 .i64) xs) (c:=.val (.int .i64 (xs.getD k 0))) H1 rfl (by omega) (by decide) rfl (X4 rfl) trivial),hR 6 rfl rfl (Y4 (u1:=.int .i64 ((k:Nat):Int)) (u2:=.int .i64 1) (v:=.int .i64 ((k-1:Nat):Int)) (X0e pZ5) (X4 rfl) ⟨rfl,trivial⟩),hR 7 rfl rfl (V3 (k:=.i64) (l:=0) (sz:=(Y8 .i64).sz) (off:=0) (n:=xs.length) (i:=((k-1:Nat):Int)) (m:=(k-1)) (o':=(k-1)*(Y8 .i64).sz+0) Tryz.underlying47 Jr rfl rfl (by omega) (by simp) (X4 rfl) trivial),hR 8 rfl rfl (Uy (l:=0) (off:=(k-1)*(Y8 .i64).sz+0) (i:=k-1) (j:=0) (T:=3) (sz:=(Y8 .i64).sz) (n:=xs.length) (el:=Yu (Y8 .i64) xs) (c:=.val (.int .i64 (xs.getD (k-1) 0))) H1 rfl (by omega) (by decide) rfl (X4 rfl) trivial)] ?_
 by_cases hq3:(xs.getD k 0)=(xs.getD (k-1) 0)
 rotate_left
 ·refine cF (dF hq3) (T.skip (nB (nT (xK [hR 1 rfl rfl (Y4 (u1:=.int .i64 ((k:Nat):Int)) (u2:=.int .i64 1) (v:=.int .i64 ((k+1:Nat):Int)) (Yn pZ5) (X4 rfl) ⟨rfl,trivial⟩)] ?_))))
  refine nL (k+1) ⟨(show (k+1)≤xs.length from (by omega)),(show 1≤(k+1) from (by omega)),(show ∀ m,1≤m→m<(k+1)→¬xs.getD m 0=xs.getD (m-1) 0 from (fun m h1 h2=>by rcases Nat.lt_or_ge m k with h9|h9;exact hb m h1 h9;have h8:m=k:=(by omega);subst h8;assumption))⟩ (show (xs.length-(k+1):Nat)<xs.length-k from (by omega)) (fun _ _ hG=>Y9 [0] (bm 9 269) rfl rfl hG)
 have hst:=Xfy hk1 (by omega) hb hq3
 refine cT (dT hq3) (sR [hR 2 rfl rfl (Er (lo0:=0) (sz:=(Y8 .i64).sz) (off:=0) (n:=xs.length) (l:=k) (h:=xs.length) (off':=k) (n':=(xs.length-k)) (lo:=some (.tmp 27,((k:Nat):Int))) (hi:=none) Tryz.underlying47 Jr rfl rfl rfl rfl rfl ‹_› (by omega) (by omega) (by omega) (X4 rfl) trivial)] (T.seq (sR [] (T.block ?_))))
 refine T.loop (ι:=Nat×Nat×(List Int)) (fun (x_:Nat×Nat×(List Int))=>⟨[(Zr xs),aa,aa,vI ((x_.1:Nat):Int),(Zw xs k),vI ((x_.2.1:Nat):Int)],[.live (Xc 3 (Y8 .i64) x_.2.2)]⟩) (fun (x_:Nat×Nat×(List Int))=>(x_.1<k+x_.2.1)∧(1≤x_.2.1)∧(k+x_.2.1≤xs.length)∧(x_.2.2.length=xs.length)∧(x_.2.2.take x_.1=Hj xs (k+x_.2.1))∧(∀ m,k+x_.2.1-1≤m→x_.2.2.getD m 0=xs.getD m 0)) (fun (x_:Nat×Nat×(List Int))=>xs.length-k-x_.2.1) (k,1,xs) ⟨(show k<k+1 from (by omega)),(show 1≤1 from (Nat.le_refl _)),(show k+1≤xs.length from (by omega)),(show xs.length=xs.length from rfl),(show xs.take k=Hj xs (k+1) from hst),(show ∀ m,k+1-1≤m→xs.getD m 0=xs.getD m 0 from (fun _ _=>rfl))⟩ (fun _ _ hG=>Y9 [0] (bm 6 57) rfl rfl hG) ?_
 rintro ⟨p,q,ys⟩ ⟨hp,hq1,hkq,hyl,hys,hyd⟩
 show T _ _ ⟨[(Zr xs),aa,aa,vI ((p:Nat):Int),(Zw xs k),vI ((q:Nat):Int)],[.live (Xc 3 (Y8 .i64) ys)]⟩ _ _
 replace hp:p<k+q:=hp
 replace hq1:1≤q:=hq1
 replace hkq:k+q≤xs.length:=hkq
 replace hyl:ys.length=xs.length:=hyl
 replace hys:ys.take p=Hj xs (k+q):=hys
 replace hyd:∀ m,k+q-1≤m→ys.getD m 0=xs.getD m 0:=hyd
 refine T.seq (sR [] ?_)
 by_cases hq4:((q:Nat):Int)<((xs.length-k:Nat):Int)
 ·refine cT (dT hq4) (T.skip (nT (T.seq (T.block ?_))))
  refine sD [[],[],[0,1],[0,1,2],[],[],[5],[4,5,6],[4,5,6,7],[0,1,2,3,4,5,6,7,8]] [hR 2 rfl rfl (V3 (k:=.i64) (l:=0) (sz:=(Y8 .i64).sz) (off:=k) (n:=(xs.length-k)) (i:=((q:Nat):Int)) (m:=q) (o':=(k+q)*(Y8 .i64).sz+0) Tryz.underlying47 Jr rfl rfl (by omega) (by rfl) (X4 rfl) trivial),hR 3 rfl rfl (Uy (l:=0) (off:=(k+q)*(Y8 .i64).sz+0) (i:=k+q) (j:=0) (T:=3) (sz:=(Y8 .i64).sz) (n:=ys.length) (el:=Yu (Y8 .i64) ys) (c:=.val (.int .i64 (ys.getD (k+q) 0))) H1 rfl (by omega) (by decide) rfl (X4 rfl) trivial),hR 6 rfl rfl (Y4 (u1:=.int .i64 ((q:Nat):Int)) (u2:=.int .i64 1) (v:=.int .i64 ((q-1:Nat):Int)) (X0e pZ5) (X4 rfl) ⟨rfl,trivial⟩),hR 7 rfl rfl (V3 (k:=.i64) (l:=0) (sz:=(Y8 .i64).sz) (off:=k) (n:=(xs.length-k)) (i:=((q-1:Nat):Int)) (m:=(q-1)) (o':=(k+(q-1))*(Y8 .i64).sz+0) Tryz.underlying47 Jr rfl rfl (by omega) (by rfl) (X4 rfl) trivial),hR 8 rfl rfl (Uy (l:=0) (off:=(k+(q-1))*(Y8 .i64).sz+0) (i:=k+(q-1)) (j:=0) (T:=3) (sz:=(Y8 .i64).sz) (n:=ys.length) (el:=Yu (Y8 .i64) ys) (c:=.val (.int .i64 (ys.getD (k+(q-1)) 0))) H1 rfl (by omega) (by decide) rfl (X4 rfl) trivial)] ?_
  by_cases hq5:(ys.getD (k+q) 0)≠(ys.getD (k+(q-1)) 0)
  ·have hcn:=cpt_yes hp hq1 hyl (by omega) hys hyd hq5;have hcn1:=hcn.1;have hcn2:=hcn.2
   refine cT (dT hq5) ?_
   refine sR [hR 4 rfl rfl (V3 (k:=.i64) (l:=0) (sz:=(Y8 .i64).sz) (off:=k) (n:=(xs.length-k)) (i:=((q:Nat):Int)) (m:=q) (o':=(k+q)*(Y8 .i64).sz+0) Tryz.underlying47 Jr rfl rfl (by omega) (by rfl) (X4 rfl) trivial),hR 5 rfl rfl (Uy (l:=0) (off:=(k+q)*(Y8 .i64).sz+0) (i:=k+q) (j:=0) (T:=3) (sz:=(Y8 .i64).sz) (n:=ys.length) (el:=Yu (Y8 .i64) ys) (c:=.val (.int .i64 (ys.getD (k+q) 0))) H1 rfl (by omega) (by decide) rfl (X4 rfl) trivial),hR 6 rfl rfl (V3 (k:=.i64) (l:=0) (sz:=(Y8 .i64).sz) (off:=0) (n:=xs.length) (i:=((p:Nat):Int)) (m:=p) (o':=p*(Y8 .i64).sz+0) Tryz.underlying47 Jr rfl rfl (by omega) (by simp) (X4 rfl) trivial),hR 7 rfl rfl (Xac 0 3 (Y8 .i64) ys (ys.getD (k+q) 0) p 0 1 [.val (.int .i64 (ys.getD (k+q) 0))] (tv:=.one (dI (ys.getD (k+q) 0))) (off:=p*(Y8 .i64).sz+0) Xee ⟨.inl rfl,trivial⟩ rfl rfl (by omega) (by decide) rfl (by intro j hj;replace hj:j<1:=hj;rcases j with _|j<;>first|rfl|omega) trivial)] ?_
   refine xK [hR 1 rfl rfl (Y4 (u1:=.int .i64 ((p:Nat):Int)) (u2:=.int .i64 1) (v:=.int .i64 ((p+1:Nat):Int)) (Yn pZ5) (X4 rfl) ⟨rfl,trivial⟩)] (nB (nT (xK [hR 1 rfl rfl (Y4 (u1:=.int .i64 ((q:Nat):Int)) (u2:=.int .i64 1) (v:=.int .i64 ((q+1:Nat):Int)) (Yn pZ5) (X4 rfl) ⟨rfl,trivial⟩)] ?_)))
   refine nL (p+1,q+1,(ys.set p (ys.getD (k+q) 0))) ⟨(show (p+1)<k+(q+1) from (by omega)),(show 1≤(q+1) from (by omega)),(show k+(q+1)≤xs.length from (by omega)),(show (ys.set p (ys.getD (k+q) 0)).length=xs.length from (by (rw [List.length_set];assumption))),(show (ys.set p (ys.getD (k+q) 0)).take (p+1)=Hj xs (k+(q+1)) from hcn1),(show ∀ m,k+(q+1)-1≤m→(ys.set p (ys.getD (k+q) 0)).getD m 0=xs.getD m 0 from hcn2)⟩ (show (xs.length-k-(q+1):Nat)<xs.length-k-q from (by omega)) (fun _ _ hG=>Y9 [0] (bm 6 57) rfl rfl hG)
  have hcn:=cpt_no hp hq1 (by omega) hys hyd hq5;have hcn1:=hcn.1;have hcn2:=hcn.2
  refine cF (dF hq5) (T.skip (nB (nT (xK [hR 1 rfl rfl (Y4 (u1:=.int .i64 ((q:Nat):Int)) (u2:=.int .i64 1) (v:=.int .i64 ((q+1:Nat):Int)) (Yn pZ5) (X4 rfl) ⟨rfl,trivial⟩)] ?_))))
  refine nL (p,q+1,ys) ⟨(show p<k+(q+1) from (by omega)),(show 1≤(q+1) from (by omega)),(show k+(q+1)≤xs.length from (by omega)),(show ys.length=xs.length from ‹_›),(show ys.take p=Hj xs (k+(q+1)) from hcn1),(show ∀ m,k+(q+1)-1≤m→ys.getD m 0=xs.getD m 0 from hcn2)⟩ (show (xs.length-k-(q+1):Nat)<xs.length-k-q from (by omega)) (fun _ _ hG=>Y9 [0] (bm 6 57) rfl rfl hG)
 refine cF (dF hq4) (T.exit (xT (xT (xH (nT (sR [hR 2 rfl rfl (Er (lo0:=0) (sz:=(Y8 .i64).sz) (off:=0) (n:=xs.length) (l:=p) (h:=xs.length) (off':=p) (n':=(xs.length-p)) (lo:=some (.tmp 55,((p:Nat):Int))) (hi:=none) Tryz.underlying47 Jr rfl rfl rfl rfl rfl (by omega) (by omega) (by omega) (by omega) (X4 rfl) trivial),hR 3 rfl rfl (Xad 0 3 ys (ys.take p++List.replicate (xs.length-p) 0++ys.drop (p+(xs.length-p)):List Int) p (xs.length-p) X0t X2z (by omega) rfl trivial)] (sR [hR 2 rfl rfl (Er (lo0:=0) (sz:=(Y8 .i64).sz) (off:=0) (n:=xs.length) (l:=0) (h:=p) (off':=0) (n':=p) (lo:=none) (hi:=some (.tmp 58,((p:Nat):Int))) Tryz.underlying47 Jr rfl rfl rfl rfl rfl (by omega) (by omega) (by omega) (by omega) (X4 rfl) trivial)] (T.ret (rB (rT (rT (rB (rT ?_)))))))))))))
 refine eN ⟨(Zy xs k p q),[.live (Xc 3 (Y8 .i64) (ys.take p++List.replicate (xs.length-p) 0++ys.drop (p+(xs.length-p)):List Int))]⟩ ?_
 refine Xh (s':=⟨(Zy xs k p q),[.live (Xc 3 (Y8 .i64) ((ys.take p++List.replicate (xs.length-p) 0++ys.drop (p+(xs.length-p)):List Int).take p))]⟩) (fun _ _ hG=>Xbk 0 3 (Y8 .i64) (ys.take p++List.replicate (xs.length-p) 0++ys.drop (p+(xs.length-p)):List Int) ((ys.take p++List.replicate (xs.length-p) 0++ys.drop (p+(xs.length-p)):List Int).take p) p rfl rfl hG) ?_
 exact eRt 2 (.one (.own 0 (Y8 .i64).sz 0 p)) [0] (by have e1:((X06 xs).length:Nat)=p:=(by (have h9:=congrArg List.length (Xe8 (by omega) hkq hys);rw [List.length_take] at h9;omega));have hE:=congrArg (fun (q1:Nat)=>(Xx 0 (Y8 .i64) 0 q1:AV)) e1;exact hE) ⟨⟨rfl,(by have e1:(((ys.take p++List.replicate (xs.length-p) 0++ys.drop (p+(xs.length-p)):List Int).take p):List Int)=(X06 xs):=(by (rw [Xe6 (by omega),Xe8 (by omega) hkq hys]));have hE:=congrArg (fun (q1:List Int)=>(.live (Xc 3 (Y8 .i64) q1):HS)) e1;exact Eq.trans pZ2 hE)⟩,trivial⟩
end Go.Proofs.YthnefnknoahbkaaGreat.Q
