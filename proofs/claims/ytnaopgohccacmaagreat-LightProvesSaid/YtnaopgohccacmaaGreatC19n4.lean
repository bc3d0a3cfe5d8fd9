import Derived.Test.YtnaopgohccacmaaGreatC19p
import Derived.Shelf.Sort.Plain
import Derived.Shelf.Slices.In.SortNone
namespace Go.Proofs.YtnaopgohccacmaaGreat.Q
set_option linter.unusedVariables false
set_option linter.unusedSimpArgs false
def Ek (n:Int):Prop:=-9223372036854775808≤n∧n≤9223372036854775807
theorem Ho {α:Type} {z:α} {l:List α} {k:Nat} (hk:k<l.length):l.take (k+1)=l.take k++[l.getD k z]:=by
  rw [List.take_add_one,List.getD_eq_getElem?_getD,List.getElem?_eq_getElem hk];rfl
theorem Ut {P:Nat→Prop} {k:Nat} (h:∀ j,j<k→P j) (hk:P k):∀ j,j<k+1→P j:=fun j hj=>by
  rcases Nat.lt_or_ge j k with h1|h1
  · exact h j h1
  · obtain rfl:j=k:=by omega
    exact hk
theorem Xbo {α:Type} {a b:List α} {z:α} {k:Nat} (hl:a.length=b.length) (hk:a.length≤k) (h:∀ j,j<k→a.getD j z=b.getD j z):a=b:=by
  apply List.ext_getElem hl
  intro j h1 h2
  have:=h j (by omega)
  simpa [List.getD_eq_getElem?_getD,List.getElem?_eq_getElem h1,List.getElem?_eq_getElem h2] using this
theorem J3 {α:Type} {l:List α} {z:α} {k:Nat} (hk:k<l.length):l.getD k z∈l:=by
  rw [List.getD_eq_getElem?_getD,List.getElem?_eq_getElem hk]
  exact List.getElem_mem hk
theorem mem_get {α:Type} {l:List α} {z e:α} {k:Nat} (hk:k<l.length) (h:l.getD k z=e):e∈l:=h ▸ J3 hk
theorem Xe7 {α:Type} {l:List α} {z e:α} {k:Nat} (hk:l.length≤k) (h:∀ j,j<k→¬l.getD j z=e):¬e∈l:=fun hm=>by
  obtain ⟨j,hj,rfl⟩:=List.getElem_of_mem hm
  refine h j (by omega) ?_
  rw [List.getD_eq_getElem?_getD,List.getElem?_eq_getElem hj];rfl
theorem X50 {α:Type} {p:α→Prop} {l:List α} {z:α} (h:∀ x,x∈l→p x) (hz:p z) (k:Nat):p (l.getD k z):=by
  rcases Nat.lt_or_ge k l.length with hk|hk
  · exact h _ (J3 hk)
  · rw [List.getD_eq_getElem?_getD,List.getElem?_eq_none hk];exact hz
theorem X9b {α β:Type} {f:β→α→β} {b:β} {z:α} {l:List α} {k:Nat} (hk:k<l.length):(l.take (k+1)).foldl f b=f ((l.take k).foldl f b) (l.getD k z):=by
  rw [Ho (z:=z) hk,List.foldl_append];rfl
def I0 {α:Type} (sz:α→Nat) (n m:Nat) (l:List α):Prop:=l.length≤n∧∀ x,x∈l→sz x≤m
instance {α:Type} (sz:α→Nat) (n m:Nat) (l:List α):Decidable (I0 sz n m l):=inferInstanceAs (Decidable (_∧∀ x,x∈l→sz x≤m))
section
variable {α:Type} {sz:α→Nat} {n m:Nat} {l:List α} {z:α} {k:Nat}
theorem Iu (hf:I0 sz n m l) (hz:sz z≤m) (k:Nat):sz (l.getD k z)≤m:=X50 hf.2 hz k
theorem mem_set {x y:α} (h:x∈l.set k y):x∈l∨x=y:=List.mem_or_eq_of_mem_set h
theorem fewG_set {y:α} (hf:I0 sz n m l) (hy:sz y≤m):I0 sz n m (l.set k y):=⟨by rw [List.length_set];exact hf.1,fun x hx=>by
  rcases mem_set hx with h|h
  · exact hf.2 x h
  · rw [h];exact hy⟩
end
end Go.Proofs.YtnaopgohccacmaaGreat.Q
namespace Go.Proofs.YtnaopgohccacmaaGreat.Q
set_option linter.unusedVariables false
set_option linter.unusedSimpArgs false
def Wi (n:Nat):Nat→List UInt8
  | 0=>[]
  | j+1=>UInt8.ofNat (n / 2 ^ (8*j))::Wi n j
theorem X2h (n:Nat):∀ m,(Wi n m).length=m
  | 0=>rfl
  | m+1=>by rw [Wi,List.length_cons,X2h n m]
theorem X7y {n j m:Nat} {acc b:List UInt8} (he:acc++Wi n j=b++Wi n m) (hj:0<j):(acc++[UInt8.ofNat (n / 2 ^ (8*(j-1)))])++Wi n (j-1)=b++Wi n m:=by
  obtain ⟨i,rfl⟩:∃ i,j=i+1:=⟨j-1,by omega⟩
  rw [← he,List.append_assoc]
  rfl
theorem Xdb {n j m:Nat} {acc b:List UInt8} (he:acc++Wi n j=b++Wi n m) (hj:0<j):(acc++[UInt8.ofNat (n / 2 ^ (8*(((j:Nat):Int)-1)).toNat)])++Wi n (j-1)=b++Wi n m:=by
  rw [show (8*(((j:Nat):Int)-1)).toNat=8*(j-1) by omega]
  exact X7y he hj
theorem Xjd {n j m:Nat} {acc b:List UInt8} (he:acc++Wi n j=b++Wi n m) (hj:j=0):acc=b++Wi n m:=by
  subst hj
  rw [← he,Wi,List.append_nil]
theorem X7z {n j m:Nat} {acc b:List UInt8} (he:acc++Wi n j=b++Wi n m):acc.length+j=b.length+m:=by
  have:=congrArg List.length he
  simpa [X2h] using this
def V2 (l:List UInt8):Nat:=l.foldl (fun n b=>n*2 ^ 8 ||| b.toNat) 0
theorem Xi5 (n:Nat) (b:UInt8):n*2 ^ 8 ||| b.toNat=n*256+b.toNat:=by
  have h:=UInt8.toNat_lt b
  rw [← Nat.shiftLeft_eq,← Nat.shiftLeft_add_eq_or_of_lt (i:=8) (by omega),Nat.shiftLeft_eq]
theorem numL_nil:V2 []=0:=rfl
theorem Xk1 (l:List UInt8) (b:UInt8):V2 (l++[b])=V2 l*256+b.toNat:=by
  unfold V2
  rw [List.foldl_append]
  exact Xi5 _ _
theorem Xe6:∀ (l:List UInt8) (a m:Nat),a<256 ^ m→l.foldl (fun n b=>n*2 ^ 8 ||| b.toNat) a<256 ^ (m+l.length)
  | [],a,m,h=>h
  | b::l,a,m,h=>by
    rw [List.foldl_cons,Xi5,List.length_cons,show m+(l.length+1)=(m+1)+l.length by omega]
    refine Xe6 l _ (m+1) ?_
    rw [Nat.pow_succ]
    have:=UInt8.toNat_lt b
    omega
theorem Xc8 (l:List UInt8):V2 l<256 ^ l.length:=by
  have:=Xe6 l 0 0 (by decide)
  rwa [Nat.zero_add] at this
theorem X1q {l:List UInt8} (h:l.length≤8):V2 l<18446744073709551616:=Nat.lt_of_lt_of_le (Xc8 l) p3z
theorem Xe5 {l:List UInt8} (h:l.length≤7):V2 l<72057594037927936:=Nat.lt_of_lt_of_le (Xc8 l) p3z
theorem X4g {l:List UInt8} (h:l.length≤4):V2 l<4294967296:=Nat.lt_of_lt_of_le (Xc8 l) p3z
theorem Xb2 {l:List UInt8} {k:Nat} (hk:k<l.length):V2 (l.take (k+1))=V2 (l.take k)*2 ^ 8 ||| (l.getD k 0).toNat:=by
  rw [Ho (z:=0) hk]
  unfold V2
  rw [List.foldl_append]
  rfl
theorem X91 (n:Nat):∀ (m:Nat) (l:List UInt8),V2 (l++Wi n m)=V2 l*256 ^ m+n % 256 ^ m
  | 0,l=>by simp [Wi,Nat.mod_one]
  | m+1,l=>by
    rw [Wi,show l++UInt8.ofNat (n / 2 ^ (8*m))::Wi n m=(l++[UInt8.ofNat (n / 2 ^ (8*m))])++Wi n m by simp,X91 n m,Xk1]
    have h1:(UInt8.ofNat (n / 2 ^ (8*m))).toNat=n / 256 ^ m % 256:=by
      rw [UInt8.toNat_ofNat',Nat.pow_mul]
    rw [h1,Nat.pow_succ,Nat.mod_mul,Nat.add_mul,Nat.mul_assoc,Nat.mul_comm (256 ^ m) (n / 256 ^ m % 256),Nat.mul_comm 256 (256 ^ m)]
    omega
theorem Xb1 {n m:Nat} (h:n<256 ^ m):V2 (Wi n m)=n:=by
  have:=X91 n m []
  rw [List.nil_append,numL_nil,Nat.zero_mul,Nat.zero_add,Nat.mod_eq_of_lt h] at this
  exact this
def X0p (n:Int):Nat:=(min (max n 0) 4294967295).toNat
theorem Xco (n:Int):X0p n<4294967296:=by unfold X0p;omega
theorem Xir {n:Nat} (h:n≤4294967295):X0p ((n:Nat):Int)=n:=by unfold X0p;omega
def Yy (n:Int):List UInt8:=Wi (u64 n) 8
def Ve (n:Int):List UInt8:=Wi (X0p n) 4
def Yx (x:List UInt8):List UInt8:=Ve ((x.length:Nat):Int)++x
theorem Wk (n:Int):(Yy n).length=8:=X2h _ _
theorem Jc (n:Int):(Ve n).length=4:=X2h _ _
theorem Vf (x:List UInt8):(Yx x).length=x.length+4:=by rw [Yx,List.length_append,Jc];omega
end Go.Proofs.YtnaopgohccacmaaGreat.Q
namespace Go.Proofs.YtnaopgohccacmaaGreat.Q
set_option linter.unusedVariables false
set_option linter.unusedSimpArgs false
def okT (rest:List UInt8) (e n m:Int):Prop:=e=0∧n≤((rest.length:Nat):Int)∧m=0
instance (rest:List UInt8) (e n m:Int):Decidable (okT rest e n m):=inferInstanceAs (Decidable (_∧_∧_))
def rdR (rest:List UInt8) (e n m:Int):List UInt8:=if okT rest e n m then rest.drop n.toNat else rest
def rdE (rest:List UInt8) (e n m:Int):Int:=if e≠0 then e else if n>((rest.length:Nat):Int) then 10 else m
theorem X5e {rest:List UInt8} {e n m:Int} (h:okT rest e n m):rdE rest e n m=0:=by
  obtain ⟨h1,h2,h3⟩:=h
  unfold rdE
  rw [if_neg (by omega),if_neg (by omega),h3]
theorem Xgf {rest:List UInt8} {e n m:Int} (h:¬okT rest e n m):rdE rest e n m≠0:=by
  unfold rdE
  split
  · assumption
  · split
    · decide
    · exact fun hm=>h ⟨by omega,by omega,hm⟩
theorem X5d {rest:List UInt8} {e n m:Int} (h:okT rest e n m):rdR rest e n m=rest.drop n.toNat:=if_pos h
theorem Xge {rest:List UInt8} {e n m:Int} (h:¬okT rest e n m):rdR rest e n m=rest:=if_neg h
def Yw (most:Int) (b:List UInt8):Int:=if ((V2 b:Nat):Int)>max most 0 then 11 else 0
def rdI (rest:List UInt8) (e:Int):Int:=if okT rest e 8 0 then X0y (V2 (rest.take 8)) else 0
def rdC (rest:List UInt8) (e most:Int):Nat:=if okT rest e 4 (Yw most (rest.take 4)) then V2 (rest.take 4) else 0
def okY (rest:List UInt8) (e most:Int):Prop:=okT rest e 4 (Yw most (rest.take 4))∧V2 (rest.take 4)≤(rest.drop 4).length
instance (rest:List UInt8) (e most:Int):Decidable (okY rest e most):=inferInstanceAs (Decidable (_∧_))
def rdY (rest:List UInt8) (e most:Int):List UInt8:=if okY rest e most then (rest.drop 4).take (V2 (rest.take 4)) else []
def Vt (rest:List UInt8) (e most:Int):List UInt8:=if okY rest e most then (rest.drop 4).drop (V2 (rest.take 4)) else rest
def V3 (rest:List UInt8) (e most:Int):Int:=if okT rest e 4 (Yw most (rest.take 4)) then (if V2 (rest.take 4)≤(rest.drop 4).length then 0 else 10) else rdE rest e 4 (Yw most (rest.take 4))
def rdX (rest:List UInt8) (e:Int):Int:=if e=0∧((rest.length:Nat):Int)>0 then 13 else e
theorem X5f {rest:List UInt8} {e most:Int} (h:okT rest e 4 (Yw most (rest.take 4))):rdC rest e most=V2 (rest.take 4):=if_pos h
theorem rdC_lt (rest:List UInt8) (e most:Int):rdC rest e most<4294967296:=by
  unfold rdC;split
  · exact X4g (by simp;omega)
  · decide
theorem U3 (rest:List UInt8) (e n m:Int):(rdR rest e n m).length≤rest.length:=by unfold rdR;split<;>simp
section
variable {rest:List UInt8} {e most:Int}
theorem X5l {n m:Int} (h:rdE rest e n m=0):okT rest e n m:=Classical.byContradiction fun hn=>Xgf hn h
theorem rdY_fail (h:rdE rest e 4 (Yw most (rest.take 4))≠0):rdY rest e most=[]∧Vt rest e most=rest∧V3 rest e most=rdE rest e 4 (Yw most (rest.take 4))∧rdR rest e 4 (Yw most (rest.take 4))=rest:=by
  have h1:¬okT rest e 4 (Yw most (rest.take 4)):=fun hk=>h (X5e hk)
  exact ⟨if_neg fun h2=>h1 h2.1,if_neg fun h2=>h1 h2.1,if_neg h1,Xge h1⟩
theorem X8s (h:rdE rest e 4 (Yw most (rest.take 4))=0):okT (rdR rest e 4 (Yw most (rest.take 4))) (rdE rest e 4 (Yw most (rest.take 4))) ((rdC rest e most:Nat):Int) 0↔okY rest e most:=by
  have h1:=X5l h
  rw [X5d h1,X5f h1,h]
  show okT (rest.drop 4) 0 _ 0↔_
  unfold okT okY
  constructor
  · exact fun h2=>⟨h1,by have:=h2.2.1;omega⟩
  · exact fun h2=>⟨rfl,by have:=h2.2;omega,rfl⟩
theorem rdY_ok (h:rdE rest e 4 (Yw most (rest.take 4))=0) (h2:okT (rdR rest e 4 (Yw most (rest.take 4))) (rdE rest e 4 (Yw most (rest.take 4))) ((rdC rest e most:Nat):Int) 0) :
    rdY rest e most=(rdR rest e 4 (Yw most (rest.take 4))).take (((rdC rest e most:Nat):Int)).toNat∧Vt rest e most=(rdR rest e 4 (Yw most (rest.take 4))).drop (((rdC rest e most:Nat):Int)).toNat∧V3 rest e most=0:=by
  have h1:=X5l h
  have h3:=(X8s h).1 h2
  rw [X5d h1,X5f h1]
  refine ⟨(if_pos h3).trans rfl,(if_pos h3).trans rfl,?_⟩
  unfold V3
  rw [if_pos h1,if_pos h3.2]
theorem Xjm (h:rdE rest e 4 (Yw most (rest.take 4))=0) (h2:¬okT (rdR rest e 4 (Yw most (rest.take 4))) (rdE rest e 4 (Yw most (rest.take 4))) ((rdC rest e most:Nat):Int) 0) :
    rdY rest e most=[]∧Vt rest e most=rest∧V3 rest e most=rdE (rdR rest e 4 (Yw most (rest.take 4))) (rdE rest e 4 (Yw most (rest.take 4))) ((rdC rest e most:Nat):Int) 0:=by
  have h1:=X5l h
  have h3:¬okY rest e most:=fun h4=>h2 ((X8s h).2 h4)
  refine ⟨if_neg h3,if_neg h3,?_⟩
  unfold V3
  have h4:¬V2 (rest.take 4)≤(rest.drop 4).length:=fun h5=>h3 ⟨h1,h5⟩
  rw [if_pos h1,if_neg h4,h,X5d h1,X5f h1]
  show (10:Int)=rdE (rest.drop 4) 0 _ 0
  unfold rdE
  rw [if_neg (by decide),if_pos (by omega)]
end
theorem X0c (rest:List UInt8) (e most:Int):(rdY rest e most).length≤rest.length:=by unfold rdY;split<;>simp<;>omega
theorem X1k (rest:List UInt8) (e most:Int):(Vt rest e most).length≤rest.length:=by unfold Vt;split<;>simp<;>omega
theorem Xi8 {p r:List UInt8} {n:Nat} (h:p.length=n):okT (p++r) 0 ((n:Nat):Int) 0:=⟨rfl,by simp;omega,rfl⟩
theorem X7u {p r:List UInt8} {n:Nat} (h:p.length=n):(p++r).take n=p:=by rw [List.take_append_of_le_length (by omega),List.take_of_length_le (by omega)]
theorem X9h {p r:List UInt8} {n:Nat} (h:p.length=n):(p++r).drop n=r:=by rw [List.drop_append_of_le_length (by omega),List.drop_of_length_le (by omega),List.nil_append]
theorem lim_cntM {most:Int} (n:Int) (r:List UInt8) (hm:((X0p n:Nat):Int)≤most):Yw most ((Ve n++r).take 4)=0∧V2 ((Ve n++r).take 4)=X0p n:=by
  have h1:V2 ((Ve n++r).take 4)=X0p n:=by rw [X7u (Jc n),Ve,Xb1 (Nat.lt_of_lt_of_le (Xco n) (by decide))]
  refine ⟨?_,h1⟩
  unfold Yw
  rw [h1,if_neg (by omega)]
theorem X6v {most:Int} {x:List UInt8} (hx:x.length≤4294967295) (r:List UInt8) (hm:((x.length:Nat):Int)≤most):rdY (Yx x++r) 0 most=x∧Vt (Yx x++r) 0 most=r∧V3 (Yx x++r) 0 most=0:=by
  have e:Yx x++r=Ve ((x.length:Nat):Int)++(x++r):=by rw [Yx,List.append_assoc]
  rw [e]
  obtain ⟨h0,h1⟩:=lim_cntM (most:=most) ((x.length:Nat):Int) (x++r) (by rw [Xir hx];exact hm)
  rw [Xir hx] at h1
  have hk:okT (Ve ((x.length:Nat):Int)++(x++r)) 0 4 (Yw most ((Ve ((x.length:Nat):Int)++(x++r)).take 4)):=by rw [h0];exact Xi8 (Jc _)
  have hd:(Ve ((x.length:Nat):Int)++(x++r)).drop 4=x++r:=X9h (Jc _)
  have hle:V2 ((Ve ((x.length:Nat):Int)++(x++r)).take 4)≤((Ve ((x.length:Nat):Int)++(x++r)).drop 4).length:=by rw [h1,hd];simp
  have hy:okY (Ve ((x.length:Nat):Int)++(x++r)) 0 most:=⟨hk,hle⟩
  refine ⟨?_,?_,?_⟩
  · rw [rdY,if_pos hy,h1,hd];exact X7u rfl
  · rw [Vt,if_pos hy,h1,hd];exact X9h rfl
  · rw [V3,if_pos hk,if_pos hle]
end Go.Proofs.YtnaopgohccacmaaGreat.Q
namespace Go.Proofs.YtnaopgohccacmaaGreat.Q
set_option linter.unusedVariables false
set_option linter.unusedSimpArgs false
def rfN (B:List UInt8) (a m:Nat):Nat:=if a+m≤B.length then V2 ((B.drop a).take m) else 0
def rfA (B:List UInt8) (a:Nat) (e n m:Int):Nat:=if okT (B.drop a) e n m then a+n.toNat else a
section
variable {B:List UInt8} {a:Nat} {e n m:Int}
theorem Xbr {m:Nat} (h:a+m≤B.length):rfN B a m=V2 ((B.drop a).take m):=if_pos h
theorem rfN_lt (B:List UInt8) (a:Nat) {m:Nat} (hm:m≤8):rfN B a m<18446744073709551616:=by
  unfold rfN;split
  · exact X1q (Nat.le_trans (List.length_take_le _ _) hm)
  · decide
theorem rfN_lt4 (B:List UInt8) (a:Nat):rfN B a 4<4294967296:=by
  unfold rfN;split
  · exact X4g (List.length_take_le _ _)
  · decide
theorem Xgl {k:Nat} (hk:a+k<B.length):V2 ((B.drop a).take (k+1))=V2 ((B.drop a).take k)*2 ^ 8 ||| (B.getD (a+k) 0).toNat:=by
  rw [Xb2 (by simp;omega)]
  congr 2
  simp [List.getD_eq_getElem?_getD]
theorem X8b (h:okT (B.drop a) e n m):rfA B a e n m=a+n.toNat:=if_pos h
theorem rfA_no (h:¬okT (B.drop a) e n m):rfA B a e n m=a:=if_neg h
theorem Xg1 (ha:a≤B.length):rfA B a e n m≤B.length:=by
  unfold rfA;split
  · rename_i h
    have:=h.2.1
    rw [List.length_drop] at this
    omega
  · exact ha
theorem rf_e (h:e≠0) (n m:Int):¬okT (B.drop a) e n m∧rdE (B.drop a) e n m=e:=⟨fun h1=>h h1.1,if_pos h⟩
theorem Xdj {k:Nat} (hn:n=((k:Nat):Int)) (he:¬e≠0) (h:¬a+k≤B.length) (ha:a≤B.length) (m:Int):¬okT (B.drop a) e n m∧rdE (B.drop a) e n m=10:=by
  have hl:(B.drop a).length=B.length-a:=List.length_drop
  subst hn
  refine ⟨fun h1=>?_,?_⟩
  · have:=h1.2.1;omega
  · unfold rdE
    rw [if_neg he,if_pos (by omega)]
theorem rf_m {k:Nat} {c:Int} (hn:n=((k:Nat):Int)) (he:¬e≠0) (h:a+k≤B.length) {m:Int} (hm:m=c) (hc:c≠0):¬okT (B.drop a) e n m∧rdE (B.drop a) e n m=c:=by
  have hl:(B.drop a).length=B.length-a:=List.length_drop
  subst hn
  subst hm
  refine ⟨fun h1=>hc h1.2.2,?_⟩
  unfold rdE
  rw [if_neg he,if_neg (by omega)]
theorem rf_ok {k:Nat} (hn:n=((k:Nat):Int)) (he:¬e≠0) (h:a+k≤B.length) {m:Int} (hm:m=0):okT (B.drop a) e n m∧rdE (B.drop a) e n m=0:=by
  have hl:(B.drop a).length=B.length-a:=List.length_drop
  subst hn
  have hk:okT (B.drop a) e ((k:Nat):Int) m:=⟨Classical.not_not.1 he,by omega,hm⟩
  exact ⟨hk,X5e hk⟩
theorem lim_of {most:Int} (h:a+4≤B.length):Yw most ((B.drop a).take 4)=if ((rfN B a 4:Nat):Int)>max 0 most then 11 else 0:=by
  unfold Yw
  rw [Xbr h,Int.max_comm]
end
def H8 (B:List UInt8) (a:Nat) (e most:Int):Nat:=if okY (B.drop a) e most then a+4+V2 ((B.drop a).take 4) else a
section
variable {B:List UInt8} {a:Nat} {e most:Int}
theorem X59 (B:List UInt8) (a:Nat) (e most:Int):B.drop (H8 B a e most)=Vt (B.drop a) e most:=by
  unfold H8 Vt
  split
  · rw [List.drop_drop,List.drop_drop,Nat.add_assoc]
  · rfl
theorem Xdk (B:List UInt8) (a:Nat) (e n m:Int):B.drop (rfA B a e n m)=rdR (B.drop a) e n m:=by
  unfold rfA rdR
  split
  · rw [List.drop_drop]
  · rfl
theorem Xbq (ha:a≤B.length):H8 B a e most≤B.length:=by
  unfold H8;split
  · rename_i h
    have h1:=h.1.2.1
    have h2:=h.2
    simp only [List.length_drop] at h1 h2
    omega
  · exact ha
theorem rfY_fail (h:rdE (B.drop a) e 4 (Yw most ((B.drop a).take 4))≠0):rdY (B.drop a) e most=[]∧H8 B a e most=a∧V3 (B.drop a) e most=rdE (B.drop a) e 4 (Yw most ((B.drop a).take 4))∧rfA B a e 4 (Yw most ((B.drop a).take 4))=a:=by
  have h1:¬okT (B.drop a) e 4 (Yw most ((B.drop a).take 4)):=fun hk=>h (X5e hk)
  exact ⟨if_neg fun h2=>h1 h2.1,if_neg fun h2=>h1 h2.1,if_neg h1,rfA_no h1⟩
theorem Xjh (h:rdE (B.drop a) e 4 (Yw most ((B.drop a).take 4))=0) (h2:((rdC (B.drop a) e most:Nat):Int)>((B.length:Nat):Int)-((rfA B a e 4 (Yw most ((B.drop a).take 4)):Nat):Int)) (ha:a≤B.length) :
    rdY (B.drop a) e most=[]∧H8 B a e most=a∧V3 (B.drop a) e most=10:=by
  have h1:=X5l h
  have h4:a+4≤B.length:=by have:=h1.2.1;rw [List.length_drop] at this;omega
  rw [X5f h1,X8b h1] at h2
  have h3:¬V2 ((B.drop a).take 4)≤((B.drop a).drop 4).length:=by simp only [List.length_drop];omega
  refine ⟨if_neg fun hy=>h3 hy.2,if_neg fun hy=>h3 hy.2,?_⟩
  unfold V3
  rw [if_pos h1,if_neg h3]
theorem rfY_ok (h:rdE (B.drop a) e 4 (Yw most ((B.drop a).take 4))=0) (h2:¬((rdC (B.drop a) e most:Nat):Int)>((B.length:Nat):Int)-((rfA B a e 4 (Yw most ((B.drop a).take 4)):Nat):Int)) (ha:a≤B.length) :
    rfA B a e 4 (Yw most ((B.drop a).take 4))=a+4∧rdC (B.drop a) e most=V2 ((B.drop a).take 4)∧a+4+V2 ((B.drop a).take 4)≤B.length∧rdY (B.drop a) e most=(B.take (a+4+V2 ((B.drop a).take 4))).drop (a+4)∧H8 B a e most=a+4+V2 ((B.drop a).take 4)∧V3 (B.drop a) e most=0:=by
  have h1:=X5l h
  have h4:a+4≤B.length:=by have:=h1.2.1;rw [List.length_drop] at this;omega
  rw [X5f h1,X8b h1] at h2
  have h3:V2 ((B.drop a).take 4)≤((B.drop a).drop 4).length:=by simp only [List.length_drop];omega
  have hy:okY (B.drop a) e most:=⟨h1,h3⟩
  refine ⟨X8b h1,X5f h1,by simp only [List.length_drop] at h3;omega,?_,if_pos hy,?_⟩
  · rw [rdY,if_pos hy,List.drop_drop,List.drop_take,show a+4+V2 ((B.drop a).take 4)-(a+4)=V2 ((B.drop a).take 4) by omega]
  · unfold V3
    rw [if_pos h1,if_pos h3]
end
end Go.Proofs.YtnaopgohccacmaaGreat.Q
namespace Go.Proofs.YtnaopgohccacmaaGreat.Q
set_option linter.unusedVariables false
set_option linter.unusedSimpArgs false
def szP (l:List (List UInt8)):Nat:=l.foldl (fun n p=>n+(4+p.length)) 5
theorem szP_ge (l:List (List UInt8)):∀ n,n≤l.foldl (fun n p=>n+(4+p.length)) n:=by
  induction l with
  | nil=>exact fun n=>Nat.le_refl _
  | cons p r ih=>exact fun n=>Nat.le_trans (show n≤n+(4+p.length) by omega) (ih _)
theorem Eo (l:List (List UInt8)) (k:Nat):szP (l.take k)≤szP l:=by
  have h:szP l=(l.drop k).foldl (fun n p=>n+(4+p.length)) (szP (l.take k)):=by
    unfold szP
    rw [← List.foldl_append,List.take_append_drop]
  rw [h]
  exact szP_ge _ _
theorem X3y {l:List (List UInt8)} {k:Nat} (hk:k<l.length):szP (l.take (k+1))=szP (l.take k)+(4+(l.getD k []).length):=X9b hk
theorem szP_len (l:List (List UInt8)):∀ n,n+4*l.length≤l.foldl (fun n p=>n+(4+p.length)) n:=by
  induction l with
  | nil=>exact fun n=>by simp
  | cons p r ih=>exact fun n=>by have:=ih (n+(4+p.length));simp only [List.foldl_cons,List.length_cons];omega
theorem Xan (l:List (List UInt8)):l.length≤szP l:=by have:=szP_len l 5;unfold szP;omega
def X5i (l:List (List UInt8)):List UInt8:=l.flatMap Yx
def ofR (t:UInt8) (n:Nat) (l:List (List UInt8)):List UInt8:=[t]++Ve ((n:Nat):Int)++X5i l
def ofB (t:UInt8) (l:List (List UInt8)):List UInt8:=ofR t l.length l
theorem Xc7 (t:UInt8) (n:Nat) (l:List (List UInt8)):(ofR t n l).length=szP l:=by
  have h:∀ (l:List (List UInt8)) (n:Nat),l.foldl (fun n p=>n+(4+p.length)) n=n+(X5i l).length:=by
    intro l
    induction l with
    | nil=>intro n;simp [X5i]
    | cons p r ih =>
      intro n
      have e:X5i (p::r)=Yx p++X5i r:=rfl
      rw [List.foldl_cons,ih,e,List.length_append,Vf]
      omega
  unfold szP
  rw [h,ofR,List.length_append,List.length_append,Jc]
  simp
theorem X2m (t:UInt8) (l:List (List UInt8)):(ofB t l).length=szP l:=Xc7 _ _ _
theorem X4f {t:UInt8} {n k:Nat} {l:List (List UInt8)} (hk:k<l.length):ofR t n (l.take (k+1))=ofR t n (l.take k)++Yx (l.getD k []):=by
  rw [Ho (z:=[]) hk]
  simp [ofR,X5i,List.flatMap_append]
theorem Xib (t:UInt8) (l:List (List UInt8)):ofR t l.length (l.take l.length)=ofB t l:=by rw [List.take_length];rfl
end Go.Proofs.YtnaopgohccacmaaGreat.Q
namespace Go.Proofs.YtnaopgohccacmaaGreat.Q
set_option linter.unusedVariables false
set_option linter.unusedSimpArgs false
def szL (x:List UInt8):Nat:=x.length
theorem Xeh (s:UInt8) (a:List UInt8):(ofB s [a]).length=9+a.length:=by rw [X2m];show 5+(4+a.length)=_;omega
theorem Xdz (s:UInt8) (a b:List UInt8):(ofB s [a,b]).length=13+a.length+b.length:=by rw [X2m];show 5+(4+a.length)+(4+b.length)=_;omega
end Go.Proofs.YtnaopgohccacmaaGreat.Q
namespace Go.Proofs.YtnaopgohccacmaaGreat.Q
set_option linter.unusedVariables false
set_option linter.unusedSimpArgs false
set_option maxRecDepth 100000
abbrev Lv:=List (List UInt8)
theorem Xbm {a b:Int} (hb:0<b):-b<a.tmod b∧a.tmod b<b:=by
  have h1:=Int.tmod_lt_of_pos a hb
  refine ⟨?_,h1⟩
  have h2:=Int.tmod_lt_of_pos (-a) hb
  rw [Int.neg_tmod] at h2
  omega
theorem Xk9 {α:Type} {sz:α→Nat} {n m m':Nat} {l:List α} (h:I0 sz n m l) (hm:m≤m'):I0 sz n m' l:=⟨h.1,fun x hx=>Nat.le_trans (h.2 x hx) hm⟩
def X1t (x:Nat):Nat:=if x=0 then 0 else Nat.log2 x+1
theorem X97 {x:Nat} (h:0<x):X1t x=Nat.log2 x+1:=if_neg (by omega)
theorem log2_div {x s:Nat} (h:2 ^ s≤x):Nat.log2 x=s+Nat.log2 (x / 2 ^ s):=by
  have hp:0<2 ^ s:=Nat.pow_pos (by decide)
  have hq:x / 2 ^ s≠0:=by have:=Nat.div_pos h hp;omega
  have hx:x≠0:=by omega
  rw [Nat.log2_eq_iff hx]
  have h1:=Nat.log2_self_le hq
  have h2:=@Nat.lt_log2_self (x / 2 ^ s)
  rw [Nat.pow_add,Nat.add_assoc,Nat.pow_add]
  have h3:=Nat.div_add_mod x (2 ^ s)
  have h4:=Nat.mod_lt x hp
  constructor
  · exact Nat.le_trans (Nat.mul_le_mul_left _ h1) (by omega)
  · have h5:2 ^ s*(x / 2 ^ s+1)≤2 ^ s*2 ^ (Nat.log2 (x / 2 ^ s)+1):=Nat.mul_le_mul_left _ h2
    rw [Nat.mul_add] at h5
    omega
theorem Fm {x s:Nat} (h:2 ^ s≤x):X1t x=s+X1t (x / 2 ^ s):=by
  have hp:0<2 ^ s:=Nat.pow_pos (by decide)
  have hq:=Nat.div_pos h hp
  rw [X97 (by omega),X97 hq,log2_div h]
  omega
def half (n:Nat):Nat:=2 ^ Nat.log2 (n-1)
theorem I4 {n:Nat} (h:2≤n):half n<n:=by
  have:=Nat.log2_self_le (n:=n-1) (by omega)
  unfold half
  omega
theorem Jj (n:Nat):0<half n:=Nat.pow_pos (by decide)
theorem half_ge {n:Nat} (h:2≤n):n≤2*half n:=by
  have:=@Nat.lt_log2_self (n-1)
  unfold half
  rw [Nat.pow_succ] at this
  omega
theorem half_of {n K:Nat} (hp:∃ j,K=2 ^ j) (h1:K<n) (h2:n≤2*K):half n=K:=by
  obtain ⟨j,rfl⟩:=hp
  unfold half
  have:Nat.log2 (n-1)=j:=by
    have hp:0<2 ^ j:=Nat.pow_pos (by decide)
    rw [Nat.log2_eq_iff (by omega),Nat.pow_succ]
    omega
  rw [this]
theorem Xen {n:Nat} (h:2≤n):n-half n≤half n:=by have:=half_ge h;omega
theorem X20 {n f:Nat} (h:n≤2 ^ (f+1)) (h2:2≤n):half n≤2 ^ f:=by
  unfold half
  have h1:Nat.log2 (n-1)<f+1:=(Nat.log2_lt (by omega)).2 (by omega)
  exact Nat.pow_le_pow_right (by decide) (by omega)
theorem Ig {α:Type} {sz:α→Nat} {n m:Nat} {l:List α} (h:I0 sz n m l) (k:Nat):I0 sz n m (l.take k):=⟨by have:=h.1;rw [List.length_take];omega,fun x hx=>h.2 x (List.mem_of_mem_take hx)⟩
theorem Jw {α:Type} {sz:α→Nat} {n m:Nat} {l:List α} (h:I0 sz n m l) (k:Nat):I0 sz n m (l.drop k):=⟨by have:=h.1;rw [List.length_drop];omega,fun x hx=>h.2 x (List.mem_of_mem_drop hx)⟩
def E0:Nat→Lv→List UInt8
  | 0,_=>ofB 4 []
  | f+1,l=>if l.length=0 then ofB 4 [] else if l.length=1 then ofB 2 [l.getD 0 []] else ofB 3 [E0 f (l.take (half l.length)),E0 f (l.drop (half l.length))]
def W6 (l:Lv):List UInt8:=E0 l.length l
theorem X1d:∀ (f g:Nat) (l:Lv),l.length≤f→l.length≤g→E0 f l=E0 g l
  | 0,0,_,_,_=>rfl
  | 0,g+1,l,h,_=>by rw [E0,E0,if_pos (by omega)]
  | f+1,0,l,_,h=>by rw [E0,E0,if_pos (by omega)]
  | f+1,g+1,l,h1,h2=>by
    rw [E0,E0]
    split
    · rfl
    · split
      · rfl
      · have hh:=I4 (n:=l.length) (by omega)
        have hp:=Jj l.length
        rw [X1d f g (l.take (half l.length)) p1p p1p,X1d f g (l.drop (half l.length)) X8z X8z]
theorem Xfz {l:Lv} (h:l.length=0):W6 l=ofB 4 []:=by unfold W6;rw [h,E0]
theorem Xbp {l:Lv} (h:l.length=1):W6 l=ofB 2 [l.getD 0 []]:=by unfold W6;rw [h,E0,if_neg (by omega),if_pos h]
theorem X8a {l:Lv} (h:2≤l.length):W6 l=ofB 3 [W6 (l.take (half l.length)),W6 (l.drop (half l.length))]:=by
  have hh:=I4 h
  have hp:=Jj l.length
  obtain ⟨f,hf⟩:∃ f,l.length=f+1:=⟨l.length-1,by omega⟩
  unfold W6
  rw [X1d l.length (f+1) l (by omega) (by omega),E0,if_neg (by omega),if_neg (by omega)]
  rw [X1d f _ (l.take (half l.length)) p1p (Nat.le_refl _),X1d f _ (l.drop (half l.length)) X8z (Nat.le_refl _)]
theorem root_len:∀ (N:Nat) (l:Lv),l.length=N→1≤l.length→(∀ x,x∈l→x.length≤600)→(W6 l).length+13≤635*l.length:=by
  intro N
  induction N using Nat.strongRecOn with
  | _ N ih =>
    intro l hN h1 hx
    rcases Nat.lt_or_ge l.length 2 with h2|h2
    · rw [Xbp (by omega),Xeh]
      have:=X50 (z:=[]) hx (by decide) 0
      omega
    · have hh:=I4 h2
      have hp:=Jj l.length
      have h1:=ih (l.take (half l.length)).length p1p _ rfl p1p (fun x h=>hx x (List.mem_of_mem_take h))
      have h3:=ih (l.drop (half l.length)).length X8z _ rfl X8z (fun x h=>hx x (List.mem_of_mem_drop h))
      rw [X8a h2,Xdz]
      rw [List.length_take] at h1
      rw [List.length_drop] at h3
      omega
theorem Ua {l:Lv} (hf:I0 szL 40 600 l):(W6 l).length≤25400:=by
  by_cases h0:l.length=0
  · rw [Xfz h0];decide
  · have h1:=root_len _ l rfl (by omega) hf.2
    have:=hf.1
    omega
def Ys:List UInt8:=[0,1,2,2,3,3,3,3,4,4,4,4,4,4,4,4,5,5,5,5,5,5,5,5,5,5,5,5,5,5,5,5,6,6,6,6,6,6,6,6,6,6,6,6,6,6,6,6,6,6,6,6,6,6,6,6,6,6,6,6,6,6,6,6,7,7,7,7,7,7,7,7,7,7,7,7,7,7,7,7,7,7,7,7,7,7,7,7,7,7,7,7,7,7,7,7,7,7,7,7,7,7,7,7,7,7,7,7,7,7,7,7,7,7,7,7,7,7,7,7,7,7,7,7,7,7,7,7,8,8,8,8,8,8,8,8,8,8,8,8,8,8,8,8,8,8,8,8,8,8,8,8,8,8,8,8,8,8,8,8,8,8,8,8,8,8,8,8,8,8,8,8,8,8,8,8,8,8,8,8,8,8,8,8,8,8,8,8,8,8,8,8,8,8,8,8,8,8,8,8,8,8,8,8,8,8,8,8,8,8,8,8,8,8,8,8,8,8,8,8,8,8,8,8,8,8,8,8,8,8,8,8,8,8,8,8,8,8,8,8,8,8,8,8,8,8,8,8,8,8,8,8,8,8,8,8]
theorem len8_len:Ys.length=256:=rfl
theorem len8_all:∀ x,x<256→(Ys.getD x 0).toNat=X1t x:=by decide +kernel
theorem len8 {x:Nat} (h:x<256):(Ys.getD (UInt8.ofNat x).toNat 0).toNat=X1t x:=by
  have:(UInt8.ofNat x).toNat=x:=by rw [UInt8.toNat_ofNat'];omega
  rw [this]
  exact len8_all x h
theorem log_le {n:Nat} (h:n≤9223372036854775807) (h2:2≤n):Nat.log2 (n-1)≤62:=by
  have h1:Nat.log2 (n-1)<63:=(Nat.log2_lt (by omega)).2 (by have:(2:Nat) ^ 63=9223372036854775808:=(by decide);omega)
  omega
theorem shl_half {n:Nat} (h:n≤9223372036854775807) (h2:2≤n):IntKind.i64.wrap (1*2 ^ Nat.log2 (n-1))=((half n:Nat):Int):=by
  have h1:=I4 h2
  have h3:(1:Int)*2 ^ Nat.log2 (n-1)=((half n:Nat):Int):=by unfold half;simp
  rw [h3,IntKind.wrap_i64]
  omega
end Go.Proofs.YtnaopgohccacmaaGreat.Q
namespace Go.Proofs.YtnaopgohccacmaaGreat.Q
set_option linter.unusedVariables false
set_option linter.unusedSimpArgs false
set_option maxRecDepth 100000
abbrev Step:=Xz
abbrev zS:=Yf
def Et:Nat→Lv→Nat→List Step
  | 0,_,_=>[]
  | f+1,l,i=>if l.length<2 then [] else if i<half l.length then Et f (l.take (half l.length)) i++[⟨false,W6 (l.drop (half l.length))⟩] else Et f (l.drop (half l.length)) (i-half l.length)++[⟨true,W6 (l.take (half l.length))⟩]
def Wj (l:Lv) (i:Nat):List Step:=Et l.length l i
theorem X1p:∀ (f g:Nat) (l:Lv) (i:Nat),l.length≤f→l.length≤g→Et f l i=Et g l i
  | 0,0,_,_,_,_=>rfl
  | 0,g+1,l,i,h,_=>by rw [Et,Et,if_pos (by omega)]
  | f+1,0,l,i,_,h=>by rw [Et,Et,if_pos (by omega)]
  | f+1,g+1,l,i,h1,h2=>by
    rw [Et,Et]
    split
    · rfl
    · have hh:=I4 (n:=l.length) (by omega)
      have hp:=Jj l.length
      rw [X1p f g (l.take (half l.length)) i p1p p1p,X1p f g (l.drop (half l.length)) _ X8z X8z]
theorem X3j {l:Lv} (h:l.length<2) (i:Nat):Wj l i=[]:=by
  unfold Wj
  cases hl:l.length with
  | zero=>rfl
  | succ f=>rw [Et,if_pos h]
theorem path_2 {l:Lv} (h:2≤l.length) (i:Nat):Wj l i=if i<half l.length then Wj (l.take (half l.length)) i++[⟨false,W6 (l.drop (half l.length))⟩] else Wj (l.drop (half l.length)) (i-half l.length)++[⟨true,W6 (l.take (half l.length))⟩]:=by
  have hh:=I4 h
  have hp:=Jj l.length
  obtain ⟨f,hf⟩:∃ f,l.length=f+1:=⟨l.length-1,by omega⟩
  unfold Wj
  rw [X1p l.length (f+1) l i (by omega) (by omega),Et,if_neg (by omega)]
  rw [X1p f _ (l.take (half l.length)) i p1p (Nat.le_refl _),X1p f _ (l.drop (half l.length)) _ X8z (Nat.le_refl _)]
theorem X3i {l:Lv} (h:2≤l.length) {i:Nat} (hi:i<half l.length):Wj l i=Wj (l.take (half l.length)) i++[⟨false,W6 (l.drop (half l.length))⟩]:=by rw [path_2 h,if_pos hi]
theorem X3g {l:Lv} (h:2≤l.length) {i:Nat} (hi:¬i<half l.length):Wj l i=Wj (l.drop (half l.length)) (i-half l.length)++[⟨true,W6 (l.take (half l.length))⟩]:=by rw [path_2 h,if_neg hi]
def okI (l:Lv) (i:Int):Prop:=0≤i∧i<((l.length:Nat):Int)
instance (l:Lv) (i:Int):Decidable (okI l i):=inferInstanceAs (Decidable (_∧_))
def Hv (l:Lv) (i:Int):List Step:=if okI l i then Wj l i.toNat else []
def X0z (l:Lv) (i:Int):Int:=if okI l i then 0 else 2
theorem X3h:∀ (N:Nat) (l:Lv) (i:Nat),l.length=N→(Wj l i).length≤l.length:=by
  intro N
  induction N using Nat.strongRecOn with
  | _ N ih =>
    intro l i hN
    rcases Nat.lt_or_ge l.length 2 with h2|h2
    · rw [X3j h2];simp
    · have hh:=I4 h2
      have hp:=Jj l.length
      by_cases hi:i<half l.length
      · have h1:=ih (l.take (half l.length)).length p1p (l.take (half l.length)) i rfl
        rw [X3i h2 hi,List.length_append,List.length_singleton]
        rw [List.length_take] at h1
        omega
      · have h1:=ih (l.drop (half l.length)).length X8z (l.drop (half l.length)) (i-half l.length) rfl
        rw [X3g h2 hi,List.length_append,List.length_singleton]
        rw [List.length_drop] at h1
        omega
def Iz:Nat→Nat→Nat→List Bool
  | 0,_,_=>[]
  | f+1,i,n=>if n<2 then [] else if i<half n then Iz f i (half n)++[false] else Iz f (i-half n) (n-half n)++[true]
def W9 (i n:Nat):List Bool:=Iz 64 i n
theorem X2i:∀ (f g i n:Nat),n≤2 ^ f→n≤2 ^ g→Iz f i n=Iz g i n
  | 0,0,_,_,_,_=>rfl
  | 0,g+1,i,n,h,_=>by rw [Iz,Iz,if_pos (by have:n≤1:=h;omega)]
  | f+1,0,i,n,_,h=>by rw [Iz,Iz,if_pos (by have:n≤1:=h;omega)]
  | f+1,g+1,i,n,h1,h2=>by
    rw [Iz,Iz]
    split
    · rfl
    · rename_i hn
      have a1:=X20 h1 (by omega)
      have a2:=X20 h2 (by omega)
      have a3:=Xen (n:=n) (by omega)
      rw [X2i f g i (half n) a1 a2,X2i f g (i-half n) (n-half n) (by omega) (by omega)]
theorem Xhs {n:Nat} (h:n<2) (i:Nat):W9 i n=[]:=by unfold W9;rw [Iz,if_pos h]
theorem Xhr {n:Nat} (h:2≤n) (hn:n≤9223372036854775807) (i:Nat):W9 i n=if i<half n then W9 i (half n)++[false] else W9 (i-half n) (n-half n)++[true]:=by
  unfold W9
  have hp:(2:Nat) ^ 63=9223372036854775808:=by decide
  have hq:(2:Nat) ^ 64=18446744073709551616:=by decide
  have a1:=X20 (n:=n) (f:=63) (by omega) h
  have a3:=Xen h
  rw [Iz,if_neg (by omega),X2i 63 64 i (half n) a1 (by omega),X2i 63 64 (i-half n) (n-half n) (by omega) (by omega)]
theorem Xhq {n i:Nat} (h:2≤n) (hn:n≤9223372036854775807) (hi:i<half n):W9 i n=W9 i (half n)++[false]:=by rw [Xhr h hn,if_pos hi]
theorem Xhp {n i:Nat} (h:2≤n) (hn:n≤9223372036854775807) (hi:¬i<half n):W9 i n=W9 (i-half n) (n-half n)++[true]:=by rw [Xhr h hn,if_neg hi]
theorem X39:∀ (f i n:Nat),(Iz f i n).length≤f
  | 0,_,_=>Nat.le_refl _
  | f+1,i,n=>by
    rw [Iz]
    split
    · simp
    · split
      · rw [List.length_append,List.length_singleton];have:=X39 f i (half n);omega
      · rw [List.length_append,List.length_singleton];have:=X39 f (i-half n) (n-half n);omega
theorem Xjg (i n:Nat):(W9 i n).length≤64:=X39 64 i n
def X0q (d:List UInt8) (s:Step):List UInt8:=if s.Vo=true then ofB 3 [s.X9,d] else ofB 3 [d,s.X9]
def climb (d:List UInt8) (p:List Step):List UInt8:=p.foldl X0q d
def I1 (root leaf:List UInt8) (i n:Int) (p:List Step):Int :=
  if i<0∨i≥n then 2 else if p.map (fun s=>s.Vo)=W9 i.toNat n.toNat then (if climb (ofB 2 [leaf]) p=root then 0 else 90) else 90
def szS (s:Step):Nat:=s.X9.length
theorem Xkg {p:List Step} {m:Nat} (h:∀ s,s∈p→szS s≤m):∀ (d:List UInt8),(climb d p).length≤d.length+(13+m)*p.length:=by
  induction p with
  | nil=>intro d;simp [climb]
  | cons s r ih =>
    intro d
    have h1:=ih (fun x hx=>h x (List.mem_cons_of_mem _ hx)) (X0q d s)
    have h2:s.X9.length≤m:=h s (List.mem_cons_self ..)
    have h3:(X0q d s).length≤d.length+(13+m):=by
      unfold X0q
      split<;>rw [Xdz]<;>omega
    show (climb (X0q d s) r).length≤_
    rw [List.length_cons,Nat.mul_succ]
    omega
theorem X9n {p:List Step} {k:Nat} (d:List UInt8) (hk:k<p.length):climb d (p.take (k+1))=X0q (climb d (p.take k)) (p.getD k zS):=X9b hk
def revI {α:Type} (z:α) (l:List α) (i:Nat) (ys:List α):Prop:=ys.length=l.length∧∀ t,t<l.length→ys.getD t z=if t<i∨l.length≤t+i then l.getD (l.length-1-t) z else l.getD t z
theorem rev_0 {α:Type} (z:α) (l:List α):revI z l 0 l:=⟨rfl,fun t ht=>by rw [if_neg (by omega)]⟩
theorem Xeo {α:Type} {z v:α} {l:List α} {i t:Nat} (hi:i<l.length):(l.set i v).getD t z=if t=i then v else l.getD t z:=by
  rw [List.getD_eq_getElem?_getD,List.getElem?_set]
  by_cases h:i=t
  · subst h;simp [hi]
  · rw [if_neg h,if_neg (fun e=>h e.symm),List.getD_eq_getElem?_getD]
theorem Xdl {α:Type} {z:α} {l ys:List α} {i j:Nat} (h:revI z l i ys) (hij:i<j) (hj:j+1+i=l.length):revI z l (i+1) ((ys.set i (ys.getD j z)).set j (ys.getD i z)):=by
  obtain ⟨h1,h2⟩:=h
  refine ⟨by simp [h1],fun t ht=>?_⟩
  rw [Xeo (by simp;omega),Xeo (by omega)]
  by_cases e1:t=j
  · subst e1
    rw [if_pos rfl,if_pos (by omega),h2 i (by omega),if_neg (by omega)]
    congr 1
    omega
  · rw [if_neg e1]
    by_cases e2:t=i
    · subst e2
      rw [if_pos rfl,if_pos (by omega),h2 j (by omega),if_neg (by omega)]
      congr 1
      omega
    · rw [if_neg e2,h2 t ht]
      by_cases e3:t<i∨l.length≤t+i
      · rw [if_pos e3,if_pos (by omega)]
      · rw [if_neg e3,if_neg (by omega)]
theorem Xhv {α:Type} {z:α} {l ys:List α} {i:Nat} (h:revI z l i ys) (hi:l.length≤2*i+1):ys=l.reverse:=by
  obtain ⟨h1,h2⟩:=h
  refine List.ext_getElem (by simp [h1]) fun t a1 a2=>?_
  have h3:=h2 t (by omega)
  rw [List.getElem_reverse]
  have h4:ys.getD t z=ys[t]:=by rw [List.getD_eq_getElem?_getD,List.getElem?_eq_getElem a1];rfl
  rw [← h4,h3]
  split
  · rw [List.getD_eq_getElem?_getD,List.getElem?_eq_getElem (by omega)];rfl
  · have h5:t=l.length-1-t:=by omega
    rw [List.getD_eq_getElem?_getD,List.getElem?_eq_getElem (by omega)]
    simp only [Option.getD_some]
    congr 1
theorem Xgi {l X:Lv} {i j:Nat} {D:List Step} (he:Wj l i=Wj X j++D.reverse) (h2:2≤X.length) (hj:j<half X.length):Wj l i=Wj (X.take (half X.length)) j++(D++[Xz.mk false (W6 (X.drop (half X.length)))]).reverse:=by
  rw [he,X3i h2 hj];simp
theorem Xgh {l X:Lv} {i j:Nat} {D:List Step} (he:Wj l i=Wj X j++D.reverse) (h2:2≤X.length) (hj:¬j<half X.length):Wj l i=Wj (X.drop (half X.length)) (j-half X.length)++(D++[Xz.mk true (W6 (X.take (half X.length)))]).reverse:=by
  rw [he,X3g h2 hj];simp
theorem path_end {l X:Lv} {i j:Nat} {D:List Step} (he:Wj l i=Wj X j++D.reverse) (h:X.length<2):D.reverse=Wj l i:=by rw [he,X3j h];rfl
theorem Xdd {i n j m:Nat} {D:List Bool} (he:W9 i n=W9 j m++D.reverse) (h2:2≤m) (hm:m≤9223372036854775807) (hj:j<half m):W9 i n=W9 j (half m)++(D++[false]).reverse:=by
  rw [he,Xhq h2 hm hj];simp
theorem Xdc {i n j m:Nat} {D:List Bool} (he:W9 i n=W9 j m++D.reverse) (h2:2≤m) (hm:m≤9223372036854775807) (hj:¬j<half m):W9 i n=W9 (j-half m) (m-half m)++(D++[true]).reverse:=by
  rw [he,Xhp h2 hm hj];simp
theorem Xaq {i n j m:Nat} {D:List Bool} (he:W9 i n=W9 j m++D.reverse) (h:m<2):D.reverse=W9 i n:=by rw [he,Xhs h];rfl
theorem sides_D {i n j m:Nat} {D:List Bool} (he:W9 i n=W9 j m++D.reverse):D.length≤64:=by
  have h1:=congrArg List.length he
  have h2:=Xjg i n
  rw [List.length_append,List.length_reverse] at h1
  omega
section
variable {root leaf:List UInt8} {i n:Int} {p:List Step} {k:Nat}
theorem Xbf (h:i<0∨i≥n):I1 root leaf i n p=2:=if_pos h
theorem chk_len (h0:¬(i<0∨i≥n)) (h:¬(W9 i.toNat n.toNat).length=p.length):I1 root leaf i n p=90:=by
  rw [I1,if_neg h0,if_neg fun e=>h (by rw [← e,List.length_map])]
theorem chk_at (h0:¬(i<0∨i≥n)) (hk:k<p.length) (h:(p.getD k zS).Vo≠(W9 i.toNat n.toNat).getD k false):I1 root leaf i n p=90:=by
  rw [I1,if_neg h0,if_neg fun e=>h ?_]
  rw [← e,List.getD_eq_getElem?_getD,List.getD_eq_getElem?_getD,List.getElem?_map,List.getElem?_eq_getElem hk]
  rfl
theorem chk_end (h0:¬(i<0∨i≥n)) (hl:(W9 i.toNat n.toNat).length=p.length) (hk:p.length≤k) (hb:∀ t,t<k→(p.getD t zS).Vo=(W9 i.toNat n.toNat).getD t false):I1 root leaf i n p=if climb (ofB 2 [leaf]) (p.take k)=root then 0 else 90:=by
  have e:p.map (fun s=>s.Vo)=W9 i.toNat n.toNat:=by
    refine Xbo (z:=false) (k:=p.length) (by rw [List.length_map,hl]) (by rw [List.length_map];omega) fun j hj=>?_
    rw [← hb j (by omega),List.getD_eq_getElem?_getD,List.getD_eq_getElem?_getD,List.getElem?_map,List.getElem?_eq_getElem hj]
    rfl
  rw [I1,if_neg h0,if_pos e,List.take_of_length_le hk]
end
end Go.Proofs.YtnaopgohccacmaaGreat.Q
namespace Go.Proofs.YtnaopgohccacmaaGreat.Q
set_option linter.unusedVariables false
set_option linter.unusedSimpArgs false
set_option maxRecDepth 100000
theorem Xbe (d:List UInt8) (p:List Step) (s:Step):climb d (p++[s])=X0q (climb d p) s:=by unfold climb;rw [List.foldl_append];rfl
theorem Xk7 {α:Type} {z:α} {l:List α} {j k:Nat} (h:j<k):(l.take k).getD j z=l.getD j z:=by
  rw [List.getD_eq_getElem?_getD,List.getD_eq_getElem?_getD,List.getElem?_take_of_lt h]
theorem Xk8 {α:Type} {z:α} {l:List α} {j k:Nat}:(l.drop k).getD j z=l.getD (k+j) z:=by
  rw [List.getD_eq_getElem?_getD,List.getD_eq_getElem?_getD,List.getElem?_drop]
theorem Xdy:∀ (N:Nat) (l:Lv) (j:Nat),l.length=N→N≤9223372036854775807→j<N→(Wj l j).map (fun s=>s.Vo)=W9 j N∧climb (ofB 2 [l.getD j []]) (Wj l j)=W6 l:=by
  intro N
  induction N using Nat.strongRecOn with
  | _ N ih =>
    intro l j hN hN2 hj
    subst hN
    rcases Nat.lt_or_ge l.length 2 with h2|h2
    · obtain rfl:j=0:=by omega
      rw [X3j h2,Xhs h2,Xbp (by omega)]
      exact ⟨rfl,rfl⟩
    · have hh:=I4 h2
      have hp:=Jj l.length
      have lt:(l.take (half l.length)).length=half l.length:=by rw [List.length_take];omega
      have ld:(l.drop (half l.length)).length=l.length-half l.length:=List.length_drop
      by_cases hi:j<half l.length
      · obtain ⟨a,b⟩:=ih (half l.length) hh (l.take (half l.length)) j lt (by omega) hi
        rw [X3i h2 hi,Xhq h2 hN2 hi,List.map_append,a,Xbe,X8a h2]
        rw [Xk7 hi] at b
        rw [b]
        exact ⟨rfl,rfl⟩
      · obtain ⟨a,b⟩:=ih (l.length-half l.length) (by omega) (l.drop (half l.length)) (j-half l.length) ld (by omega) (by omega)
        rw [X3g h2 hi,Xhp h2 hN2 hi,List.map_append,a,Xbe,X8a h2]
        rw [Xk8,show half l.length+(j-half l.length)=j by omega] at b
        rw [b]
        exact ⟨rfl,rfl⟩
theorem pathB_ok {l:Lv} {j:Nat} (h:j<l.length):Hv l ((j:Nat):Int)=Wj l j:=by rw [Hv,if_pos ⟨by omega,by omega⟩];rfl
theorem Xjw {l:Lv} {j:Nat} (hl:l.length≤40) (h:j<l.length):I1 (W6 l) (l.getD j []) ((j:Nat):Int) ((l.length:Nat):Int) (Hv l ((j:Nat):Int))=0:=by
  obtain ⟨a,b⟩:=Xdy l.length l j rfl (by omega) h
  rw [pathB_ok h,I1,if_neg (by omega),if_pos (by rw [a];rfl),if_pos b]
theorem few_path {l:Lv} (hf:I0 szL 40 600 l) (i:Int):I0 szS 70 30000 (Hv l i):=by
  have key:∀ (N:Nat) (l:Lv) (j:Nat),l.length=N→I0 szL 40 600 l→∀ s,s∈Wj l j→szS s≤30000:=by
    intro N
    induction N using Nat.strongRecOn with
    | _ N ih =>
      intro l j hN hf s hs
      rcases Nat.lt_or_ge l.length 2 with h2|h2
      · rw [X3j h2] at hs;cases hs
      · have hh:=I4 h2
        have hp:=Jj l.length
        by_cases hi:j<half l.length
        · rw [X3i h2 hi,List.mem_append] at hs
          rcases hs with hs|hs
          · exact ih _ p1p (l.take (half l.length)) j rfl (Ig hf _) s hs
          · obtain rfl:=List.mem_singleton.1 hs
            have:=Ua (Jw hf (half l.length))
            show (W6 (l.drop (half l.length))).length≤30000
            omega
        · rw [X3g h2 hi,List.mem_append] at hs
          rcases hs with hs|hs
          · exact ih _ X8z (l.drop (half l.length)) (j-half l.length) rfl (Jw hf _) s hs
          · obtain rfl:=List.mem_singleton.1 hs
            have:=Ua (Ig hf (half l.length))
            show (W6 (l.take (half l.length))).length≤30000
            omega
  unfold Hv
  split
  · exact ⟨by have:=X3h _ l i.toNat rfl;have:=hf.1;omega,key _ l _ rfl hf⟩
  · exact ⟨by simp,fun s h=>by cases h⟩
end Go.Proofs.YtnaopgohccacmaaGreat.Q
namespace Go.Proofs.YtnaopgohccacmaaGreat.Q
set_option linter.unusedVariables false
set_option linter.unusedSimpArgs false
def fOf (f:Int):Int:=min (max f 0) 2
def cOf (c:Int):Int:=min (max c 0) 8
theorem Xh0 (f:Int):0≤fOf f∧fOf f≤2:=by unfold fOf;omega
theorem Xh9 (f:Int):0≤cOf f∧cOf f≤8:=by unfold cOf;omega
def V0 (f s:Int):Prop:=s≥0∧s<3*f+1
def Id (u s:Int):Prop:=s≥1000∧s-1000<u
def Uk (f u s:Int):Prop:=V0 f s∨Id u s
instance (f s:Int):Decidable (V0 f s):=inferInstanceAs (Decidable (_∧_))
instance (f s:Int):Decidable (Id f s):=inferInstanceAs (Decidable (_∧_))
instance (f u s:Int):Decidable (Uk f u s):=inferInstanceAs (Decidable (_∨_))
def primaryA (f v:Int):Int:=if v<0 then 0 else v % (3*f+1)
def orgA (u s:Int):Int:=if Id u s then (s-1000) % 4 else -1
def Ep (f u s:Int) (b:List UInt8):Int:=if Uk f u s then (if ((b.length:Nat):Int)>16777216 then 11 else 0) else 30
def Hg (f u s:Int) (b:List UInt8):aE:=if Ep f u s b=0 then ⟨s,b⟩ else zE
abbrev Tab:=List (Yl×Bool)
def X6c (f u:Int) (rows:Tab) (s:Int) (b:List UInt8):Tab:=if Ep f u s b=0 then mput rows ⟨s,b⟩ true else rows
def Y5 (f u:Int) (rows:Tab) (e:aE):Int:=if Uk f u e.X5 then (if mhas rows ⟨e.X5,e.Xd⟩=true then 0 else 31) else 30
def putL (l:List aE) (e:aE):List aE:=if e∈l then l else l++[e]
def Ht (f u:Int) (l:List aE) (s:Int) (b:List UInt8):List aE:=if Ep f u s b=0 then putL l ⟨s,b⟩ else l
def Xw (f u:Int) (l:List aE) (e:aE):Int:=if Uk f u e.X5 then (if e∈l then 0 else 31) else 30
def keyE (e:aE):Yl:=⟨e.X5,e.Xd⟩
theorem X98 {e e':aE}:keyE e=keyE e'↔e=e':=by cases e;cases e';simp [keyE]
def J1 (l:List aE):Tab:=l.map fun e=>(keyE e,true)
theorem mhas_tab (l:List aE) (e:aE):mhas (J1 l) (keyE e)=decide (e∈l):=by
  induction l with
  | nil=>simp [J1,mhas]
  | cons a r ih =>
    simp only [J1,List.map_cons,mhas,X98] at ih ⊢
    by_cases h:a=e
    · simp [h]
    · have:(e=a)=False:=by simp;exact fun q=>h q.symm
      simp only [if_neg h,List.mem_cons,this,false_or]
      exact ih
theorem mput_tab (l:List aE) (e:aE):mput (J1 l) (keyE e) true=J1 (putL l e):=by
  induction l with
  | nil=>simp [J1,mput,putL]
  | cons a r ih =>
    by_cases h:a=e
    · subst h
      simp [J1,mput,putL,X98]
    · have h1:mput (J1 (a::r)) (keyE e) true=(keyE a,true)::mput (J1 r) (keyE e) true:=by
        simp only [J1,List.map_cons,mput,X98,if_neg h]
      rw [h1,ih]
      have h2:¬e=a:=fun q=>h q.symm
      by_cases h3:e∈r
      · simp [putL,h3,J1]
      · simp [putL,h3,h2,J1]
theorem sign_tab (f u:Int) (l:List aE) (s:Int) (b:List UInt8):X6c f u (J1 l) s b=J1 (Ht f u l s b):=by
  unfold X6c Ht
  split
  · exact mput_tab l ⟨s,b⟩
  · rfl
theorem Xkj (f u:Int) (l:List aE) (e:aE):Y5 f u (J1 l) e=Xw f u l e:=by
  unfold Y5 Xw
  split
  · rw [show (⟨e.X5,e.Xd⟩:Yl)=keyE e from rfl,mhas_tab]
    simp
  · rfl
theorem putL_len (l:List aE) (e:aE):(putL l e).length≤l.length+1:=by unfold putL;split<;>simp
theorem Xjf (f u:Int) (l:List aE) (s:Int) (b:List UInt8):(Ht f u l s b).length≤l.length+1:=by
  unfold Ht;split
  · exact putL_len _ _
  · omega
end Go.Proofs.YtnaopgohccacmaaGreat.Q
namespace Go.Proofs.YtnaopgohccacmaaGreat.Q
set_option linter.unusedVariables false
set_option linter.unusedSimpArgs false
def Ue {α:Type} (z:α) (L:List α) (k:Nat):List α:=L.take k++List.replicate (L.length-k) z
theorem fill_0 {α:Type} (z:α) (L:List α):Ue z L 0=List.replicate L.length z:=by simp [Ue]
theorem X4o {α:Type} (z:α) (L:List α) (k:Nat):(Ue z L k).length=L.length:=by simp [Ue];omega
theorem fill_set {α:Type} {z:α} {L:List α} {k:Nat} (hk:k<L.length):(Ue z L k).set k (L.getD k z)=Ue z L (k+1):=by
  unfold Ue
  rw [Ho (z:=z) hk,List.append_assoc]
  have h1:(L.take k).length=k:=by rw [List.length_take];omega
  rw [List.set_append_right _ _ (by omega),h1,Nat.sub_self]
  obtain ⟨m,hm⟩:∃ m,L.length-k=m+1:=⟨L.length-k-1,by omega⟩
  rw [hm,show L.length-(k+1)=m by omega]
  rfl
theorem Xeu {α:Type} {z:α} {L:List α} {k:Nat} (hk:L.length≤k):Ue z L k=L:=by
  unfold Ue
  rw [List.take_of_length_le hk,show L.length-k=0 by omega]
  simp
end Go.Proofs.YtnaopgohccacmaaGreat.Q
namespace Go.Proofs.YtnaopgohccacmaaGreat.Q
set_option linter.unusedVariables false
set_option linter.unusedSimpArgs false
set_option maxRecDepth 100000
def W8 (l:List Int):List UInt8:=l.flatMap Yy
theorem X5t {l:List Int} {k:Nat} (hk:k<l.length):W8 (l.take (k+1))=W8 (l.take k)++Yy (l.getD k 0):=by
  rw [Ho (z:=0) hk];simp [W8]
theorem Xej {l:List Int} (hk:0<l.length):W8 (l.take 1)=Yy (l.getD 0 0):=by rw [X5t hk];simp [W8]
theorem Ie (l:List Int):(W8 l).length=8*l.length:=by
  induction l with
  | nil=>rfl
  | cons a r ih =>
    have:W8 (a::r)=Yy a++W8 r:=by simp [W8]
    rw [this,List.length_append,ih,Wk,List.length_cons]
    omega
def Vr (e:aE) (r:Y6):List UInt8:=Yy e.X5++Yx e.Xd++Yy r.Xt++Yy r.Xn
theorem X5q (e:aE) (r:Y6):(Vr e r).length=28+e.Xd.length:=by
  simp only [Vr,List.length_append,Wk,Vf];omega
def Vd (b:Xq):Int:=if b.Xg<1∨b.Xg>1099511627776 then 100 else if ¬b.Xb.length=b.Xj.length∨4<b.Xj.length then 102 else 0
def Y9 (b:Xq):Lv:=List.zipWith Vr b.Xb b.Xj
theorem U4 (b:Xq):(Y9 b).length=min b.Xb.length b.Xj.length:=by simp [Y9]
theorem Fo {b:Xq} {k:Nat} (h1:k<b.Xb.length) (h2:k<b.Xj.length):(Y9 b).getD k []=Vr (b.Xb.getD k zE) (b.Xj.getD k Yj):=by
  simp only [Y9,List.getD_eq_getElem?_getD,List.getElem?_zipWith,List.getElem?_eq_getElem h1,List.getElem?_eq_getElem h2]
  rfl
def szE (e:aE):Nat:=e.Xd.length
def Hl (b:Xq):Prop:=I0 szE 20 500 b.Xb∧b.Xj.length≤20∧b.Y0.length≤10000000
instance (b:Xq):Decidable (Hl b):=inferInstanceAs (Decidable (_∧_∧_))
theorem J6 {b:Xq} (h:Hl b):I0 szL 40 600 (Y9 b):=by
  obtain ⟨h1,h2,h3⟩:=h
  refine ⟨by rw [U4];omega,fun x hx=>?_⟩
  obtain ⟨k,hk,rfl⟩:=List.getElem_of_mem hx
  have hl:=U4 b
  have hg:=Fo (b:=b) (k:=k) (by omega) (by omega)
  rw [List.getD_eq_getElem?_getD,List.getElem?_eq_getElem hk] at hg
  simp only [Option.getD_some] at hg
  have hb:(b.Xb.getD k zE).Xd.length≤500:=Iu (sz:=szE) h1 (by decide) k
  show ((Y9 b)[k]).length≤600
  rw [hg,X5q]
  omega
def Wp (b:Xq):Yb:=⟨b.Xg,b.Y0,(((Y9 b).length:Nat):Int),W6 (Y9 b)⟩
def Fa (h:Yb):List UInt8:=ofB 5 [Yy h.Xg,h.Y0,Yy h.Ye,h.W3]
def fewW (b:Xq):Prop:=I0 szE 20 20000 b.Xb∧b.Xj.length≤20∧b.Y0.length≤10000000
instance (b:Xq):Decidable (fewW b):=inferInstanceAs (Decidable (_∧_∧_))
theorem few_wide {b:Xq} (h:Hl b):fewW b:=⟨⟨h.1.1,fun x hx=>Nat.le_trans (h.1.2 x hx) (by decide)⟩,h.2⟩
theorem E7 {b:Xq} (h:fewW b):I0 szL 40 20100 (Y9 b):=by
  obtain ⟨h1,h2,h3⟩:=h
  refine ⟨by rw [U4];omega,fun x hx=>?_⟩
  obtain ⟨k,hk,rfl⟩:=List.getElem_of_mem hx
  have hl:=U4 b
  have hg:=Fo (b:=b) (k:=k) (by omega) (by omega)
  rw [List.getD_eq_getElem?_getD,List.getElem?_eq_getElem hk] at hg
  simp only [Option.getD_some] at hg
  have hb:(b.Xb.getD k zE).Xd.length≤20000:=Iu (sz:=szE) h1 (by decide) k
  show ((Y9 b)[k]).length≤20100
  rw [hg,X5q]
  omega
theorem sz4 (a b c d:List UInt8):szP [a,b,c,d]=5+(4+a.length)+(4+b.length)+(4+c.length)+(4+d.length):=rfl
theorem Xem {b:Xq} (h:Hl b):(Wp b).Y0.length≤10000000∧(Wp b).W3.length≤10000000∧(Wp b).Ye≤9223372036854775807:=by
  have h1:=h.2.2
  have h2:=Ua (J6 h)
  have h3:=(J6 h).1
  refine ⟨?_,?_,?_⟩
  · show b.Y0.length≤_;omega
  · show (W6 (Y9 b)).length≤_;omega
  · show (((Y9 b).length:Nat):Int)≤_;omega
theorem Xiu {b:Xq} (h:Vd b=0):b.Xb.length=b.Xj.length∧b.Xj.length≤4∧1≤b.Xg∧b.Xg≤1099511627776:=by
  unfold Vd at h
  split at h
  · exact absurd h (by decide)
  · split at h
    · exact absurd h (by decide)
    · omega
end Go.Proofs.YtnaopgohccacmaaGreat.Q
namespace Go.Proofs.YtnaopgohccacmaaGreat.Q
set_option linter.unusedVariables false
set_option linter.unusedSimpArgs false
set_option maxRecDepth 100000
def Is (b:Xq) (i:Int):List Step:=if Vd b=0 then Hv (Y9 b) i else []
def J8 (b:Xq) (i:Int):Int:=if Vd b=0 then X0z (Y9 b) i else Vd b
theorem X7i {b:Xq} {i:Int} (hf:Hl b) (h:J8 b i=0):Vd b=0∧0≤i∧i<((b.Xb.length:Nat):Int)∧i<((b.Xj.length:Nat):Int) ∧
    I1 (Wp b).W3 (Vr (b.Xb.getD i.toNat zE) (b.Xj.getD i.toNat Yj)) i (Wp b).Ye (Is b i)=0∧I0 szS 70 30000 (Is b i)∧(b.Xb.getD i.toNat zE).Xd.length≤500:=by
  have hc:Vd b=0:=by
    apply Classical.byContradiction
    intro hn
    rw [J8,if_neg hn] at h
    exact hn h
  rw [J8,if_pos hc] at h
  have hl:=U4 b
  have ho:okI (Y9 b) i:=by
    apply Classical.byContradiction
    intro hn
    rw [X0z,if_neg hn] at h
    exact absurd h (by decide)
  obtain ⟨o1,o2⟩:=ho
  have hp:=Xjw (l:=Y9 b) (j:=i.toNat) (J6 hf).1 (by omega)
  rw [Fo (by omega) (by omega),show ((i.toNat:Nat):Int)=i by omega] at hp
  refine ⟨hc,o1,by omega,by omega,?_,?_,Iu (sz:=szE) hf.1 (by decide) _⟩
  · rw [Is,if_pos hc];exact hp
  · rw [Is,if_pos hc];exact few_path (J6 hf) i
end Go.Proofs.YtnaopgohccacmaaGreat.Q
namespace Go.Proofs.YtnaopgohccacmaaGreat.Q
set_option linter.unusedVariables false
set_option linter.unusedSimpArgs false
set_option maxRecDepth 100000
abbrev Links:=List Yq
def lnk (b:Xq):Yq:=⟨b,Fa (Wp b)⟩
def Yn (L:List Xq):Links:=L.map lnk
theorem Uy (L:List Xq):(Yn L).length=L.length:=List.length_map ..
def hdL (d:List UInt8) (l:Links):List UInt8:=if l.length=0 then d else (l.getD (l.length-1) Wl).X24
def X4z (h:Int) (d:List UInt8) (l:Links) (b:Xq):Int:=if Vd b=0 then (if b.Xg-1=h+((l.length:Nat):Int) then (if b.Y0=hdL d l then 0 else 101) else 100) else Vd b
def X0v (h:Int) (d:List UInt8) (l:Links) (b:Xq):Links:=if X4z h d l b=0 then l++[lnk b] else l
def inL (h:Int) (n:Nat) (x:Int):Prop:=h<x∧x≤h+((n:Nat):Int)
instance (h:Int) (n:Nat) (x:Int):Decidable (inL h n x):=inferInstanceAs (Decidable (_∧_))
def Yz (h:Int) (l:Links) (x:Int):Xq:=if inL h l.length x then (l.getD (x-h-1).toNat Wl).Uv else W1
def X0t (h:Int) (n:Nat) (x:Int):Int:=if inL h n x then 0 else 4
theorem set_same {α:Type} {z:α} {l:List α} {k:Nat} (hk:k<l.length):l.set k (l.getD k z)=l:=by
  rw [List.getD_eq_getElem?_getD,List.getElem?_eq_getElem hk]
  exact List.set_getElem_self hk
def Xbd (l:Links):Prop:=∀ x,x∈l→Hl x.Uv
instance (l:Links):Decidable (Xbd l):=inferInstanceAs (Decidable (∀ x,x∈l→Hl x.Uv))
theorem Xbc {l:Links} (hw:Xbd l) (k:Nat):Hl (l.getD k Wl).Uv:=X50 (p:=fun (x:Yq)=>Hl x.Uv) hw (by decide) k
section
variable {h:Int} {d:List UInt8} {l:Links} {b:Xq}
theorem X7q (hc:Vd b≠0):X4z h d l b=Vd b∧X0v h d l b=l:=by
  have e:X4z h d l b=Vd b:=if_neg hc
  exact ⟨e,if_neg (by rw [e];exact hc)⟩
theorem X7p (hc:¬Vd b≠0) (hh:b.Xg-1≠h+((l.length:Nat):Int)):X4z h d l b=100∧X0v h d l b=l:=by
  have e:X4z h d l b=100:=by rw [X4z,if_pos (Classical.not_not.1 hc),if_neg hh]
  exact ⟨e,if_neg (by rw [e];decide)⟩
theorem X7o (hc:¬Vd b≠0) (hh:¬b.Xg-1≠h+((l.length:Nat):Int)) (hp:b.Y0≠hdL d l):X4z h d l b=101∧X0v h d l b=l:=by
  have e:X4z h d l b=101:=by rw [X4z,if_pos (Classical.not_not.1 hc),if_pos (Classical.not_not.1 hh),if_neg hp]
  exact ⟨e,if_neg (by rw [e];decide)⟩
theorem X9x (hc:¬Vd b≠0) (hh:¬b.Xg-1≠h+((l.length:Nat):Int)) (hp:¬b.Y0≠hdL d l):X4z h d l b=0∧X0v h d l b=l++[lnk b]:=by
  have e:X4z h d l b=0:=by rw [X4z,if_pos (Classical.not_not.1 hc),if_pos (Classical.not_not.1 hh),if_pos (Classical.not_not.1 hp)]
  exact ⟨e,if_pos e⟩
end
def X12 (L:List Xq):Prop:=∀ b,b∈L→Hl b
instance (L:List Xq):Decidable (X12 L):=inferInstanceAs (Decidable (∀ b,b∈L→Hl b))
theorem X5y {L:List Xq} (hw:X12 L) (k:Nat):Hl (L.getD k W1):=X50 (p:=fun (x:Xq)=>Hl x) hw (by decide) k
theorem X5p {L:List Xq} (hw:X12 L):Xbd (Yn L):=fun x hx=>by
  obtain ⟨b,hb,rfl⟩:=List.mem_map.1 hx
  exact hw b hb
def atB (d:List UInt8) (L:List Xq) (n:Nat):List UInt8:=if n=0 then d else Fa (Wp (L.getD (n-1) W1))
theorem Xb4 {L:List Xq} {k:Nat} (hk:k<L.length):(Yn L).getD k Wl=lnk (L.getD k W1):=by
  rw [List.getD_eq_getElem?_getD,List.getD_eq_getElem?_getD,Yn,List.getElem?_map,List.getElem?_eq_getElem hk]
  rfl
theorem X9a (d:List UInt8) (L:List Xq):hdL d (Yn L)=atB d L L.length:=by
  unfold hdL atB
  rw [Uy]
  by_cases h:L.length=0
  · rw [if_pos h,if_pos h]
  · rw [if_neg h,if_neg h,Xb4 (by omega)]
    rfl
def rblk (h:Int) (L:List Xq) (x:Int):Xq:=if inL h L.length x then L.getD (x-h-1).toNat W1 else W1
theorem Xkn (h:Int) (L:List Xq) (x:Int):Yz h (Yn L) x=rblk h L x:=by
  unfold Yz rblk
  rw [Uy]
  by_cases hi:inL h L.length x
  · have:=hi.1;have:=hi.2
    rw [if_pos hi,if_pos hi,Xb4 (by omega)]
    rfl
  · rw [if_neg hi,if_neg hi]
def X32 (h:Int) (d:List UInt8) (L:List Xq) (b:Xq):Int:=X4z h d (Yn L) b
def H9 (h:Int) (d:List UInt8) (L:List Xq) (b:Xq):List Xq:=if X32 h d L b=0 then L++[b] else L
section
variable {h:Int} {d:List UInt8} {L:List Xq} {b:Xq}
theorem X8v (hc:Vd b≠0):X32 h d L b=Vd b∧H9 h d L b=L:=by
  have e:X32 h d L b=Vd b:=(X7q hc).1
  exact ⟨e,if_neg (by rw [e];exact hc)⟩
theorem X8u (hc:¬Vd b≠0) (hh:b.Xg≠h+((L.length:Nat):Int)+1):X32 h d L b=100∧H9 h d L b=L:=by
  have e:X32 h d L b=100:=(X7p (l:=Yn L) hc (by rw [Uy];omega)).1
  exact ⟨e,if_neg (by rw [e];decide)⟩
theorem X8t (hc:¬Vd b≠0) (hh:¬b.Xg≠h+((L.length:Nat):Int)+1) (hp:b.Y0≠atB d L L.length):X32 h d L b=101∧H9 h d L b=L:=by
  have e:X32 h d L b=101:=(X7o (l:=Yn L) hc (by rw [Uy];omega) (by rw [X9a];exact hp)).1
  exact ⟨e,if_neg (by rw [e];decide)⟩
theorem X7g (hc:¬Vd b≠0) (hh:¬b.Xg≠h+((L.length:Nat):Int)+1) (hp:¬b.Y0≠atB d L L.length):X32 h d L b=0∧H9 h d L b=L++[b]:=by
  have e:X32 h d L b=0:=(X9x (l:=Yn L) hc (by rw [Uy];omega) (by rw [X9a];exact hp)).1
  exact ⟨e,if_pos e⟩
end
end Go.Proofs.YtnaopgohccacmaaGreat.Q
namespace Go.Proofs.YtnaopgohccacmaaGreat.Q
set_option linter.unusedVariables false
set_option linter.unusedSimpArgs false
set_option maxRecDepth 100000
def I3 (a b:Int):Int:=IntKind.i64.wrap ((BitVec.ofInt 64 a &&& BitVec.ofInt 64 b).toNat:Int)
def orI (a b:Int):Int:=IntKind.i64.wrap ((BitVec.ofInt 64 a ||| BitVec.ofInt 64 b).toNat:Int)
section
variable {P:Program}
theorem Xct {t:TypeId} {a b c:Int} (h:I3 a b=c):Ip P .and t (.int .i64 a) (.int .i64 b) (.int .i64 c):=Uh (.inl fun _=>by simp) (.inl (by simp)) fun w=>by
  subst h
  rfl
theorem X6w {t:TypeId} {a b c:Int} (h:orI a b=c):Ip P .or t (.int .i64 a) (.int .i64 b) (.int .i64 c):=Uh (.inl fun _=>by simp) (.inl (by simp)) fun w=>by
  subst h
  rfl
end
def Yi (k:Int):J5:=if k=1 then ⟨20,0,1,7⟩ else if k=2 then ⟨75,0,1,4⟩ else if k=3 then ⟨11,0,1,7⟩ else if k=4 then ⟨11,0,1,7⟩ else if k=5 then ⟨10,0,1,7⟩ else if k=6 then ⟨323,1,0,7⟩ else if k=7 then ⟨193,1,1,7⟩ else if k=8 then ⟨37,0,1,7⟩ else if k=9 then ⟨2,0,0,7⟩ else if k=10 then ⟨256,0,1,7⟩ else if k=11 then ⟨82,0,1,7⟩ else ⟨0,0,1,7⟩
def Xi (k:Int):aH:=if k=1 then ⟨false,false,true,false,true,false,false,false,false⟩ else if k=2 then ⟨true,true,false,true,false,false,true,false,false⟩ else if k=3 then ⟨true,true,false,true,false,false,false,false,false⟩ else if k=4 then ⟨true,true,false,true,false,false,false,false,false⟩ else if k=5 then ⟨false,true,false,true,false,false,false,false,false⟩ else if k=6 then ⟨true,true,false,false,false,false,true,false,true⟩ else if k=7 then ⟨true,false,false,false,false,false,true,true,false⟩ else if k=8 then ⟨true,false,true,false,false,true,false,false,false⟩ else if k=9 then ⟨false,true,false,false,false,false,false,false,false⟩ else if k=10 then ⟨false,false,false,false,false,false,false,false,true⟩ else if k=11 then ⟨false,true,false,false,true,false,true,false,false⟩ else ⟨false,false,false,false,false,false,false,false,false⟩
def okK (k:Int):Prop:=1≤k∧k≤11
instance (k:Int):Decidable (okK k):=inferInstanceAs (Decidable (_∧_))
theorem kinds (k:Int):k=1∨k=2∨k=3∨k=4∨k=5∨k=6∨k=7∨k=8∨k=9∨k=10∨k=11∨¬okK k:=by unfold okK;omega
theorem Xar {k:Int} (h:¬okK k):Yi k=⟨0,0,1,7⟩:=by
  unfold okK at h
  unfold Yi
  rw [if_neg (by omega),if_neg (by omega),if_neg (by omega),if_neg (by omega),if_neg (by omega),if_neg (by omega),if_neg (by omega),if_neg (by omega),if_neg (by omega),if_neg (by omega),if_neg (by omega)]
theorem Xii {k:Int} (h:¬okK k):Xi k=⟨false,false,false,false,false,false,false,false,false⟩:=by
  unfold okK at h
  unfold Xi
  rw [if_neg (by omega),if_neg (by omega),if_neg (by omega),if_neg (by omega),if_neg (by omega),if_neg (by omega),if_neg (by omega),if_neg (by omega),if_neg (by omega),if_neg (by omega),if_neg (by omega)]
def Ux (h:aH):Nat→Bool
  | 0=>h.Y1
  | 1=>h.Xs
  | 2=>h.Xh
  | 3=>h.X9
  | 4=>h.Xc
  | 5=>h.X0
  | 6=>h.Xp
  | 7=>h.Y4
  | 8=>h.X6
  | _=>false
def bits9 (h:aH):List Bool:=[h.Y1,h.Xs,h.Xh,h.X9,h.Xc,h.X0,h.Xp,h.Y4,h.X6]
def bitsS (n:Int):List Bool:=[decide (I3 n 1≠0),decide (I3 n 2≠0),decide (I3 n 4≠0),decide (I3 n 8≠0),decide (I3 n 16≠0),decide (I3 n 32≠0),decide (I3 n 64≠0),decide (I3 n 128≠0),decide (I3 n 256≠0)]
theorem X80 (k:Int):bitsS (Yi k).Vy=bits9 (Xi k):=by
  rcases kinds k with h|h|h|h|h|h|h|h|h|h|h|h
  case inr.inr.inr.inr.inr.inr.inr.inr.inr.inr.inr=>rw [Xar h,Xii h];decide +kernel
  all_goals (subst h;decide +kernel)
theorem Xiy {n:Int} {h:aH} (e:bitsS n=bits9 h):(I3 n 1=0↔¬h.Y1=true)∧(I3 n 2=0↔¬h.Xs=true)∧(I3 n 4=0↔¬h.Xh=true)∧(I3 n 8=0↔¬h.X9=true)∧(I3 n 16=0↔¬h.Xc=true)∧(I3 n 32=0↔¬h.X0=true)∧(I3 n 64=0↔¬h.Xp=true)∧(I3 n 128=0↔¬h.Y4=true)∧(I3 n 256=0↔¬h.X6=true):=by
  unfold bitsS bits9 at e
  simp only [List.cons.injEq,and_true] at e
  obtain ⟨e1,e2,e3,e4,e5,e6,e7,e8,e9⟩:=e
  have key:∀ {x:Int} {b:Bool},decide (x≠0)=b→(x=0↔¬b=true):=fun {x b} q=>by subst q;simp
  exact ⟨key e1,key e2,key e3,key e4,key e5,key e6,key e7,key e8,key e9⟩
theorem Xiz {k:Int} {j:Nat} (hj:j≤8):I3 (Yi k).Vy ((2 ^ j:Nat):Int)=0↔¬Ux (Xi k) j=true:=by
  obtain ⟨e1,e2,e3,e4,e5,e6,e7,e8,e9⟩:=Xiy (X80 k)
  rcases (by omega:j=0∨j=1∨j=2∨j=3∨j=4∨j=5∨j=6∨j=7∨j=8) with h|h|h|h|h|h|h|h|h<;>subst h<;>assumption
theorem pow_le {j:Nat} (hj:j≤9):((2 ^ j:Nat):Int)≤256↔j≤8:=by
  rcases (by omega:j=0∨j=1∨j=2∨j=3∨j=4∨j=5∨j=6∨j=7∨j=8∨j=9) with h|h|h|h|h|h|h|h|h|h<;>subst h<;>decide
theorem pow_le9 {j:Nat} (hj:j≤9):2 ^ j≤512:=Nat.pow_le_pow_right (n:=2) (by decide) hj
theorem X0d {j i:Nat} (hj:j≤9) (h:((2 ^ j:Nat):Int)=((2 ^ i:Nat):Int)):j=i:=Nat.pow_right_inj (a:=2) (by decide) |>.1 (Int.ofNat.inj h)
def inM (s:J5) (f n lo hi:Int):Prop:=if I3 s.Vy f=0 then 0≤n∧n≤0 else lo≤n∧n≤hi
instance (s:J5) (f n lo hi:Int):Decidable (inM s f n lo hi):=by unfold inM;infer_instance
def X23 (l:List aC):Prop:=∀ c,c∈l→c.Xu.length≤7
instance (l:List aC):Decidable (X23 l):=inferInstanceAs (Decidable (∀ c,c∈l→_))
theorem X22 {l:List aC} {k:Nat} (hb:∀ j,j<k→(l.getD j zC).Xu.length≤7) (hk:l.length≤k):X23 l:=fun c hc=>by
  obtain ⟨j,hj,rfl⟩:=List.getElem_of_mem hc
  have:=hb j (by omega)
  rw [List.getD_eq_getElem?_getD,List.getElem?_eq_getElem hj] at this
  exact this
def idxV (l:List aC):Int:=if X23 l then -1 else ((l.findIdx fun c=>decide (7<c.Xu.length):Nat):Int)
theorem idx_no {l:List aC} {k:Nat} (hb:∀ j,j<k→(l.getD j zC).Xu.length≤7) (hk:l.length≤k):idxV l=-1:=if_pos (X22 hb hk)
theorem idx_at {l:List aC} {k:Nat} (hb:∀ j,j<k→(l.getD j zC).Xu.length≤7) (hk:k<l.length) (h:7<(l.getD k zC).Xu.length):idxV l=((k:Nat):Int):=by
  have e:∀ j (hj:j<l.length),l.getD j zC=l[j]:=fun j hj=>by rw [List.getD_eq_getElem?_getD,List.getElem?_eq_getElem hj];rfl
  have hn:¬X23 l:=fun w=>by
    have:=w _ (J3 (z:=zC) hk)
    omega
  rw [idxV,if_neg hn,(List.findIdx_eq hk).2 ⟨?_,fun j hj=>?_⟩]
  · rw [e k hk] at h;exact decide_eq_true h
  · have:=hb j hj
    rw [e j (by omega)] at this
    exact decide_eq_false (by omega)
theorem idx_few (l:List aC):idxV l≥0↔¬X23 l:=by
  unfold idxV
  split
  · rename_i h;exact ⟨(fun w=>by omega),fun w=>absurd h w⟩
  · rename_i h;exact ⟨fun _=>h,fun _=>Int.natCast_nonneg _⟩
def X67 (m:aM):Prop:=okK m.X1∧inM (Yi m.X1) 1 m.Y1 (Yi m.X1).Wt 1099511627776∧inM (Yi m.X1) 2 m.Xs (Yi m.X1).V7 1099511627776∧inM (Yi m.X1) 4 m.Xh 0 1099511627776∧inM (Yi m.X1) 4 m.Yh 1 1099511627776 ∧
  inM (Yi m.X1) 64 (m.Xp.length:Nat) 0 (Yi m.X1).Vs∧inM (Yi m.X1) 128 (m.Y4.length:Nat) 0 8∧inM (Yi m.X1) 256 (m.X6.length:Nat) 0 8∧inM (Yi m.X1) 8 (m.X9.length:Nat) 0 (m.X9.length:Nat)∧inM (Yi m.X1) 16 (m.Xc.length:Nat) 0 (m.Xc.length:Nat) ∧
  (I3 (Yi m.X1).Vy 32≠0∨m.X0=Yj)∧(m.X1≠1∨((m.Xc.length:Nat):Int)≤4096)∧(m.X1≠10∨((m.X6.length:Nat):Int)=1)∧X23 m.X6
instance (m:aM):Decidable (X67 m):=by unfold X67;infer_instance
def X75 (m:aM):Int:=if X67 m then 0 else 120
theorem chk0 {m:aM}:X75 m=0↔X67 m:=by
  unfold X75
  split
  · exact ⟨fun _=>‹_›,fun _=>rfl⟩
  · exact ⟨pZv,fun h=>absurd h ‹_›⟩
theorem nbB {b:Bool} (h:b=false):¬b=true:=fun q=>by rw [h] at q;cases q
def X0f (n:Int) (had:Bool) (lo:Int):Prop:=if had=true then n≥lo∧n≤1099511627776 else n=0
instance (n:Int) (had:Bool) (lo:Int):Decidable (X0f n had lo):=by unfold X0f;infer_instance
def X3q (k:Int):Int:=if k=6 then 1 else if k=7 then 1 else 0
def X2u (k:Int):Int:=if k=6 then 0 else if k=7 then 1 else if k=9 then 0 else 1
def maxB (k:Int) (h:aH):Int:=if k=2 then 4 else if h.Xp=true then 7 else 0
def maxP (h:aH):Int:=if h.Y4=true then 8 else 0
def El (m:aM) (h:aH):Prop:=((m.Xp.length:Nat):Int)≤maxB m.X1 h∧((m.Y4.length:Nat):Int)≤maxP h∧¬(m.X1=10∧((m.X6.length:Nat):Int)≠1)∧¬(¬h.X6=true∧((m.X6.length:Nat):Int)>0)∧((m.X6.length:Nat):Int)≤8∧X23 m.X6
instance (m:aM) (h:aH):Decidable (El m h):=by unfold El;infer_instance
def wellR (m:aM) (h:aH):Prop:=okK m.X1∧X0f m.Y1 h.Y1 (X3q m.X1)∧X0f m.Xs h.Xs (X2u m.X1)∧X0f m.Xh h.Xh 0∧X0f m.Yh h.Xh 1∧¬(m.X1=1∧((m.Xc.length:Nat):Int)>4096) ∧
  ¬(¬h.X9=true∧m.X9≠[])∧¬(¬h.Xc=true∧((m.Xc.length:Nat):Int)>0)∧¬(¬h.X0=true∧m.X0≠Yj)∧El m h
theorem lo_is (k:Int):(Yi k).Wt=X3q k∧(Yi k).V7=X2u k∧((Xi k).Xp=true→(Yi k).Vs=maxB k (Xi k))∧(¬(Xi k).Xp=true→maxB k (Xi k)=0):=by
  rcases kinds k with h|h|h|h|h|h|h|h|h|h|h|h
  case inr.inr.inr.inr.inr.inr.inr.inr.inr.inr.inr =>
    rw [Xar h,Xii h]
    unfold okK at h
    refine ⟨?_,?_,(fun q=>by cases q),fun _=>?_⟩
    · unfold X3q;rw [if_neg (by omega),if_neg (by omega)]
    · unfold X2u;rw [if_neg (by omega),if_neg (by omega),if_neg (by omega)]
    · unfold maxB;rw [if_neg (by omega)];rfl
  all_goals (subst h;decide +kernel)
theorem Xce {s:J5} {f n lo:Int} {b:Bool} (h:I3 s.Vy f=0↔¬b=true):inM s f n lo 1099511627776↔X0f n b lo:=by
  unfold inM X0f
  by_cases q:b=true
  · rw [if_neg (fun w=>h.1 w q),if_pos q]
  · rw [if_pos (h.2 q),if_neg q];omega
theorem in_len {s:J5} {f:Int} {n:Nat} {hi:Int} {b:Bool} (h:I3 s.Vy f=0↔¬b=true) (hh:b=true→(n:Int)≤hi):inM s f (n:Nat) 0 hi↔¬(¬b=true∧(n:Int)>0):=by
  unfold inM
  by_cases q:b=true
  · rw [if_neg (fun w=>h.1 w q)];exact ⟨fun _ w=>w.1 q,fun _=>⟨Int.natCast_nonneg _,hh q⟩⟩
  · rw [if_pos (h.2 q)];exact ⟨(fun w v=>by have:=v.2;omega),fun w=>⟨Int.natCast_nonneg _,Int.not_lt.1 (fun v=>w ⟨q,v⟩)⟩⟩
theorem Xgw {s:J5} {f:Int} {n:Nat} {hi:Int} {b:Bool} (h:I3 s.Vy f=0↔¬b=true):inM s f (n:Nat) 0 hi↔(n:Int)≤if b=true then hi else 0:=by
  unfold inM
  by_cases q:b=true
  · rw [if_neg (fun w=>h.1 w q),if_pos q];omega
  · rw [if_pos (h.2 q),if_neg q];omega
theorem Wz (m:aM):X67 m↔wellR m (Xi m.X1):=by
  obtain ⟨e1,e2,e3,e4,e5,e6,e7,e8,e9⟩:=Xiy (X80 m.X1)
  obtain ⟨l1,l2,l3,l4⟩:=lo_is m.X1
  have hB:inM (Yi m.X1) 64 (m.Xp.length:Nat) 0 (Yi m.X1).Vs↔((m.Xp.length:Nat):Int)≤maxB m.X1 (Xi m.X1):=by
    rw [Xgw e7]
    split
    · rw [l3 (by assumption)]
    · rw [l4 (by assumption)]
  have hC:inM (Yi m.X1) 256 (m.X6.length:Nat) 0 8↔¬(¬(Xi m.X1).X6=true∧((m.X6.length:Nat):Int)>0)∧((m.X6.length:Nat):Int)≤8:=by
    rw [Xgw e9]
    split
    · rename_i q;exact ⟨fun w=>⟨fun v=>v.1 q,w⟩,fun w=>w.2⟩
    · rename_i q;exact ⟨fun w=>⟨(fun v=>by have:=v.2;omega),by omega⟩,fun w=>Int.not_lt.1 (fun v=>w.1 ⟨q,v⟩)⟩
  have hD:inM (Yi m.X1) 8 (m.X9.length:Nat) 0 (m.X9.length:Nat)↔¬(¬(Xi m.X1).X9=true∧m.X9≠[]):=by
    rw [in_len e4 (fun _=>Int.le_refl _)]
    have:((m.X9.length:Nat):Int)>0↔m.X9≠[]:=by
      rw [← List.length_pos_iff];omega
    rw [this]
  have hP:=Xgw (n:=m.Y4.length) (hi:=8) e8
  have hV:=Xce (n:=m.Y1) (lo:=(Yi m.X1).Wt) e1
  have hS:=Xce (n:=m.Xs) (lo:=(Yi m.X1).V7) e2
  have hA:=in_len (n:=m.Xc.length) (hi:=((m.Xc.length:Nat):Int)) e5 (fun _=>Int.le_refl _)
  have hR:(I3 (Yi m.X1).Vy 32≠0∨m.X0=Yj)↔¬(¬(Xi m.X1).X0=true∧m.X0≠Yj):=by
    rw [Ne,e6,Classical.not_not]
    constructor
    · rintro (w|w) v
      · exact v.1 w
      · exact v.2 w
    · intro w
      by_cases q:(Xi m.X1).X0=true
      · exact .inl q
      · exact .inr (Classical.byContradiction fun v=>w ⟨q,v⟩)
  unfold X67 wellR El maxP
  rw [hB,hC,hD,hP,hV,hS,hA,hR,Xce e3,Xce e3,l1,l2]
  constructor
  · rintro ⟨a1,a2,a3,a4,a5,a6,a7,⟨a8,a9⟩,a10,a11,a12,a13,a14,a15⟩
    exact ⟨a1,a2,a3,a4,a5,fun w=>by rcases a13 with q|q<;>omega,a10,a11,a12,a6,a7,fun w=>by rcases a14 with q|q<;>omega,a8,a9,a15⟩
  · rintro ⟨a1,a2,a3,a4,a5,a6,a7,a8,a9,b1,b2,b3,b4,b5,b6⟩
    exact ⟨a1,a2,a3,a4,a5,b1,b2,⟨b4,b5⟩,a7,a8,a9,by omega,by omega,b6⟩
end Go.Proofs.YtnaopgohccacmaaGreat.Q
namespace Go.Proofs.YtnaopgohccacmaaGreat.Q
set_option linter.unusedVariables false
set_option linter.unusedSimpArgs false
section
variable {P:Program} {bs:Base}
theorem Um {s:St} (s':St) {x y:Code} {Q:Exit→Act→World→Prop} (h1:T P bs s x (Exit.then (fun a w=>Gs bs s' a w) Q)) (h2:T P bs s' y Q):T P bs s (.seq x y) Q:=by
  refine T.seq fun a w hG b k cs=>?_
  obtain ⟨e,a',w',hq,harr⟩:=h1 a w hG b k cs
  refine ⟨e,a',w',?_,harr⟩
  cases e with
  | normal=>exact h2 a' w' hq
  | _=>exact hq
theorem nJ {s:St} {Q:Exit→Act→World→Prop}:Ends bs s .normal (Exit.then (fun a w=>Gs bs s a w) Q):=fun a w h=>h
end
end Go.Proofs.YtnaopgohccacmaaGreat.Q
namespace Go.Proofs.YtnaopgohccacmaaGreat.Q
open Go Go.RowKit
set_option linter.unusedVariables false
set_option linter.unusedSimpArgs false
set_option maxRecDepth 100000
set_option maxHeartbeats 4000000
theorem X3f (ta:Bool) (na:Bool) (tb:Bool) (nb:Bool) (a:List UInt8) (b:List UInt8):Holds Tryz.prog 23 ⟨[slV ta na kU8 a,slV tb nb kU8 b],[],vB (decide (a=b)),[]⟩:=by
 refine Holds.of Tryz.func23 rfl (N:=10) Tryz.ntmps23 rfl fun w0 B0 S0 U0=>?_
 show T _ (Y2 10 0 w0 S0 U0 B0) ⟨[slV ta na kU8 a,slV tb nb kU8 b],[]⟩ _ _
 refine sR [] (sR [hR 1 rfl rfl (Hp () a (ys:=(.d (dsl ta na kU8 a))) (rhs:=[]) Tryz.underlying25 Tryz.underlying5 Tryz.underlying9 (Jf ta na kU8 a) (X3 rfl) trivial),hR 3 rfl rfl (Hp () b (ys:=(.d (dsl tb nb kU8 b))) (rhs:=[]) Tryz.underlying25 Tryz.underlying5 Tryz.underlying9 (Jf tb nb kU8 b) (X3 rfl) trivial)] (T.ret ?_))
 exact eRt 4 (.one (dB (decide (a=b)))) [] rfl trivial
theorem Ji:Tryz.prog.info? 5=some Tryz.t5:=by kernel_rfl
theorem Im:Zero Tryz.prog 5 [.int .u8 0]:=⟨_,_,Ji,rfl,rfl⟩
theorem Jb:Elem Tryz.prog 25 5 1 1:=⟨Tryz.underlying25,_,_,Ji,rfl,rfl,rfl,rfl,by decide⟩
theorem Fs (ta:Bool) (na:Bool) (a:List UInt8) (hp:a.length≤140737488355328):Holds Tryz.prog 51 ⟨[slV ta na kU8 a],[],Y8 0 kU8 0 a.length,[.live (Xf 5 kU8 a)]⟩:=by
 refine Holds.of Tryz.func51 rfl (N:=8) Tryz.ntmps51 rfl fun w0 B0 S0 U0=>?_
 show T _ (Y2 8 0 w0 S0 U0 B0) ⟨[slV ta na kU8 a],[]⟩ _ _
 cases na
 ·refine Xd0 (k:=0) rfl (fun h0=>?_) ?_
  ·have h0:=List.eq_nil_of_length_eq_zero h0
   subst h0
   show T _ _ ⟨[dv (.slice none 0 0)],[]⟩ _ _
   refine sR [] (T.seq (sR [hR 1 rfl rfl (Yd (u1:=.slice none 0 0) (u2:=.slice none 0 0) (v:=.bool true) (X63 Tryz.underlying25) (X3 rfl) ⟨rfl,trivial⟩)] (cT (b:=true) rfl (sR [] (T.ret (rT ?_))))))
   refine eN ⟨[dv (.slice none 0 0),aa,dv (.slice none 0 0),aa,vB true],[]⟩ ?_
   refine X7 (s':=⟨[dv (.slice none 0 0),aa,Y8 0 kU8 0 0,aa,vB true],[.live (Xf 5 kU8 ([]:List UInt8))]⟩) (fun _ _ hG=>U5 0 2 5 kU8 rfl rfl hG) ?_
   exact eRt 2 (.one (.own 0 kU8.sz 0 0)) [0] p2i (ix trivial)
  show T _ _ ⟨[slV ta true kU8 a],[]⟩ _ _
  refine sR [] (T.seq (sR [hR 1 rfl rfl (X2k (s:=.d (dsl ta true kU8 a)) Tryz.underlying25 (.inl rfl) (X3 rfl) ⟨rfl,trivial⟩)] (cF (b:=false) rfl (T.skip (nT ?_)))))
  refine sR [hR 0 rfl rfl (Yc 0 5 kU8 Vu ([]:List UInt8) [] (cs:=[]) Tryz.underlying25 Ji rfl Im rfl rfl rfl pd W5 pZ8 (V4 pZ8) (X3 rfl) trivial),hR 2 rfl rfl (W2 0 1 5 1 kU8 Vu ([]:List UInt8) a a ([]:List UInt8).length (sy:=(.d (dsl ta true kU8 a))) (rhs:=[]) Jb (by omega) (Jf ta true kU8 a) (by simp) (by (simp [maxLen,-List.getD_eq_getElem?_getD]<;>omega)) (by (simp [maxLen,-List.getD_eq_getElem?_getD]<;>omega)) (X3 rfl) trivial)] ?_
  refine T.ret ?_
  exact eRt 2 (.one (.own 1 kU8.sz 0 a.length)) [1] rfl (ix trivial)
 refine sR [] (T.seq (sR [hR 1 rfl rfl (X2k (s:=.d (dsl ta true kU8 a)) Tryz.underlying25 (.inl rfl) (X3 rfl) ⟨rfl,trivial⟩)] (cF (b:=false) rfl (T.skip (nT ?_)))))
 refine sR [hR 0 rfl rfl (Yc 0 5 kU8 Vu ([]:List UInt8) [] (cs:=[]) Tryz.underlying25 Ji rfl Im rfl rfl rfl pd W5 pZ8 (V4 pZ8) (X3 rfl) trivial),hR 2 rfl rfl (W2 0 1 5 1 kU8 Vu ([]:List UInt8) a a ([]:List UInt8).length (sy:=(.d (dsl ta true kU8 a))) (rhs:=[]) Jb (by omega) (Jf ta true kU8 a) (by simp) (by (simp [maxLen,-List.getD_eq_getElem?_getD]<;>omega)) (by (simp [maxLen,-List.getD_eq_getElem?_getD]<;>omega)) (X3 rfl) trivial)] ?_
 refine T.ret ?_
 exact eRt 2 (.one (.own 1 kU8.sz 0 a.length)) [1] rfl (ix trivial)
theorem X1z:Tryz.prog.info? 3=some Tryz.t3:=by kernel_rfl
theorem Xkr (f:Int) (u:Int):Holds Tryz.prog 34 ⟨[vI f,vI u],[],pv 0 0,[.live (.box 130 [dI (3*(fOf f)+1),dI (cOf u),.mref 1]),.live (mpK Xx Yg ([]:List (Yl×Bool)))]⟩:=by
 refine Holds.of Tryz.func34 rfl (N:=16) Tryz.ntmps34 rfl fun w0 B0 S0 U0=>?_
 show T _ (Y2 16 0 w0 S0 U0 B0) ⟨[vI f,vI u],[]⟩ _ _
 refine sR [] (sR [hR 1 rfl rfl (X1m (k:=.i64) (a:=f) (b:=0) (X3 rfl) ⟨rfl,trivial⟩),hR 2 rfl rfl (X8w (k:=.i64) (a:=max f 0) (b:=2) (X3 rfl) ⟨rfl,trivial⟩),hR 3 rfl rfl (Yd (u1:=.int .i64 3) (u2:=.int .i64 (min (max f 0) 2)) (v:=.int .i64 (3*(min (max f 0) 2))) (X9s pc) (X3 rfl) ⟨rfl,trivial⟩),hR 4 rfl rfl (Yd (u1:=.int .i64 (3*(min (max f 0) 2))) (u2:=.int .i64 1) (v:=.int .i64 ((3*(min (max f 0) 2))+1)) (Wb pc) (X3 rfl) ⟨rfl,trivial⟩),hR 6 rfl rfl (X1m (k:=.i64) (a:=u) (b:=0) (X3 rfl) ⟨rfl,trivial⟩),hR 7 rfl rfl (X8w (k:=.i64) (a:=max u 0) (b:=8) (X3 rfl) ⟨rfl,trivial⟩),hR 8 rfl rfl (Xaz 0 Xx Yg (X3 rfl))] (T.ret ?_))
 exact eRt 4 (.one (.ptr 1 0)) [1,0] rfl ⟨⟨rfl,(by have e1:((3*(min (max f 0) 2))+1:Int)=3*(fOf f)+1:=(by rfl);have e2:(min (max u 0) 8:Int)=(cOf u):=(by rfl);have hE:=congr (congrArg (fun (q1:Int) (q2:Int)=>(.live (.box 130 [dI q1,dI q2,.mref 0]):HS)) e1) e2;exact Eq.trans pZ8 hE)⟩,(ix trivial)⟩
theorem wide_3:Wide Tryz.prog 3 none:=⟨_,Tryz.underlying3,(fun _ h=>by cases h),(fun _ _ h=>by cases h)⟩
theorem Xcw (f:Int) (u:Int) (rows:List (Yl×Bool)) (hf:0≤f∧f≤2) (hu:0≤u∧u≤8):Holds Tryz.prog 82 ⟨[pv 0 0],[.box 130 [dI (3*f+1),dI u,.mref 1],mpK Xx Yg rows],vI (3*f+1),[.live (.box 130 [dI (3*f+1),dI u,.mref 1]),.live (mpK Xx Yg rows)]⟩:=by
 refine Holds.of Tryz.func82 rfl (N:=9) Tryz.ntmps82 rfl fun w0 B0 S0 U0=>?_
 show T _ (Y2 9 2 w0 S0 U0 B0) ⟨[pv 0 0],[.live (.box 130 [dI (3*f+1),dI u,.mref 1]),.live (mpK Xx Yg rows)]⟩ _ _
 refine sR [] (T.seq (sR [] (cF (b:=false) rfl (T.skip (nT (sR [] (T.ret ?_)))))))
 exact eRt 2 (.one (dI (3*f+1))) [0,1] rfl (ix (ix trivial))
theorem authn_F (f:Int) (u:Int) (rows:List (Yl×Bool)) (hf:0≤f∧f≤2) (hu:0≤u∧u≤8):Holds Tryz.prog 83 ⟨[pv 0 0],[.box 130 [dI (3*f+1),dI u,.mref 1],mpK Xx Yg rows],vI f,[.live (.box 130 [dI (3*f+1),dI u,.mref 1]),.live (mpK Xx Yg rows)]⟩:=by
 refine Holds.of Tryz.func83 rfl (N:=6) Tryz.ntmps83 rfl fun w0 B0 S0 U0=>?_
 show T _ (Y2 6 2 w0 S0 U0 B0) ⟨[pv 0 0],[.live (.box 130 [dI (3*f+1),dI u,.mref 1]),.live (mpK Xx Yg rows)]⟩ _ _
 refine sR [] (sR [hR 1 rfl rfl (rCa (Xcw f u rows ‹_› ‹_›) Tryz.func82 [0,1] [(.tmp 3,pv 0 0)] 2 2),hR 2 rfl rfl (Yd (u1:=.int .i64 (3*f+1)) (u2:=.int .i64 3) (v:=.int .i64 ((3*f+1) / 3)) (b_quoP (by omega) (by omega) pc) (X3 rfl) ⟨rfl,trivial⟩)] (T.ret ?_))
 exact eRt 2 (.one (dI ((3*f+1) / 3))) [0,1] (cI (by omega)) (ix (ix trivial))
theorem Xah (f:Int) (u:Int) (rows:List (Yl×Bool)) (hf:0≤f∧f≤2) (hu:0≤u∧u≤8):Holds Tryz.prog 152 ⟨[pv 0 0],[.box 130 [dI (3*f+1),dI u,.mref 1],mpK Xx Yg rows],vI u,[.live (.box 130 [dI (3*f+1),dI u,.mref 1]),.live (mpK Xx Yg rows)]⟩:=by
 refine Holds.of Tryz.func152 rfl (N:=9) Tryz.ntmps152 rfl fun w0 B0 S0 U0=>?_
 show T _ (Y2 9 2 w0 S0 U0 B0) ⟨[pv 0 0],[.live (.box 130 [dI (3*f+1),dI u,.mref 1]),.live (mpK Xx Yg rows)]⟩ _ _
 refine sR [] (T.seq (sR [] (cF (b:=false) rfl (T.skip (nT (sR [] (T.ret ?_)))))))
 exact eRt 2 (.one (dI u)) [0,1] rfl (ix (ix trivial))
theorem Xcv (f:Int) (u:Int) (rows:List (Yl×Bool)) (hf:0≤f∧f≤2) (hu:0≤u∧u≤8):Holds Tryz.prog 33 ⟨[pv 0 0],[.box 130 [dI (3*f+1),dI u,.mref 1],mpK Xx Yg rows],vI (2*f+1),[.live (.box 130 [dI (3*f+1),dI u,.mref 1]),.live (mpK Xx Yg rows)]⟩:=by
 refine Holds.of Tryz.func33 rfl (N:=8) Tryz.ntmps33 rfl fun w0 B0 S0 U0=>?_
 show T _ (Y2 8 2 w0 S0 U0 B0) ⟨[pv 0 0],[.live (.box 130 [dI (3*f+1),dI u,.mref 1]),.live (mpK Xx Yg rows)]⟩ _ _
 refine sR [] (sR [hR 1 rfl rfl (rCa (Xcw f u rows ‹_› ‹_›) Tryz.func82 [0,1] [(.tmp 3,pv 0 0)] 2 2),hR 3 rfl rfl (rCa (authn_F f u rows ‹_› ‹_›) Tryz.func83 [0,1] [(.tmp 5,pv 0 0)] 2 2),hR 4 rfl rfl (Yd (u1:=.int .i64 (3*f+1)) (u2:=.int .i64 f) (v:=.int .i64 ((3*f+1)-f)) (Ug pc) (X3 rfl) trivial)] (T.ret ?_))
 exact eRt 2 (.one (dI ((3*f+1)-f))) [0,1] (cI (by omega)) (ix (ix trivial))
theorem Xcu (f:Int) (u:Int) (rows:List (Yl×Bool)) (s:Int) (hf:0≤f∧f≤2) (hu:0≤u∧u≤8) (hs:-9223372036854775808≤s∧s≤9223372036854775807):Holds Tryz.prog 123 ⟨[pv 0 0,vI s],[.box 130 [dI (3*f+1),dI u,.mref 1],mpK Xx Yg rows],vB (decide (Id u s)),[.live (.box 130 [dI (3*f+1),dI u,.mref 1]),.live (mpK Xx Yg rows)]⟩:=by
 refine Holds.of Tryz.func123 rfl (N:=14) Tryz.ntmps123 rfl fun w0 B0 S0 U0=>?_
 show T _ (Y2 14 2 w0 S0 U0 B0) ⟨[pv 0 0,vI s],[.live (.box 130 [dI (3*f+1),dI u,.mref 1]),.live (mpK Xx Yg rows)]⟩ _ _
 refine sR [] ?_
 by_cases hq1:s≥1000
 ·refine sR [hY 3 (dT hq1),hS 4 (oY rfl rfl rfl rfl (X3 rfl) (dT hq1) (Yd (u1:=.int .i64 s) (u2:=.int .i64 1000) (v:=.int .i64 (s-1000)) (Ug pc) (X3 rfl) ⟨rfl,trivial⟩)),hY 5 (dT hq1),hS 6 (oY rfl rfl rfl rfl (X3 rfl) (dT hq1) (rCa (Xah f u rows ‹_› ‹_›) Tryz.func152 [0,1] [(.tmp 10,pv 0 0)] 2 2)),hY 7 (dT hq1),hP 8 (dT hq1)] (T.ret ?_)
  exact eRt 4 (.one (dB (decide ((s-1000)<u)))) [0,1] p4a (ix (ix trivial))
 refine sR (Xm (hN · true (dF hq1)) [3,4,5,6,7] (hP 8 (dF hq1)::[])) (T.ret ?_)
 exact eRt 4 (.one (dB false)) [0,1] p4t (ix (ix trivial))
theorem Ix (f:Int) (u:Int) (rows:List (Yl×Bool)) (s:Int) (hf:0≤f∧f≤2) (hu:0≤u∧u≤8):Holds Tryz.prog 79 ⟨[pv 0 0,vI s],[.box 130 [dI (3*f+1),dI u,.mref 1],mpK Xx Yg rows],vB (decide (V0 f s)),[.live (.box 130 [dI (3*f+1),dI u,.mref 1]),.live (mpK Xx Yg rows)]⟩:=by
 refine Holds.of Tryz.func79 rfl (N:=13) Tryz.ntmps79 rfl fun w0 B0 S0 U0=>?_
 show T _ (Y2 13 2 w0 S0 U0 B0) ⟨[pv 0 0,vI s],[.live (.box 130 [dI (3*f+1),dI u,.mref 1]),.live (mpK Xx Yg rows)]⟩ _ _
 refine sR [] ?_
 by_cases hq1:s≥0
 ·refine sR [hY 3 (dT hq1),hY 4 (dT hq1),hS 5 (oY rfl rfl rfl rfl (X3 rfl) (dT hq1) (rCa (Xcw f u rows ‹_› ‹_›) Tryz.func82 [0,1] [(.tmp 9,pv 0 0)] 2 2)),hY 6 (dT hq1),hP 7 (dT hq1)] (T.ret ?_)
  exact eRt 4 (.one (dB (decide (s<(3*f+1))))) [0,1] p47 (ix (ix trivial))
 refine sR (Xm (hN · true (dF hq1)) [3,4,5,6] (hP 7 (dF hq1)::[])) (T.ret ?_)
 exact eRt 4 (.one (dB false)) [0,1] p4s (ix (ix trivial))
theorem X6x (f:Int) (u:Int) (rows:List (Yl×Bool)) (s:Int) (hf:0≤f∧f≤2) (hu:0≤u∧u≤8) (hs:-9223372036854775808≤s∧s≤9223372036854775807):Holds Tryz.prog 68 ⟨[pv 0 0,vI s],[.box 130 [dI (3*f+1),dI u,.mref 1],mpK Xx Yg rows],vB (decide (Uk f u s)),[.live (.box 130 [dI (3*f+1),dI u,.mref 1]),.live (mpK Xx Yg rows)]⟩:=by
 refine Holds.of Tryz.func68 rfl (N:=13) Tryz.ntmps68 rfl fun w0 B0 S0 U0=>?_
 show T _ (Y2 13 2 w0 S0 U0 B0) ⟨[pv 0 0,vI s],[.live (.box 130 [dI (3*f+1),dI u,.mref 1]),.live (mpK Xx Yg rows)]⟩ _ _
 refine sR [] ?_
 by_cases hq1:V0 f s
 ·refine sR (hR 2 rfl rfl (rCa (Ix f u rows s ‹_› ‹_›) Tryz.func79 [0,1] [(.tmp 5,pv 0 0),(.tmp 6,vI s)] 2 2)::(Xm (hN · false (dT hq1)) [4,5,6] (hP 7 (dT hq1)::[]))) (T.ret ?_)
  exact eRt 4 (.one (dB true)) [0,1] p3y (ix (ix trivial))
 refine sR [hR 2 rfl rfl (rCa (Ix f u rows s ‹_› ‹_›) Tryz.func79 [0,1] [(.tmp 5,pv 0 0),(.tmp 6,vI s)] 2 2),hY 4 (dF hq1),hY 5 (dF hq1),hS 6 (oY rfl rfl rfl rfl (X3 rfl) (dF hq1) (rCa (Xcu f u rows s ‹_› ‹_› ‹_›) Tryz.func123 [0,1] [(.tmp 9,pv 0 0),(.tmp 10,vI s)] 2 2)),hP 7 (dF hq1)] (T.ret ?_)
 exact eRt 4 (.one (dB (decide (Id u s)))) [0,1] p3r (ix (ix trivial))
theorem Vi:Tryz.prog.info? 43=some Tryz.t43:=by kernel_rfl
theorem F4:Zero Tryz.prog 43 [.int .i64 0,.slice none 0 0]:=⟨_,_,Vi,rfl,rfl⟩
theorem U1:Tryz.prog.info? 25=some Tryz.t25:=by kernel_rfl
theorem F5:Wide Tryz.prog 43 (some 2):=⟨_,_,Tryz.underlying43,.inl ⟨_,rfl⟩,Vi,rfl⟩
section
variable (f:Int) (u:Int) (s:Int) (tb:Bool) (nb:Bool) (b:List UInt8)
end
section
variable (f:Int) (u:Int) (rows:List (Yl×Bool)) (s:Int) (tb:Bool) (nb:Bool) (b:List UInt8)
abbrev Z4:HS:=.live (.box 130 [dI (3*f+1),dI u,.mref 1])
abbrev Z5:HS:=.live (mpK Xx Yg rows)
abbrev Z6:List AV:=[pv 0 0,vI s,slV tb nb kU8 b,aa,aa,aa,pv 2 0,vI 11,vB (!(decide (Uk f u s))),aa,aa,aa,aa,aa,vB (decide (((b.length:Nat):Int)>16777216))]
abbrev Z7:HS:=.live (.box 43 [dI 0,.d (.val (.slice none 0 0))])
abbrev Z8:SV:=dU ([]:List UInt8)
abbrev Z9:List SV:=[dI 0,Z8]
abbrev Za:List AV:=[pv 0 0,vI s,slV tb nb kU8 b,aa,aa,aa,pv 2 0,vI 0,vB (!(decide (Uk f u s))),aa,aa,aa,aa,aa,vB (decide (((b.length:Nat):Int)>16777216))]
abbrev Zb:List AV:=[pv 0 0,vI s,slV tb nb kU8 b,aa,aa,aa,pv 2 0,vI 30,vB (!(decide (Uk f u s)))]
end
theorem Xhd (f:Int) (u:Int) (rows:List (Yl×Bool)) (s:Int) (tb:Bool) (nb:Bool) (b:List UInt8) (hf:0≤f∧f≤2) (hu:0≤u∧u≤8) (hs:-9223372036854775808≤s∧s≤9223372036854775807) (hb:b.length≤140737488355328):Holds Tryz.prog 26 ⟨[pv 0 0,vI s,slV tb nb kU8 b],[.box 130 [dI (3*f+1),dI u,.mref 1],mpK Xx Yg rows],.tup [.agg [dI (Hg f u s b).X5,dU (Hg f u s b).Xd],.one (dI (Ep f u s b))],[.live (.box 130 [dI (3*f+1),dI u,.mref 1]),.live (mpK Xx Yg (X6c f u rows s b))]⟩:=by
 refine Holds.of Tryz.func26 rfl (N:=31) Tryz.ntmps26 rfl fun w0 B0 S0 U0=>?_
 show T _ (Y2 31 2 w0 S0 U0 B0) ⟨[pv 0 0,vI s,slV tb nb kU8 b],[(Z4 f u),(Z5 rows)]⟩ _ _
 refine sR [] (T.seq (T.block (sR [hR 2 rfl rfl (rCa (X6x f u rows s ‹_› ‹_› ‹_›) Tryz.func68 [0,1] [(.tmp 9,pv 0 0),(.tmp 10,vI s)] 2 2)] ?_)))
 by_cases hq1:Uk f u s
 ·refine cF (cn (dT hq1)) (sR [] ?_)
  by_cases hq2:((b.length:Nat):Int)>16777216
  ·refine cT (dT hq2) (sR [] (T.ret (rB (rT ?_))))
   refine eN ⟨(Z6 f u s tb nb b),[(Z4 f u),(Z5 rows),Z7]⟩ ?_
   refine X7 (s':=⟨(Z6 f u s tb nb b),[(Z4 f u),(Z5 rows),.live (.box 43 Z9)]⟩) (fun _ _ hG=>Yt (s:=⟨(Z6 f u s tb nb b),[(Z4 f u),(Z5 rows),Z7]⟩) ⟨.inl rfl,(kk2 p3o)⟩ (kk2 ⟨p3n,trivial⟩) hG) ?_
   exact eX [.c 6 2 43 0 43 [dI 0,Z8] (.agg Z9),.t 7 (.one (dI 11))] ⟨⟨rfl,rfl,by kernel_rfl,by kernel_rfl,.inl ⟨2,F5,rfl,Nat.le_of_ble_eq_true rfl⟩⟩,⟨⟨rfl,by kernel_rfl⟩,trivial⟩⟩ [0,1] (by have e1:((Hg f u s b).X5:Int)=0:=p1d;have e2:((Hg f u s b).Xd:List UInt8)=([]:List UInt8):=p1d;have e3:((Ep f u s b):Int)=11:=p1d;have hE:=congr pZ15 e3;exact hE) (ix ⟨⟨rfl,p2x⟩,trivial⟩)
  refine cF (dF hq2) (T.skip (nB (nT ?_)))
  refine sD [[],[0],[0,1],[0,1,2],[],[],[5],[4,5,6],[0,1,2,3,4,5,6,7]] [hR 6 rfl rfl (Hp () b (ys:=(.d (dsl tb nb kU8 b))) (rhs:=[]) Tryz.underlying25 Tryz.underlying5 Tryz.underlying9 (Jf tb nb kU8 b) (X3 rfl) trivial),hR 8 rfl rfl (X6o 1 rows (Yl.mk s b) true (kd:=Yg) (ak:=.tv (.agg [dI s,dS b])) (tv:=.one (dB true)) Tryz.underlying128 X10 ⟨[.int .i64 s,Yk b],rfl,rfl⟩ rfl ⟨.inl rfl,trivial⟩ ⟨rfl,trivial⟩)] (sR [hR 2 rfl rfl (rCa (Fs tb nb b ‹_›) Tryz.func51 [3] [(.tmp 28,slV tb nb kU8 b)] 0 1)] (T.ret ?_))
  refine eN ⟨(Za f u s tb nb b),[(Z4 f u),.live (mpK Xx Yg (mput rows (Yl.mk s b) true)),.live (.box 43 [dI s,.own 3 kU8.sz 0 b.length]),.live (Xf 5 kU8 b)]⟩ ?_
  refine X7 (s':=⟨(Za f u s tb nb b),[(Z4 f u),.live (mpK Xx Yg (mput rows (Yl.mk s b) true)),.live (.box 43 [dI s,dU b]),.dead]⟩) (fun _ _ hG=>Gs.freeze (s:=⟨(Za f u s tb nb b),[(Z4 f u),.live (mpK Xx Yg (mput rows (Yl.mk s b) true)),.live (.box 43 [dI s,.own 3 kU8.sz 0 b.length]),.live (Xf 5 kU8 b)]⟩) 3 (el:=W7 kU8 b) (sz:=kU8.sz) (n:=b.length) rfl ⟨.inl rfl,(kk2 p3o)⟩ ⟨pZ9,⟨pZ9,⟨p2t,⟨(.inl ⟨rfl,rfl⟩),trivial⟩⟩⟩⟩ hG) ?_
  exact eX [.c 6 2 43 0 43 [dI s,dU b] (.agg [dI s,dU b]),.t 7 (.one (dI 0))] ⟨⟨rfl,rfl,by kernel_rfl,by kernel_rfl,.inl ⟨2,F5,rfl,Nat.le_of_ble_eq_true rfl⟩⟩,⟨⟨rfl,by kernel_rfl⟩,trivial⟩⟩ [0,1] (by have e1:((Hg f u s b).X5:Int)=s:=p1d;have e2:((Hg f u s b).Xd:List UInt8)=b:=p1d;have e3:((Ep f u s b):Int)=0:=p1d;have hE:=congr pZ15 e3;exact hE) (ix ⟨⟨rfl,(by have e1:((mput rows (Yl.mk s b) true):List (Yl×Bool))=(X6c f u rows s b):=p1d;have hE:=congrArg (fun (q1:List (Yl×Bool))=>(.live (mpK Xx Yg q1):HS)) e1;exact Eq.trans pZ8 hE)⟩,trivial⟩)
 refine cT (cn (dF hq1)) (sR [] (T.ret (rB (rT ?_))))
 refine eN ⟨(Zb f u s tb nb b),[(Z4 f u),(Z5 rows),Z7]⟩ ?_
 refine X7 (s':=⟨(Zb f u s tb nb b),[(Z4 f u),(Z5 rows),.live (.box 43 Z9)]⟩) (fun _ _ hG=>Yt (s:=⟨(Zb f u s tb nb b),[(Z4 f u),(Z5 rows),Z7]⟩) ⟨.inl rfl,(kk8 trivial)⟩ (kk2 ⟨p3n,trivial⟩) hG) ?_
 exact eX [.c 6 2 43 0 43 [dI 0,Z8] (.agg Z9),.t 7 (.one (dI 30))] ⟨⟨rfl,rfl,by kernel_rfl,by kernel_rfl,.inl ⟨2,F5,rfl,Nat.le_of_ble_eq_true rfl⟩⟩,⟨⟨rfl,by kernel_rfl⟩,trivial⟩⟩ [0,1] (by have e1:((Hg f u s b).X5:Int)=0:=p1d;have e2:((Hg f u s b).Xd:List UInt8)=([]:List UInt8):=p1d;have e3:((Ep f u s b):Int)=30:=p1d;have hE:=congr pZ15 e3;exact hE) (ix ⟨⟨rfl,p2x⟩,trivial⟩)
theorem Xhl:Wide Tryz.prog 25 none:=⟨_,Tryz.underlying25,(fun _ h=>by cases h),(fun _ _ h=>by cases h)⟩
theorem X1y:Tryz.prog.info? 4=some Tryz.t4:=by kernel_rfl
theorem Xhh:ZeroM Tryz.prog 4 [.bool false]:=⟨_,_,X1y,rfl,rfl,fun _=>rfl⟩
theorem Xfj (f:Int) (u:Int) (rows:List (Yl×Bool)) (te:Bool) (e:aE) (hf:0≤f∧f≤2) (hu:0≤u∧u≤8) (hs:-9223372036854775808≤e.X5∧e.X5≤9223372036854775807):Holds Tryz.prog 186 ⟨[pv 0 0,.tv (.agg [dI e.X5,.d (dsl te false kU8 e.Xd)])],[.box 130 [dI (3*f+1),dI u,.mref 1],mpK Xx Yg rows],vI (Y5 f u rows e),[.live (.box 130 [dI (3*f+1),dI u,.mref 1]),.live (mpK Xx Yg rows)]⟩:=by
 refine Holds.of Tryz.func186 rfl (N:=28) Tryz.ntmps186 rfl fun w0 B0 S0 U0=>?_
 show T _ (Y2 28 2 w0 S0 U0 B0) ⟨[pv 0 0,.tv (.agg [dI e.X5,.d (dsl te false kU8 e.Xd)])],[.live (.box 130 [dI (3*f+1),dI u,.mref 1]),.live (mpK Xx Yg rows)]⟩ _ _
 refine sR [] (T.seq (sR [hR 3 rfl rfl (rCa (X6x f u rows e.X5 ‹_› ‹_› ‹_›) Tryz.func68 [0,1] [(.tmp 7,pv 0 0),(.tmp 9,vI e.X5)] 2 2)] ?_))
 by_cases hq1:Uk f u e.X5
 ·refine cF (cn (dT hq1)) (T.skip (nT (T.seq ?_)))
  refine sD [[],[0],[0,1],[0,1,2],[],[4],[],[6],[6,7],[4,5,6,7,8],[0,1,2,3,4,5,6,7,8,9],[0,1,2,3,4,5,6,7,8,9,10],[0,1,2,3,4,5,6,7,8,9,10,11],[0,1,2,3,4,5,6,7,8,9,10,11],[0,1,2,3,4,5,6,7,8,9,10,11,12],[0,1,2,3,4,5,6,7,8,9,10,11,12,13,14]] [hR 8 rfl rfl (Hp () e.Xd (ys:=(.d (dsl te false kU8 e.Xd))) (rhs:=[]) Tryz.underlying25 Tryz.underlying5 Tryz.underlying9 (Jf te false kU8 e.Xd) (X3 rfl) trivial),hR 10 rfl rfl (Xjq 1 rows (Yl.mk e.X5 e.Xd) (.one (dB (mget rows (Yl.mk e.X5 e.Xd) false))) (ak:=.tv (.agg [dI e.X5,dS e.Xd])) (kd:=Yg) Tryz.underlying128 X10 ⟨[.int .i64 e.X5,Yk e.Xd],rfl,rfl⟩ Xhh ⟨.inl rfl,trivial⟩ rfl (X3 rfl) trivial)] (sR [] ?_)
  by_cases hq2:(mhas rows (Yl.mk e.X5 e.Xd))=true
  ·refine cF (cn hq2) (T.skip (nT (sR [] (T.ret ?_))))
   exact eRt 4 (.one (dI 0)) [0,1] (by have e1:((Y5 f u rows e):Int)=0:=(by (simp [Y5, *];done));have hE:=cI e1;exact hE) (ix (ix trivial))
  replace hq2:=Bool.eq_false_iff.2 hq2
  refine cT (cn hq2) (sR [] (T.ret (rT ?_)))
  exact eRt 4 (.one (dI 31)) [0,1] (by have e1:((Y5 f u rows e):Int)=31:=(by (simp [Y5, *];done));have hE:=cI e1;exact hE) (ix (ix trivial))
 refine cT (cn (dF hq1)) (sR [] (T.ret (rT ?_)))
 exact eRt 4 (.one (dI 30)) [0,1] (by have e1:((Y5 f u rows e):Int)=30:=(by (simp [Y5, *];done));have hE:=cI e1;exact hE) (ix (ix trivial))
end Go.Proofs.YtnaopgohccacmaaGreat.Q
namespace Go.Proofs.YtnaopgohccacmaaGreat.Q
set_option linter.unusedVariables false
set_option linter.unusedSimpArgs false
set_option maxRecDepth 100000
end Go.Proofs.YtnaopgohccacmaaGreat.Q
namespace Go.Proofs.YtnaopgohccacmaaGreat.Q
open Go.Shelf
end Go.Proofs.YtnaopgohccacmaaGreat.Q
namespace Go.Proofs.YtnaopgohccacmaaGreat.Q
set_option linter.unusedVariables false
set_option linter.unusedSimpArgs false
set_option maxRecDepth 100000
section
variable {P:Program} {bs:Base}
end
end Go.Proofs.YtnaopgohccacmaaGreat.Q
namespace Go.Proofs.YtnaopgohccacmaaGreat.Q
set_option linter.unusedVariables false
set_option linter.unusedSimpArgs false
set_option maxRecDepth 100000
section
variable {f:Int} {l xs ys:List Int} {i j k p q:Nat}
end
end Go.Proofs.YtnaopgohccacmaaGreat.Q
namespace Go.Proofs.YtnaopgohccacmaaGreat.Q
open Go Go.RowKit
set_option linter.unusedVariables false
set_option linter.unusedSimpArgs false
set_option maxRecDepth 100000
set_option maxHeartbeats 4000000
theorem X54:Zero Tryz.prog 3 [.int .i64 0]:=⟨_,_,X1z,rfl,rfl⟩
section
variable (f:Int) (u:Int) (rows:List (Yl×Bool)) (tx:Bool) (nx:Bool) (x:List Int) (k:Nat)
end
section
variable (f:Int) (u:Int) (rows:List (Yl×Bool)) (xs:List Int) (i:Nat) (j:Nat)
end
section
variable (xs:List Int) (k:Nat) (p:Nat) (q:Nat)
end
end Go.Proofs.YtnaopgohccacmaaGreat.Q
namespace Go.Proofs.YtnaopgohccacmaaGreat.Q
set_option linter.unusedVariables false
set_option linter.unusedSimpArgs false
set_option maxRecDepth 100000
section
variable {f:Int} {l:List aE} {k:Nat}
end
section
variable {P:Program}
end
end Go.Proofs.YtnaopgohccacmaaGreat.Q
namespace Go.Proofs.YtnaopgohccacmaaGreat.Q
open Go Go.RowKit
set_option linter.unusedVariables false
set_option linter.unusedSimpArgs false
set_option maxRecDepth 100000
set_option maxHeartbeats 4000000
theorem X8l (ta:Bool) (tb:Bool) (a:aE) (b:aE):Holds Tryz.prog 21 ⟨[.tv (.agg [dI a.X5,.d (dsl ta false kU8 a.Xd)]),.tv (.agg [dI b.X5,.d (dsl tb false kU8 b.Xd)])],[],vB (decide (a=b)),[]⟩:=by
 refine Holds.of Tryz.func21 rfl (N:=17) Tryz.ntmps21 rfl fun w0 B0 S0 U0=>?_
 show T _ (Y2 17 0 w0 S0 U0 B0) ⟨[.tv (.agg [dI a.X5,.d (dsl ta false kU8 a.Xd)]),.tv (.agg [dI b.X5,.d (dsl tb false kU8 b.Xd)])],[]⟩ _ _
 refine sR [] ?_
 by_cases hq1:a.X5=b.X5
 ·refine sR (Xm (hY · (dT hq1)) [6,7,8,9] (hS 10 (oY rfl rfl rfl rfl (X3 rfl) (dT hq1) (rCa (X3f ta false tb false a.Xd b.Xd ) Tryz.func23 [] [(.tmp 12,slV ta false kU8 a.Xd),(.tmp 14,slV tb false kU8 b.Xd)] 0 0))::(hP 11 (dT hq1)::[]))) (T.ret ?_)
  exact eRt 4 (.one (dB (decide (a.Xd=b.Xd)))) [] (by have e1:((decide (a=b)):Bool)=(decide (a.Xd=b.Xd)):=(by simp [Jk, *]);have hE:=cB e1;exact hE) trivial
 refine sR (Xm (hN · true (dF hq1)) [6,7,8,9,10] (hP 11 (dF hq1)::[])) (T.ret ?_)
 exact eRt 4 (.one (dB false)) [] (by have e1:((decide (a=b)):Bool)=false:=(by simp [Jk, *]);have hE:=cB e1;exact hE) trivial
theorem Xjk (f:Int) (u:Int):Holds Tryz.prog 35 ⟨[vI f,vI u],[],pv 0 0,[.live (.box 135 [dB true,dI (fOf f),dI (cOf u),.own 1 (kE false).sz 0 ([]:List aE).length]),.live (Xf 43 (kE false) ([]:List aE))]⟩:=by
 refine Holds.of Tryz.func35 rfl (N:=13) Tryz.ntmps35 rfl fun w0 B0 S0 U0=>?_
 show T _ (Y2 13 0 w0 S0 U0 B0) ⟨[vI f,vI u],[]⟩ _ _
 refine sR [] (sR [hR 1 rfl rfl (X8w (k:=.i64) (a:=f) (b:=2) (X3 rfl) ⟨rfl,trivial⟩),hR 2 rfl rfl (X1m (k:=.i64) (a:=0) (b:=min f 2) (X3 rfl) ⟨rfl,trivial⟩),hR 4 rfl rfl (X8w (k:=.i64) (a:=u) (b:=8) (X3 rfl) ⟨rfl,trivial⟩),hR 5 rfl rfl (X1m (k:=.i64) (a:=0) (b:=min u 8) (X3 rfl) ⟨rfl,trivial⟩)] (T.ret ?_))
 refine eN ⟨[vI f,vI u,aa,aa,pv 0 0],[.live (.box 135 [dB true,dI (max 0 (min f 2)),dI (max 0 (min u 8)),.d (.val (.slice none 0 0))])]⟩ ?_
 refine X7 (s':=⟨[vI f,vI u,aa,aa,pv 0 0],[.live (.box 135 [dB true,dI (max 0 (min f 2)),dI (max 0 (min u 8)),.own 1 (kE false).sz 0 0]),.live (Xf 43 (kE false) ([]:List aE))]⟩) (fun _ _ hG=>J7 1 0 3 43 (kE false) (Tb:=135) (cs:=[dB true,dI (max 0 (min f 2)),dI (max 0 (min u 8)),.d (.val (.slice none 0 0))]) rfl rfl rfl hG) ?_
 exact eRt 4 (.one (.ptr 0 0)) [0,1] rfl ⟨⟨rfl,(by have e1:(max 0 (min f 2):Int)=(fOf f):=(by (simp only [fOf,cOf];omega));have e2:(max 0 (min u 8):Int)=(cOf u):=(by (simp only [fOf,cOf];omega));have e3:(0:Nat)=([]:List aE).length:=(by rfl);have hE:=congr (congr (congrArg (fun (q1:Int) (q2:Int) (q3:Nat)=>(.live (.box 135 [dB true,dI q1,dI q2,.own 1 (kE false).sz 0 q3]):HS)) e1) e2) e3;exact Eq.trans pZ8 hE)⟩,(ix trivial)⟩
end Go.Proofs.YtnaopgohccacmaaGreat.Q
