import Derived.Test.YtnaopgohccacmaaGreatC19p
namespace Go.Proofs.YtnaopgohccacmaaGreat.Q
set_option linter.unusedVariables false
set_option linter.unusedSimpArgs false
def Wm (n:Int):Prop:=-9223372036854775808≤n∧n≤9223372036854775807
theorem Uf {α:Type} {z:α} {l:List α} {k:Nat} (hk:k<l.length):l.take (k+1)=l.take k++[l.getD k z]:=by
  rw [List.take_add_one,List.getD_eq_getElem?_getD,List.getElem?_eq_getElem hk];rfl
theorem Im {P:Nat→Prop} {k:Nat} (h:∀ j,j<k→P j) (hk:P k):∀ j,j<k+1→P j:=fun j hj=>by
  rcases Nat.lt_or_ge j k with h1|h1
  · exact h j h1
  · obtain rfl:j=k:=by omega
    exact hk
theorem rows_eq {α:Type} {a b:List α} {z:α} {k:Nat} (hl:a.length=b.length) (hk:a.length≤k) (h:∀ j,j<k→a.getD j z=b.getD j z):a=b:=by
  apply List.ext_getElem hl
  intro j h1 h2
  have:=h j (by omega)
  simpa [List.getD_eq_getElem?_getD,List.getElem?_eq_getElem h1,List.getElem?_eq_getElem h2] using this
theorem Vc {α:Type} {l:List α} {z:α} {k:Nat} (hk:k<l.length):l.getD k z∈l:=by
  rw [List.getD_eq_getElem?_getD,List.getElem?_eq_getElem hk]
  exact List.getElem_mem hk
theorem mem_get {α:Type} {l:List α} {z e:α} {k:Nat} (hk:k<l.length) (h:l.getD k z=e):e∈l:=h ▸ Vc hk
theorem Xf5 {α:Type} {l:List α} {z e:α} {k:Nat} (hk:l.length≤k) (h:∀ j,j<k→¬l.getD j z=e):¬e∈l:=fun hm=>by
  obtain ⟨j,hj,rfl⟩:=List.getElem_of_mem hm
  refine h j (by omega) ?_
  rw [List.getD_eq_getElem?_getD,List.getElem?_eq_getElem hj];rfl
theorem X5k {α:Type} {p:α→Prop} {l:List α} {z:α} (h:∀ x,x∈l→p x) (hz:p z) (k:Nat):p (l.getD k z):=by
  rcases Nat.lt_or_ge k l.length with hk|hk
  · exact h _ (Vc hk)
  · rw [List.getD_eq_getElem?_getD,List.getElem?_eq_none hk];exact hz
theorem X9u {α β:Type} {f:β→α→β} {b:β} {z:α} {l:List α} {k:Nat} (hk:k<l.length):(l.take (k+1)).foldl f b=f ((l.take k).foldl f b) (l.getD k z):=by
  rw [Uf (z:=z) hk,List.foldl_append];rfl
def Jj {α:Type} (sz:α→Nat) (n m:Nat) (l:List α):Prop:=l.length≤n∧∀ x,x∈l→sz x≤m
instance {α:Type} (sz:α→Nat) (n m:Nat) (l:List α):Decidable (Jj sz n m l):=inferInstanceAs (Decidable (_∧∀ x,x∈l→sz x≤m))
section
variable {α:Type} {sz:α→Nat} {n m:Nat} {l:List α} {z:α} {k:Nat}
theorem Jw (hf:Jj sz n m l) (hz:sz z≤m) (k:Nat):sz (l.getD k z)≤m:=X5k hf.2 hz k
theorem mem_set {x y:α} (h:x∈l.set k y):x∈l∨x=y:=List.mem_or_eq_of_mem_set h
theorem fewG_set {y:α} (hf:Jj sz n m l) (hy:sz y≤m):Jj sz n m (l.set k y):=⟨by rw [List.length_set];exact hf.1,fun x hx=>by
  rcases mem_set hx with h|h
  · exact hf.2 x h
  · rw [h];exact hy⟩
end
end Go.Proofs.YtnaopgohccacmaaGreat.Q
namespace Go.Proofs.YtnaopgohccacmaaGreat.Q
set_option linter.unusedVariables false
set_option linter.unusedSimpArgs false
def Wh (n:Nat):Nat→List UInt8
  | 0=>[]
  | j+1=>UInt8.ofNat (n / 2 ^ (8*j))::Wh n j
theorem X2p (n:Nat):∀ m,(Wh n m).length=m
  | 0=>rfl
  | m+1=>by rw [Wh,List.length_cons,X2p n m]
theorem X8g {n j m:Nat} {acc b:List UInt8} (he:acc++Wh n j=b++Wh n m) (hj:0<j):(acc++[UInt8.ofNat (n / 2 ^ (8*(j-1)))])++Wh n (j-1)=b++Wh n m:=by
  obtain ⟨i,rfl⟩:∃ i,j=i+1:=⟨j-1,by omega⟩
  rw [← he,List.append_assoc]
  rfl
theorem Xe6 {n j m:Nat} {acc b:List UInt8} (he:acc++Wh n j=b++Wh n m) (hj:0<j):(acc++[UInt8.ofNat (n / 2 ^ (8*(((j:Nat):Int)-1)).toNat)])++Wh n (j-1)=b++Wh n m:=by
  rw [show (8*(((j:Nat):Int)-1)).toNat=8*(j-1) by omega]
  exact X8g he hj
theorem Xkb {n j m:Nat} {acc b:List UInt8} (he:acc++Wh n j=b++Wh n m) (hj:j=0):acc=b++Wh n m:=by
  subst hj
  rw [← he,Wh,List.append_nil]
theorem X8h {n j m:Nat} {acc b:List UInt8} (he:acc++Wh n j=b++Wh n m):acc.length+j=b.length+m:=by
  have:=congrArg List.length he
  simpa [X2p] using this
def V1 (l:List UInt8):Nat:=l.foldl (fun n b=>n*2 ^ 8 ||| b.toNat) 0
theorem Xj1 (n:Nat) (b:UInt8):n*2 ^ 8 ||| b.toNat=n*256+b.toNat:=by
  have h:=UInt8.toNat_lt b
  rw [← Nat.shiftLeft_eq,← Nat.shiftLeft_add_eq_or_of_lt (i:=8) (by omega),Nat.shiftLeft_eq]
theorem numL_nil:V1 []=0:=rfl
theorem Xkz (l:List UInt8) (b:UInt8):V1 (l++[b])=V1 l*256+b.toNat:=by
  unfold V1
  rw [List.foldl_append]
  exact Xj1 _ _
theorem Xf4:∀ (l:List UInt8) (a m:Nat),a<256 ^ m→l.foldl (fun n b=>n*2 ^ 8 ||| b.toNat) a<256 ^ (m+l.length)
  | [],a,m,h=>h
  | b::l,a,m,h=>by
    rw [List.foldl_cons,Xj1,List.length_cons,show m+(l.length+1)=(m+1)+l.length by omega]
    refine Xf4 l _ (m+1) ?_
    rw [Nat.pow_succ]
    have:=UInt8.toNat_lt b
    omega
theorem Xcz (l:List UInt8):V1 l<256 ^ l.length:=by
  have:=Xf4 l 0 0 (by decide)
  rwa [Nat.zero_add] at this
theorem X1u {l:List UInt8} (h:l.length≤8):V1 l<18446744073709551616:=Nat.lt_of_lt_of_le (Xcz l) p3q
theorem Xf3 {l:List UInt8} (h:l.length≤7):V1 l<72057594037927936:=Nat.lt_of_lt_of_le (Xcz l) p3q
theorem X4w {l:List UInt8} (h:l.length≤4):V1 l<4294967296:=Nat.lt_of_lt_of_le (Xcz l) p3q
theorem Xbl {l:List UInt8} {k:Nat} (hk:k<l.length):V1 (l.take (k+1))=V1 (l.take k)*2 ^ 8 ||| (l.getD k 0).toNat:=by
  rw [Uf (z:=0) hk]
  unfold V1
  rw [List.foldl_append]
  rfl
theorem X9i (n:Nat):∀ (m:Nat) (l:List UInt8),V1 (l++Wh n m)=V1 l*256 ^ m+n % 256 ^ m
  | 0,l=>by simp [Wh,Nat.mod_one]
  | m+1,l=>by
    rw [Wh,show l++UInt8.ofNat (n / 2 ^ (8*m))::Wh n m=(l++[UInt8.ofNat (n / 2 ^ (8*m))])++Wh n m by simp,X9i n m,Xkz]
    have h1:(UInt8.ofNat (n / 2 ^ (8*m))).toNat=n / 256 ^ m % 256:=by
      rw [UInt8.toNat_ofNat',Nat.pow_mul]
    rw [h1,Nat.pow_succ,Nat.mod_mul,Nat.add_mul,Nat.mul_assoc,Nat.mul_comm (256 ^ m) (n / 256 ^ m % 256),Nat.mul_comm 256 (256 ^ m)]
    omega
theorem X2s {n m:Nat} (h:n<256 ^ m):V1 (Wh n m)=n:=by
  have:=X9i n m []
  rw [List.nil_append,numL_nil,Nat.zero_mul,Nat.zero_add,Nat.mod_eq_of_lt h] at this
  exact this
def Fe (n:Int):Nat:=(min (max n 0) 4294967295).toNat
theorem X5b (n:Int):Fe n<4294967296:=by unfold Fe;omega
theorem X5a {n:Nat} (h:n≤4294967295):Fe ((n:Nat):Int)=n:=by unfold Fe;omega
def Yp (n:Int):List UInt8:=Wh (u64 n) 8
def V3 (n:Int):List UInt8:=Wh (Fe n) 4
def Yo (x:List UInt8):List UInt8:=V3 ((x.length:Nat):Int)++x
theorem Wd (n:Int):(Yp n).length=8:=X2p _ _
theorem U9 (n:Int):(V3 n).length=4:=X2p _ _
theorem V7 (x:List UInt8):(Yo x).length=x.length+4:=by rw [Yo,List.length_append,U9];omega
end Go.Proofs.YtnaopgohccacmaaGreat.Q
namespace Go.Proofs.YtnaopgohccacmaaGreat.Q
set_option linter.unusedVariables false
set_option linter.unusedSimpArgs false
def okT (rest:List UInt8) (e n m:Int):Prop:=e=0∧n≤((rest.length:Nat):Int)∧m=0
instance (rest:List UInt8) (e n m:Int):Decidable (okT rest e n m):=inferInstanceAs (Decidable (_∧_∧_))
def rdR (rest:List UInt8) (e n m:Int):List UInt8:=if okT rest e n m then rest.drop n.toNat else rest
def rdE (rest:List UInt8) (e n m:Int):Int:=if e≠0 then e else if n>((rest.length:Nat):Int) then 10 else m
theorem X3x {rest:List UInt8} {e n m:Int} (h:okT rest e n m):rdE rest e n m=0:=by
  obtain ⟨h1,h2,h3⟩:=h
  unfold rdE
  rw [if_neg (by omega),if_neg (by omega),h3]
theorem Xhe {rest:List UInt8} {e n m:Int} (h:¬okT rest e n m):rdE rest e n m≠0:=by
  unfold rdE
  split
  · assumption
  · split
    · decide
    · exact fun hm=>h ⟨by omega,by omega,hm⟩
theorem X3w {rest:List UInt8} {e n m:Int} (h:okT rest e n m):rdR rest e n m=rest.drop n.toNat:=if_pos h
theorem Xhd {rest:List UInt8} {e n m:Int} (h:¬okT rest e n m):rdR rest e n m=rest:=if_neg h
def Yq (most:Int) (b:List UInt8):Int:=if ((V1 b:Nat):Int)>max most 0 then 11 else 0
def rdI (rest:List UInt8) (e:Int):Int:=if okT rest e 8 0 then X0x (V1 (rest.take 8)) else 0
def rdC (rest:List UInt8) (e most:Int):Nat:=if okT rest e 4 (Yq most (rest.take 4)) then V1 (rest.take 4) else 0
def okY (rest:List UInt8) (e most:Int):Prop:=okT rest e 4 (Yq most (rest.take 4))∧V1 (rest.take 4)≤(rest.drop 4).length
instance (rest:List UInt8) (e most:Int):Decidable (okY rest e most):=inferInstanceAs (Decidable (_∧_))
def rdY (rest:List UInt8) (e most:Int):List UInt8:=if okY rest e most then (rest.drop 4).take (V1 (rest.take 4)) else []
def U4 (rest:List UInt8) (e most:Int):List UInt8:=if okY rest e most then (rest.drop 4).drop (V1 (rest.take 4)) else rest
def Va (rest:List UInt8) (e most:Int):Int:=if okT rest e 4 (Yq most (rest.take 4)) then (if V1 (rest.take 4)≤(rest.drop 4).length then 0 else 10) else rdE rest e 4 (Yq most (rest.take 4))
def rdX (rest:List UInt8) (e:Int):Int:=if e=0∧((rest.length:Nat):Int)>0 then 13 else e
theorem X3y {rest:List UInt8} {e most:Int} (h:okT rest e 4 (Yq most (rest.take 4))):rdC rest e most=V1 (rest.take 4):=if_pos h
theorem rdC_lt (rest:List UInt8) (e most:Int):rdC rest e most<4294967296:=by
  unfold rdC;split
  · exact X4w p48
  · decide
theorem Uh (rest:List UInt8) (e n m:Int):(rdR rest e n m).length≤rest.length:=by unfold rdR;split<;>simp
section
variable {rest:List UInt8} {e most:Int}
theorem X9g {n m:Int} (h:rdE rest e n m=0):okT rest e n m:=Classical.byContradiction fun hn=>Xhe hn h
theorem rdY_fail (h:rdE rest e 4 (Yq most (rest.take 4))≠0):rdY rest e most=[]∧U4 rest e most=rest∧Va rest e most=rdE rest e 4 (Yq most (rest.take 4))∧rdR rest e 4 (Yq most (rest.take 4))=rest:=by
  have h1:¬okT rest e 4 (Yq most (rest.take 4)):=fun hk=>h (X3x hk)
  exact ⟨if_neg fun h2=>h1 h2.1,if_neg fun h2=>h1 h2.1,if_neg h1,Xhd h1⟩
theorem X96 (h:rdE rest e 4 (Yq most (rest.take 4))=0):okT (rdR rest e 4 (Yq most (rest.take 4))) (rdE rest e 4 (Yq most (rest.take 4))) ((rdC rest e most:Nat):Int) 0↔okY rest e most:=by
  have h1:=X9g h
  rw [X3w h1,X3y h1,h]
  show okT (rest.drop 4) 0 _ 0↔_
  unfold okT okY
  constructor
  · exact fun h2=>⟨h1,by have:=h2.2.1;omega⟩
  · exact fun h2=>⟨rfl,by have:=h2.2;omega,rfl⟩
theorem rdY_ok (h:rdE rest e 4 (Yq most (rest.take 4))=0) (h2:okT (rdR rest e 4 (Yq most (rest.take 4))) (rdE rest e 4 (Yq most (rest.take 4))) ((rdC rest e most:Nat):Int) 0) :
    rdY rest e most=(rdR rest e 4 (Yq most (rest.take 4))).take (((rdC rest e most:Nat):Int)).toNat∧U4 rest e most=(rdR rest e 4 (Yq most (rest.take 4))).drop (((rdC rest e most:Nat):Int)).toNat∧Va rest e most=0:=by
  have h1:=X9g h
  have h3:=(X96 h).1 h2
  rw [X3w h1,X3y h1]
  refine ⟨(if_pos h3).trans rfl,(if_pos h3).trans rfl,?_⟩
  unfold Va
  rw [if_pos h1,if_pos h3.2]
theorem Xkl (h:rdE rest e 4 (Yq most (rest.take 4))=0) (h2:¬okT (rdR rest e 4 (Yq most (rest.take 4))) (rdE rest e 4 (Yq most (rest.take 4))) ((rdC rest e most:Nat):Int) 0) :
    rdY rest e most=[]∧U4 rest e most=rest∧Va rest e most=rdE (rdR rest e 4 (Yq most (rest.take 4))) (rdE rest e 4 (Yq most (rest.take 4))) ((rdC rest e most:Nat):Int) 0:=by
  have h1:=X9g h
  have h3:¬okY rest e most:=fun h4=>h2 ((X96 h).2 h4)
  refine ⟨if_neg h3,if_neg h3,?_⟩
  unfold Va
  have h4:¬V1 (rest.take 4)≤(rest.drop 4).length:=fun h5=>h3 ⟨h1,h5⟩
  rw [if_pos h1,if_neg h4,h,X3w h1,X3y h1]
  show (10:Int)=rdE (rest.drop 4) 0 _ 0
  unfold rdE
  rw [if_neg (by decide),if_pos (by omega)]
end
theorem X0i (rest:List UInt8) (e most:Int):(rdY rest e most).length≤rest.length:=by unfold rdY;split<;>simp<;>omega
theorem X1m (rest:List UInt8) (e most:Int):(U4 rest e most).length≤rest.length:=by unfold U4;split<;>simp<;>omega
theorem Xb5 {a b m:Nat} (ha:a<256 ^ m) (hb:b<256 ^ m):Wh a m=Wh b m↔a=b :=
  ⟨fun h=>by rw [← X2s ha,← X2s hb,h],fun h=>by rw [h]⟩
theorem cntB_inj {a b:Int}:V3 a=V3 b↔Fe a=Fe b:=Xb5 (Nat.lt_of_lt_of_le (X5b a) (by decide)) (Nat.lt_of_lt_of_le (X5b b) (by decide))
theorem Xi8 {x y p q:List UInt8} (hx:x.length≤4294967295) (hy:y.length≤4294967295) (h:Yo x++p=Yo y++q):x=y∧p=q:=by
  unfold Yo at h
  rw [List.append_assoc,List.append_assoc] at h
  obtain ⟨h1,h2⟩:=List.append_inj h (by rw [U9,U9])
  rw [cntB_inj,X5a hx,X5a hy] at h1
  exact List.append_inj h2 h1
theorem Xcx {p r:List UInt8} {n:Nat} (h:p.length=n):okT (p++r) 0 ((n:Nat):Int) 0:=⟨rfl,by simp;omega,rfl⟩
theorem X8b {p r:List UInt8} {n:Nat} (h:p.length=n):(p++r).take n=p:=by rw [List.take_append_of_le_length (by omega),List.take_of_length_le (by omega)]
theorem X58 {p r:List UInt8} {n:Nat} (h:p.length=n):(p++r).drop n=r:=by rw [List.drop_append_of_le_length (by omega),List.drop_of_length_le (by omega),List.nil_append]
theorem Xfc {most:Int} (n:Int) (r:List UInt8) (hm:((Fe n:Nat):Int)≤most):Yq most ((V3 n++r).take 4)=0∧V1 ((V3 n++r).take 4)=Fe n:=by
  have h1:V1 ((V3 n++r).take 4)=Fe n:=by rw [X8b (U9 n),V3,X2s (Nat.lt_of_lt_of_le (X5b n) (by decide))]
  refine ⟨?_,h1⟩
  unfold Yq
  rw [h1,if_neg (by omega)]
theorem X0c {most:Int} (n:Int) (r:List UInt8) (hm:((Fe n:Nat):Int)≤most):rdC (V3 n++r) 0 most=Fe n∧rdR (V3 n++r) 0 4 (Yq most ((V3 n++r).take 4))=r∧rdE (V3 n++r) 0 4 (Yq most ((V3 n++r).take 4))=0:=by
  obtain ⟨h0,h1⟩:=Xfc n r hm
  have hk:okT (V3 n++r) 0 4 (Yq most ((V3 n++r).take 4)):=by rw [h0];exact Xcx (U9 n)
  refine ⟨by rw [X3y hk,h1],?_,X3x hk⟩
  rw [X3w hk];exact X58 (U9 n)
theorem Hb {most:Int} {x:List UInt8} (hx:x.length≤4294967295) (r:List UInt8) (hm:((x.length:Nat):Int)≤most):rdY (Yo x++r) 0 most=x∧U4 (Yo x++r) 0 most=r∧Va (Yo x++r) 0 most=0:=by
  have e:Yo x++r=V3 ((x.length:Nat):Int)++(x++r):=by rw [Yo,List.append_assoc]
  rw [e]
  obtain ⟨h0,h1⟩:=Xfc (most:=most) ((x.length:Nat):Int) (x++r) (by rw [X5a hx];exact hm)
  rw [X5a hx] at h1
  have hk:okT (V3 ((x.length:Nat):Int)++(x++r)) 0 4 (Yq most ((V3 ((x.length:Nat):Int)++(x++r)).take 4)):=by rw [h0];exact Xcx (U9 _)
  have hd:(V3 ((x.length:Nat):Int)++(x++r)).drop 4=x++r:=X58 (U9 _)
  have hle:V1 ((V3 ((x.length:Nat):Int)++(x++r)).take 4)≤((V3 ((x.length:Nat):Int)++(x++r)).drop 4).length:=by rw [h1,hd];simp
  have hy:okY (V3 ((x.length:Nat):Int)++(x++r)) 0 most:=⟨hk,hle⟩
  refine ⟨?_,?_,?_⟩
  · rw [rdY,if_pos hy,h1,hd];exact X8b rfl
  · rw [U4,if_pos hy,h1,hd];exact X58 rfl
  · rw [Va,if_pos hk,if_pos hle]
end Go.Proofs.YtnaopgohccacmaaGreat.Q
namespace Go.Proofs.YtnaopgohccacmaaGreat.Q
set_option linter.unusedVariables false
set_option linter.unusedSimpArgs false
def rfN (B:List UInt8) (a m:Nat):Nat:=if a+m≤B.length then V1 ((B.drop a).take m) else 0
def rfA (B:List UInt8) (a:Nat) (e n m:Int):Nat:=if okT (B.drop a) e n m then a+n.toNat else a
section
variable {B:List UInt8} {a:Nat} {e n m:Int}
theorem Xcg {m:Nat} (h:a+m≤B.length):rfN B a m=V1 ((B.drop a).take m):=if_pos h
theorem rfN_lt (B:List UInt8) (a:Nat) {m:Nat} (hm:m≤8):rfN B a m<18446744073709551616:=by
  unfold rfN;split
  · exact X1u (Nat.le_trans (List.length_take_le _ _) hm)
  · decide
theorem rfN_lt4 (B:List UInt8) (a:Nat):rfN B a 4<4294967296:=by
  unfold rfN;split
  · exact X4w (List.length_take_le _ _)
  · decide
theorem Xhl {k:Nat} (hk:a+k<B.length):V1 ((B.drop a).take (k+1))=V1 ((B.drop a).take k)*2 ^ 8 ||| (B.getD (a+k) 0).toNat:=by
  rw [Xbl p48]
  congr 2
  simp [List.getD_eq_getElem?_getD]
theorem X8s (h:okT (B.drop a) e n m):rfA B a e n m=a+n.toNat:=if_pos h
theorem rfA_no (h:¬okT (B.drop a) e n m):rfA B a e n m=a:=if_neg h
theorem rfA_le (ha:a≤B.length):rfA B a e n m≤B.length:=by
  unfold rfA;split
  · rename_i h
    have:=h.2.1
    rw [List.length_drop] at this
    omega
  · exact ha
theorem rf_e (h:e≠0) (n m:Int):¬okT (B.drop a) e n m∧rdE (B.drop a) e n m=e:=⟨fun h1=>h h1.1,if_pos h⟩
theorem Xee {k:Nat} (hn:n=((k:Nat):Int)) (he:¬e≠0) (h:¬a+k≤B.length) (ha:a≤B.length) (m:Int):¬okT (B.drop a) e n m∧rdE (B.drop a) e n m=10:=by
  have hl:(B.drop a).length=B.length-a:=List.length_drop
  subst hn
  refine ⟨fun h1=>?_,?_⟩
  · have:=h1.2.1;omega
  · unfold rdE
    rw [if_neg he,if_pos (by omega)]
theorem rf_m {k:Nat} {c:Int} (hn:n=((k:Nat):Int)) (he:¬e≠0) (h:a+k≤B.length) {m:Int} (hm:m=c) (hc:c≠0):¬okT (B.drop a) e n m∧rdE (B.drop a) e n m=c:=by
  have hl:(B.drop a).length=B.length-a:=List.length_drop
  subst hn
  subst hm
  refine ⟨fun h1=>hc h1.2.2,?_⟩
  unfold rdE
  rw [if_neg he,if_neg (by omega)]
theorem rf_ok {k:Nat} (hn:n=((k:Nat):Int)) (he:¬e≠0) (h:a+k≤B.length) {m:Int} (hm:m=0):okT (B.drop a) e n m∧rdE (B.drop a) e n m=0:=by
  have hl:(B.drop a).length=B.length-a:=List.length_drop
  subst hn
  have hk:okT (B.drop a) e ((k:Nat):Int) m:=⟨Classical.not_not.1 he,by omega,hm⟩
  exact ⟨hk,X3x hk⟩
theorem lim_of {most:Int} (h:a+4≤B.length):Yq most ((B.drop a).take 4)=if ((rfN B a 4:Nat):Int)>max 0 most then 11 else 0:=by
  unfold Yq
  rw [Xcg h,Int.max_comm]
end
def Ht (B:List UInt8) (a:Nat) (e most:Int):Nat:=if okY (B.drop a) e most then a+4+V1 ((B.drop a).take 4) else a
section
variable {B:List UInt8} {a:Nat} {e most:Int}
theorem Xbg (B:List UInt8) (a:Nat) (e most:Int):B.drop (Ht B a e most)=U4 (B.drop a) e most:=by
  unfold Ht U4
  split
  · rw [List.drop_drop,List.drop_drop,Nat.add_assoc]
  · rfl
theorem rfA_drop (B:List UInt8) (a:Nat) (e n m:Int):B.drop (rfA B a e n m)=rdR (B.drop a) e n m:=by
  unfold rfA rdR
  split
  · rw [List.drop_drop]
  · rfl
theorem Xit (ha:a≤B.length):Ht B a e most≤B.length:=by
  unfold Ht;split
  · rename_i h
    have h1:=h.1.2.1
    have h2:=h.2
    simp only [List.length_drop] at h1 h2
    omega
  · exact ha
theorem rfY_fail (h:rdE (B.drop a) e 4 (Yq most ((B.drop a).take 4))≠0):rdY (B.drop a) e most=[]∧Ht B a e most=a∧Va (B.drop a) e most=rdE (B.drop a) e 4 (Yq most ((B.drop a).take 4))∧rfA B a e 4 (Yq most ((B.drop a).take 4))=a:=by
  have h1:¬okT (B.drop a) e 4 (Yq most ((B.drop a).take 4)):=fun hk=>h (X3x hk)
  exact ⟨if_neg fun h2=>h1 h2.1,if_neg fun h2=>h1 h2.1,if_neg h1,rfA_no h1⟩
theorem Xkh (h:rdE (B.drop a) e 4 (Yq most ((B.drop a).take 4))=0) (h2:((rdC (B.drop a) e most:Nat):Int)>((B.length:Nat):Int)-((rfA B a e 4 (Yq most ((B.drop a).take 4)):Nat):Int)) (ha:a≤B.length) :
    rdY (B.drop a) e most=[]∧Ht B a e most=a∧Va (B.drop a) e most=10:=by
  have h1:=X9g h
  have h4:a+4≤B.length:=by have:=h1.2.1;rw [List.length_drop] at this;omega
  rw [X3y h1,X8s h1] at h2
  have h3:¬V1 ((B.drop a).take 4)≤((B.drop a).drop 4).length:=by simp only [List.length_drop];omega
  refine ⟨if_neg fun hy=>h3 hy.2,if_neg fun hy=>h3 hy.2,?_⟩
  unfold Va
  rw [if_pos h1,if_neg h3]
theorem rfY_ok (h:rdE (B.drop a) e 4 (Yq most ((B.drop a).take 4))=0) (h2:¬((rdC (B.drop a) e most:Nat):Int)>((B.length:Nat):Int)-((rfA B a e 4 (Yq most ((B.drop a).take 4)):Nat):Int)) (ha:a≤B.length) :
    rfA B a e 4 (Yq most ((B.drop a).take 4))=a+4∧rdC (B.drop a) e most=V1 ((B.drop a).take 4)∧a+4+V1 ((B.drop a).take 4)≤B.length∧rdY (B.drop a) e most=(B.take (a+4+V1 ((B.drop a).take 4))).drop (a+4)∧Ht B a e most=a+4+V1 ((B.drop a).take 4)∧Va (B.drop a) e most=0:=by
  have h1:=X9g h
  have h4:a+4≤B.length:=by have:=h1.2.1;rw [List.length_drop] at this;omega
  rw [X3y h1,X8s h1] at h2
  have h3:V1 ((B.drop a).take 4)≤((B.drop a).drop 4).length:=by simp only [List.length_drop];omega
  have hy:okY (B.drop a) e most:=⟨h1,h3⟩
  refine ⟨X8s h1,X3y h1,by simp only [List.length_drop] at h3;omega,?_,if_pos hy,?_⟩
  · rw [rdY,if_pos hy,List.drop_drop,List.drop_take,show a+4+V1 ((B.drop a).take 4)-(a+4)=V1 ((B.drop a).take 4) by omega]
  · unfold Va
    rw [if_pos h1,if_pos h3]
end
end Go.Proofs.YtnaopgohccacmaaGreat.Q
namespace Go.Proofs.YtnaopgohccacmaaGreat.Q
set_option linter.unusedVariables false
set_option linter.unusedSimpArgs false
def szP (l:List (List UInt8)):Nat:=l.foldl (fun n p=>n+(4+p.length)) 5
theorem Xgu (l:List (List UInt8)):∀ n,n≤l.foldl (fun n p=>n+(4+p.length)) n:=by
  induction l with
  | nil=>exact fun n=>Nat.le_refl _
  | cons p r ih=>exact fun n=>Nat.le_trans (show n≤n+(4+p.length) by omega) (ih _)
theorem X00 (l:List (List UInt8)) (k:Nat):szP (l.take k)≤szP l:=by
  have h:szP l=(l.drop k).foldl (fun n p=>n+(4+p.length)) (szP (l.take k)):=by
    unfold szP
    rw [← List.foldl_append,List.take_append_drop]
  rw [h]
  exact Xgu _ _
theorem X4c {l:List (List UInt8)} {k:Nat} (hk:k<l.length):szP (l.take (k+1))=szP (l.take k)+(4+(l.getD k []).length):=X9u hk
theorem szP_len (l:List (List UInt8)):∀ n,n+4*l.length≤l.foldl (fun n p=>n+(4+p.length)) n:=by
  induction l with
  | nil=>exact fun n=>by simp
  | cons p r ih=>exact fun n=>by have:=ih (n+(4+p.length));simp only [List.foldl_cons,List.length_cons];omega
theorem X2n (l:List (List UInt8)):l.length≤szP l:=by have:=szP_len l 5;unfold szP;omega
def F1 (l:List (List UInt8)):List UInt8:=l.flatMap Yo
def ofR (t:UInt8) (n:Nat) (l:List (List UInt8)):List UInt8:=[t]++V3 ((n:Nat):Int)++F1 l
def ofB (t:UInt8) (l:List (List UInt8)):List UInt8:=ofR t l.length l
theorem Xcy (t:UInt8) (n:Nat) (l:List (List UInt8)):(ofR t n l).length=szP l:=by
  have h:∀ (l:List (List UInt8)) (n:Nat),l.foldl (fun n p=>n+(4+p.length)) n=n+(F1 l).length:=by
    intro l
    induction l with
    | nil=>intro n;simp [F1]
    | cons p r ih =>
      intro n
      have e:F1 (p::r)=Yo p++F1 r:=rfl
      rw [List.foldl_cons,ih,e,List.length_append,V7]
      omega
  unfold szP
  rw [h,ofR,List.length_append,List.length_append,U9]
  simp
theorem Ei (t:UInt8) (l:List (List UInt8)):(ofB t l).length=szP l:=Xcy _ _ _
theorem X4t {t:UInt8} {n k:Nat} {l:List (List UInt8)} (hk:k<l.length):ofR t n (l.take (k+1))=ofR t n (l.take k)++Yo (l.getD k []):=by
  rw [Uf (z:=[]) hk]
  simp [ofR,F1,List.flatMap_append]
theorem Xj5 (t:UInt8) (l:List (List UInt8)):ofR t l.length (l.take l.length)=ofB t l:=by rw [List.take_length];rfl
structure OpS where
  rest:List UInt8
  e:Int
  ps:List (List UInt8)
def stepO (most:Int) (s:OpS):OpS:=⟨U4 s.rest s.e most,Va s.rest s.e most,s.ps++[rdY s.rest s.e most]⟩
def Xgw (d:List UInt8):OpS:=⟨rdR (d.drop 1) 0 4 (Yq ((d.length:Nat):Int) ((d.drop 1).take 4)),rdE (d.drop 1) 0 4 (Yq ((d.length:Nat):Int) ((d.drop 1).take 4)),[]⟩
def cntO (d:List UInt8):Nat:=rdC (d.drop 1) 0 ((d.length:Nat):Int)
def runO (d:List UInt8):Nat→OpS
  | 0=>Xgw d
  | k+1=>stepO ((d.length:Nat):Int) (runO d k)
def finO (d:List UInt8):OpS:=runO d (cntO d)
def okO (d:List UInt8):Prop:=d≠[]∧rdX (finO d).rest (finO d).e=0
instance (d:List UInt8):Decidable (okO d):=inferInstanceAs (Decidable (_∧_))
def opT (d:List UInt8):UInt8:=if okO d then d.getD 0 0 else 0
def opP (d:List UInt8):List (List UInt8):=if okO d then (finO d).ps else []
end Go.Proofs.YtnaopgohccacmaaGreat.Q
namespace Go.Proofs.YtnaopgohccacmaaGreat.Q
set_option linter.unusedVariables false
set_option linter.unusedSimpArgs false
def szL (x:List UInt8):Nat:=x.length
theorem szP_mem {l:List (List UInt8)} {x:List UInt8} (h:x∈l):x.length≤szP l:=by
  have key:∀ (l:List (List UInt8)) (n:Nat),x∈l→x.length≤l.foldl (fun n p=>n+(4+p.length)) n:=by
    intro l
    induction l with
    | nil=>intro n h;cases h
    | cons p r ih =>
      intro n h
      cases h with
      | head=>exact Nat.le_trans (show x.length≤n+(4+x.length) by omega) (Xgu r _)
      | tail _ h=>exact ih _ h
  exact key l 5 h
theorem run_of {t:UInt8} {l:List (List UInt8)} (hl:szP l≤4294967295):cntO (ofB t l)=l.length∧∀ k,k≤l.length→runO (ofB t l) k=⟨F1 (l.drop k),0,l.take k⟩:=by
  have hlen:=Ei t l
  have hcnt:=X2n l
  have hd:(ofB t l).drop 1=V3 ((l.length:Nat):Int)++F1 l:=rfl
  have hc:=X5a (n:=l.length) (by omega)
  obtain ⟨c1,c2,c3⟩:=X0c (most:=(((ofB t l).length:Nat):Int)) ((l.length:Nat):Int) (F1 l) (by rw [hc];omega)
  refine ⟨by rw [cntO,hd,c1,hc],fun k=>?_⟩
  induction k with
  | zero =>
    intro _
    show Xgw _=_
    unfold Xgw
    rw [hd,c2,c3]
    rfl
  | succ k ih =>
    intro hk
    have e:F1 (l.drop k)=Yo (l.getD k [])++F1 (l.drop (k+1)):=by
      unfold F1
      rw [List.drop_eq_getElem_cons (by omega),List.flatMap_cons,List.getD_eq_getElem?_getD,List.getElem?_eq_getElem (by omega)]
      rfl
    have hm:(l.getD k []).length≤szP l:=szP_mem (Vc (by omega))
    obtain ⟨b1,b2,b3⟩:=Hb (most:=(((ofB t l).length:Nat):Int)) (x:=l.getD k []) (by omega) (F1 (l.drop (k+1))) (by omega)
    show stepO _ (runO _ k)=_
    rw [ih (by omega)]
    unfold stepO
    rw [e,b1,b2,b3,Uf (z:=[]) (by omega)]
theorem Xj3 {t:UInt8} {l:List (List UInt8)} (hl:szP l≤4294967295):okO (ofB t l)∧opT (ofB t l)=t∧opP (ofB t l)=l:=by
  obtain ⟨h1,h2⟩:=run_of (t:=t) hl
  have hf:finO (ofB t l)=⟨[],0,l⟩:=by
    unfold finO
    rw [h1,h2 _ (Nat.le_refl _),List.drop_length,List.take_length]
    rfl
  have hok:okO (ofB t l):=⟨by intro h;have:=Ei t l;rw [h] at this;have:=X2n l;simp [szP] at *;have:=Xgu l 5;omega,by rw [hf];rfl⟩
  refine ⟨hok,(if_pos hok).trans rfl,(if_pos hok).trans (by rw [hf])⟩
theorem X4u {s t:UInt8} {l m:List (List UInt8)} (hl:szP l≤4294967295) (hm:szP m≤4294967295):ofB s l=ofB t m↔s=t∧l=m:=by
  constructor
  · intro h
    obtain ⟨_,a1,a2⟩:=Xj3 (t:=s) hl
    obtain ⟨_,b1,b2⟩:=Xj3 (t:=t) hm
    rw [h] at a1 a2
    exact ⟨a1.symm.trans b1,a2.symm.trans b2⟩
  · rintro ⟨rfl,rfl⟩;rfl
theorem X9n (s:UInt8) (a:List UInt8):(ofB s [a]).length=9+a.length:=by rw [Ei];show 5+(4+a.length)=_;omega
theorem Xer (s:UInt8) (a b:List UInt8):(ofB s [a,b]).length=13+a.length+b.length:=by rw [Ei];show 5+(4+a.length)+(4+b.length)=_;omega
theorem leaf_inj {s t:UInt8} {a b:List UInt8} (ha:a.length≤1000000) (hb:b.length≤1000000):ofB s [a]=ofB t [b]↔s=t∧a=b:=by
  rw [X4u (by show 5+(4+a.length)≤_;omega) (by show 5+(4+b.length)≤_;omega)]
  simp
theorem Xes {s t:UInt8} {a b c d:List UInt8} (h1:a.length≤1000000000) (h2:b.length≤1000000000) (h3:c.length≤1000000000) (h4:d.length≤1000000000):ofB s [a,b]=ofB t [c,d]↔s=t∧a=c∧b=d:=by
  rw [X4u (by show 5+(4+a.length)+(4+b.length)≤_;omega) (by show 5+(4+c.length)+(4+d.length)≤_;omega)]
  simp
end Go.Proofs.YtnaopgohccacmaaGreat.Q
namespace Go.Proofs.YtnaopgohccacmaaGreat.Q
set_option linter.unusedVariables false
set_option linter.unusedSimpArgs false
set_option maxRecDepth 100000
abbrev Lv:=List (List UInt8)
theorem Xcb {a b:Int} (hb:0<b):-b<a.tmod b∧a.tmod b<b:=by
  have h1:=Int.tmod_lt_of_pos a hb
  refine ⟨?_,h1⟩
  have h2:=Int.tmod_lt_of_pos (-a) hb
  rw [Int.neg_tmod] at h2
  omega
theorem Xl6 {α:Type} {sz:α→Nat} {n m m':Nat} {l:List α} (h:Jj sz n m l) (hm:m≤m'):Jj sz n m' l:=⟨h.1,fun x hx=>Nat.le_trans (h.2 x hx) hm⟩
def X1y (x:Nat):Nat:=if x=0 then 0 else Nat.log2 x+1
theorem X9m {x:Nat} (h:0<x):X1y x=Nat.log2 x+1:=if_neg (by omega)
theorem log2_div {x s:Nat} (h:2 ^ s≤x):Nat.log2 x=s+Nat.log2 (x / 2 ^ s):=by
  have hp:0<2 ^ s:=Nat.pow_pos (by decide)
  have hq:x / 2 ^ s≠0:=by have:=Nat.div_pos h hp;omega
  have hx:x≠0:=by omega
  rw [Nat.log2_eq_iff hx]
  have h1:=Nat.log2_self_le hq
  have h2:=@Nat.lt_log2_self (x / 2 ^ s)
  rw [Nat.pow_add,Nat.add_assoc,Nat.pow_add]
  have h3:=Nat.div_add_mod x (2 ^ s)
  have h4:=Nat.mod_lt x hp
  constructor
  · exact Nat.le_trans (Nat.mul_le_mul_left _ h1) (by omega)
  · have h5:2 ^ s*(x / 2 ^ s+1)≤2 ^ s*2 ^ (Nat.log2 (x / 2 ^ s)+1):=Nat.mul_le_mul_left _ h2
    rw [Nat.mul_add] at h5
    omega
theorem Fx {x s:Nat} (h:2 ^ s≤x):X1y x=s+X1y (x / 2 ^ s):=by
  have hp:0<2 ^ s:=Nat.pow_pos (by decide)
  have hq:=Nat.div_pos h hp
  rw [X9m (by omega),X9m hq,log2_div h]
  omega
def half (n:Nat):Nat:=2 ^ Nat.log2 (n-1)
theorem Jp {n:Nat} (h:2≤n):half n<n:=by
  have:=Nat.log2_self_le (n:=n-1) (by omega)
  unfold half
  omega
theorem J3 (n:Nat):0<half n:=Nat.pow_pos (by decide)
theorem half_ge {n:Nat} (h:2≤n):n≤2*half n:=by
  have:=@Nat.lt_log2_self (n-1)
  unfold half
  rw [Nat.pow_succ] at this
  omega
theorem half_of {n K:Nat} (hp:∃ j,K=2 ^ j) (h1:K<n) (h2:n≤2*K):half n=K:=by
  obtain ⟨j,rfl⟩:=hp
  unfold half
  have:Nat.log2 (n-1)=j:=by
    have hp:0<2 ^ j:=Nat.pow_pos (by decide)
    rw [Nat.log2_eq_iff (by omega),Nat.pow_succ]
    omega
  rw [this]
theorem Xfn {n:Nat} (h:2≤n):n-half n≤half n:=by have:=half_ge h;omega
theorem X25 {n f:Nat} (h:n≤2 ^ (f+1)) (h2:2≤n):half n≤2 ^ f:=by
  unfold half
  have h1:Nat.log2 (n-1)<f+1:=(Nat.log2_lt (by omega)).2 (by omega)
  exact Nat.pow_le_pow_right (by decide) (by omega)
theorem Ji {α:Type} {sz:α→Nat} {n m:Nat} {l:List α} (h:Jj sz n m l) (k:Nat):Jj sz n m (l.take k):=⟨by have:=h.1;rw [List.length_take];omega,fun x hx=>h.2 x (List.mem_of_mem_take hx)⟩
theorem Uy {α:Type} {sz:α→Nat} {n m:Nat} {l:List α} (h:Jj sz n m l) (k:Nat):Jj sz n m (l.drop k):=⟨by have:=h.1;rw [List.length_drop];omega,fun x hx=>h.2 x (List.mem_of_mem_drop hx)⟩
def Ed:Nat→Lv→List UInt8
  | 0,_=>ofB 4 []
  | f+1,l=>if l.length=0 then ofB 4 [] else if l.length=1 then ofB 2 [l.getD 0 []] else ofB 3 [Ed f (l.take (half l.length)),Ed f (l.drop (half l.length))]
def W2 (l:Lv):List UInt8:=Ed l.length l
theorem X1f:∀ (f g:Nat) (l:Lv),l.length≤f→l.length≤g→Ed f l=Ed g l
  | 0,0,_,_,_=>rfl
  | 0,g+1,l,h,_=>by rw [Ed,Ed,if_pos (by omega)]
  | f+1,0,l,_,h=>by rw [Ed,Ed,if_pos (by omega)]
  | f+1,g+1,l,h1,h2=>by
    rw [Ed,Ed]
    split
    · rfl
    · split
      · rfl
      · have hh:=Jp (n:=l.length) (by omega)
        have hp:=J3 l.length
        rw [X1f f g (l.take (half l.length)) p1d p1d,X1f f g (l.drop (half l.length)) p1z p1z]
theorem Xgz {l:Lv} (h:l.length=0):W2 l=ofB 4 []:=by unfold W2;rw [h,Ed]
theorem X8r {l:Lv} (h:l.length=1):W2 l=ofB 2 [l.getD 0 []]:=by unfold W2;rw [h,Ed,if_neg (by omega),if_pos h]
theorem X5s {l:Lv} (h:2≤l.length):W2 l=ofB 3 [W2 (l.take (half l.length)),W2 (l.drop (half l.length))]:=by
  have hh:=Jp h
  have hp:=J3 l.length
  obtain ⟨f,hf⟩:∃ f,l.length=f+1:=⟨l.length-1,by omega⟩
  unfold W2
  rw [X1f l.length (f+1) l (by omega) (by omega),Ed,if_neg (by omega),if_neg (by omega)]
  rw [X1f f _ (l.take (half l.length)) p1d (Nat.le_refl _),X1f f _ (l.drop (half l.length)) p1z (Nat.le_refl _)]
theorem root_len:∀ (N:Nat) (l:Lv),l.length=N→1≤l.length→(∀ x,x∈l→x.length≤600)→(W2 l).length+13≤635*l.length:=by
  intro N
  induction N using Nat.strongRecOn with
  | _ N ih =>
    intro l hN h1 hx
    rcases Nat.lt_or_ge l.length 2 with h2|h2
    · rw [X8r (by omega),X9n]
      have:=X5k (z:=[]) hx (by decide) 0
      omega
    · have hh:=Jp h2
      have hp:=J3 l.length
      have h1:=ih (l.take (half l.length)).length p1d _ rfl p1d (fun x h=>hx x (List.mem_of_mem_take h))
      have h3:=ih (l.drop (half l.length)).length p1z _ rfl p1z (fun x h=>hx x (List.mem_of_mem_drop h))
      rw [X5s h2,Xer]
      rw [List.length_take] at h1
      rw [List.length_drop] at h3
      omega
theorem Vo {l:Lv} (hf:Jj szL 40 600 l):(W2 l).length≤25400:=by
  by_cases h0:l.length=0
  · rw [Xgz h0];decide
  · have h1:=root_len _ l rfl (by omega) hf.2
    have:=hf.1
    omega
def Yk:List UInt8:=[0,1,2,2,3,3,3,3,4,4,4,4,4,4,4,4,5,5,5,5,5,5,5,5,5,5,5,5,5,5,5,5,6,6,6,6,6,6,6,6,6,6,6,6,6,6,6,6,6,6,6,6,6,6,6,6,6,6,6,6,6,6,6,6,7,7,7,7,7,7,7,7,7,7,7,7,7,7,7,7,7,7,7,7,7,7,7,7,7,7,7,7,7,7,7,7,7,7,7,7,7,7,7,7,7,7,7,7,7,7,7,7,7,7,7,7,7,7,7,7,7,7,7,7,7,7,7,7,8,8,8,8,8,8,8,8,8,8,8,8,8,8,8,8,8,8,8,8,8,8,8,8,8,8,8,8,8,8,8,8,8,8,8,8,8,8,8,8,8,8,8,8,8,8,8,8,8,8,8,8,8,8,8,8,8,8,8,8,8,8,8,8,8,8,8,8,8,8,8,8,8,8,8,8,8,8,8,8,8,8,8,8,8,8,8,8,8,8,8,8,8,8,8,8,8,8,8,8,8,8,8,8,8,8,8,8,8,8,8,8,8,8,8,8,8,8,8,8,8,8,8,8,8,8,8,8]
theorem len8_len:Yk.length=256:=rfl
theorem len8_all:∀ x,x<256→(Yk.getD x 0).toNat=X1y x:=by decide +kernel
theorem len8 {x:Nat} (h:x<256):(Yk.getD (UInt8.ofNat x).toNat 0).toNat=X1y x:=by
  have:(UInt8.ofNat x).toNat=x:=by rw [UInt8.toNat_ofNat'];omega
  rw [this]
  exact len8_all x h
theorem log_le {n:Nat} (h:n≤9223372036854775807) (h2:2≤n):Nat.log2 (n-1)≤62:=by
  have h1:Nat.log2 (n-1)<63:=(Nat.log2_lt (by omega)).2 (by have:(2:Nat) ^ 63=9223372036854775808:=(by decide);omega)
  omega
theorem shl_half {n:Nat} (h:n≤9223372036854775807) (h2:2≤n):IntKind.i64.wrap (1*2 ^ Nat.log2 (n-1))=((half n:Nat):Int):=by
  have h1:=Jp h2
  have h3:(1:Int)*2 ^ Nat.log2 (n-1)=((half n:Nat):Int):=by unfold half;simp
  rw [h3,IntKind.wrap_i64]
  omega
end Go.Proofs.YtnaopgohccacmaaGreat.Q
namespace Go.Proofs.YtnaopgohccacmaaGreat.Q
set_option linter.unusedVariables false
set_option linter.unusedSimpArgs false
set_option maxRecDepth 100000
abbrev Step:=Y1
abbrev zS:=Yt
def X02:Nat→Lv→Nat→List Step
  | 0,_,_=>[]
  | f+1,l,i=>if l.length<2 then [] else if i<half l.length then X02 f (l.take (half l.length)) i++[⟨false,W2 (l.drop (half l.length))⟩] else X02 f (l.drop (half l.length)) (i-half l.length)++[⟨true,W2 (l.take (half l.length))⟩]
def Wk (l:Lv) (i:Nat):List Step:=X02 l.length l i
theorem X1s:∀ (f g:Nat) (l:Lv) (i:Nat),l.length≤f→l.length≤g→X02 f l i=X02 g l i
  | 0,0,_,_,_,_=>rfl
  | 0,g+1,l,i,h,_=>by rw [X02,X02,if_pos (by omega)]
  | f+1,0,l,i,_,h=>by rw [X02,X02,if_pos (by omega)]
  | f+1,g+1,l,i,h1,h2=>by
    rw [X02,X02]
    split
    · rfl
    · have hh:=Jp (n:=l.length) (by omega)
      have hp:=J3 l.length
      rw [X1s f g (l.take (half l.length)) i p1d p1d,X1s f g (l.drop (half l.length)) _ p1z p1z]
theorem X1r {l:Lv} (h:l.length<2) (i:Nat):Wk l i=[]:=by
  unfold Wk
  cases hl:l.length with
  | zero=>rfl
  | succ f=>rw [X02,if_pos h]
theorem path_2 {l:Lv} (h:2≤l.length) (i:Nat):Wk l i=if i<half l.length then Wk (l.take (half l.length)) i++[⟨false,W2 (l.drop (half l.length))⟩] else Wk (l.drop (half l.length)) (i-half l.length)++[⟨true,W2 (l.take (half l.length))⟩]:=by
  have hh:=Jp h
  have hp:=J3 l.length
  obtain ⟨f,hf⟩:∃ f,l.length=f+1:=⟨l.length-1,by omega⟩
  unfold Wk
  rw [X1s l.length (f+1) l i (by omega) (by omega),X02,if_neg (by omega)]
  rw [X1s f _ (l.take (half l.length)) i p1d (Nat.le_refl _),X1s f _ (l.drop (half l.length)) _ p1z (Nat.le_refl _)]
theorem X1q {l:Lv} (h:2≤l.length) {i:Nat} (hi:i<half l.length):Wk l i=Wk (l.take (half l.length)) i++[⟨false,W2 (l.drop (half l.length))⟩]:=by rw [path_2 h,if_pos hi]
theorem X1p {l:Lv} (h:2≤l.length) {i:Nat} (hi:¬i<half l.length):Wk l i=Wk (l.drop (half l.length)) (i-half l.length)++[⟨true,W2 (l.take (half l.length))⟩]:=by rw [path_2 h,if_neg hi]
def okI (l:Lv) (i:Int):Prop:=0≤i∧i<((l.length:Nat):Int)
instance (l:Lv) (i:Int):Decidable (okI l i):=inferInstanceAs (Decidable (_∧_))
def Hk (l:Lv) (i:Int):List Step:=if okI l i then Wk l i.toNat else []
def Eg (l:Lv) (i:Int):Int:=if okI l i then 0 else 2
theorem X40:∀ (N:Nat) (l:Lv) (i:Nat),l.length=N→(Wk l i).length≤l.length:=by
  intro N
  induction N using Nat.strongRecOn with
  | _ N ih =>
    intro l i hN
    rcases Nat.lt_or_ge l.length 2 with h2|h2
    · rw [X1r h2];simp
    · have hh:=Jp h2
      have hp:=J3 l.length
      by_cases hi:i<half l.length
      · have h1:=ih (l.take (half l.length)).length p1d (l.take (half l.length)) i rfl
        rw [X1q h2 hi,List.length_append,List.length_singleton]
        rw [List.length_take] at h1
        omega
      · have h1:=ih (l.drop (half l.length)).length p1z (l.drop (half l.length)) (i-half l.length) rfl
        rw [X1p h2 hi,List.length_append,List.length_singleton]
        rw [List.length_drop] at h1
        omega
def H3:Nat→Nat→Nat→List Bool
  | 0,_,_=>[]
  | f+1,i,n=>if n<2 then [] else if i<half n then H3 f i (half n)++[false] else H3 f (i-half n) (n-half n)++[true]
def W8 (i n:Nat):List Bool:=H3 64 i n
theorem X2q:∀ (f g i n:Nat),n≤2 ^ f→n≤2 ^ g→H3 f i n=H3 g i n
  | 0,0,_,_,_,_=>rfl
  | 0,g+1,i,n,h,_=>by rw [H3,H3,if_pos (by have:n≤1:=h;omega)]
  | f+1,0,i,n,_,h=>by rw [H3,H3,if_pos (by have:n≤1:=h;omega)]
  | f+1,g+1,i,n,h1,h2=>by
    rw [H3,H3]
    split
    · rfl
    · rename_i hn
      have a1:=X25 h1 (by omega)
      have a2:=X25 h2 (by omega)
      have a3:=Xfn (n:=n) (by omega)
      rw [X2q f g i (half n) a1 a2,X2q f g (i-half n) (n-half n) (by omega) (by omega)]
theorem Xcd {n:Nat} (h:n<2) (i:Nat):W8 i n=[]:=by unfold W8;rw [H3,if_pos h]
theorem X7o {n:Nat} (h:2≤n) (hn:n≤9223372036854775807) (i:Nat):W8 i n=if i<half n then W8 i (half n)++[false] else W8 (i-half n) (n-half n)++[true]:=by
  unfold W8
  have hp:(2:Nat) ^ 63=9223372036854775808:=by decide
  have hq:(2:Nat) ^ 64=18446744073709551616:=by decide
  have a1:=X25 (n:=n) (f:=63) (by omega) h
  have a3:=Xfn h
  rw [H3,if_neg (by omega),X2q 63 64 i (half n) a1 (by omega),X2q 63 64 (i-half n) (n-half n) (by omega) (by omega)]
theorem Xin {n i:Nat} (h:2≤n) (hn:n≤9223372036854775807) (hi:i<half n):W8 i n=W8 i (half n)++[false]:=by rw [X7o h hn,if_pos hi]
theorem Xim {n i:Nat} (h:2≤n) (hn:n≤9223372036854775807) (hi:¬i<half n):W8 i n=W8 (i-half n) (n-half n)++[true]:=by rw [X7o h hn,if_neg hi]
theorem X3q:∀ (f i n:Nat),(H3 f i n).length≤f
  | 0,_,_=>Nat.le_refl _
  | f+1,i,n=>by
    rw [H3]
    split
    · simp
    · split
      · rw [List.length_append,List.length_singleton];have:=X3q f i (half n);omega
      · rw [List.length_append,List.length_singleton];have:=X3q f (i-half n) (n-half n);omega
theorem Xkd (i n:Nat):(W8 i n).length≤64:=X3q 64 i n
def Ew (d:List UInt8) (s:Step):List UInt8:=if s.Ui=true then ofB 3 [s.Xe,d] else ofB 3 [d,s.Xe]
def climb (d:List UInt8) (p:List Step):List UInt8:=p.foldl Ew d
def Jk (root leaf:List UInt8) (i n:Int) (p:List Step):Int :=
  if i<0∨i≥n then 2 else if p.map (fun s=>s.Ui)=W8 i.toNat n.toNat then (if climb (ofB 2 [leaf]) p=root then 0 else 90) else 90
def szS (s:Step):Nat:=s.Xe.length
theorem Xc3 {p:List Step} {m:Nat} (h:∀ s,s∈p→szS s≤m):∀ (d:List UInt8),(climb d p).length≤d.length+(13+m)*p.length:=by
  induction p with
  | nil=>intro d;simp [climb]
  | cons s r ih =>
    intro d
    have h1:=ih (fun x hx=>h x (List.mem_cons_of_mem _ hx)) (Ew d s)
    have h2:s.Xe.length≤m:=h s (List.mem_cons_self ..)
    have h3:(Ew d s).length≤d.length+(13+m):=by
      unfold Ew
      split<;>rw [Xer]<;>omega
    show (climb (Ew d s) r).length≤_
    rw [List.length_cons,Nat.mul_succ]
    omega
theorem Xa2 {p:List Step} {k:Nat} (d:List UInt8) (hk:k<p.length):climb d (p.take (k+1))=Ew (climb d (p.take k)) (p.getD k zS):=X9u hk
def revI {α:Type} (z:α) (l:List α) (i:Nat) (ys:List α):Prop:=ys.length=l.length∧∀ t,t<l.length→ys.getD t z=if t<i∨l.length≤t+i then l.getD (l.length-1-t) z else l.getD t z
theorem rev_0 {α:Type} (z:α) (l:List α):revI z l 0 l:=⟨rfl,fun t ht=>by rw [if_neg (by omega)]⟩
theorem Xfo {α:Type} {z v:α} {l:List α} {i t:Nat} (hi:i<l.length):(l.set i v).getD t z=if t=i then v else l.getD t z:=by
  rw [List.getD_eq_getElem?_getD,List.getElem?_set]
  by_cases h:i=t
  · subst h;simp [hi]
  · rw [if_neg h,if_neg (fun e=>h e.symm),List.getD_eq_getElem?_getD]
theorem Xef {α:Type} {z:α} {l ys:List α} {i j:Nat} (h:revI z l i ys) (hij:i<j) (hj:j+1+i=l.length):revI z l (i+1) ((ys.set i (ys.getD j z)).set j (ys.getD i z)):=by
  obtain ⟨h1,h2⟩:=h
  refine ⟨by simp [h1],fun t ht=>?_⟩
  rw [Xfo p48,Xfo (by omega)]
  by_cases e1:t=j
  · subst e1
    rw [if_pos rfl,if_pos (by omega),h2 i (by omega),if_neg (by omega)]
    congr 1
    omega
  · rw [if_neg e1]
    by_cases e2:t=i
    · subst e2
      rw [if_pos rfl,if_pos (by omega),h2 j (by omega),if_neg (by omega)]
      congr 1
      omega
    · rw [if_neg e2,h2 t ht]
      by_cases e3:t<i∨l.length≤t+i
      · rw [if_pos e3,if_pos (by omega)]
      · rw [if_neg e3,if_neg (by omega)]
theorem Xiu {α:Type} {z:α} {l ys:List α} {i:Nat} (h:revI z l i ys) (hi:l.length≤2*i+1):ys=l.reverse:=by
  obtain ⟨h1,h2⟩:=h
  refine List.ext_getElem (by simp [h1]) fun t a1 a2=>?_
  have h3:=h2 t (by omega)
  rw [List.getElem_reverse]
  have h4:ys.getD t z=ys[t]:=by rw [List.getD_eq_getElem?_getD,List.getElem?_eq_getElem a1];rfl
  rw [← h4,h3]
  split
  · rw [List.getD_eq_getElem?_getD,List.getElem?_eq_getElem (by omega)];rfl
  · have h5:t=l.length-1-t:=by omega
    rw [List.getD_eq_getElem?_getD,List.getElem?_eq_getElem (by omega)]
    simp only [Option.getD_some]
    congr 1
theorem Xhi {l X:Lv} {i j:Nat} {D:List Step} (he:Wk l i=Wk X j++D.reverse) (h2:2≤X.length) (hj:j<half X.length):Wk l i=Wk (X.take (half X.length)) j++(D++[Y1.mk false (W2 (X.drop (half X.length)))]).reverse:=by
  rw [he,X1q h2 hj];simp
theorem Xhh {l X:Lv} {i j:Nat} {D:List Step} (he:Wk l i=Wk X j++D.reverse) (h2:2≤X.length) (hj:¬j<half X.length):Wk l i=Wk (X.drop (half X.length)) (j-half X.length)++(D++[Y1.mk true (W2 (X.take (half X.length)))]).reverse:=by
  rw [he,X1p h2 hj];simp
theorem path_end {l X:Lv} {i j:Nat} {D:List Step} (he:Wk l i=Wk X j++D.reverse) (h:X.length<2):D.reverse=Wk l i:=by rw [he,X1r h];rfl
theorem Xe8 {i n j m:Nat} {D:List Bool} (he:W8 i n=W8 j m++D.reverse) (h2:2≤m) (hm:m≤9223372036854775807) (hj:j<half m):W8 i n=W8 j (half m)++(D++[false]).reverse:=by
  rw [he,Xin h2 hm hj];simp
theorem Xe7 {i n j m:Nat} {D:List Bool} (he:W8 i n=W8 j m++D.reverse) (h2:2≤m) (hm:m≤9223372036854775807) (hj:¬j<half m):W8 i n=W8 (j-half m) (m-half m)++(D++[true]).reverse:=by
  rw [he,Xim h2 hm hj];simp
theorem Xb7 {i n j m:Nat} {D:List Bool} (he:W8 i n=W8 j m++D.reverse) (h:m<2):D.reverse=W8 i n:=by rw [he,Xcd h];rfl
theorem sides_D {i n j m:Nat} {D:List Bool} (he:W8 i n=W8 j m++D.reverse):D.length≤64:=by
  have h1:=congrArg List.length he
  have h2:=Xkd i n
  rw [List.length_append,List.length_reverse] at h1
  omega
section
variable {root leaf:List UInt8} {i n:Int} {p:List Step} {k:Nat}
theorem Xc4 (h:i<0∨i≥n):Jk root leaf i n p=2:=if_pos h
theorem chk_len (h0:¬(i<0∨i≥n)) (h:¬(W8 i.toNat n.toNat).length=p.length):Jk root leaf i n p=90:=by
  rw [Jk,if_neg h0,if_neg fun e=>h (by rw [← e,List.length_map])]
theorem chk_at (h0:¬(i<0∨i≥n)) (hk:k<p.length) (h:(p.getD k zS).Ui≠(W8 i.toNat n.toNat).getD k false):Jk root leaf i n p=90:=by
  rw [Jk,if_neg h0,if_neg fun e=>h ?_]
  rw [← e,List.getD_eq_getElem?_getD,List.getD_eq_getElem?_getD,List.getElem?_map,List.getElem?_eq_getElem hk]
  rfl
theorem chk_end (h0:¬(i<0∨i≥n)) (hl:(W8 i.toNat n.toNat).length=p.length) (hk:p.length≤k) (hb:∀ t,t<k→(p.getD t zS).Ui=(W8 i.toNat n.toNat).getD t false):Jk root leaf i n p=if climb (ofB 2 [leaf]) (p.take k)=root then 0 else 90:=by
  have e:p.map (fun s=>s.Ui)=W8 i.toNat n.toNat:=by
    refine rows_eq (z:=false) (k:=p.length) (by rw [List.length_map,hl]) (by rw [List.length_map];omega) fun j hj=>?_
    rw [← hb j (by omega),List.getD_eq_getElem?_getD,List.getD_eq_getElem?_getD,List.getElem?_map,List.getElem?_eq_getElem hj]
    rfl
  rw [Jk,if_neg h0,if_pos e,List.take_of_length_le hk]
end
end Go.Proofs.YtnaopgohccacmaaGreat.Q
namespace Go.Proofs.YtnaopgohccacmaaGreat.Q
set_option linter.unusedVariables false
set_option linter.unusedSimpArgs false
set_option maxRecDepth 100000
theorem X69 (d:List UInt8) (p:List Step) (s:Step):climb d (p++[s])=Ew (climb d p) s:=by unfold climb;rw [List.foldl_append];rfl
theorem Xbt {α:Type} {z:α} {l:List α} {j k:Nat} (h:j<k):(l.take k).getD j z=l.getD j z:=by
  rw [List.getD_eq_getElem?_getD,List.getD_eq_getElem?_getD,List.getElem?_take_of_lt h]
theorem Xbu {α:Type} {z:α} {l:List α} {j k:Nat}:(l.drop k).getD j z=l.getD (k+j) z:=by
  rw [List.getD_eq_getElem?_getD,List.getD_eq_getElem?_getD,List.getElem?_drop]
theorem Xeq:∀ (N:Nat) (l:Lv) (j:Nat),l.length=N→N≤9223372036854775807→j<N→(Wk l j).map (fun s=>s.Ui)=W8 j N∧climb (ofB 2 [l.getD j []]) (Wk l j)=W2 l:=by
  intro N
  induction N using Nat.strongRecOn with
  | _ N ih =>
    intro l j hN hN2 hj
    subst hN
    rcases Nat.lt_or_ge l.length 2 with h2|h2
    · obtain rfl:j=0:=by omega
      rw [X1r h2,Xcd h2,X8r (by omega)]
      exact ⟨rfl,rfl⟩
    · have hh:=Jp h2
      have hp:=J3 l.length
      have lt:(l.take (half l.length)).length=half l.length:=by rw [List.length_take];omega
      have ld:(l.drop (half l.length)).length=l.length-half l.length:=List.length_drop
      by_cases hi:j<half l.length
      · obtain ⟨a,b⟩:=ih (half l.length) hh (l.take (half l.length)) j lt (by omega) hi
        rw [X1q h2 hi,Xin h2 hN2 hi,List.map_append,a,X69,X5s h2]
        rw [Xbt hi] at b
        rw [b]
        exact ⟨rfl,rfl⟩
      · obtain ⟨a,b⟩:=ih (l.length-half l.length) (by omega) (l.drop (half l.length)) (j-half l.length) ld (by omega) (by omega)
        rw [X1p h2 hi,Xim h2 hN2 hi,List.map_append,a,X69,X5s h2]
        rw [Xbu,show half l.length+(j-half l.length)=j by omega] at b
        rw [b]
        exact ⟨rfl,rfl⟩
theorem pathB_ok {l:Lv} {j:Nat} (h:j<l.length):Hk l ((j:Nat):Int)=Wk l j:=by rw [Hk,if_pos ⟨by omega,by omega⟩];rfl
theorem Xku {l:Lv} {j:Nat} (hl:l.length≤40) (h:j<l.length):Jk (W2 l) (l.getD j []) ((j:Nat):Int) ((l.length:Nat):Int) (Hk l ((j:Nat):Int))=0:=by
  obtain ⟨a,b⟩:=Xeq l.length l j rfl (by omega) h
  rw [pathB_ok h,Jk,if_neg (by omega),if_pos (by rw [a];rfl),if_pos b]
theorem few_path {l:Lv} (hf:Jj szL 40 600 l) (i:Int):Jj szS 70 30000 (Hk l i):=by
  have key:∀ (N:Nat) (l:Lv) (j:Nat),l.length=N→Jj szL 40 600 l→∀ s,s∈Wk l j→szS s≤30000:=by
    intro N
    induction N using Nat.strongRecOn with
    | _ N ih =>
      intro l j hN hf s hs
      rcases Nat.lt_or_ge l.length 2 with h2|h2
      · rw [X1r h2] at hs;cases hs
      · have hh:=Jp h2
        have hp:=J3 l.length
        by_cases hi:j<half l.length
        · rw [X1q h2 hi,List.mem_append] at hs
          rcases hs with hs|hs
          · exact ih _ p1d (l.take (half l.length)) j rfl (Ji hf _) s hs
          · obtain rfl:=List.mem_singleton.1 hs
            have:=Vo (Uy hf (half l.length))
            show (W2 (l.drop (half l.length))).length≤30000
            omega
        · rw [X1p h2 hi,List.mem_append] at hs
          rcases hs with hs|hs
          · exact ih _ p1z (l.drop (half l.length)) (j-half l.length) rfl (Uy hf _) s hs
          · obtain rfl:=List.mem_singleton.1 hs
            have:=Vo (Ji hf (half l.length))
            show (W2 (l.take (half l.length))).length≤30000
            omega
  unfold Hk
  split
  · exact ⟨by have:=X40 _ l i.toNat rfl;have:=hf.1;omega,key _ l _ rfl hf⟩
  · exact ⟨by simp,fun s h=>by cases h⟩
theorem sound:∀ (N:Nat) (l:Lv) (j:Nat) (leaf:List UInt8) (p:List Step),l.length=N→Jj szL 40 600 l→leaf.length≤600→p.length≤70→(∀ s,s∈p→szS s≤30000)→j<N →
    p.map (fun s=>s.Ui)=W8 j N→climb (ofB 2 [leaf]) p=W2 l→l.getD j []=leaf∧p=Wk l j:=by
  intro N
  induction N using Nat.strongRecOn with
  | _ N ih =>
    intro l j leaf p hl hf hle hp hs hj hm he
    have h40:=hf.1
    rcases Nat.lt_or_ge N 2 with h2|h2
    · obtain rfl:j=0:=by omega
      rw [Xcd h2] at hm
      obtain rfl:p=[]:=List.map_eq_nil_iff.1 hm
      rw [X8r (by omega)] at he
      have g1:(l.getD 0 []).length≤600:=Jw (sz:=szL) (z:=[]) hf (by decide) 0
      have e:=((leaf_inj (by omega) (by omega)).1 he).2
      exact ⟨e.symm,(X1r (by omega) 0).symm⟩
    · have hh:=Jp h2
      have hpo:=J3 N
      have lt:(l.take (half N)).length=half N:=by rw [List.length_take];omega
      have ld:(l.drop (half N)).length=N-half N:=by rw [List.length_drop];omega
      have a1:=Vo (Ji hf (half N))
      have a2:=Vo (Uy hf (half N))
      have hne:p≠[]:=fun e=>by
        rw [e] at hm
        have h9:=congrArg List.length hm
        rw [X7o h2 (by omega)] at h9
        by_cases hi:j<half N
        · rw [if_pos hi] at h9;simp at h9
        · rw [if_neg hi] at h9;simp at h9
      obtain ⟨q,s,rfl⟩:∃ q s,p=q++[s]:=⟨p.dropLast,p.getLast hne,(List.dropLast_concat_getLast hne).symm⟩
      rw [List.length_append,List.length_singleton] at hp
      have hq:∀ x,x∈q→szS x≤30000:=fun x h=>hs x (List.mem_append_left _ h)
      have hsz:s.Xe.length≤30000:=hs s (List.mem_append_right _ (List.mem_singleton.2 rfl))
      have hc:=Xc3 hq (ofB 2 [leaf])
      rw [X9n] at hc
      rw [X69,X5s (by omega),hl] at he
      rw [List.map_append,X7o h2 (by omega)] at hm
      unfold Ew at he
      by_cases hi:j<half N
      · rw [if_pos hi] at hm
        obtain ⟨m1,m2⟩:=List.append_inj' hm rfl
        have hsl:s.Ui=false:=by simpa using m2
        rw [if_neg (by rw [hsl];decide)] at he
        obtain ⟨_,e1,e2⟩:=(Xes (by omega) (by omega) (by omega) (by omega)).1 he
        obtain ⟨r1,r2⟩:=ih (half N) hh (l.take (half N)) j leaf q lt (Ji hf _) hle (by omega) hq hi m1 e1
        rw [Xbt hi] at r1
        refine ⟨r1,?_⟩
        subst hl
        rw [X1q h2 hi,← r2,← e2,← hsl]
      · rw [if_neg hi] at hm
        obtain ⟨m1,m2⟩:=List.append_inj' hm rfl
        have hsl:s.Ui=true:=by simpa using m2
        rw [if_pos hsl] at he
        obtain ⟨_,e1,e2⟩:=(Xes (by omega) (by omega) (by omega) (by omega)).1 he
        obtain ⟨r1,r2⟩:=ih (N-half N) (by omega) (l.drop (half N)) (j-half N) leaf q ld (Uy hf _) hle (by omega) hq (by omega) m1 e2
        rw [Xbu,show half N+(j-half N)=j by omega] at r1
        refine ⟨r1,?_⟩
        subst hl
        rw [X1p h2 hi,← r2,← e1,← hsl]
theorem sound_ok {l:Lv} {leaf:List UInt8} {i:Int} {p:List Step} (hf:Jj szL 40 600 l) (hle:leaf.length≤600) (hp:Jj szS 70 30000 p) (h:Jk (W2 l) leaf i ((l.length:Nat):Int) p=0):0≤i∧i<((l.length:Nat):Int)∧l.getD i.toNat []=leaf∧Hk l i=p∧Eg l i=0:=by
  unfold Jk at h
  split at h
  · exact absurd h (by decide)
  · rename_i hr
    split at h
    · rename_i hm
      split at h
      · rename_i he
        have ho:okI l i:=⟨by omega,by omega⟩
        obtain ⟨a,b⟩:=sound l.length l i.toNat leaf p rfl hf hle hp.1 hp.2 (by omega) hm he
        exact ⟨by omega,by omega,a,by rw [Hk,if_pos ho,b],by rw [Eg,if_pos ho]⟩
      · exact absurd h (by decide)
    · exact absurd h (by decide)
end Go.Proofs.YtnaopgohccacmaaGreat.Q
namespace Go.Proofs.YtnaopgohccacmaaGreat.Q
set_option linter.unusedVariables false
set_option linter.unusedSimpArgs false
def fOf (f:Int):Int:=min (max f 0) 2
def cOf (c:Int):Int:=min (max c 0) 8
theorem Xdh (f:Int):0≤fOf f∧fOf f≤2:=by unfold fOf;omega
theorem Xdp (f:Int):0≤cOf f∧cOf f≤8:=by unfold cOf;omega
def Yz (f s:Int):Prop:=s≥0∧s<3*f+1
def Ii (u s:Int):Prop:=s≥1000∧s-1000<u
def Uq (f u s:Int):Prop:=Yz f s∨Ii u s
instance (f s:Int):Decidable (Yz f s):=inferInstanceAs (Decidable (_∧_))
instance (f s:Int):Decidable (Ii f s):=inferInstanceAs (Decidable (_∧_))
instance (f u s:Int):Decidable (Uq f u s):=inferInstanceAs (Decidable (_∨_))
def primaryA (f v:Int):Int:=if v<0 then 0 else v % (3*f+1)
def orgA (u s:Int):Int:=if Ii u s then (s-1000) % 4 else -1
def X01 (f u s:Int) (b:List UInt8):Int:=if Uq f u s then (if ((b.length:Nat):Int)>16777216 then 11 else 0) else 30
def Hx (f u s:Int) (b:List UInt8):aE:=if X01 f u s b=0 then ⟨s,b⟩ else zE
abbrev Tab:=List (Yg×Bool)
def X6i (f u:Int) (rows:Tab) (s:Int) (b:List UInt8):Tab:=if X01 f u s b=0 then mput rows ⟨s,b⟩ true else rows
def Xz (f u:Int) (rows:Tab) (e:aE):Int:=if Uq f u e.f_Signer then (if mhas rows ⟨e.f_Signer,e.Xh⟩=true then 0 else 31) else 30
def X9d (l:List aE) (e:aE):List aE:=if e∈l then l else l++[e]
def Hy (f u:Int) (l:List aE) (s:Int) (b:List UInt8):List aE:=if X01 f u s b=0 then X9d l ⟨s,b⟩ else l
def Ex (f u:Int) (l:List aE) (e:aE):Int:=if Uq f u e.f_Signer then (if e∈l then 0 else 31) else 30
def keyE (e:aE):Yg:=⟨e.f_Signer,e.Xh⟩
theorem X9q {e e':aE}:keyE e=keyE e'↔e=e':=by cases e;cases e';simp [keyE]
def Ug (l:List aE):Tab:=l.map fun e=>(keyE e,true)
theorem mhas_tab (l:List aE) (e:aE):mhas (Ug l) (keyE e)=decide (e∈l):=by
  induction l with
  | nil=>simp [Ug,mhas]
  | cons a r ih =>
    simp only [Ug,List.map_cons,mhas,X9q] at ih ⊢
    by_cases h:a=e
    · simp [h]
    · have:(e=a)=False:=by simp;exact fun q=>h q.symm
      simp only [if_neg h,List.mem_cons,this,false_or]
      exact ih
theorem mput_tab (l:List aE) (e:aE):mput (Ug l) (keyE e) true=Ug (X9d l e):=by
  induction l with
  | nil=>simp [Ug,mput,X9d]
  | cons a r ih =>
    by_cases h:a=e
    · subst h
      simp [Ug,mput,X9d,X9q]
    · have h1:mput (Ug (a::r)) (keyE e) true=(keyE a,true)::mput (Ug r) (keyE e) true:=by
        simp only [Ug,List.map_cons,mput,X9q,if_neg h]
      rw [h1,ih]
      have h2:¬e=a:=fun q=>h q.symm
      by_cases h3:e∈r
      · simp [X9d,h3,Ug]
      · simp [X9d,h3,h2,Ug]
theorem sign_tab (f u:Int) (l:List aE) (s:Int) (b:List UInt8):X6i f u (Ug l) s b=Ug (Hy f u l s b):=by
  unfold X6i Hy
  split
  · exact mput_tab l ⟨s,b⟩
  · rfl
theorem Xlf (f u:Int) (l:List aE) (e:aE):Xz f u (Ug l) e=Ex f u l e:=by
  unfold Xz Ex
  split
  · rw [show (⟨e.f_Signer,e.Xh⟩:Yg)=keyE e from rfl,mhas_tab]
    simp
  · rfl
theorem putL_len (l:List aE) (e:aE):(X9d l e).length≤l.length+1:=by unfold X9d;split<;>simp
theorem Xkc (f u:Int) (l:List aE) (s:Int) (b:List UInt8):(Hy f u l s b).length≤l.length+1:=by
  unfold Hy;split
  · exact putL_len _ _
  · omega
end Go.Proofs.YtnaopgohccacmaaGreat.Q
namespace Go.Proofs.YtnaopgohccacmaaGreat.Q
set_option linter.unusedVariables false
set_option linter.unusedSimpArgs false
def U8 {α:Type} (z:α) (L:List α) (k:Nat):List α:=L.take k++List.replicate (L.length-k) z
theorem fill_0 {α:Type} (z:α) (L:List α):U8 z L 0=List.replicate L.length z:=by simp [U8]
theorem X53 {α:Type} (z:α) (L:List α) (k:Nat):(U8 z L k).length=L.length:=by simp [U8];omega
theorem fill_set {α:Type} {z:α} {L:List α} {k:Nat} (hk:k<L.length):(U8 z L k).set k (L.getD k z)=U8 z L (k+1):=by
  unfold U8
  rw [Uf (z:=z) hk,List.append_assoc]
  have h1:(L.take k).length=k:=by rw [List.length_take];omega
  rw [List.set_append_right _ _ (by omega),h1,Nat.sub_self]
  obtain ⟨m,hm⟩:∃ m,L.length-k=m+1:=⟨L.length-k-1,by omega⟩
  rw [hm,show L.length-(k+1)=m by omega]
  rfl
theorem Xfu {α:Type} {z:α} {L:List α} {k:Nat} (hk:L.length≤k):U8 z L k=L:=by
  unfold U8
  rw [List.take_of_length_le hk,show L.length-k=0 by omega]
  simp
end Go.Proofs.YtnaopgohccacmaaGreat.Q
namespace Go.Proofs.YtnaopgohccacmaaGreat.Q
set_option linter.unusedVariables false
set_option linter.unusedSimpArgs false
set_option maxRecDepth 100000
def W7 (l:List Int):List UInt8:=l.flatMap Yp
theorem X61 {l:List Int} {k:Nat} (hk:k<l.length):W7 (l.take (k+1))=W7 (l.take k)++Yp (l.getD k 0):=by
  rw [Uf (z:=0) hk];simp [W7]
theorem Xfj {l:List Int} (hk:0<l.length):W7 (l.take 1)=Yp (l.getD 0 0):=by rw [X61 hk];simp [W7]
theorem Ij (l:List Int):(W7 l).length=8*l.length:=by
  induction l with
  | nil=>rfl
  | cons a r ih =>
    have:W7 (a::r)=Yp a++W7 r:=by simp [W7]
    rw [this,List.length_append,ih,Wd,List.length_cons]
    omega
def V9 (e:aE) (r:Xw):List UInt8:=Yp e.f_Signer++Yo e.Xh++Yp r.Y0++Yp r.Xq
theorem X2v (e:aE) (r:Xw):(V9 e r).length=28+e.Xh.length:=by
  simp only [V9,List.length_append,Wd,V7];omega
def Vd (b:Xn):Int:=if b.X9<1∨b.X9>1099511627776 then 100 else if ¬b.X7.length=b.Xf.length∨4<b.Xf.length then 102 else 0
def Y5 (b:Xn):Lv:=List.zipWith V9 b.X7 b.Xf
theorem Vn (b:Xn):(Y5 b).length=min b.X7.length b.Xf.length:=by simp [Y5]
theorem F4 {b:Xn} {k:Nat} (h1:k<b.X7.length) (h2:k<b.Xf.length):(Y5 b).getD k []=V9 (b.X7.getD k zE) (b.Xf.getD k Ya):=by
  simp only [Y5,List.getD_eq_getElem?_getD,List.getElem?_zipWith,List.getElem?_eq_getElem h1,List.getElem?_eq_getElem h2]
  rfl
def szE (e:aE):Nat:=e.Xh.length
def Hv (b:Xn):Prop:=Jj szE 20 500 b.X7∧b.Xf.length≤20∧b.Xy.length≤10000000
instance (b:Xn):Decidable (Hv b):=inferInstanceAs (Decidable (_∧_∧_))
theorem Uo {b:Xn} (h:Hv b):Jj szL 40 600 (Y5 b):=by
  obtain ⟨h1,h2,h3⟩:=h
  refine ⟨by rw [Vn];omega,fun x hx=>?_⟩
  obtain ⟨k,hk,rfl⟩:=List.getElem_of_mem hx
  have hl:=Vn b
  have hg:=F4 (b:=b) (k:=k) (by omega) (by omega)
  rw [List.getD_eq_getElem?_getD,List.getElem?_eq_getElem hk] at hg
  simp only [Option.getD_some] at hg
  have hb:(b.X7.getD k zE).Xh.length≤500:=Jw (sz:=szE) h1 (by decide) k
  show ((Y5 b)[k]).length≤600
  rw [hg,X2v]
  omega
def Wn (b:Xn):Y6:=⟨b.X9,b.Xy,(((Y5 b).length:Nat):Int),W2 (Y5 b)⟩
def Hw (h:Y6):List UInt8:=ofB 5 [Yp h.X9,h.Xy,Yp h.Ye,h.W4]
def fewW (b:Xn):Prop:=Jj szE 20 20000 b.X7∧b.Xf.length≤20∧b.Xy.length≤10000000
instance (b:Xn):Decidable (fewW b):=inferInstanceAs (Decidable (_∧_∧_))
theorem few_wide {b:Xn} (h:Hv b):fewW b:=⟨⟨h.1.1,fun x hx=>Nat.le_trans (h.1.2 x hx) (by decide)⟩,h.2⟩
theorem Em {b:Xn} (h:fewW b):Jj szL 40 20100 (Y5 b):=by
  obtain ⟨h1,h2,h3⟩:=h
  refine ⟨by rw [Vn];omega,fun x hx=>?_⟩
  obtain ⟨k,hk,rfl⟩:=List.getElem_of_mem hx
  have hl:=Vn b
  have hg:=F4 (b:=b) (k:=k) (by omega) (by omega)
  rw [List.getD_eq_getElem?_getD,List.getElem?_eq_getElem hk] at hg
  simp only [Option.getD_some] at hg
  have hb:(b.X7.getD k zE).Xh.length≤20000:=Jw (sz:=szE) h1 (by decide) k
  show ((Y5 b)[k]).length≤20100
  rw [hg,X2v]
  omega
theorem sz4 (a b c d:List UInt8):szP [a,b,c,d]=5+(4+a.length)+(4+b.length)+(4+c.length)+(4+d.length):=rfl
theorem X06 {a b:Int} (ha:Wm a) (hb:Wm b) (h:Yp a=Yp b):a=b:=by
  have h1:=(Xb5 (Nat.lt_of_lt_of_le (X8a a) (by decide)) (Nat.lt_of_lt_of_le (X8a b) (by decide))).1 h
  unfold Wm at ha hb
  unfold u64 at h1
  omega
theorem Xl2 {e f:aE} {r s:Xw} (h1:Wm e.f_Signer) (h2:Wm f.f_Signer) (h3:Wm r.Y0) (h4:Wm s.Y0) (h5:Wm r.Xq) (h6:Wm s.Xq) (h7:e.Xh.length≤500) (h8:f.Xh.length≤500) (h:V9 e r=V9 f s):e=f∧r=s:=by
  simp only [V9,List.append_assoc] at h
  obtain ⟨a1,a2⟩:=List.append_inj h (by rw [Wd,Wd])
  obtain ⟨b1,b2⟩:=Xi8 (by omega) (by omega) a2
  obtain ⟨c1,c2⟩:=List.append_inj b2 (by rw [Wd,Wd])
  have d1:=X06 h1 h2 a1
  have d2:=X06 h3 h4 c1
  have d3:=X06 h5 h6 c2
  exact ⟨(Um _ _).2 ⟨d1,b1⟩,(X2j _ _).2 ⟨d2,d3⟩⟩
def Xhf (b:Xn):Prop:=Wm b.X9∧(∀ e,e∈b.X7→Wm e.f_Signer)∧∀ r,r∈b.Xf→Wm r.Y0∧Wm r.Xq
theorem Xfm {b:Xn} (h:Hv b):(Wn b).Xy.length≤10000000∧(Wn b).W4.length≤10000000∧(Wn b).Ye≤9223372036854775807:=by
  have h1:=h.2.2
  have h2:=Vo (Uo h)
  have h3:=(Uo h).1
  refine ⟨?_,?_,?_⟩
  · show b.Xy.length≤_;omega
  · show (W2 (Y5 b)).length≤_;omega
  · show (((Y5 b).length:Nat):Int)≤_;omega
theorem Xjt {b:Xn} (h:Vd b=0):b.X7.length=b.Xf.length∧b.Xf.length≤4∧1≤b.X9∧b.X9≤1099511627776:=by
  unfold Vd at h
  split at h
  · exact absurd h (by decide)
  · split at h
    · exact absurd h (by decide)
    · omega
theorem Xgk {α:Type} {p:α→Prop} {l:List α} {z:α} {k:Nat} (h:∀ x,x∈l→p x) (hk:k<l.length):p (l.getD k z):=h _ (Vc hk)
theorem digB_inj {h g:Y6} (h1:Wm h.X9) (h2:Wm g.X9) (h3:Wm h.Ye) (h4:Wm g.Ye) (p1:h.Xy.length≤10000000) (p2:g.Xy.length≤10000000) (p3:h.W4.length≤10000000) (p4:g.W4.length≤10000000) (he:Hw h=Hw g):h=g:=by
  have e:=((X4u p50 p50).1 he).2
  simp only [List.cons.injEq,and_true] at e
  obtain ⟨e1,e2,e3,e4⟩:=e
  exact (Xac _ _).2 ⟨X06 h1 h2 e1,e2,X06 h3 h4 e3,e4⟩
end Go.Proofs.YtnaopgohccacmaaGreat.Q
namespace Go.Proofs.YtnaopgohccacmaaGreat.Q
set_option linter.unusedVariables false
set_option linter.unusedSimpArgs false
set_option maxRecDepth 100000
def H7 (b:Xn) (i:Int):List Step:=if Vd b=0 then Hk (Y5 b) i else []
def J7 (b:Xn) (i:Int):Int:=if Vd b=0 then Eg (Y5 b) i else Vd b
theorem Xcs {b:Xn} {i:Int} (hf:Hv b) (h:J7 b i=0):Vd b=0∧0≤i∧i<((b.X7.length:Nat):Int)∧i<((b.Xf.length:Nat):Int) ∧
    Jk (Wn b).W4 (V9 (b.X7.getD i.toNat zE) (b.Xf.getD i.toNat Ya)) i (Wn b).Ye (H7 b i)=0∧Jj szS 70 30000 (H7 b i)∧(b.X7.getD i.toNat zE).Xh.length≤500:=by
  have hc:Vd b=0:=by
    apply Classical.byContradiction
    intro hn
    rw [J7,if_neg hn] at h
    exact hn h
  rw [J7,if_pos hc] at h
  have hl:=Vn b
  have ho:okI (Y5 b) i:=by
    apply Classical.byContradiction
    intro hn
    rw [Eg,if_neg hn] at h
    exact absurd h (by decide)
  obtain ⟨o1,o2⟩:=ho
  have hp:=Xku (l:=Y5 b) (j:=i.toNat) (Uo hf).1 (by omega)
  rw [F4 (by omega) (by omega),show ((i.toNat:Nat):Int)=i by omega] at hp
  refine ⟨hc,o1,by omega,by omega,?_,?_,Jw (sz:=szE) hf.1 (by decide) _⟩
  · rw [H7,if_pos hc];exact hp
  · rw [H7,if_pos hc];exact few_path (Uo hf) i
theorem sound10 {b:Xn} {i:Int} {e:aE} {r:Xw} {p:List Step} (hf:Hv b) (hr:Xhf b) (he:Wm e.f_Signer) (hc:Wm r.Y0) (hs:Wm r.Xq) (hb:e.Xh.length≤500) (hp:Jj szS 70 30000 p)
    (h:Jk (Wn b).W4 (V9 e r) i (Wn b).Ye p=0):0≤i∧i<((b.X7.length:Nat):Int)∧i<((b.Xf.length:Nat):Int)∧b.X7.getD i.toNat zE=e∧b.Xf.getD i.toNat Ya=r:=by
  have hl:=Vn b
  obtain ⟨a1,a2,a3,_,_⟩:=sound_ok (Uo hf) (show (V9 e r).length≤600 by rw [X2v];omega) hp h
  rw [F4 (by omega) (by omega)] at a3
  obtain ⟨r1,r2⟩:=Xgk (p:=fun r=>Wm r.Y0∧Wm r.Xq) (z:=Ya) (k:=i.toNat) hr.2.2 (by omega)
  obtain ⟨b1,b2⟩:=Xl2 (Xgk (p:=fun e=>Wm e.f_Signer) (z:=zE) (k:=i.toNat) hr.2.1 (by omega)) he r1 hc r2 hs (Jw (sz:=szE) hf.1 (by decide) _) hb a3
  exact ⟨a1,by omega,by omega,b1,b2⟩
end Go.Proofs.YtnaopgohccacmaaGreat.Q
namespace Go.Proofs.YtnaopgohccacmaaGreat.Q
set_option linter.unusedVariables false
set_option linter.unusedSimpArgs false
set_option maxRecDepth 100000
abbrev Links:=List Yj
def lnk (b:Xn):Yj:=⟨b,Hw (Wn b)⟩
def Yx (L:List Xn):Links:=L.map lnk
theorem Jg (L:List Xn):(Yx L).length=L.length:=List.length_map ..
def hdL (d:List UInt8) (l:Links):List UInt8:=if l.length=0 then d else (l.getD (l.length-1) Wp).X2a
def X5j (h:Int) (d:List UInt8) (l:Links) (b:Xn):Int:=if Vd b=0 then (if b.X9-1=h+((l.length:Nat):Int) then (if b.Xy=hdL d l then 0 else 101) else 100) else Vd b
def X0v (h:Int) (d:List UInt8) (l:Links) (b:Xn):Links:=if X5j h d l b=0 then l++[lnk b] else l
def inL (h:Int) (n:Nat) (x:Int):Prop:=h<x∧x≤h+((n:Nat):Int)
instance (h:Int) (n:Nat) (x:Int):Decidable (inL h n x):=inferInstanceAs (Decidable (_∧_))
def Yw (h:Int) (l:Links) (x:Int):Xn:=if inL h l.length x then (l.getD (x-h-1).toNat Wp).Ur else Ys
def Ey (h:Int) (n:Nat) (x:Int):Int:=if inL h n x then 0 else 4
theorem set_same {α:Type} {z:α} {l:List α} {k:Nat} (hk:k<l.length):l.set k (l.getD k z)=l:=by
  rw [List.getD_eq_getElem?_getD,List.getElem?_eq_getElem hk]
  exact List.set_getElem_self hk
def Xc0 (l:Links):Prop:=∀ x,x∈l→Hv x.Ur
instance (l:Links):Decidable (Xc0 l):=inferInstanceAs (Decidable (∀ x,x∈l→Hv x.Ur))
theorem Xbz {l:Links} (hw:Xc0 l) (k:Nat):Hv (l.getD k Wp).Ur:=X5k (p:=fun (x:Yj)=>Hv x.Ur) hw (by decide) k
section
variable {h:Int} {d:List UInt8} {l:Links} {b:Xn}
theorem X84 (hc:Vd b≠0):X5j h d l b=Vd b∧X0v h d l b=l:=by
  have e:X5j h d l b=Vd b:=if_neg hc
  exact ⟨e,if_neg (by rw [e];exact hc)⟩
theorem X83 (hc:¬Vd b≠0) (hh:b.X9-1≠h+((l.length:Nat):Int)):X5j h d l b=100∧X0v h d l b=l:=by
  have e:X5j h d l b=100:=by rw [X5j,if_pos (Classical.not_not.1 hc),if_neg hh]
  exact ⟨e,if_neg (by rw [e];decide)⟩
theorem X82 (hc:¬Vd b≠0) (hh:¬b.X9-1≠h+((l.length:Nat):Int)) (hp:b.Xy≠hdL d l):X5j h d l b=101∧X0v h d l b=l:=by
  have e:X5j h d l b=101:=by rw [X5j,if_pos (Classical.not_not.1 hc),if_pos (Classical.not_not.1 hh),if_neg hp]
  exact ⟨e,if_neg (by rw [e];decide)⟩
theorem Xab (hc:¬Vd b≠0) (hh:¬b.X9-1≠h+((l.length:Nat):Int)) (hp:¬b.Xy≠hdL d l):X5j h d l b=0∧X0v h d l b=l++[lnk b]:=by
  have e:X5j h d l b=0:=by rw [X5j,if_pos (Classical.not_not.1 hc),if_pos (Classical.not_not.1 hh),if_pos (Classical.not_not.1 hp)]
  exact ⟨e,if_pos e⟩
end
def X0a (L:List Xn):Prop:=∀ b,b∈L→Hv b
instance (L:List Xn):Decidable (X0a L):=inferInstanceAs (Decidable (∀ b,b∈L→Hv b))
theorem X66 {L:List Xn} (hw:X0a L) (k:Nat):Hv (L.getD k Ys):=X5k (p:=fun (x:Xn)=>Hv x) hw (by decide) k
theorem X2u {L:List Xn} (hw:X0a L):Xc0 (Yx L):=fun x hx=>by
  obtain ⟨b,hb,rfl⟩:=List.mem_map.1 hx
  exact hw b hb
def atB (d:List UInt8) (L:List Xn) (n:Nat):List UInt8:=if n=0 then d else Hw (Wn (L.getD (n-1) Ys))
theorem Xbn {L:List Xn} {k:Nat} (hk:k<L.length):(Yx L).getD k Wp=lnk (L.getD k Ys):=by
  rw [List.getD_eq_getElem?_getD,List.getD_eq_getElem?_getD,Yx,List.getElem?_map,List.getElem?_eq_getElem hk]
  rfl
theorem X9t (d:List UInt8) (L:List Xn):hdL d (Yx L)=atB d L L.length:=by
  unfold hdL atB
  rw [Jg]
  by_cases h:L.length=0
  · rw [if_pos h,if_pos h]
  · rw [if_neg h,if_neg h,Xbn (by omega)]
    rfl
def rblk (h:Int) (L:List Xn) (x:Int):Xn:=if inL h L.length x then L.getD (x-h-1).toNat Ys else Ys
theorem Xlj (h:Int) (L:List Xn) (x:Int):Yw h (Yx L) x=rblk h L x:=by
  unfold Yw rblk
  rw [Jg]
  by_cases hi:inL h L.length x
  · have:=hi.1;have:=hi.2
    rw [if_pos hi,if_pos hi,Xbn (by omega)]
    rfl
  · rw [if_neg hi,if_neg hi]
def X3g (h:Int) (d:List UInt8) (L:List Xn) (b:Xn):Int:=X5j h d (Yx L) b
def Hi (h:Int) (d:List UInt8) (L:List Xn) (b:Xn):List Xn:=if X3g h d L b=0 then L++[b] else L
section
variable {h:Int} {d:List UInt8} {L:List Xn} {b:Xn}
theorem X9a (hc:Vd b≠0):X3g h d L b=Vd b∧Hi h d L b=L:=by
  have e:X3g h d L b=Vd b:=(X84 hc).1
  exact ⟨e,if_neg (by rw [e];exact hc)⟩
theorem X99 (hc:¬Vd b≠0) (hh:b.X9≠h+((L.length:Nat):Int)+1):X3g h d L b=100∧Hi h d L b=L:=by
  have e:X3g h d L b=100:=(X83 (l:=Yx L) hc (by rw [Jg];omega)).1
  exact ⟨e,if_neg (by rw [e];decide)⟩
theorem X98 (hc:¬Vd b≠0) (hh:¬b.X9≠h+((L.length:Nat):Int)+1) (hp:b.Xy≠atB d L L.length):X3g h d L b=101∧Hi h d L b=L:=by
  have e:X3g h d L b=101:=(X82 (l:=Yx L) hc (by rw [Jg];omega) (by rw [X9t];exact hp)).1
  exact ⟨e,if_neg (by rw [e];decide)⟩
theorem X7t (hc:¬Vd b≠0) (hh:¬b.X9≠h+((L.length:Nat):Int)+1) (hp:¬b.Xy≠atB d L L.length):X3g h d L b=0∧Hi h d L b=L++[b]:=by
  have e:X3g h d L b=0:=(Xab (l:=Yx L) hc (by rw [Jg];omega) (by rw [X9t];exact hp)).1
  exact ⟨e,if_pos e⟩
end
end Go.Proofs.YtnaopgohccacmaaGreat.Q
namespace Go.Proofs.YtnaopgohccacmaaGreat.Q
set_option linter.unusedVariables false
set_option linter.unusedSimpArgs false
set_option maxRecDepth 100000
def I8 (a b:Int):Int:=IntKind.i64.wrap ((BitVec.ofInt 64 a &&& BitVec.ofInt 64 b).toNat:Int)
def orI (a b:Int):Int:=IntKind.i64.wrap ((BitVec.ofInt 64 a ||| BitVec.ofInt 64 b).toNat:Int)
section
variable {P:Program}
theorem Xdr {t:TypeId} {a b c:Int} (h:I8 a b=c):Iy P .and t (.int .i64 a) (.int .i64 b) (.int .i64 c):=Ua (.inl fun _=>by simp) (.inl (by simp)) fun w=>by
  subst h
  rfl
theorem X6x {t:TypeId} {a b c:Int} (h:orI a b=c):Iy P .or t (.int .i64 a) (.int .i64 b) (.int .i64 c):=Ua (.inl fun _=>by simp) (.inl (by simp)) fun w=>by
  subst h
  rfl
end
def Yh (k:Int):J6:=if k=1 then ⟨20,0,1,7⟩ else if k=2 then ⟨75,0,1,4⟩ else if k=3 then ⟨11,0,1,7⟩ else if k=4 then ⟨11,0,1,7⟩ else if k=5 then ⟨10,0,1,7⟩ else if k=6 then ⟨323,1,0,7⟩ else if k=7 then ⟨193,1,1,7⟩ else if k=8 then ⟨37,0,1,7⟩ else if k=9 then ⟨2,0,0,7⟩ else if k=10 then ⟨256,0,1,7⟩ else if k=11 then ⟨82,0,1,7⟩ else ⟨0,0,1,7⟩
def Xk (k:Int):aH:=if k=1 then ⟨false,false,true,false,true,false,false,false,false⟩ else if k=2 then ⟨true,true,false,true,false,false,true,false,false⟩ else if k=3 then ⟨true,true,false,true,false,false,false,false,false⟩ else if k=4 then ⟨true,true,false,true,false,false,false,false,false⟩ else if k=5 then ⟨false,true,false,true,false,false,false,false,false⟩ else if k=6 then ⟨true,true,false,false,false,false,true,false,true⟩ else if k=7 then ⟨true,false,false,false,false,false,true,true,false⟩ else if k=8 then ⟨true,false,true,false,false,true,false,false,false⟩ else if k=9 then ⟨false,true,false,false,false,false,false,false,false⟩ else if k=10 then ⟨false,false,false,false,false,false,false,false,true⟩ else if k=11 then ⟨false,true,false,false,true,false,true,false,false⟩ else ⟨false,false,false,false,false,false,false,false,false⟩
def okK (k:Int):Prop:=1≤k∧k≤11
instance (k:Int):Decidable (okK k):=inferInstanceAs (Decidable (_∧_))
theorem kinds (k:Int):k=1∨k=2∨k=3∨k=4∨k=5∨k=6∨k=7∨k=8∨k=9∨k=10∨k=11∨¬okK k:=by unfold okK;omega
theorem Xb8 {k:Int} (h:¬okK k):Yh k=⟨0,0,1,7⟩:=by
  unfold okK at h
  unfold Yh
  rw [if_neg (by omega),if_neg (by omega),if_neg (by omega),if_neg (by omega),if_neg (by omega),if_neg (by omega),if_neg (by omega),if_neg (by omega),if_neg (by omega),if_neg (by omega),if_neg (by omega)]
theorem Xje {k:Int} (h:¬okK k):Xk k=⟨false,false,false,false,false,false,false,false,false⟩:=by
  unfold okK at h
  unfold Xk
  rw [if_neg (by omega),if_neg (by omega),if_neg (by omega),if_neg (by omega),if_neg (by omega),if_neg (by omega),if_neg (by omega),if_neg (by omega),if_neg (by omega),if_neg (by omega),if_neg (by omega)]
def Ix (h:aH):Nat→Bool
  | 0=>h.Y9
  | 1=>h.Xu
  | 2=>h.Xr
  | 3=>h.Xe
  | 4=>h.Xd
  | 5=>h.X3
  | 6=>h.Xt
  | 7=>h.Y8
  | 8=>h.X5
  | _=>false
def bits9 (h:aH):List Bool:=[h.Y9,h.Xu,h.Xr,h.Xe,h.Xd,h.X3,h.Xt,h.Y8,h.X5]
def bitsS (n:Int):List Bool:=[decide (I8 n 1≠0),decide (I8 n 2≠0),decide (I8 n 4≠0),decide (I8 n 8≠0),decide (I8 n 16≠0),decide (I8 n 32≠0),decide (I8 n 64≠0),decide (I8 n 128≠0),decide (I8 n 256≠0)]
theorem X8i (k:Int):bitsS (Yh k).Vp=bits9 (Xk k):=by
  rcases kinds k with h|h|h|h|h|h|h|h|h|h|h|h
  case inr.inr.inr.inr.inr.inr.inr.inr.inr.inr.inr=>rw [Xb8 h,Xje h];decide +kernel
  all_goals (subst h;decide +kernel)
theorem Xjy {n:Int} {h:aH} (e:bitsS n=bits9 h):(I8 n 1=0↔¬h.Y9=true)∧(I8 n 2=0↔¬h.Xu=true)∧(I8 n 4=0↔¬h.Xr=true)∧(I8 n 8=0↔¬h.Xe=true)∧(I8 n 16=0↔¬h.Xd=true)∧(I8 n 32=0↔¬h.X3=true)∧(I8 n 64=0↔¬h.Xt=true)∧(I8 n 128=0↔¬h.Y8=true)∧(I8 n 256=0↔¬h.X5=true):=by
  unfold bitsS bits9 at e
  simp only [List.cons.injEq,and_true] at e
  obtain ⟨e1,e2,e3,e4,e5,e6,e7,e8,e9⟩:=e
  have key:∀ {x:Int} {b:Bool},decide (x≠0)=b→(x=0↔¬b=true):=fun {x b} q=>by subst q;simp
  exact ⟨key e1,key e2,key e3,key e4,key e5,key e6,key e7,key e8,key e9⟩
theorem Xjz {k:Int} {j:Nat} (hj:j≤8):I8 (Yh k).Vp ((2 ^ j:Nat):Int)=0↔¬Ix (Xk k) j=true:=by
  obtain ⟨e1,e2,e3,e4,e5,e6,e7,e8,e9⟩:=Xjy (X8i k)
  rcases (by omega:j=0∨j=1∨j=2∨j=3∨j=4∨j=5∨j=6∨j=7∨j=8) with h|h|h|h|h|h|h|h|h<;>subst h<;>assumption
theorem pow_le {j:Nat} (hj:j≤9):((2 ^ j:Nat):Int)≤256↔j≤8:=by
  rcases (by omega:j=0∨j=1∨j=2∨j=3∨j=4∨j=5∨j=6∨j=7∨j=8∨j=9) with h|h|h|h|h|h|h|h|h|h<;>subst h<;>decide
theorem pow_le9 {j:Nat} (hj:j≤9):2 ^ j≤512:=Nat.pow_le_pow_right (n:=2) (by decide) hj
theorem X0j {j i:Nat} (hj:j≤9) (h:((2 ^ j:Nat):Int)=((2 ^ i:Nat):Int)):j=i:=Nat.pow_right_inj (a:=2) (by decide) |>.1 (Int.ofNat.inj h)
def inM (s:J6) (f n lo hi:Int):Prop:=if I8 s.Vp f=0 then 0≤n∧n≤0 else lo≤n∧n≤hi
instance (s:J6) (f n lo hi:Int):Decidable (inM s f n lo hi):=by unfold inM;infer_instance
def X29 (l:List aC):Prop:=∀ c,c∈l→c.Xi.length≤7
instance (l:List aC):Decidable (X29 l):=inferInstanceAs (Decidable (∀ c,c∈l→_))
theorem X28 {l:List aC} {k:Nat} (hb:∀ j,j<k→(l.getD j zC).Xi.length≤7) (hk:l.length≤k):X29 l:=fun c hc=>by
  obtain ⟨j,hj,rfl⟩:=List.getElem_of_mem hc
  have:=hb j (by omega)
  rw [List.getD_eq_getElem?_getD,List.getElem?_eq_getElem hj] at this
  exact this
def idxV (l:List aC):Int:=if X29 l then -1 else ((l.findIdx fun c=>decide (7<c.Xi.length):Nat):Int)
theorem idx_no {l:List aC} {k:Nat} (hb:∀ j,j<k→(l.getD j zC).Xi.length≤7) (hk:l.length≤k):idxV l=-1:=if_pos (X28 hb hk)
theorem idx_at {l:List aC} {k:Nat} (hb:∀ j,j<k→(l.getD j zC).Xi.length≤7) (hk:k<l.length) (h:7<(l.getD k zC).Xi.length):idxV l=((k:Nat):Int):=by
  have e:∀ j (hj:j<l.length),l.getD j zC=l[j]:=fun j hj=>by rw [List.getD_eq_getElem?_getD,List.getElem?_eq_getElem hj];rfl
  have hn:¬X29 l:=fun w=>by
    have:=w _ (Vc (z:=zC) hk)
    omega
  rw [idxV,if_neg hn,(List.findIdx_eq hk).2 ⟨?_,fun j hj=>?_⟩]
  · rw [e k hk] at h;exact decide_eq_true h
  · have:=hb j hj
    rw [e j (by omega)] at this
    exact decide_eq_false (by omega)
theorem idx_few (l:List aC):idxV l≥0↔¬X29 l:=by
  unfold idxV
  split
  · rename_i h;exact ⟨(fun w=>by omega),fun w=>absurd h w⟩
  · rename_i h;exact ⟨fun _=>h,fun _=>Int.natCast_nonneg _⟩
def Fg (m:aM):Prop:=okK m.X0∧inM (Yh m.X0) 1 m.Y9 (Yh m.X0).Wu 1099511627776∧inM (Yh m.X0) 2 m.Xu (Yh m.X0).V6 1099511627776∧inM (Yh m.X0) 4 m.Xr 0 1099511627776∧inM (Yh m.X0) 4 m.W0 1 1099511627776 ∧
  inM (Yh m.X0) 64 (m.Xt.length:Nat) 0 (Yh m.X0).Vi∧inM (Yh m.X0) 128 (m.Y8.length:Nat) 0 8∧inM (Yh m.X0) 256 (m.X5.length:Nat) 0 8∧inM (Yh m.X0) 8 (m.Xe.length:Nat) 0 (m.Xe.length:Nat)∧inM (Yh m.X0) 16 (m.Xd.length:Nat) 0 (m.Xd.length:Nat) ∧
  (I8 (Yh m.X0).Vp 32≠0∨m.X3=Ya)∧(m.X0≠1∨((m.Xd.length:Nat):Int)≤4096)∧(m.X0≠10∨((m.X5.length:Nat):Int)=1)∧X29 m.X5
instance (m:aM):Decidable (Fg m):=by unfold Fg;infer_instance
def chkM (m:aM):Int:=if Fg m then 0 else 120
theorem chk0 {m:aM}:chkM m=0↔Fg m:=by
  unfold chkM
  split
  · exact ⟨fun _=>‹_›,fun _=>rfl⟩
  · exact ⟨pZs,fun h=>absurd h ‹_›⟩
theorem nbB {b:Bool} (h:b=false):¬b=true:=fun q=>by rw [h] at q;cases q
def Fu (n:Int) (had:Bool) (lo:Int):Prop:=if had=true then n≥lo∧n≤1099511627776 else n=0
instance (n:Int) (had:Bool) (lo:Int):Decidable (Fu n had lo):=by unfold Fu;infer_instance
def X26 (k:Int):Int:=if k=6 then 1 else if k=7 then 1 else 0
def X14 (k:Int):Int:=if k=6 then 0 else if k=7 then 1 else if k=9 then 0 else 1
def maxB (k:Int) (h:aH):Int:=if k=2 then 4 else if h.Xt=true then 7 else 0
def maxP (h:aH):Int:=if h.Y8=true then 8 else 0
def Ev (m:aM) (h:aH):Prop:=((m.Xt.length:Nat):Int)≤maxB m.X0 h∧((m.Y8.length:Nat):Int)≤maxP h∧¬(m.X0=10∧((m.X5.length:Nat):Int)≠1)∧¬(¬h.X5=true∧((m.X5.length:Nat):Int)>0)∧((m.X5.length:Nat):Int)≤8∧X29 m.X5
instance (m:aM) (h:aH):Decidable (Ev m h):=by unfold Ev;infer_instance
def wellR (m:aM) (h:aH):Prop:=okK m.X0∧Fu m.Y9 h.Y9 (X26 m.X0)∧Fu m.Xu h.Xu (X14 m.X0)∧Fu m.Xr h.Xr 0∧Fu m.W0 h.Xr 1∧¬(m.X0=1∧((m.Xd.length:Nat):Int)>4096) ∧
  ¬(¬h.Xe=true∧m.Xe≠[])∧¬(¬h.Xd=true∧((m.Xd.length:Nat):Int)>0)∧¬(¬h.X3=true∧m.X3≠Ya)∧Ev m h
theorem lo_is (k:Int):(Yh k).Wu=X26 k∧(Yh k).V6=X14 k∧((Xk k).Xt=true→(Yh k).Vi=maxB k (Xk k))∧(¬(Xk k).Xt=true→maxB k (Xk k)=0):=by
  rcases kinds k with h|h|h|h|h|h|h|h|h|h|h|h
  case inr.inr.inr.inr.inr.inr.inr.inr.inr.inr.inr =>
    rw [Xb8 h,Xje h]
    unfold okK at h
    refine ⟨?_,?_,(fun q=>by cases q),fun _=>?_⟩
    · unfold X26;rw [if_neg (by omega),if_neg (by omega)]
    · unfold X14;rw [if_neg (by omega),if_neg (by omega),if_neg (by omega)]
    · unfold maxB;rw [if_neg (by omega)];rfl
  all_goals (subst h;decide +kernel)
theorem Xd9 {s:J6} {f n lo:Int} {b:Bool} (h:I8 s.Vp f=0↔¬b=true):inM s f n lo 1099511627776↔Fu n b lo:=by
  unfold inM Fu
  by_cases q:b=true
  · rw [if_neg (fun w=>h.1 w q),if_pos q]
  · rw [if_pos (h.2 q),if_neg q];omega
theorem in_len {s:J6} {f:Int} {n:Nat} {hi:Int} {b:Bool} (h:I8 s.Vp f=0↔¬b=true) (hh:b=true→(n:Int)≤hi):inM s f (n:Nat) 0 hi↔¬(¬b=true∧(n:Int)>0):=by
  unfold inM
  by_cases q:b=true
  · rw [if_neg (fun w=>h.1 w q)];exact ⟨fun _ w=>w.1 q,fun _=>⟨Int.natCast_nonneg _,hh q⟩⟩
  · rw [if_pos (h.2 q)];exact ⟨(fun w v=>by have:=v.2;omega),fun w=>⟨Int.natCast_nonneg _,Int.not_lt.1 (fun v=>w ⟨q,v⟩)⟩⟩
theorem Xhu {s:J6} {f:Int} {n:Nat} {hi:Int} {b:Bool} (h:I8 s.Vp f=0↔¬b=true):inM s f (n:Nat) 0 hi↔(n:Int)≤if b=true then hi else 0:=by
  unfold inM
  by_cases q:b=true
  · rw [if_neg (fun w=>h.1 w q),if_pos q];omega
  · rw [if_pos (h.2 q),if_neg q];omega
theorem Wx (m:aM):Fg m↔wellR m (Xk m.X0):=by
  obtain ⟨e1,e2,e3,e4,e5,e6,e7,e8,e9⟩:=Xjy (X8i m.X0)
  obtain ⟨l1,l2,l3,l4⟩:=lo_is m.X0
  have hB:inM (Yh m.X0) 64 (m.Xt.length:Nat) 0 (Yh m.X0).Vi↔((m.Xt.length:Nat):Int)≤maxB m.X0 (Xk m.X0):=by
    rw [Xhu e7]
    split
    · rw [l3 (by assumption)]
    · rw [l4 (by assumption)]
  have hC:inM (Yh m.X0) 256 (m.X5.length:Nat) 0 8↔¬(¬(Xk m.X0).X5=true∧((m.X5.length:Nat):Int)>0)∧((m.X5.length:Nat):Int)≤8:=by
    rw [Xhu e9]
    split
    · rename_i q;exact ⟨fun w=>⟨fun v=>v.1 q,w⟩,fun w=>w.2⟩
    · rename_i q;exact ⟨fun w=>⟨(fun v=>by have:=v.2;omega),by omega⟩,fun w=>Int.not_lt.1 (fun v=>w.1 ⟨q,v⟩)⟩
  have hD:inM (Yh m.X0) 8 (m.Xe.length:Nat) 0 (m.Xe.length:Nat)↔¬(¬(Xk m.X0).Xe=true∧m.Xe≠[]):=by
    rw [in_len e4 (fun _=>Int.le_refl _)]
    have:((m.Xe.length:Nat):Int)>0↔m.Xe≠[]:=by
      rw [← List.length_pos_iff];omega
    rw [this]
  have hP:=Xhu (n:=m.Y8.length) (hi:=8) e8
  have hV:=Xd9 (n:=m.Y9) (lo:=(Yh m.X0).Wu) e1
  have hS:=Xd9 (n:=m.Xu) (lo:=(Yh m.X0).V6) e2
  have hA:=in_len (n:=m.Xd.length) (hi:=((m.Xd.length:Nat):Int)) e5 (fun _=>Int.le_refl _)
  have hR:(I8 (Yh m.X0).Vp 32≠0∨m.X3=Ya)↔¬(¬(Xk m.X0).X3=true∧m.X3≠Ya):=by
    rw [Ne,e6,Classical.not_not]
    constructor
    · rintro (w|w) v
      · exact v.1 w
      · exact v.2 w
    · intro w
      by_cases q:(Xk m.X0).X3=true
      · exact .inl q
      · exact .inr (Classical.byContradiction fun v=>w ⟨q,v⟩)
  unfold Fg wellR Ev maxP
  rw [hB,hC,hD,hP,hV,hS,hA,hR,Xd9 e3,Xd9 e3,l1,l2]
  constructor
  · rintro ⟨a1,a2,a3,a4,a5,a6,a7,⟨a8,a9⟩,a10,a11,a12,a13,a14,a15⟩
    exact ⟨a1,a2,a3,a4,a5,fun w=>by rcases a13 with q|q<;>omega,a10,a11,a12,a6,a7,fun w=>by rcases a14 with q|q<;>omega,a8,a9,a15⟩
  · rintro ⟨a1,a2,a3,a4,a5,a6,a7,a8,a9,b1,b2,b3,b4,b5,b6⟩
    exact ⟨a1,a2,a3,a4,a5,b1,b2,⟨b4,b5⟩,a7,a8,a9,by omega,by omega,b6⟩
end Go.Proofs.YtnaopgohccacmaaGreat.Q
namespace Go.Proofs.YtnaopgohccacmaaGreat.Q
set_option linter.unusedVariables false
set_option linter.unusedSimpArgs false
section
variable {P:Program} {bs:Base}
theorem H5 {s:St} (s':St) {x y:Code} {Q:Exit→Act→World→Prop} (h1:T P bs s x (Exit.then (fun a w=>Gs bs s' a w) Q)) (h2:T P bs s' y Q):T P bs s (.seq x y) Q:=by
  refine T.seq fun a w hG b k cs=>?_
  obtain ⟨e,a',w',hq,harr⟩:=h1 a w hG b k cs
  refine ⟨e,a',w',?_,harr⟩
  cases e with
  | normal=>exact h2 a' w' hq
  | _=>exact hq
theorem nJ {s:St} {Q:Exit→Act→World→Prop}:Ends bs s .normal (Exit.then (fun a w=>Gs bs s a w) Q):=fun a w h=>h
end
end Go.Proofs.YtnaopgohccacmaaGreat.Q
namespace Go.Proofs.YtnaopgohccacmaaGreat.Q
open Go Go.RowKit
set_option linter.unusedVariables false
set_option linter.unusedSimpArgs false
set_option maxRecDepth 100000
set_option maxHeartbeats 4000000
theorem X93 (ta:Bool) (na:Bool) (tb:Bool) (nb:Bool) (a:List UInt8) (b:List UInt8):Holds Tryz.prog 23 ⟨[slV ta na kU8 a,slV tb nb kU8 b],[],vB (decide (a=b)),[]⟩:=by
 refine Holds.of Tryz.func23 rfl (N:=10) Tryz.ntmps23 rfl fun w0 B0 S0 U0=>?_
 show T _ (Y2 10 0 w0 S0 U0 B0) ⟨[slV ta na kU8 a,slV tb nb kU8 b],[]⟩ _ _
 refine sR [] (sR [hR 1 rfl rfl (Fj () a (ys:=(.d (dsl ta na kU8 a))) (rhs:=[]) Tryz.underlying25 Tryz.underlying5 Tryz.underlying9 (Uv ta na kU8 a) (X2 rfl) trivial),hR 3 rfl rfl (Fj () b (ys:=(.d (dsl tb nb kU8 b))) (rhs:=[]) Tryz.underlying25 Tryz.underlying5 Tryz.underlying9 (Uv tb nb kU8 b) (X2 rfl) trivial)] (T.ret ?_))
 exact eRt 4 (.one (dB (decide (a=b)))) [] rfl trivial
theorem Jh:Tryz.prog.info? 5=some Tryz.t5:=by kernel_rfl
theorem Iu:Zero Tryz.prog 5 [.int .u8 0]:=⟨_,_,Jh,rfl,rfl⟩
theorem Jb:Elem Tryz.prog 25 5 1 1:=⟨Tryz.underlying25,_,_,Jh,rfl,rfl,rfl,rfl,by decide⟩
theorem E4 (ta:Bool) (na:Bool) (a:List UInt8) (hp:a.length≤140737488355328):Holds Tryz.prog 51 ⟨[slV ta na kU8 a],[],Xx 0 kU8 0 a.length,[.live (Xc 5 kU8 a)]⟩:=by
 refine Holds.of Tryz.func51 rfl (N:=8) Tryz.ntmps51 rfl fun w0 B0 S0 U0=>?_
 show T _ (Y2 8 0 w0 S0 U0 B0) ⟨[slV ta na kU8 a],[]⟩ _ _
 cases na
 ·refine X86 (k:=0) rfl (fun h0=>?_) ?_
  ·have h0:=List.eq_nil_of_length_eq_zero h0
   subst h0
   show T _ _ ⟨[dv (.slice none 0 0)],[]⟩ _ _
   refine sR [] (T.seq (sR [hR 1 rfl rfl (Yb (u1:=.slice none 0 0) (u2:=.slice none 0 0) (v:=.bool true) (X30 Tryz.underlying25) (X2 rfl) ⟨rfl,trivial⟩)] (cT (b:=true) rfl (sR [] (T.ret (rT ?_))))))
   refine eN ⟨[dv (.slice none 0 0),aa,dv (.slice none 0 0),aa,vB true],[]⟩ ?_
   refine Xa (s':=⟨[dv (.slice none 0 0),aa,Xx 0 kU8 0 0,aa,vB true],[.live (Xc 5 kU8 ([]:List UInt8))]⟩) (fun _ _ hG=>Vs 0 2 5 kU8 rfl rfl hG) ?_
   exact eRt 2 (.one (.own 0 kU8.sz 0 0)) [0] p2c (ix trivial)
  show T _ _ ⟨[slV ta true kU8 a],[]⟩ _ _
  refine sR [] (T.seq (sR [hR 1 rfl rfl (Ef (s:=.d (dsl ta true kU8 a)) Tryz.underlying25 (.inl rfl) (X2 rfl) ⟨rfl,trivial⟩)] (cF (b:=false) rfl (T.skip (nT ?_)))))
  refine sR [hR 0 rfl rfl (Y7 0 5 kU8 Vk ([]:List UInt8) [] (cs:=[]) Tryz.underlying25 Jh rfl Iu rfl rfl rfl pb W3 pZ4 (V2 pZ4) (X2 rfl) trivial),hR 2 rfl rfl (Yv 0 1 5 1 kU8 Vk ([]:List UInt8) a a ([]:List UInt8).length (sy:=(.d (dsl ta true kU8 a))) (rhs:=[]) Jb (by omega) (Uv ta true kU8 a) (by simp) (by (simp [maxLen,-List.getD_eq_getElem?_getD]<;>omega)) (by (simp [maxLen,-List.getD_eq_getElem?_getD]<;>omega)) (X2 rfl) trivial)] ?_
  refine T.ret ?_
  exact eRt 2 (.one (.own 1 kU8.sz 0 a.length)) [1] rfl (ix trivial)
 refine sR [] (T.seq (sR [hR 1 rfl rfl (Ef (s:=.d (dsl ta true kU8 a)) Tryz.underlying25 (.inl rfl) (X2 rfl) ⟨rfl,trivial⟩)] (cF (b:=false) rfl (T.skip (nT ?_)))))
 refine sR [hR 0 rfl rfl (Y7 0 5 kU8 Vk ([]:List UInt8) [] (cs:=[]) Tryz.underlying25 Jh rfl Iu rfl rfl rfl pb W3 pZ4 (V2 pZ4) (X2 rfl) trivial),hR 2 rfl rfl (Yv 0 1 5 1 kU8 Vk ([]:List UInt8) a a ([]:List UInt8).length (sy:=(.d (dsl ta true kU8 a))) (rhs:=[]) Jb (by omega) (Uv ta true kU8 a) (by simp) (by (simp [maxLen,-List.getD_eq_getElem?_getD]<;>omega)) (by (simp [maxLen,-List.getD_eq_getElem?_getD]<;>omega)) (X2 rfl) trivial)] ?_
 refine T.ret ?_
 exact eRt 2 (.one (.own 1 kU8.sz 0 a.length)) [1] rfl (ix trivial)
theorem Ut:Tryz.prog.info? 3=some Tryz.t3:=by kernel_rfl
theorem Xlm (f:Int) (u:Int):Holds Tryz.prog 34 ⟨[vI f,vI u],[],pv 0 0,[.live (.box 130 [dI (3*(fOf f)+1),dI (cOf u),.mref 1]),.live (mpK Xp Yc ([]:List (Yg×Bool)))]⟩:=by
 refine Holds.of Tryz.func34 rfl (N:=16) Tryz.ntmps34 rfl fun w0 B0 S0 U0=>?_
 show T _ (Y2 16 0 w0 S0 U0 B0) ⟨[vI f,vI u],[]⟩ _ _
 refine sR [] (sR [hR 1 rfl rfl (X3h (k:=.i64) (a:=f) (b:=0) (X2 rfl) ⟨rfl,trivial⟩),hR 2 rfl rfl (X9b (k:=.i64) (a:=max f 0) (b:=2) (X2 rfl) ⟨rfl,trivial⟩),hR 3 rfl rfl (Yb (u1:=.int .i64 3) (u2:=.int .i64 (min (max f 0) 2)) (v:=.int .i64 (3*(min (max f 0) 2))) (Xc8 pZ9) (X2 rfl) ⟨rfl,trivial⟩),hR 4 rfl rfl (Yb (u1:=.int .i64 (3*(min (max f 0) 2))) (u2:=.int .i64 1) (v:=.int .i64 ((3*(min (max f 0) 2))+1)) (Wb pZ9) (X2 rfl) ⟨rfl,trivial⟩),hR 6 rfl rfl (X3h (k:=.i64) (a:=u) (b:=0) (X2 rfl) ⟨rfl,trivial⟩),hR 7 rfl rfl (X9b (k:=.i64) (a:=max u 0) (b:=8) (X2 rfl) ⟨rfl,trivial⟩),hR 8 rfl rfl (Xbi 0 Xp Yc (X2 rfl))] (T.ret ?_))
 exact eRt 4 (.one (.ptr 1 0)) [1,0] rfl ⟨⟨rfl,(by have e1:((3*(min (max f 0) 2))+1:Int)=3*(fOf f)+1:=(by rfl);have e2:(min (max u 0) 8:Int)=(cOf u):=(by rfl);have hE:=congr (congrArg (fun (q1:Int) (q2:Int)=>(.live (.box 130 [dI q1,dI q2,.mref 0]):HS)) e1) e2;exact Eq.trans pZ4 hE)⟩,(ix trivial)⟩
theorem X1a:Wide Tryz.prog 3 none:=⟨_,Tryz.underlying3,(fun _ h=>by cases h),(fun _ _ h=>by cases h)⟩
theorem Xdt (f:Int) (u:Int) (rows:List (Yg×Bool)) (hf:0≤f∧f≤2) (hu:0≤u∧u≤8):Holds Tryz.prog 82 ⟨[pv 0 0],[.box 130 [dI (3*f+1),dI u,.mref 1],mpK Xp Yc rows],vI (3*f+1),[.live (.box 130 [dI (3*f+1),dI u,.mref 1]),.live (mpK Xp Yc rows)]⟩:=by
 refine Holds.of Tryz.func82 rfl (N:=9) Tryz.ntmps82 rfl fun w0 B0 S0 U0=>?_
 show T _ (Y2 9 2 w0 S0 U0 B0) ⟨[pv 0 0],[.live (.box 130 [dI (3*f+1),dI u,.mref 1]),.live (mpK Xp Yc rows)]⟩ _ _
 refine sR [] (T.seq (sR [] (cF (b:=false) rfl (T.skip (nT (sR [] (T.ret ?_)))))))
 exact eRt 2 (.one (dI (3*f+1))) [0,1] rfl (ix (ix trivial))
theorem authn_F (f:Int) (u:Int) (rows:List (Yg×Bool)) (hf:0≤f∧f≤2) (hu:0≤u∧u≤8):Holds Tryz.prog 83 ⟨[pv 0 0],[.box 130 [dI (3*f+1),dI u,.mref 1],mpK Xp Yc rows],vI f,[.live (.box 130 [dI (3*f+1),dI u,.mref 1]),.live (mpK Xp Yc rows)]⟩:=by
 refine Holds.of Tryz.func83 rfl (N:=6) Tryz.ntmps83 rfl fun w0 B0 S0 U0=>?_
 show T _ (Y2 6 2 w0 S0 U0 B0) ⟨[pv 0 0],[.live (.box 130 [dI (3*f+1),dI u,.mref 1]),.live (mpK Xp Yc rows)]⟩ _ _
 refine sR [] (sR [hR 1 rfl rfl (rCa (Xdt f u rows ‹_› ‹_›) Tryz.func82 [0,1] [(.tmp 3,pv 0 0)] 2 2),hR 2 rfl rfl (Yb (u1:=.int .i64 (3*f+1)) (u2:=.int .i64 3) (v:=.int .i64 ((3*f+1) / 3)) (b_quoP (by omega) (by omega) pZ9) (X2 rfl) ⟨rfl,trivial⟩)] (T.ret ?_))
 exact eRt 2 (.one (dI ((3*f+1) / 3))) [0,1] (cI (by omega)) (ix (ix trivial))
theorem Xay (f:Int) (u:Int) (rows:List (Yg×Bool)) (hf:0≤f∧f≤2) (hu:0≤u∧u≤8):Holds Tryz.prog 152 ⟨[pv 0 0],[.box 130 [dI (3*f+1),dI u,.mref 1],mpK Xp Yc rows],vI u,[.live (.box 130 [dI (3*f+1),dI u,.mref 1]),.live (mpK Xp Yc rows)]⟩:=by
 refine Holds.of Tryz.func152 rfl (N:=9) Tryz.ntmps152 rfl fun w0 B0 S0 U0=>?_
 show T _ (Y2 9 2 w0 S0 U0 B0) ⟨[pv 0 0],[.live (.box 130 [dI (3*f+1),dI u,.mref 1]),.live (mpK Xp Yc rows)]⟩ _ _
 refine sR [] (T.seq (sR [] (cF (b:=false) rfl (T.skip (nT (sR [] (T.ret ?_)))))))
 exact eRt 2 (.one (dI u)) [0,1] rfl (ix (ix trivial))
theorem X5h (f:Int) (u:Int) (rows:List (Yg×Bool)) (hf:0≤f∧f≤2) (hu:0≤u∧u≤8):Holds Tryz.prog 33 ⟨[pv 0 0],[.box 130 [dI (3*f+1),dI u,.mref 1],mpK Xp Yc rows],vI (2*f+1),[.live (.box 130 [dI (3*f+1),dI u,.mref 1]),.live (mpK Xp Yc rows)]⟩:=by
 refine Holds.of Tryz.func33 rfl (N:=8) Tryz.ntmps33 rfl fun w0 B0 S0 U0=>?_
 show T _ (Y2 8 2 w0 S0 U0 B0) ⟨[pv 0 0],[.live (.box 130 [dI (3*f+1),dI u,.mref 1]),.live (mpK Xp Yc rows)]⟩ _ _
 refine sR [] (sR [hR 1 rfl rfl (rCa (Xdt f u rows ‹_› ‹_›) Tryz.func82 [0,1] [(.tmp 3,pv 0 0)] 2 2),hR 3 rfl rfl (rCa (authn_F f u rows ‹_› ‹_›) Tryz.func83 [0,1] [(.tmp 5,pv 0 0)] 2 2),hR 4 rfl rfl (Yb (u1:=.int .i64 (3*f+1)) (u2:=.int .i64 f) (v:=.int .i64 ((3*f+1)-f)) (Vy pZ9) (X2 rfl) trivial)] (T.ret ?_))
 exact eRt 2 (.one (dI ((3*f+1)-f))) [0,1] (cI (by omega)) (ix (ix trivial))
theorem Xds (f:Int) (u:Int) (rows:List (Yg×Bool)) (s:Int) (hf:0≤f∧f≤2) (hu:0≤u∧u≤8) (hs:-9223372036854775808≤s∧s≤9223372036854775807):Holds Tryz.prog 123 ⟨[pv 0 0,vI s],[.box 130 [dI (3*f+1),dI u,.mref 1],mpK Xp Yc rows],vB (decide (Ii u s)),[.live (.box 130 [dI (3*f+1),dI u,.mref 1]),.live (mpK Xp Yc rows)]⟩:=by
 refine Holds.of Tryz.func123 rfl (N:=14) Tryz.ntmps123 rfl fun w0 B0 S0 U0=>?_
 show T _ (Y2 14 2 w0 S0 U0 B0) ⟨[pv 0 0,vI s],[.live (.box 130 [dI (3*f+1),dI u,.mref 1]),.live (mpK Xp Yc rows)]⟩ _ _
 refine sR [] ?_
 by_cases hq1:s≥1000
 ·refine sR [hY 3 (dT hq1),hS 4 (oY rfl rfl rfl rfl (X2 rfl) (dT hq1) (Yb (u1:=.int .i64 s) (u2:=.int .i64 1000) (v:=.int .i64 (s-1000)) (Vy pZ9) (X2 rfl) ⟨rfl,trivial⟩)),hY 5 (dT hq1),hS 6 (oY rfl rfl rfl rfl (X2 rfl) (dT hq1) (rCa (Xay f u rows ‹_› ‹_›) Tryz.func152 [0,1] [(.tmp 10,pv 0 0)] 2 2)),hY 7 (dT hq1),hP 8 (dT hq1)] (T.ret ?_)
  exact eRt 4 (.one (dB (decide ((s-1000)<u)))) [0,1] p45 (ix (ix trivial))
 refine sR (Xl (hN · true (dF hq1)) [3,4,5,6,7] (hP 8 (dF hq1)::[])) (T.ret ?_)
 exact eRt 4 (.one (dB false)) [0,1] p4m (ix (ix trivial))
theorem I6 (f:Int) (u:Int) (rows:List (Yg×Bool)) (s:Int) (hf:0≤f∧f≤2) (hu:0≤u∧u≤8):Holds Tryz.prog 79 ⟨[pv 0 0,vI s],[.box 130 [dI (3*f+1),dI u,.mref 1],mpK Xp Yc rows],vB (decide (Yz f s)),[.live (.box 130 [dI (3*f+1),dI u,.mref 1]),.live (mpK Xp Yc rows)]⟩:=by
 refine Holds.of Tryz.func79 rfl (N:=13) Tryz.ntmps79 rfl fun w0 B0 S0 U0=>?_
 show T _ (Y2 13 2 w0 S0 U0 B0) ⟨[pv 0 0,vI s],[.live (.box 130 [dI (3*f+1),dI u,.mref 1]),.live (mpK Xp Yc rows)]⟩ _ _
 refine sR [] ?_
 by_cases hq1:s≥0
 ·refine sR [hY 3 (dT hq1),hY 4 (dT hq1),hS 5 (oY rfl rfl rfl rfl (X2 rfl) (dT hq1) (rCa (Xdt f u rows ‹_› ‹_›) Tryz.func82 [0,1] [(.tmp 9,pv 0 0)] 2 2)),hY 6 (dT hq1),hP 7 (dT hq1)] (T.ret ?_)
  exact eRt 4 (.one (dB (decide (s<(3*f+1))))) [0,1] p41 (ix (ix trivial))
 refine sR (Xl (hN · true (dF hq1)) [3,4,5,6] (hP 7 (dF hq1)::[])) (T.ret ?_)
 exact eRt 4 (.one (dB false)) [0,1] p4l (ix (ix trivial))
theorem X6y (f:Int) (u:Int) (rows:List (Yg×Bool)) (s:Int) (hf:0≤f∧f≤2) (hu:0≤u∧u≤8) (hs:-9223372036854775808≤s∧s≤9223372036854775807):Holds Tryz.prog 68 ⟨[pv 0 0,vI s],[.box 130 [dI (3*f+1),dI u,.mref 1],mpK Xp Yc rows],vB (decide (Uq f u s)),[.live (.box 130 [dI (3*f+1),dI u,.mref 1]),.live (mpK Xp Yc rows)]⟩:=by
 refine Holds.of Tryz.func68 rfl (N:=13) Tryz.ntmps68 rfl fun w0 B0 S0 U0=>?_
 show T _ (Y2 13 2 w0 S0 U0 B0) ⟨[pv 0 0,vI s],[.live (.box 130 [dI (3*f+1),dI u,.mref 1]),.live (mpK Xp Yc rows)]⟩ _ _
 refine sR [] ?_
 by_cases hq1:Yz f s
 ·refine sR (hR 2 rfl rfl (rCa (I6 f u rows s ‹_› ‹_›) Tryz.func79 [0,1] [(.tmp 5,pv 0 0),(.tmp 6,vI s)] 2 2)::(Xl (hN · false (dT hq1)) [4,5,6] (hP 7 (dT hq1)::[]))) (T.ret ?_)
  exact eRt 4 (.one (dB true)) [0,1] p3p (ix (ix trivial))
 refine sR [hR 2 rfl rfl (rCa (I6 f u rows s ‹_› ‹_›) Tryz.func79 [0,1] [(.tmp 5,pv 0 0),(.tmp 6,vI s)] 2 2),hY 4 (dF hq1),hY 5 (dF hq1),hS 6 (oY rfl rfl rfl rfl (X2 rfl) (dF hq1) (rCa (Xds f u rows s ‹_› ‹_› ‹_›) Tryz.func123 [0,1] [(.tmp 9,pv 0 0),(.tmp 10,vI s)] 2 2)),hP 7 (dF hq1)] (T.ret ?_)
 exact eRt 4 (.one (dB (decide (Ii u s)))) [0,1] p3g (ix (ix trivial))
theorem Vv:Tryz.prog.info? 43=some Tryz.t43:=by kernel_rfl
theorem E7:Zero Tryz.prog 43 [.int .i64 0,.slice none 0 0]:=⟨_,_,Vv,rfl,rfl⟩
theorem Vw:Tryz.prog.info? 25=some Tryz.t25:=by kernel_rfl
theorem E9:Wide Tryz.prog 43 (some 2):=⟨_,_,Tryz.underlying43,.inl ⟨_,rfl⟩,Vv,rfl⟩
section
variable (f:Int) (u:Int) (s:Int) (tb:Bool) (nb:Bool) (b:List UInt8)
end
end Go.Proofs.YtnaopgohccacmaaGreat.Q
