import Derived.Test.YtnaopgohccacmaaGreatC19n27
namespace Go.Proofs.YtnaopgohccacmaaGreat.Q
set_option linter.unusedVariables false
set_option linter.unusedSimpArgs false
set_option maxRecDepth 100000
def F1 (h:Nat→Int):Nat→Int
  | 0=>0
  | n+1=>if F1 h n≠0 then F1 h n else h n
theorem Xck {h:Nat→Int}:∀ {n:Nat},(∀ j,j<n→h j=0)→F1 h n=0
  | 0,_=>rfl
  | n+1,q=>by
    have:=Xck (h:=h) (n:=n) fun j hj=>q j (by omega)
    rw [F1,this]
    simp only [ne_eq,not_true,if_false]
    exact q n (by omega)
theorem Xes {h:Nat→Int} {k:Nat} (q:∀ j,j<k→h j=0) (hk:h k≠0):∀ {n:Nat},k<n→F1 h n=h k
  | 0,hn=>absurd hn (Nat.not_lt_zero _)
  | n+1,hn=>by
    by_cases e:k=n
    · subst e
      rw [F1,Xck q]
      simp
    · have:=Xes q hk (n:=n) (by omega)
      rw [F1,this,if_pos hk]
section
variable (C:aE→Int) (f:Int)
def opE (e:aE) (k:Int):Int:=if C e≠0 then C e else if X0o e.Xd≠0 then 120 else if (Wn e.Xd).X1≠k then 120 else 0
def opV (e:aE) (k:Int):aM:=if opE C e k=0 then Wn e.Xd else zM
def opR (e:aE):Int:=if C e≠0 then C e else if X0o e.Xd≠0 then 120 else 0
def orV (e:aE):aM:=if opR C e=0 then Wn e.Xd else zM
def vtE (e:aE) (k:Int):Int:=if opE C e k≠0 then opE C e k else if k≠3∧k≠4∧k≠5 then 120 else if ¬V0 f e.X5 then 30 else 0
def vtV (e:aE) (k:Int):aM:=if vtE C f e k=0 then Wn e.Xd else zM
end
section
variable {C:aE→Int} {f:Int} {e:aE} {k:Int}
theorem op_of {x:Int} (h:opE C e k=x) (hx:x≠0):opV C e k=zM∧opE C e k=x:=⟨if_neg (by rw [h];exact hx),h⟩
theorem op_c (h:C e≠0):opV C e k=zM∧opE C e k=C e:=op_of (if_pos h) h
theorem op_d (h:¬C e≠0) (h1:X0o e.Xd≠0):opV C e k=zM∧opE C e k=120:=op_of ((if_neg h).trans (if_pos h1)) (by decide)
theorem op_k (h:¬C e≠0) (h1:¬X0o e.Xd≠0) (h2:(Wn e.Xd).X1≠k):opV C e k=zM∧opE C e k=120:=op_of ((if_neg h).trans ((if_neg h1).trans (if_pos h2))) (by decide)
theorem op_ok (h:¬C e≠0) (h1:¬X0o e.Xd≠0) (h2:¬(Wn e.Xd).X1≠k):opV C e k=Wn e.Xd∧opE C e k=0:=by
  have:opE C e k=0:=(if_neg h).trans ((if_neg h1).trans (if_neg h2))
  exact ⟨if_pos this,this⟩
theorem or_c (h:C e≠0):orV C e=zM∧opR C e=C e:=by
  have:opR C e=C e:=if_pos h
  exact ⟨if_neg (by rw [this];exact h),this⟩
theorem or_d (h:¬C e≠0) (h1:X0o e.Xd≠0):orV C e=zM∧opR C e=120:=by
  have:opR C e=120:=(if_neg h).trans (if_pos h1)
  exact ⟨if_neg (by rw [this];decide),this⟩
theorem or_ok (h:¬C e≠0) (h1:¬X0o e.Xd≠0):orV C e=Wn e.Xd∧opR C e=0:=by
  have:opR C e=0:=(if_neg h).trans (if_neg h1)
  exact ⟨if_pos this,this⟩
end
section
variable {C:aE→Int} {f:Int} {e:aE} {k:Int}
theorem op_val (h:¬opE C e k≠0):opV C e k=Wn e.Xd:=if_pos (Classical.not_not.1 h)
theorem or_op (C:aE→Int) (e:aE) (k:Int):(opR C e≠0→opE C e k=opR C e)∧(¬opR C e≠0→(Wn e.Xd).X1≠k→opE C e k=120)∧(¬opR C e≠0→¬(Wn e.Xd).X1≠k→opE C e k=0∧orV C e=Wn e.Xd):=by
  unfold opR opE orV
  by_cases h:C e≠0
  · exact ⟨fun _=>by rw [if_pos h,if_pos h],fun q=>absurd (by rw [if_pos h];exact h) q,fun q=>absurd (by rw [if_pos h];exact h) q⟩
  · by_cases h1:X0o e.Xd≠0
    · exact ⟨fun _=>by rw [if_neg h,if_pos h1,if_neg h,if_pos h1],fun q=>absurd (by rw [if_neg h,if_pos h1];decide) q,fun q=>absurd (by rw [if_neg h,if_pos h1];decide) q⟩
    · have e0:(if C e≠0 then C e else if X0o e.Xd≠0 then 120 else 0)=(0:Int):=by rw [if_neg h,if_neg h1]
      refine ⟨fun q=>absurd e0 q,fun _ q=>by rw [if_neg h,if_neg h1,if_pos q],fun _ q=>⟨by rw [if_neg h,if_neg h1,if_neg q],?_⟩⟩
      have e1:opR C e=0:=e0
      exact if_pos e1
theorem or_val (h:¬opR C e≠0):orV C e=Wn e.Xd:=if_pos (Classical.not_not.1 h)
theorem vt_of {x:Int} (h:vtE C f e k=x) (hx:x≠0):vtV C f e k=zM∧vtE C f e k=x:=⟨if_neg (by rw [h];exact hx),h⟩
theorem vt_o (h:opE C e k≠0):vtV C f e k=zM∧vtE C f e k=opE C e k:=vt_of (if_pos h) h
theorem vt_k (h:¬opE C e k≠0) (h1:k≠3) (h2:k≠4) (h3:k≠5):vtV C f e k=zM∧vtE C f e k=120:=vt_of ((if_neg h).trans (if_pos ⟨h1,h2,h3⟩)) (by decide)
theorem vt_s (h:¬opE C e k≠0) (h1:¬(k≠3∧k≠4∧k≠5)) (h2:¬V0 f e.X5):vtV C f e k=zM∧vtE C f e k=30:=vt_of ((if_neg h).trans ((if_neg h1).trans (if_pos h2))) (by decide)
theorem Xak (h:¬opE C e k≠0) (h1:¬(k≠3∧k≠4∧k≠5)) (h2:V0 f e.X5):vtV C f e k=Wn e.Xd∧vtE C f e k=0:=by
  have:vtE C f e k=0:=(if_neg h).trans ((if_neg h1).trans (if_neg (fun q=>q h2)))
  exact ⟨if_pos this,this⟩
end
def X03 (l:List aE) (j:Nat):Prop:=∃ i,i<j∧(l.getD i zE).X5=(l.getD j zE).X5
instance (l:List aE) (j:Nat):Decidable (X03 l j):=inferInstanceAs (Decidable (∃ i,i<j∧_))
def Fx (l:List aE) (k:Nat):List (Int×Bool):=(l.take k).foldl (fun t e=>mput t e.X5 true) []
def X02 (g:aE→Int) (l:List aE) (j:Nat):Int:=if g (l.getD j zE)≠0 then g (l.getD j zE) else if X03 l j then 33 else 0
def X55 (g:aE→Int) (l:List aE) (need:Int):Int:=if F1 (X02 g l) l.length≠0 then F1 (X02 g l) l.length else if ((l.length:Nat):Int)<need then 32 else 0
def X0g (seq:Int) (d:List UInt8) (m:aM):Int:=if m.Xs≠seq then 131 else if m.X9≠d then 132 else 0
def gS (C:aE→Int) (f:Int) (seq:Int) (d:List UInt8) (e:aE):Int:=if vtE C f e 5≠0 then vtE C f e 5 else X0g seq d (Wn e.Xd)
def Uq (l:List aE):List UInt8:=(Wn (l.getD 0 zE).Xd).X9
def stE (C:aE→Int) (f:Int) (seq:Int) (l:List aE):Int:=if seq=0 then (if ((l.length:Nat):Int)>0 then 120 else 0) else X55 (gS C f seq (Uq l)) l (max 1 (2*f+1))
def stD (C:aE→Int) (f:Int) (seq:Int) (l:List aE):List UInt8:=if seq≠0∧stE C f seq l=0 then Uq l else []
section
variable {g:aE→Int} {x:List aE} {k:Nat} {need:Int}
theorem X68 (h:g (x.getD k zE)≠0):X02 g x k=g (x.getD k zE):=if_pos h
theorem vot_2 (h:¬g (x.getD k zE)≠0) (h2:X03 x k):X02 g x k=33:=(if_neg h).trans (if_pos h2)
theorem vot_3 (h:¬g (x.getD k zE)≠0) (h2:¬X03 x k):X02 g x k=0:=(if_neg h).trans (if_neg h2)
theorem Ec {E:Int} (need:Int) (hb:∀ i,i<k→X02 g x i=0) (h:X02 g x k=E) (hE:E≠0) (hk:k<x.length):X55 g x need=E:=by
  have e:=Xes hb (by rw [h];exact hE) hk
  unfold X55
  rw [e,h,if_pos hE]
theorem tly_0 (need:Int) (hb:∀ i,i<k→X02 g x i=0) (hk:x.length≤k):X55 g x need=if ((x.length:Nat):Int)<need then 32 else 0:=by
  have e:F1 (X02 g x) x.length=0:=Xck fun i hi=>hb i (by omega)
  unfold X55
  rw [e,if_neg (by simp)]
end
section
variable {C:aE→Int} {f:Int} {e:aE} {p:aM} {kind pre:Int}
theorem vt_val (h:¬vtE C f e kind≠0):vtV C f e kind=Wn e.Xd:=if_pos (Classical.not_not.1 h)
theorem gS_1 {seq:Int} {d:List UInt8} (h:vtE C f e 5≠0):gS C f seq d e=vtE C f e 5:=if_pos h
theorem gS_2 {seq:Int} {d:List UInt8} (h:¬vtE C f e 5≠0):gS C f seq d e=X0g seq d (vtV C f e 5):=by rw [vt_val h];exact if_neg h
end
section
variable {C:aE→Int} {f:Int} {c:aC} {kind need:Int}
end
def X9k (C:aE→Int) (f:Int) (x:List aE):List UInt8:=if 0<x.length∧vtE C f (x.getD 0 zE) 5=0 then Uq x else []
def fstF (C:aE→Int) (f:Int) (x:List aE):Bool:=!decide (0<x.length∧vtE C f (x.getD 0 zE) 5=0)
section
variable {C:aE→Int} {f seq:Int} {d:List UInt8} {x:List aE} {k:Nat}
def Fr (x:List aE) (k:Nat):List UInt8:=if k=0 then [] else Uq x
def X0k (k:Nat):Bool:=decide (k=0)
theorem Xfr (hb:∀ i,i<k→X02 (gS C f seq d) x i=0) (hk:0<k):vtE C f (x.getD 0 zE) 5=0:=by
  have h:=hb 0 hk
  refine Classical.byContradiction fun q=>?_
  have hg:=gS_1 (seq:=seq) (d:=d) q
  rw [X68 (by rw [hg];exact q),hg] at h
  exact q h
theorem Xh3 (hb:∀ i,i<k→X02 (gS C f seq d) x i=0) (hk:k≤x.length) (h:x.length≤k∨vtE C f (x.getD k zE) 5≠0):Fr x k=X9k C f x∧X0k k=fstF C f x:=by
  unfold Fr X9k X0k fstF
  by_cases h0:k=0
  · subst h0
    have hn:¬(0<x.length∧vtE C f (x.getD 0 zE) 5=0):=fun q=>h.elim (fun w=>by omega) (fun w=>w q.2)
    rw [if_pos rfl,if_neg hn]
    exact ⟨rfl,by simp only [decide_eq_false hn];rfl⟩
  · have hy:0<x.length∧vtE C f (x.getD 0 zE) 5=0:=⟨by omega,Xfr hb (by omega)⟩
    rw [if_neg h0,if_pos hy]
    exact ⟨rfl,by rw [decide_eq_false h0,decide_eq_true hy];rfl⟩
def digN (C:aE→Int) (f:Int) (x:List aE) (k:Nat):List UInt8:=if X0k k=true then (vtV C f (x.getD k zE) 5).X9 else Fr x k
theorem X9j (hb:∀ i,i<k→X02 (gS C f seq d) x i=0) (hk:k<x.length) (h:¬vtE C f (x.getD k zE) 5≠0):digN C f x k=Uq x∧X9k C f x=Uq x∧fstF C f x=false∧Fr x (k+1)=Uq x∧X0k (k+1)=false:=by
  have h0:vtE C f (x.getD 0 zE) 5=0:=by
    by_cases q:k=0
    · subst q;exact Classical.not_not.1 h
    · exact Xfr hb (by omega)
  have hy:0<x.length∧vtE C f (x.getD 0 zE) 5=0:=⟨by omega,h0⟩
  refine ⟨?_,if_pos hy,?_,if_neg (by omega),decide_eq_false (by omega)⟩
  · unfold digN X0k Fr
    by_cases q:k=0
    · subst q
      rw [if_pos (by decide),vt_val h];rfl
    · rw [if_neg (by simp [q]),if_neg q]
  · unfold fstF;rw [decide_eq_true hy];rfl
end
theorem Xim {h:Nat→Int}:∀ {n:Nat},F1 h n=0→∀ j,j<n→h j=0
  | 0,_,j,hj=>absurd hj (Nat.not_lt_zero _)
  | n+1,q,j,hj=>by
    rw [F1] at q
    split at q
    · rename_i w;exact absurd q w
    · rename_i w
      rcases Nat.lt_or_ge j n with hlt|hge
      · exact Xim (Classical.not_not.1 w) j hlt
      · rw [show j=n by omega];exact q
section
variable {C:aE→Int} {f seq:Int} {x:List aE}
theorem st_0 (h:seq=0) (h1:((x.length:Nat):Int)>0):stD C f seq x=[]∧stE C f seq x=120:=⟨if_neg (fun q=>q.1 h),(if_pos h).trans (if_pos h1)⟩
theorem st_1 (h:seq=0) (h1:¬((x.length:Nat):Int)>0):stD C f seq x=[]∧stE C f seq x=0:=⟨if_neg (fun q=>q.1 h),(if_pos h).trans (if_neg h1)⟩
theorem st_t {E:Int} (h:¬seq=0) (h1:X55 (gS C f seq (Uq x)) x (max 1 (2*f+1))=E) (hE:E≠0):stD C f seq x=[]∧stE C f seq x=E:=by
  have e:stE C f seq x=E:=(if_neg h).trans h1
  exact ⟨if_neg (fun q=>hE (e ▸ q.2)),e⟩
theorem st_ok (h:¬seq=0) (h1:X55 (gS C f seq (Uq x)) x (max 1 (2*f+1))=0):stD C f seq x=X9k C f x∧stE C f seq x=0∧X9k C f x=Uq x:=by
  have e:stE C f seq x=0:=(if_neg h).trans h1
  have hd:stD C f seq x=Uq x:=if_pos ⟨h,e⟩
  unfold X55 at h1
  split at h1
  · rename_i w;exact absurd h1 w
  · rename_i w
    split at h1
    · cases h1
    · rename_i w2
      have hl:0<x.length:=by omega
      have h0:=Xfr (k:=x.length) (Xim (Classical.not_not.1 w)) hl
      have hf:X9k C f x=Uq x:=if_pos ⟨hl,h0⟩
      exact ⟨hd.trans hf.symm,e,hf⟩
end
def okEnv (e:aE):Prop:=Ek e.X5∧e.Xd.length≤16777216
def X16 (l:List aE):Prop:=l.length≤31∧∀ e,e∈l→okEnv e
theorem Xhu (M:Int) (r:List UInt8) (e:Int):∀ k,∀ x,x∈(Vl M r e k).l→Ek x.X5∧x.Xd.length≤r.length
  | 0=>fun x hx=>by cases hx
  | k+1=>fun x hx=>by
    have hl:=(Fh M r e k).1
    have hx:x∈(Vl M r e k).l++[evV M (Vl M r e k).rest (Vl M r e k).e]:=hx
    rw [List.mem_append,List.mem_singleton] at hx
    rcases hx with h|h
    · exact Xhu M r e k x h
    · subst h
      exact ⟨Xjn _ _,Nat.le_trans (X0c _ _ _) (Nat.le_trans (U3 _ _ _ _) hl)⟩
def okEn (n:Nat) (l:List aE):Prop:=l.length≤15∧∀ e,e∈l→Ek e.X5∧e.Xd.length≤n
theorem finL_ok {M:Int} {r:List UInt8} {e:Int} {n:Nat} (h:r.length≤n):okEn n (Up M r e).l:=⟨(Ex M r e).2,fun x hx=>by have:=Xhu M r e _ x hx;exact ⟨this.1,by omega⟩⟩
theorem Xj9 {M N:Int} {n:Nat} {s:RdM} (h:okEn n s.m.Xp) (hl:s.rest.length≤n) (j:Nat):okEn n (V5 M N s j).m.Xp:=by
  rcases (by omega:j=0∨j=1∨j=2∨j=3∨j=4∨j=5∨j=6∨j=7∨j=8∨9≤j) with q|q|q|q|q|q|q|q|q|q
  case inr.inr.inr.inr.inr.inr.inl=>subst q;exact finL_ok hl
  case inr.inr.inr.inr.inr.inr.inr.inr.inr=>obtain ⟨i,rfl⟩:∃ i,j=i+9:=⟨j-9,by omega⟩;exact h
  all_goals (subst q;exact h)
theorem X88 (M N:Int) (r:List UInt8) (e k:Int):∀ j,okEn r.length (Xv M N r e k j).m.Xp
  | 0=>⟨Nat.zero_le _,fun x hx=>by cases hx⟩
  | j+1=>by
    rw [Xv]
    split
    · exact Xj9 (X88 M N r e k j) (Er _ _ _ _ _ _) j
    · exact X88 M N r e k j
theorem Xf6 (b:List UInt8):X16 (Wn b).Xp:=by
  unfold Wn decW
  split
  · rename_i h
    have hl:=h.1
    have hr:=U3 b 0 8 0
    obtain ⟨h1,h2⟩:=X88 ((b.length:Nat):Int) 16777216 (rdR b 0 8 0) (rdE b 0 8 0) (rdI b 0) 9
    exact ⟨Nat.le_trans h1 (by decide),fun e he=>⟨(h2 e he).1,by have:=(h2 e he).2;omega⟩⟩
  · exact ⟨Nat.zero_le _,fun x hx=>by cases hx⟩
theorem envs_le {l:List aE} {n:Nat} (h:∀ e,e∈l→e.Xd.length≤n):(E8 l).length≤l.length*(12+n):=by
  induction l with
  | nil=>simp [E8]
  | cons e r ih =>
    have h1:=ih fun x hx=>h x (List.mem_cons_of_mem _ hx)
    have h2:=h e (List.mem_cons_self ..)
    rw [show E8 (e::r)=Ih e++E8 r from rfl,List.length_append,Xcn,List.length_cons,Nat.succ_mul]
    omega
theorem Xi9 {l:List aE} (h:X16 l):(E8 l).length≤520094068:=by
  have h1:=envs_le fun e he=>(h.2 e he).2
  have h2:=Nat.mul_le_mul_right (12+16777216) h.1
  omega
theorem X90 {l:List aE} (h:X16 l) {k:Nat} (hk:k<l.length):okEnv (l.getD k zE):=h.2 _ (J3 hk)
theorem mget_put {l:List (Int×Bool)} {k k':Int} {v z:Bool}:mget (mput l k v) k' z=if k=k' then v else mget l k' z:=by
  induction l with
  | nil=>simp only [mput,mget]
  | cons e r ih =>
    simp only [mput]
    by_cases h:e.1=k
    · subst h
      simp only [if_pos,mget]
      split<;>rfl
    · simp only [if_neg h,mget,ih]
      by_cases h2:e.1=k'
      · subst h2
        rw [if_pos rfl,if_pos rfl,if_neg (fun q=>h q.symm)]
      · rw [if_neg h2,if_neg h2]
theorem Xat {l:List aE} {k:Nat} (hk:k<l.length):Fx l (k+1)=mput (Fx l k) (l.getD k zE).X5 true:=by
  unfold Fx
  rw [Ho (z:=zE) hk,List.foldl_append]
  rfl
theorem Xde {l:List aE} {s:Int}:∀ {k:Nat},k≤l.length→(mget (Fx l k) s false=true↔∃ i,i<k∧(l.getD i zE).X5=s)
  | 0,_=>⟨pZv,fun ⟨i,h,_⟩=>absurd h (Nat.not_lt_zero _)⟩
  | k+1,hk=>by
    rw [Xat (by omega),mget_put]
    split
    · rename_i h;exact ⟨fun _=>⟨k,by omega,h⟩,fun _=>rfl⟩
    · rename_i h
      rw [Xde (k:=k) (by omega)]
      exact ⟨fun ⟨i,h1,h2⟩=>⟨i,by omega,h2⟩,fun ⟨i,h1,h2⟩=>⟨i,by rcases Nat.lt_or_ge i k with q|q;exact q;exact absurd (by rw [← h2,show i=k by omega]) h,h2⟩⟩
theorem X81 {l:List aE} {k:Nat} (hk:k≤l.length):mget (Fx l k) (l.getD k zE).X5 false=true↔X03 l k:=Xde hk
end Go.Proofs.YtnaopgohccacmaaGreat.Q
namespace Go.Proofs.YtnaopgohccacmaaGreat.Q
open Go Go.RowKit
set_option linter.unusedVariables false
set_option linter.unusedSimpArgs false
set_option maxRecDepth 100000
set_option maxHeartbeats 4000000
section
variable (f:Int) (u:Int) (rows:List (Yl×Bool)) (te:Bool) (e:aE) (k:Int)
abbrev Zgd:List SV:=[dI e.X5,.d (dsl te false kU8 e.Xd)]
abbrev Zge:HS:=.live (.box 130 [dI (3*f+1),dI u,.mref 1])
abbrev Zgf:HS:=.live (mpK Xx Yg rows)
abbrev Zgg:List AV:=[pv 0 0,.tv (.agg (Zgd te e)),vI k,aa,pv 2 0,aa,pv 3 0,vI (Y5 f u rows e),vI (Y5 f u rows e),aa,aa,aa,aa,aa,aa,vB (decide ((Y5 f u rows e)≠0))]
abbrev Zgh:SV:=.d (.val (.slice none 0 0))
abbrev Zgi:HS:=.live (.box 78 [dI 0,dI 0,dI 0,dI 0,dI 0,dS [],Zgh,dI 0,dI 0,Zgh,Zgh,Zgh])
abbrev Zgj:SV:=dU ([]:List UInt8)
abbrev Zgk:SV:=.d (dsl false false (kE false) ([]:List aE))
abbrev Zgl:SV:=.d (dsl false false (kC false) ([]:List aC))
abbrev Zgm:List SV:=[dI 0,dI 0,dI 0,dI 0,dI 0,dS [],Zgj,dI 0,dI 0,Zgk,Zgk,Zgl]
abbrev Zgn:List AV:=[pv 0 0,.tv (.agg (Zgd te e)),vI k,aa,pv 2 0,aa,pv 3 0,vI 120,vI (Y5 f u rows e),pv 4 0,vI (X0o e.Xd),aa,aa,aa,aa,vB (decide ((Y5 f u rows e)≠0)),aa,aa,aa,aa,aa,aa,aa,aa,aa,aa,aa,aa,aa,aa,aa,vB true]
abbrev Zgo:List SV:=[dI (Wn e.Xd).X1,dI (Wn e.Xd).Y1,dI (Wn e.Xd).Xs,dI (Wn e.Xd).Xh,dI (Wn e.Xd).Yh,dS (Wn e.Xd).X9,dU (Wn e.Xd).Xc,dI (Wn e.Xd).X0.Xt,dI (Wn e.Xd).X0.Xn,.d (dsl false false (kE false) (Wn e.Xd).Xp),.d (dsl false false (kE false) (Wn e.Xd).Y4),.d (dsl false false (kC false) (Wn e.Xd).X6)]
abbrev Zgp:List HS:=[(Zge f u),(Zgf rows),.live (.box 43 (Zgd te e)),Zgi,.live (.box 78 (Zgo e))]
abbrev Zgq:List AV:=[pv 0 0,.tv (.agg (Zgd te e)),vI k,aa,pv 2 0,aa,pv 3 0,vI 120,vI (Y5 f u rows e),pv 4 0,vI (X0o e.Xd),aa,aa,aa,aa,vB (decide ((Y5 f u rows e)≠0)),aa,aa,aa,aa,aa,aa,aa,aa,aa,aa,aa,aa,aa,aa,aa,vB (decide ((Wn e.Xd).X1≠k))]
end
theorem Xkk (f:Int) (u:Int) (rows:List (Yl×Bool)) (te:Bool) (e:aE) (k:Int) (hf:0≤f∧f≤2) (hu:0≤u∧u≤8) (hs:-9223372036854775808≤e.X5∧e.X5≤9223372036854775807) (hb:e.Xd.length≤100000000):Holds Tryz.prog 173 ⟨[pv 0 0,.tv (.agg [dI e.X5,.d (dsl te false kU8 e.Xd)]),vI k],[.box 130 [dI (3*f+1),dI u,.mref 1],mpK Xx Yg rows],.tup [.agg [dI (opV (Y5 f u rows) e k).X1,dI (opV (Y5 f u rows) e k).Y1,dI (opV (Y5 f u rows) e k).Xs,dI (opV (Y5 f u rows) e k).Xh,dI (opV (Y5 f u rows) e k).Yh,dS (opV (Y5 f u rows) e k).X9,dU (opV (Y5 f u rows) e k).Xc,dI (opV (Y5 f u rows) e k).X0.Xt,dI (opV (Y5 f u rows) e k).X0.Xn,.d (dsl false false (kE false) (opV (Y5 f u rows) e k).Xp),.d (dsl false false (kE false) (opV (Y5 f u rows) e k).Y4),.d (dsl false false (kC false) (opV (Y5 f u rows) e k).X6)],.one (dI (opE (Y5 f u rows) e k))],[.live (.box 130 [dI (3*f+1),dI u,.mref 1]),.live (mpK Xx Yg rows)]⟩:=by
 refine Holds.of Tryz.func173 rfl (N:=34) Tryz.ntmps173 rfl fun w0 B0 S0 U0=>?_
 show T _ (Y2 34 2 w0 S0 U0 B0) ⟨[pv 0 0,.tv (.agg (Zgd te e)),vI k],[(Zge f u),(Zgf rows)]⟩ _ _
 refine sR [] (T.seq (sR [hR 2 rfl rfl (rCa (Xfj f u rows te e ‹_› ‹_› ‹_›) Tryz.func186 [0,1] [(.tmp 11,pv 0 0),(.tmp 12,.tv (.agg (Zgd te e)))] 2 2)] (sR [] ?_)))
 by_cases hq1:(Y5 f u rows e)≠0
 ·have hx9:=op_c (C:=(Y5 f u rows)) (k:=k) hq1
  refine cT (dT hq1) (sR [] (T.ret (rT ?_)))
  refine eN ⟨(Zgg f u rows te e k),[(Zge f u),(Zgf rows),.live (.box 43 (Zgd te e)),Zgi]⟩ ?_
  refine X7 (s':=⟨(Zgg f u rows te e k),[(Zge f u),(Zgf rows),.live (.box 43 (Zgd te e)),.live (.box 78 Zgm)]⟩) (fun _ _ hG=>Yt (s:=⟨(Zgg f u rows te e k),[(Zge f u),(Zgf rows),.live (.box 43 (Zgd te e)),Zgi]⟩) (X3o trivial) ⟨.inl rfl,(kk2 ⟨pp,trivial⟩)⟩ hG) ?_
  exact eX [.c 6 3 78 0 78 [dI 0,dI 0,dI 0,dI 0,dI 0,dS [],Zgj,dI 0,dI 0,Zgk,Zgk,Zgl] (.agg Zgm),.t 7 (.one (dI (Y5 f u rows e)))] ⟨⟨rfl,rfl,by kernel_rfl,by kernel_rfl,.inl ⟨12,Ws,rfl,Nat.le_of_ble_eq_true rfl⟩⟩,⟨⟨rfl,by kernel_rfl⟩,trivial⟩⟩ [0,1] pZ2 (ix (ix trivial))
 refine cF (dF hq1) (T.skip (nT (sR [hR 2 rfl rfl (rCa (Xgp te false e.Xd (by omega)) Tryz.func187 [] [(.tmp 20,slV te false kU8 e.Xd)] 0 0)] (T.seq ?_))))
 by_cases hq2:(X0o e.Xd)≠0
 ·have hx9:=op_d (C:=(Y5 f u rows)) (k:=k) ‹_› hq2
  refine sR (Xm (hN · false (dT hq2)) [3,4,5,6] (hP 7 (dT hq2)::[])) (cT (b:=true) rfl (sR [] (T.ret (rT ?_))))
  refine eN ⟨(Zgn f u rows te e k),(Zgp f u rows te e)⟩ ?_
  refine X7 (s':=⟨(Zgn f u rows te e k),[(Zge f u),(Zgf rows),.live (.box 43 (Zgd te e)),.live (.box 78 Zgm),.live (.box 78 (Zgo e))]⟩) (fun _ _ hG=>Yt (s:=⟨(Zgn f u rows te e k),(Zgp f u rows te e)⟩) (X3n trivial) ⟨.inl rfl,p1k⟩ hG) ?_
  exact eX [.c 6 3 78 0 78 [dI 0,dI 0,dI 0,dI 0,dI 0,dS [],Zgj,dI 0,dI 0,Zgk,Zgk,Zgl] (.agg Zgm),.t 7 (.one (dI 120))] ⟨⟨rfl,rfl,by kernel_rfl,by kernel_rfl,.inl ⟨12,Ws,rfl,Nat.le_of_ble_eq_true rfl⟩⟩,⟨⟨rfl,by kernel_rfl⟩,trivial⟩⟩ [0,1] pZ2 (ix (ix trivial))
 refine sR (Xm (hY · (dF hq2)) [3,4,5,6] (hP 7 (dF hq2)::[])) ?_
 by_cases hq3:(Wn e.Xd).X1≠k
 ·have hx9:=op_k (C:=(Y5 f u rows)) ‹_› ‹_› hq3
  refine cT (dT hq3) (sR [] (T.ret (rT ?_)))
  refine eN ⟨(Zgq f u rows te e k),(Zgp f u rows te e)⟩ ?_
  refine X7 (s':=⟨(Zgq f u rows te e k),[(Zge f u),(Zgf rows),.live (.box 43 (Zgd te e)),.live (.box 78 Zgm),.live (.box 78 (Zgo e))]⟩) (fun _ _ hG=>Yt (s:=⟨(Zgq f u rows te e k),(Zgp f u rows te e)⟩) (X3n trivial) ⟨.inl rfl,p1k⟩ hG) ?_
  exact eX [.c 6 3 78 0 78 [dI 0,dI 0,dI 0,dI 0,dI 0,dS [],Zgj,dI 0,dI 0,Zgk,Zgk,Zgl] (.agg Zgm),.t 7 (.one (dI 120))] ⟨⟨rfl,rfl,by kernel_rfl,by kernel_rfl,.inl ⟨12,Ws,rfl,Nat.le_of_ble_eq_true rfl⟩⟩,⟨⟨rfl,by kernel_rfl⟩,trivial⟩⟩ [0,1] pZ2 (ix (ix trivial))
 have hx9:=op_ok (C:=(Y5 f u rows)) ‹_› ‹_› hq3
 refine cF (dF hq3) (T.skip (nT (sR [] (T.ret ?_))))
 exact eX [.c 6 3 78 0 78 [dI (Wn e.Xd).X1,dI (Wn e.Xd).Y1,dI (Wn e.Xd).Xs,dI (Wn e.Xd).Xh,dI (Wn e.Xd).Yh,dS (Wn e.Xd).X9,dU (Wn e.Xd).Xc,dI (Wn e.Xd).X0.Xt,dI (Wn e.Xd).X0.Xn,.d (dsl false false (kE false) (Wn e.Xd).Xp),.d (dsl false false (kE false) (Wn e.Xd).Y4),.d (dsl false false (kC false) (Wn e.Xd).X6)] (.agg (Zgo e)),.t 7 (.one (dI 0))] ⟨⟨rfl,rfl,by kernel_rfl,by kernel_rfl,.inl ⟨12,Ws,rfl,Nat.le_of_ble_eq_true rfl⟩⟩,⟨⟨rfl,by kernel_rfl⟩,trivial⟩⟩ [0,1] pZ2 (ix (ix trivial))
section
variable (f:Int) (u:Int) (l:List aE) (e:aE)
abbrev Zgr:List SV:=[dI e.X5,dU e.Xd]
abbrev Zgs:HS:=.live (.box 135 [dB true,dI f,dI u,.own 1 (kE false).sz 0 l.length])
abbrev Zgt:HS:=.live (Xf 43 (kE false) l)
abbrev Zgu:List AV:=[pv 0 0,.tv (.agg (Zgr e)),aa,pv 2 0,pv 3 0,vI (Xw f u l e),vI (Xw f u l e),aa,aa,aa,aa,aa,vB (decide ((Xw f u l e)≠0))]
abbrev Zgv:SV:=.d (.val (.slice none 0 0))
abbrev Zgw:HS:=.live (.box 78 [dI 0,dI 0,dI 0,dI 0,dI 0,dS [],Zgv,dI 0,dI 0,Zgv,Zgv,Zgv])
abbrev Zgx:SV:=dU ([]:List UInt8)
abbrev Zgy:SV:=.d (dsl false false (kE false) ([]:List aE))
abbrev Zgz:SV:=.d (dsl false false (kC false) ([]:List aC))
abbrev Zh0:List SV:=[dI 0,dI 0,dI 0,dI 0,dI 0,dS [],Zgx,dI 0,dI 0,Zgy,Zgy,Zgz]
abbrev Zh1:List AV:=[pv 0 0,.tv (.agg (Zgr e)),aa,pv 2 0,pv 3 0,vI 120,vI (X0o e.Xd),pv 4 0,aa,aa,aa,aa,vB (decide ((Xw f u l e)≠0)),aa,aa,aa,aa,aa,aa,aa,aa,aa,vB (decide ((X0o e.Xd)≠0))]
abbrev Zh2:List SV:=[dI (Wn e.Xd).X1,dI (Wn e.Xd).Y1,dI (Wn e.Xd).Xs,dI (Wn e.Xd).Xh,dI (Wn e.Xd).Yh,dS (Wn e.Xd).X9,dU (Wn e.Xd).Xc,dI (Wn e.Xd).X0.Xt,dI (Wn e.Xd).X0.Xn,.d (dsl false false (kE false) (Wn e.Xd).Xp),.d (dsl false false (kE false) (Wn e.Xd).Y4),.d (dsl false false (kC false) (Wn e.Xd).X6)]
end
theorem Xg2 (f:Int) (u:Int) (l:List aE) (e:aE) (hf:0≤f∧f≤2) (hu:0≤u∧u≤8) (hl:l.length≤9223372036854775806) (hs:-9223372036854775808≤e.X5∧e.X5≤9223372036854775807) (hb:e.Xd.length≤100000000):Holds Tryz.prog 150 ⟨[pv 0 0,.tv (.agg [dI e.X5,dU e.Xd])],[.box 135 [dB true,dI f,dI u,.own 1 (kE false).sz 0 l.length],Xf 43 (kE false) l],.tup [.agg [dI (orV (Xw f u l) e).X1,dI (orV (Xw f u l) e).Y1,dI (orV (Xw f u l) e).Xs,dI (orV (Xw f u l) e).Xh,dI (orV (Xw f u l) e).Yh,dS (orV (Xw f u l) e).X9,dU (orV (Xw f u l) e).Xc,dI (orV (Xw f u l) e).X0.Xt,dI (orV (Xw f u l) e).X0.Xn,.d (dsl false false (kE false) (orV (Xw f u l) e).Xp),.d (dsl false false (kE false) (orV (Xw f u l) e).Y4),.d (dsl false false (kC false) (orV (Xw f u l) e).X6)],.one (dI (opR (Xw f u l) e))],[.live (.box 135 [dB true,dI f,dI u,.own 1 (kE false).sz 0 l.length]),.live (Xf 43 (kE false) l)]⟩:=by
 refine Holds.of Tryz.func150 rfl (N:=25) Tryz.ntmps150 rfl fun w0 B0 S0 U0=>?_
 show T _ (Y2 25 2 w0 S0 U0 B0) ⟨[pv 0 0,.tv (.agg (Zgr e))],[(Zgs f u l),(Zgt l)]⟩ _ _
 refine sR [] (sR [hR 2 rfl rfl (rCa (Xds f u l false e ‹_› ‹_› ‹_› ‹_›) Tryz.func171 [0,1] [(.tmp 8,pv 0 0),(.tmp 9,.tv (.agg (Zgr e)))] 2 2)] (T.seq (sR [] ?_)))
 by_cases hq1:(Xw f u l e)≠0
 ·have hx9:=or_c (C:=(Xw f u l)) hq1
  refine cT (dT hq1) (sR [] (T.ret (rT ?_)))
  refine eN ⟨(Zgu f u l e),[(Zgs f u l),(Zgt l),.live (.box 43 (Zgr e)),Zgw]⟩ ?_
  refine X7 (s':=⟨(Zgu f u l e),[(Zgs f u l),(Zgt l),.live (.box 43 (Zgr e)),.live (.box 78 Zh0)]⟩) (fun _ _ hG=>Yt (s:=⟨(Zgu f u l e),[(Zgs f u l),(Zgt l),.live (.box 43 (Zgr e)),Zgw]⟩) ⟨.inl rfl,p3o⟩ ⟨.inl rfl,(kk2 ⟨pp,trivial⟩)⟩ hG) ?_
  exact eX [.c 4 3 78 0 78 [dI 0,dI 0,dI 0,dI 0,dI 0,dS [],Zgx,dI 0,dI 0,Zgy,Zgy,Zgz] (.agg Zh0),.t 5 (.one (dI (Xw f u l e)))] ⟨⟨rfl,rfl,by kernel_rfl,by kernel_rfl,.inl ⟨12,Ws,rfl,Nat.le_of_ble_eq_true rfl⟩⟩,⟨⟨rfl,by kernel_rfl⟩,trivial⟩⟩ [0,1] pZ2 (ix (ix trivial))
 refine cF (dF hq1) (T.skip (nT (sR [hR 2 rfl rfl (rCa (Xbv e.Xd (by omega)) Tryz.func172 [] [(.tmp 17,slV false false kU8 e.Xd)] 0 0)] (T.seq (sR [] ?_)))))
 by_cases hq2:(X0o e.Xd)≠0
 ·have hx9:=or_d (C:=(Xw f u l)) ‹_› hq2
  refine cT (dT hq2) (sR [] (T.ret (rT ?_)))
  refine eN ⟨(Zh1 f u l e),[(Zgs f u l),(Zgt l),.live (.box 43 (Zgr e)),Zgw,.live (.box 78 (Zh2 e))]⟩ ?_
  refine X7 (s':=⟨(Zh1 f u l e),[(Zgs f u l),(Zgt l),.live (.box 43 (Zgr e)),.live (.box 78 Zh0),.live (.box 78 (Zh2 e))]⟩) (fun _ _ hG=>Yt (s:=⟨(Zh1 f u l e),[(Zgs f u l),(Zgt l),.live (.box 43 (Zgr e)),Zgw,.live (.box 78 (Zh2 e))]⟩) ⟨.inl rfl,p3i⟩ ⟨.inl rfl,p1k⟩ hG) ?_
  exact eX [.c 4 3 78 0 78 [dI 0,dI 0,dI 0,dI 0,dI 0,dS [],Zgx,dI 0,dI 0,Zgy,Zgy,Zgz] (.agg Zh0),.t 5 (.one (dI 120))] ⟨⟨rfl,rfl,by kernel_rfl,by kernel_rfl,.inl ⟨12,Ws,rfl,Nat.le_of_ble_eq_true rfl⟩⟩,⟨⟨rfl,by kernel_rfl⟩,trivial⟩⟩ [0,1] pZ2 (ix (ix trivial))
 have hx9:=or_ok (C:=(Xw f u l)) ‹_› hq2
 refine cF (dF hq2) (T.skip (nT (sR [] (T.ret ?_))))
 exact eX [.c 4 3 78 0 78 [dI (Wn e.Xd).X1,dI (Wn e.Xd).Y1,dI (Wn e.Xd).Xs,dI (Wn e.Xd).Xh,dI (Wn e.Xd).Yh,dS (Wn e.Xd).X9,dU (Wn e.Xd).Xc,dI (Wn e.Xd).X0.Xt,dI (Wn e.Xd).X0.Xn,.d (dsl false false (kE false) (Wn e.Xd).Xp),.d (dsl false false (kE false) (Wn e.Xd).Y4),.d (dsl false false (kC false) (Wn e.Xd).X6)] (.agg (Zh2 e)),.t 5 (.one (dI 0))] ⟨⟨rfl,rfl,by kernel_rfl,by kernel_rfl,.inl ⟨12,Ws,rfl,Nat.le_of_ble_eq_true rfl⟩⟩,⟨⟨rfl,by kernel_rfl⟩,trivial⟩⟩ [0,1] pZ2 (ix (ix trivial))
section
variable (tl:Bool) (nl:Bool) (sl_:Bool) (l:List aE) (k:Nat)
end
section
variable (tl:Bool) (nl:Bool) (sl_:Bool) (l:List aE) (k:Nat)
end
section
variable (f:Int) (u:Int) (rows:List (Yl×Bool)) (te:Bool) (e:aE)
end
section
variable (f:Int) (u:Int) (l:List aE) (e:aE)
end
section
variable (f:Int) (u:Int) (rows:List (Yl×Bool)) (tx:Bool) (nx:Bool) (sx:Bool) (x:List aE) (k:Nat)
end
section
variable (x:List aE) (f:Int) (u:Int) (l:List aE) (k:Nat)
end
section
variable (f:Int) (u:Int) (rows:List (Yl×Bool)) (te:Bool) (e:aE)
end
section
variable (f:Int) (u:Int) (rows:List (Yl×Bool)) (te:Bool) (e:aE) (k:Int)
abbrev Ziz:List SV:=[dI e.X5,.d (dsl te false kU8 e.Xd)]
abbrev Zj0:HS:=.live (.box 130 [dI (3*f+1),dI u,.mref 1])
abbrev Zj1:List AV:=[pv 0 0,.tv (.agg (Ziz te e)),vI k,aa,pv 2 0,aa,pv 3 0,vI (opE (Y5 f u rows) e k),pv 4 0,vI (opE (Y5 f u rows) e k),aa,aa,aa,aa,aa,aa,aa,vB (decide ((opE (Y5 f u rows) e k)≠0))]
abbrev Zj2:SV:=.d (.val (.slice none 0 0))
abbrev Zj3:=(opV (Y5 f u rows) e k)
abbrev Zj4:List SV:=[dI (Zj3 f u rows e k).X1,dI (Zj3 f u rows e k).Y1,dI (Zj3 f u rows e k).Xs,dI (Zj3 f u rows e k).Xh,dI (Zj3 f u rows e k).Yh,dS (Zj3 f u rows e k).X9,dU (Zj3 f u rows e k).Xc,dI (Zj3 f u rows e k).X0.Xt,dI (Zj3 f u rows e k).X0.Xn,.d (dsl false false (kE false) (Zj3 f u rows e k).Xp),.d (dsl false false (kE false) (Zj3 f u rows e k).Y4),.d (dsl false false (kC false) (Zj3 f u rows e k).X6)]
abbrev Zj5:List HS:=[(Zj0 f u),.live (mpK Xx Yg rows),.live (.box 43 (Ziz te e)),.live (.box 78 [dI 0,dI 0,dI 0,dI 0,dI 0,dS [],Zj2,dI 0,dI 0,Zj2,Zj2,Zj2]),.live (.box 78 (Zj4 f u rows e k))]
abbrev Zj6:SV:=dU ([]:List UInt8)
abbrev Zj7:SV:=.d (dsl false false (kE false) ([]:List aE))
abbrev Zj8:SV:=.d (dsl false false (kC false) ([]:List aC))
abbrev Zj9:List SV:=[dI 0,dI 0,dI 0,dI 0,dI 0,dS [],Zj6,dI 0,dI 0,Zj7,Zj7,Zj8]
abbrev Zja:List HS:=[(Zj0 f u),.live (mpK Xx Yg rows),.live (.box 43 (Ziz te e)),.live (.box 78 Zj9),.live (.box 78 (Zj4 f u rows e k))]
abbrev Zjb:List AV:=[pv 0 0,.tv (.agg (Ziz te e)),vI k,aa,pv 2 0,aa,pv 3 0,vI 120,pv 4 0,vI (opE (Y5 f u rows) e k),aa,aa,aa,aa,aa,aa,aa,vB (decide ((opE (Y5 f u rows) e k)≠0)),aa,aa,aa,aa,vB (decide (k≠5))]
abbrev Zjc:TV:=.one (dI 0)
abbrev Zjd:List AV:=[pv 0 0,.tv (.agg (Ziz te e)),vI k,aa,pv 2 0,aa,pv 3 0,vI 30,pv 4 0,vI (opE (Y5 f u rows) e k),aa,aa,aa,aa,aa,aa,aa,vB (decide ((opE (Y5 f u rows) e k)≠0)),aa,aa,aa,aa,vB (decide (k≠5)),aa,aa,aa,aa,aa,aa,aa,aa,aa,aa,aa,vB (!(decide (V0 f e.X5)))]
abbrev Zje:List AV:=[pv 0 0,.tv (.agg (Ziz te e)),vI k,aa,pv 2 0,aa,pv 3 0,vI 30,pv 4 0,vI (opE (Y5 f u rows) e k),aa,aa,aa,aa,aa,aa,aa,vB (decide ((opE (Y5 f u rows) e k)≠0)),aa,aa,aa,aa,vB false,aa,aa,aa,aa,aa,aa,aa,aa,aa,aa,aa,vB (!(decide (V0 f e.X5)))]
end
theorem Xkl (f:Int) (u:Int) (rows:List (Yl×Bool)) (te:Bool) (e:aE) (k:Int) (hf:0≤f∧f≤2) (hu:0≤u∧u≤8) (hs:-9223372036854775808≤e.X5∧e.X5≤9223372036854775807) (hb:e.Xd.length≤100000000):Holds Tryz.prog 151 ⟨[pv 0 0,.tv (.agg [dI e.X5,.d (dsl te false kU8 e.Xd)]),vI k],[.box 130 [dI (3*f+1),dI u,.mref 1],mpK Xx Yg rows],.tup [.agg [dI (vtV (Y5 f u rows) f e k).X1,dI (vtV (Y5 f u rows) f e k).Y1,dI (vtV (Y5 f u rows) f e k).Xs,dI (vtV (Y5 f u rows) f e k).Xh,dI (vtV (Y5 f u rows) f e k).Yh,dS (vtV (Y5 f u rows) f e k).X9,dU (vtV (Y5 f u rows) f e k).Xc,dI (vtV (Y5 f u rows) f e k).X0.Xt,dI (vtV (Y5 f u rows) f e k).X0.Xn,.d (dsl false false (kE false) (vtV (Y5 f u rows) f e k).Xp),.d (dsl false false (kE false) (vtV (Y5 f u rows) f e k).Y4),.d (dsl false false (kC false) (vtV (Y5 f u rows) f e k).X6)],.one (dI (vtE (Y5 f u rows) f e k))],[.live (.box 130 [dI (3*f+1),dI u,.mref 1]),.live (mpK Xx Yg rows)]⟩:=by
 refine Holds.of Tryz.func151 rfl (N:=42) Tryz.ntmps151 rfl fun w0 B0 S0 U0=>?_
 show T _ (Y2 42 2 w0 S0 U0 B0) ⟨[pv 0 0,.tv (.agg (Ziz te e)),vI k],[(Zj0 f u),.live (mpK Xx Yg rows)]⟩ _ _
 refine sR [] (sR [hR 3 rfl rfl (rCa (Xkk f u rows te e k ‹_› ‹_› ‹_› ‹_›) Tryz.func173 [0,1] [(.tmp 11,pv 0 0),(.tmp 12,.tv (.agg (Ziz te e))),(.tmp 13,vI k)] 2 2)] (T.seq (T.block (sR [] ?_))))
 by_cases hq1:(opE (Y5 f u rows) e k)≠0
 ·have ho9:=hq1;have hx9:=vt_o (f:=f) ho9
  refine cT (dT hq1) (sR [] (T.ret (rB (rT ?_))))
  refine eN ⟨(Zj1 f u rows te e k),(Zj5 f u rows te e k)⟩ ?_
  refine X7 (s':=⟨(Zj1 f u rows te e k),(Zja f u rows te e k)⟩) (fun _ _ hG=>Yt (s:=⟨(Zj1 f u rows te e k),(Zj5 f u rows te e k)⟩) p58 ⟨.inl rfl,p1k⟩ hG) ?_
  exact eX [.c 6 3 78 0 78 [dI 0,dI 0,dI 0,dI 0,dI 0,dS [],Zj6,dI 0,dI 0,Zj7,Zj7,Zj8] (.agg Zj9),.t 7 (.one (dI (opE (Y5 f u rows) e k)))] ⟨⟨rfl,rfl,by kernel_rfl,by kernel_rfl,.inl ⟨12,Ws,rfl,Nat.le_of_ble_eq_true rfl⟩⟩,⟨⟨rfl,by kernel_rfl⟩,trivial⟩⟩ [0,1] pZ2 (ix (ix trivial))
 have ho9:¬opE (Y5 f u rows) e k≠0:=hq1;have hv9:=op_val ho9;have hbo:=Xf6 e.Xd;rw [← hv9] at hbo;have hbl:=Xi9 hbo
 refine cF (dF hq1) ?_
 by_cases hq2:k≠3
 rotate_left
 ·have hk3:¬(k≠3∧k≠4∧k≠5):=(fun q=>hq2 q.1)
  refine sR [hN 3 true (dF hq2),hN 4 true (dF hq2),hP 5 (dF hq2),hN1 7,hN1 8,hP0 9] (cF (b:=false) rfl (sR [hR 3 rfl rfl (rCa (Ix f u rows e.X5 ‹_› ‹_›) Tryz.func79 [0,1] [(.tmp 35,pv 0 0),(.tmp 37,vI e.X5)] 2 2)] ?_))
  by_cases hq7:V0 f e.X5
  ·have hx9:=Xak ho9 hk3 hq7
   refine cF (cn (dT hq7)) (T.skip (nB (nT (sR [] (T.ret ?_)))))
   exact eX [.c 6 3 78 0 78 [dI (Zj3 f u rows e k).X1,dI (Zj3 f u rows e k).Y1,dI (Zj3 f u rows e k).Xs,dI (Zj3 f u rows e k).Xh,dI (Zj3 f u rows e k).Yh,dS (Zj3 f u rows e k).X9,dU (Zj3 f u rows e k).Xc,dI (Zj3 f u rows e k).X0.Xt,dI (Zj3 f u rows e k).X0.Xn,.d (dsl false false (kE false) (Zj3 f u rows e k).Xp),.d (dsl false false (kE false) (Zj3 f u rows e k).Y4),.d (dsl false false (kC false) (Zj3 f u rows e k).X6)] (.agg (Zj4 f u rows e k)),.t 7 (Zjc)] ⟨⟨rfl,rfl,by kernel_rfl,by kernel_rfl,.inl ⟨12,Ws,rfl,Nat.le_of_ble_eq_true rfl⟩⟩,⟨⟨rfl,by kernel_rfl⟩,trivial⟩⟩ [0,1] pa (ix (ix trivial))
  have hx9:=vt_s ho9 hk3 hq7
  refine cT (cn (dF hq7)) (sR [] (T.ret (rB (rT ?_))))
  refine eN ⟨(Zje f u rows te e k),(Zj5 f u rows te e k)⟩ ?_
  refine X7 (s':=⟨(Zje f u rows te e k),(Zja f u rows te e k)⟩) (fun _ _ hG=>Yt (s:=⟨(Zje f u rows te e k),(Zj5 f u rows te e k)⟩) ⟨.inl rfl,(kk2 (X3n trivial))⟩ ⟨.inl rfl,p1k⟩ hG) ?_
  exact eX [.c 6 3 78 0 78 [dI 0,dI 0,dI 0,dI 0,dI 0,dS [],Zj6,dI 0,dI 0,Zj7,Zj7,Zj8] (.agg Zj9),.t 7 (.one (dI 30))] ⟨⟨rfl,rfl,by kernel_rfl,by kernel_rfl,.inl ⟨12,Ws,rfl,Nat.le_of_ble_eq_true rfl⟩⟩,⟨⟨rfl,by kernel_rfl⟩,trivial⟩⟩ [0,1] pZ2 (ix (ix trivial))
 by_cases hq3:k≠4
 ·refine sR [hY 3 (dT hq2),hY 4 (dT hq2),hP 5 (dT hq2),hY 7 (dT hq3),hY 8 (dT hq3),hP 9 (dT hq3)] ?_
  by_cases hq4:k≠5
  ·have hx9:=vt_k (f:=f) ho9 ‹_› ‹_› hq4
   refine cT (dT hq4) (sR [] (T.ret (rB (rT ?_))))
   refine eN ⟨(Zjb f u rows te e k),(Zj5 f u rows te e k)⟩ ?_
   refine X7 (s':=⟨(Zjb f u rows te e k),(Zja f u rows te e k)⟩) (fun _ _ hG=>Yt (s:=⟨(Zjb f u rows te e k),(Zj5 f u rows te e k)⟩) ⟨.inl rfl,p3i⟩ ⟨.inl rfl,p1k⟩ hG) ?_
   exact eX [.c 6 3 78 0 78 [dI 0,dI 0,dI 0,dI 0,dI 0,dS [],Zj6,dI 0,dI 0,Zj7,Zj7,Zj8] (.agg Zj9),.t 7 (.one (dI 120))] ⟨⟨rfl,rfl,by kernel_rfl,by kernel_rfl,.inl ⟨12,Ws,rfl,Nat.le_of_ble_eq_true rfl⟩⟩,⟨⟨rfl,by kernel_rfl⟩,trivial⟩⟩ [0,1] pZ2 (ix (ix trivial))
  have hk3:¬(k≠3∧k≠4∧k≠5):=(fun q=>hq4 q.2.2)
  refine cF (dF hq4) (sR [hR 3 rfl rfl (rCa (Ix f u rows e.X5 ‹_› ‹_›) Tryz.func79 [0,1] [(.tmp 35,pv 0 0),(.tmp 37,vI e.X5)] 2 2)] ?_)
  by_cases hq5:V0 f e.X5
  ·have hx9:=Xak ho9 hk3 hq5
   refine cF (cn (dT hq5)) (T.skip (nB (nT (sR [] (T.ret ?_)))))
   exact eX [.c 6 3 78 0 78 [dI (Zj3 f u rows e k).X1,dI (Zj3 f u rows e k).Y1,dI (Zj3 f u rows e k).Xs,dI (Zj3 f u rows e k).Xh,dI (Zj3 f u rows e k).Yh,dS (Zj3 f u rows e k).X9,dU (Zj3 f u rows e k).Xc,dI (Zj3 f u rows e k).X0.Xt,dI (Zj3 f u rows e k).X0.Xn,.d (dsl false false (kE false) (Zj3 f u rows e k).Xp),.d (dsl false false (kE false) (Zj3 f u rows e k).Y4),.d (dsl false false (kC false) (Zj3 f u rows e k).X6)] (.agg (Zj4 f u rows e k)),.t 7 (Zjc)] ⟨⟨rfl,rfl,by kernel_rfl,by kernel_rfl,.inl ⟨12,Ws,rfl,Nat.le_of_ble_eq_true rfl⟩⟩,⟨⟨rfl,by kernel_rfl⟩,trivial⟩⟩ [0,1] pa (ix (ix trivial))
  have hx9:=vt_s ho9 hk3 hq5
  refine cT (cn (dF hq5)) (sR [] (T.ret (rB (rT ?_))))
  refine eN ⟨(Zjd f u rows te e k),(Zj5 f u rows te e k)⟩ ?_
  refine X7 (s':=⟨(Zjd f u rows te e k),(Zja f u rows te e k)⟩) (fun _ _ hG=>Yt (s:=⟨(Zjd f u rows te e k),(Zj5 f u rows te e k)⟩) ⟨.inl rfl,(kk2 (X3n trivial))⟩ ⟨.inl rfl,p1k⟩ hG) ?_
  exact eX [.c 6 3 78 0 78 [dI 0,dI 0,dI 0,dI 0,dI 0,dS [],Zj6,dI 0,dI 0,Zj7,Zj7,Zj8] (.agg Zj9),.t 7 (.one (dI 30))] ⟨⟨rfl,rfl,by kernel_rfl,by kernel_rfl,.inl ⟨12,Ws,rfl,Nat.le_of_ble_eq_true rfl⟩⟩,⟨⟨rfl,by kernel_rfl⟩,trivial⟩⟩ [0,1] pZ2 (ix (ix trivial))
 have hk3:¬(k≠3∧k≠4∧k≠5):=(fun q=>hq3 q.2.1)
 refine sR [hY 3 (dT hq2),hY 4 (dT hq2),hP 5 (dT hq2),hN 7 true (dF hq3),hN 8 true (dF hq3),hP 9 (dF hq3)] (cF (b:=false) rfl (sR [hR 3 rfl rfl (rCa (Ix f u rows e.X5 ‹_› ‹_›) Tryz.func79 [0,1] [(.tmp 35,pv 0 0),(.tmp 37,vI e.X5)] 2 2)] ?_))
 by_cases hq6:V0 f e.X5
 ·have hx9:=Xak ho9 hk3 hq6
  refine cF (cn (dT hq6)) (T.skip (nB (nT (sR [] (T.ret ?_)))))
  exact eX [.c 6 3 78 0 78 [dI (Zj3 f u rows e k).X1,dI (Zj3 f u rows e k).Y1,dI (Zj3 f u rows e k).Xs,dI (Zj3 f u rows e k).Xh,dI (Zj3 f u rows e k).Yh,dS (Zj3 f u rows e k).X9,dU (Zj3 f u rows e k).Xc,dI (Zj3 f u rows e k).X0.Xt,dI (Zj3 f u rows e k).X0.Xn,.d (dsl false false (kE false) (Zj3 f u rows e k).Xp),.d (dsl false false (kE false) (Zj3 f u rows e k).Y4),.d (dsl false false (kC false) (Zj3 f u rows e k).X6)] (.agg (Zj4 f u rows e k)),.t 7 (Zjc)] ⟨⟨rfl,rfl,by kernel_rfl,by kernel_rfl,.inl ⟨12,Ws,rfl,Nat.le_of_ble_eq_true rfl⟩⟩,⟨⟨rfl,by kernel_rfl⟩,trivial⟩⟩ [0,1] pa (ix (ix trivial))
 have hx9:=vt_s ho9 hk3 hq6
 refine cT (cn (dF hq6)) (sR [] (T.ret (rB (rT ?_))))
 refine eN ⟨(Zje f u rows te e k),(Zj5 f u rows te e k)⟩ ?_
 refine X7 (s':=⟨(Zje f u rows te e k),(Zja f u rows te e k)⟩) (fun _ _ hG=>Yt (s:=⟨(Zje f u rows te e k),(Zj5 f u rows te e k)⟩) ⟨.inl rfl,(kk2 (X3n trivial))⟩ ⟨.inl rfl,p1k⟩ hG) ?_
 exact eX [.c 6 3 78 0 78 [dI 0,dI 0,dI 0,dI 0,dI 0,dS [],Zj6,dI 0,dI 0,Zj7,Zj7,Zj8] (.agg Zj9),.t 7 (.one (dI 30))] ⟨⟨rfl,rfl,by kernel_rfl,by kernel_rfl,.inl ⟨12,Ws,rfl,Nat.le_of_ble_eq_true rfl⟩⟩,⟨⟨rfl,by kernel_rfl⟩,trivial⟩⟩ [0,1] pZ2 (ix (ix trivial))
section
variable (f:Int) (u:Int) (l:List aE) (e:aE)
end
section
variable (f:Int) (u:Int) (l:List aE) (e:aE) (k:Int)
abbrev Zjw:List SV:=[dI e.X5,dU e.Xd]
abbrev Zjx:HS:=.live (.box 135 [dB true,dI f,dI u,.own 1 (kE false).sz 0 l.length])
abbrev Zjy:AV:=vB (decide ((opR (Xw f u l) e)≠0))
abbrev Zjz:List AV:=[pv 0 0,.tv (.agg (Zjw e)),vI k,aa,pv 2 0,aa,pv 3 0,vI (opR (Xw f u l) e),pv 4 0,vI (opR (Xw f u l) e),aa,aa,aa,aa,aa,aa,aa,(Zjy f u l e)]
abbrev Zk0:SV:=.d (.val (.slice none 0 0))
abbrev Zk1:SV:=.d (dsl false false (kE false) (orV (Xw f u l) e).Xp)
abbrev Zk2:SV:=.d (dsl false false (kE false) (orV (Xw f u l) e).Y4)
abbrev Zk3:SV:=.d (dsl false false (kC false) (orV (Xw f u l) e).X6)
abbrev Zk4:List SV:=[dI (orV (Xw f u l) e).X1,dI (orV (Xw f u l) e).Y1,dI (orV (Xw f u l) e).Xs,dI (orV (Xw f u l) e).Xh,dI (orV (Xw f u l) e).Yh,dS (orV (Xw f u l) e).X9,dU (orV (Xw f u l) e).Xc,dI (orV (Xw f u l) e).X0.Xt,dI (orV (Xw f u l) e).X0.Xn,(Zk1 f u l e),(Zk2 f u l e),(Zk3 f u l e)]
abbrev Zk5:List HS:=[(Zjx f u l),.live (Xf 43 (kE false) l),.live (.box 43 (Zjw e)),.live (.box 78 [dI 0,dI 0,dI 0,dI 0,dI 0,dS [],Zk0,dI 0,dI 0,Zk0,Zk0,Zk0]),.live (.box 78 (Zk4 f u l e))]
abbrev Zk6:SV:=dU ([]:List UInt8)
abbrev Zk7:SV:=.d (dsl false false (kE false) ([]:List aE))
abbrev Zk8:SV:=.d (dsl false false (kC false) ([]:List aC))
abbrev Zk9:List SV:=[dI 0,dI 0,dI 0,dI 0,dI 0,dS [],Zk6,dI 0,dI 0,Zk7,Zk7,Zk8]
abbrev Zka:List HS:=[(Zjx f u l),.live (Xf 43 (kE false) l),.live (.box 43 (Zjw e)),.live (.box 78 Zk9),.live (.box 78 (Zk4 f u l e))]
abbrev Zkb:List AV:=[pv 0 0,.tv (.agg (Zjw e)),vI k,aa,pv 2 0,aa,pv 3 0,vI 120,pv 4 0,vI (opR (Xw f u l) e),aa,aa,aa,aa,aa,aa,aa,(Zjy f u l e),aa,aa,aa,aa,aa,aa,aa,aa,aa,aa,aa,aa,aa,aa,aa,aa,aa,vB true]
abbrev Zkc:List AV:=[pv 0 0,.tv (.agg (Zjw e)),vI k,aa,pv 2 0,aa,pv 3 0,vI 120,pv 4 0,vI (opR (Xw f u l) e),aa,aa,aa,aa,aa,aa,aa,(Zjy f u l e),aa,aa,aa,aa,aa,aa,aa,aa,aa,aa,aa,aa,aa,aa,aa,aa,aa,vB (decide (k≠5))]
abbrev Zkd:TV:=.one (dI 0)
abbrev Zke:List AV:=[pv 0 0,.tv (.agg (Zjw e)),vI k,aa,pv 2 0,aa,pv 3 0,vI 30,pv 4 0,vI (opR (Xw f u l) e),aa,aa,aa,aa,aa,aa,aa,(Zjy f u l e),aa,aa,aa,aa,aa,aa,aa,aa,aa,aa,aa,aa,aa,aa,aa,aa,aa,vB (decide (k≠5)),aa,aa,aa,aa,aa,vB (!(decide (V0 f e.X5)))]
abbrev Zkf:List AV:=[pv 0 0,.tv (.agg (Zjw e)),vI k,aa,pv 2 0,aa,pv 3 0,vI 30,pv 4 0,vI (opR (Xw f u l) e),aa,aa,aa,aa,aa,aa,aa,(Zjy f u l e),aa,aa,aa,aa,aa,aa,aa,aa,aa,aa,aa,aa,aa,aa,aa,aa,aa,vB false,aa,aa,aa,aa,aa,vB (!(decide (V0 f e.X5)))]
end
theorem Xg3 (f:Int) (u:Int) (l:List aE) (e:aE) (k:Int) (hf:0≤f∧f≤2) (hu:0≤u∧u≤8) (hl:l.length≤9223372036854775806) (hs:-9223372036854775808≤e.X5∧e.X5≤9223372036854775807) (hb:e.Xd.length≤100000000):Holds Tryz.prog 112 ⟨[pv 0 0,.tv (.agg [dI e.X5,dU e.Xd]),vI k],[.box 135 [dB true,dI f,dI u,.own 1 (kE false).sz 0 l.length],Xf 43 (kE false) l],.tup [.agg [dI (vtV (Xw f u l) f e k).X1,dI (vtV (Xw f u l) f e k).Y1,dI (vtV (Xw f u l) f e k).Xs,dI (vtV (Xw f u l) f e k).Xh,dI (vtV (Xw f u l) f e k).Yh,dS (vtV (Xw f u l) f e k).X9,dU (vtV (Xw f u l) f e k).Xc,dI (vtV (Xw f u l) f e k).X0.Xt,dI (vtV (Xw f u l) f e k).X0.Xn,.d (dsl false false (kE false) (vtV (Xw f u l) f e k).Xp),.d (dsl false false (kE false) (vtV (Xw f u l) f e k).Y4),.d (dsl false false (kC false) (vtV (Xw f u l) f e k).X6)],.one (dI (vtE (Xw f u l) f e k))],[.live (.box 135 [dB true,dI f,dI u,.own 1 (kE false).sz 0 l.length]),.live (Xf 43 (kE false) l)]⟩:=by
 refine Holds.of Tryz.func112 rfl (N:=44) Tryz.ntmps112 rfl fun w0 B0 S0 U0=>?_
 show T _ (Y2 44 2 w0 S0 U0 B0) ⟨[pv 0 0,.tv (.agg (Zjw e)),vI k],[(Zjx f u l),.live (Xf 43 (kE false) l)]⟩ _ _
 refine sR [] (sR [hR 2 rfl rfl (rCa (Xg2 f u l e ‹_› ‹_› ‹_› ‹_› ‹_›) Tryz.func150 [0,1] [(.tmp 11,pv 0 0),(.tmp 12,.tv (.agg (Zjw e)))] 2 2)] (T.seq (sR [] ?_)))
 by_cases hq1:(opR (Xw f u l) e)≠0
 ·have hr9:=(or_op (Xw f u l) e k).1 hq1;have hx9:=vt_o (f:=f) (show opE (Xw f u l) e k≠0 by rw [hr9];exact hq1);rw [hr9] at hx9
  refine cT (dT hq1) (sR [] (T.ret (rT ?_)))
  refine eN ⟨(Zjz f u l e k),(Zk5 f u l e)⟩ ?_
  refine X7 (s':=⟨(Zjz f u l e k),(Zka f u l e)⟩) (fun _ _ hG=>Yt (s:=⟨(Zjz f u l e k),(Zk5 f u l e)⟩) p58 ⟨.inl rfl,p1k⟩ hG) ?_
  exact eX [.c 6 3 78 0 78 [dI 0,dI 0,dI 0,dI 0,dI 0,dS [],Zk6,dI 0,dI 0,Zk7,Zk7,Zk8] (.agg Zk9),.t 7 (.one (dI (opR (Xw f u l) e)))] ⟨⟨rfl,rfl,by kernel_rfl,by kernel_rfl,.inl ⟨12,Ws,rfl,Nat.le_of_ble_eq_true rfl⟩⟩,⟨⟨rfl,by kernel_rfl⟩,trivial⟩⟩ [0,1] pZ2 (ix (ix trivial))
 have hr9:=or_op (Xw f u l) e k;have hv9:=or_val hq1;have hbo:=Xf6 e.Xd;rw [← hv9] at hbo;have hbl:=Xi9 hbo
 refine cF (dF hq1) (T.skip (nT (T.seq ?_)))
 by_cases hq2:(orV (Xw f u l) e).X1≠k
 ·have hm9:=hq2;rw [hv9] at hm9;have hk9:=hr9.2.1 ‹_› hm9;have hx9:=vt_o (f:=f) (show opE (Xw f u l) e k≠0 by rw [hk9];decide);rw [hk9] at hx9
  refine sR (Xm (hN · false (dT hq2)) [5,6,7] (hU 8::(hU 9::(hN 10 false (dT hq2)::(hN 11 false (dT hq2)::(hU 12::(hU 13::(hN 14 false (dT hq2)::(hP 15 (dT hq2)::[]))))))))) (cT (b:=true) rfl (sR [] (T.ret (rT ?_))))
  refine eN ⟨(Zkb f u l e k),(Zk5 f u l e)⟩ ?_
  refine X7 (s':=⟨(Zkb f u l e k),(Zka f u l e)⟩) (fun _ _ hG=>Yt (s:=⟨(Zkb f u l e k),(Zk5 f u l e)⟩) p4u ⟨.inl rfl,p1k⟩ hG) ?_
  exact eX [.c 6 3 78 0 78 [dI 0,dI 0,dI 0,dI 0,dI 0,dS [],Zk6,dI 0,dI 0,Zk7,Zk7,Zk8] (.agg Zk9),.t 7 (.one (dI 120))] ⟨⟨rfl,rfl,by kernel_rfl,by kernel_rfl,.inl ⟨12,Ws,rfl,Nat.le_of_ble_eq_true rfl⟩⟩,⟨⟨rfl,by kernel_rfl⟩,trivial⟩⟩ [0,1] pZ2 (ix (ix trivial))
 have hm9:=hq2;rw [hv9] at hm9;have ho9:¬opE (Xw f u l) e k≠0:=fun q=>q (hr9.2.2 ‹_› hm9).1
 by_cases hq3:k≠3
 rotate_left
 ·have hk3:¬(k≠3∧k≠4∧k≠5):=(fun q=>hq3 q.1)
  refine sR (Xm (hY · (dF hq2)) [5,6,7] (hN 8 true (dF hq3)::(hN 9 true (dF hq3)::(hS 10 (oY rfl rfl rfl rfl (X3 rfl) (dF hq2) (Wo (b:=(decide (k≠3))) (av:=vB false) (X3 rfl) ⟨rfl,trivial⟩ (dF hq3)))::(hY 11 (dF hq2)::(hN1 12::(hN1 13::(hS 14 (oY rfl rfl rfl rfl (X3 rfl) (dF hq2) (Wo (b:=false) (av:=vB false) (X3 rfl) ⟨rfl,trivial⟩ rfl))::(hP 15 (dF hq2)::[]))))))))) (cF (b:=false) rfl (T.skip (nT (T.seq (sR [hR 3 rfl rfl (rCa (Ir f u l e.X5 ‹_› ‹_›) Tryz.func124 [0,1] [(.tmp 37,pv 0 0),(.tmp 39,vI e.X5)] 2 2)] ?_)))))
  by_cases hq8:V0 f e.X5
  ·have hx9:=Xak ho9 hk3 hq8
   refine cF (cn (dT hq8)) (T.skip (nT (sR [] (T.ret ?_))))
   exact eX [.c 6 3 78 0 78 [dI (orV (Xw f u l) e).X1,dI (orV (Xw f u l) e).Y1,dI (orV (Xw f u l) e).Xs,dI (orV (Xw f u l) e).Xh,dI (orV (Xw f u l) e).Yh,dS (orV (Xw f u l) e).X9,dU (orV (Xw f u l) e).Xc,dI (orV (Xw f u l) e).X0.Xt,dI (orV (Xw f u l) e).X0.Xn,(Zk1 f u l e),(Zk2 f u l e),(Zk3 f u l e)] (.agg (Zk4 f u l e)),.t 7 (Zkd)] ⟨⟨rfl,rfl,by kernel_rfl,by kernel_rfl,.inl ⟨12,Ws,rfl,Nat.le_of_ble_eq_true rfl⟩⟩,⟨⟨rfl,by kernel_rfl⟩,trivial⟩⟩ [0,1] pb (ix (ix trivial))
  have hx9:=vt_s ho9 hk3 hq8
  refine cT (cn (dF hq8)) (sR [] (T.ret (rT ?_)))
  refine eN ⟨(Zkf f u l e k),(Zk5 f u l e)⟩ ?_
  refine X7 (s':=⟨(Zkf f u l e k),(Zka f u l e)⟩) (fun _ _ hG=>Yt (s:=⟨(Zkf f u l e k),(Zk5 f u l e)⟩) (kk2 p3m) ⟨.inl rfl,p1k⟩ hG) ?_
  exact eX [.c 6 3 78 0 78 [dI 0,dI 0,dI 0,dI 0,dI 0,dS [],Zk6,dI 0,dI 0,Zk7,Zk7,Zk8] (.agg Zk9),.t 7 (.one (dI 30))] ⟨⟨rfl,rfl,by kernel_rfl,by kernel_rfl,.inl ⟨12,Ws,rfl,Nat.le_of_ble_eq_true rfl⟩⟩,⟨⟨rfl,by kernel_rfl⟩,trivial⟩⟩ [0,1] pZ2 (ix (ix trivial))
 by_cases hq4:k≠4
 ·refine sR (Xm (hY · (dF hq2)) [5,6,7] (hY 8 (dT hq3)::(hY 9 (dT hq3)::(hS 10 (oY rfl rfl rfl rfl (X3 rfl) (dF hq2) (Wc (b:=(decide (k≠3))) (av:=vB (decide (k≠4))) (X3 rfl) trivial (dT hq3)))::(hY 11 (dF hq2)::(hY 12 (dT hq4)::(hY 13 (dT hq4)::(hS 14 (oY rfl rfl rfl rfl (X3 rfl) (dF hq2) (Wc (b:=(decide (k≠4))) (av:=vB (decide (k≠5))) (X3 rfl) trivial (dT hq4)))::(hP 15 (dF hq2)::[]))))))))) ?_
  by_cases hq5:k≠5
  ·have hx9:=vt_k (f:=f) ho9 ‹_› ‹_› hq5
   refine cT (dT hq5) (sR [] (T.ret (rT ?_)))
   refine eN ⟨(Zkc f u l e k),(Zk5 f u l e)⟩ ?_
   refine X7 (s':=⟨(Zkc f u l e k),(Zka f u l e)⟩) (fun _ _ hG=>Yt (s:=⟨(Zkc f u l e k),(Zk5 f u l e)⟩) p4u ⟨.inl rfl,p1k⟩ hG) ?_
   exact eX [.c 6 3 78 0 78 [dI 0,dI 0,dI 0,dI 0,dI 0,dS [],Zk6,dI 0,dI 0,Zk7,Zk7,Zk8] (.agg Zk9),.t 7 (.one (dI 120))] ⟨⟨rfl,rfl,by kernel_rfl,by kernel_rfl,.inl ⟨12,Ws,rfl,Nat.le_of_ble_eq_true rfl⟩⟩,⟨⟨rfl,by kernel_rfl⟩,trivial⟩⟩ [0,1] pZ2 (ix (ix trivial))
  have hk3:¬(k≠3∧k≠4∧k≠5):=(fun q=>hq5 q.2.2)
  refine cF (dF hq5) (T.skip (nT (T.seq (sR [hR 3 rfl rfl (rCa (Ir f u l e.X5 ‹_› ‹_›) Tryz.func124 [0,1] [(.tmp 37,pv 0 0),(.tmp 39,vI e.X5)] 2 2)] ?_))))
  by_cases hq6:V0 f e.X5
  ·have hx9:=Xak ho9 hk3 hq6
   refine cF (cn (dT hq6)) (T.skip (nT (sR [] (T.ret ?_))))
   exact eX [.c 6 3 78 0 78 [dI (orV (Xw f u l) e).X1,dI (orV (Xw f u l) e).Y1,dI (orV (Xw f u l) e).Xs,dI (orV (Xw f u l) e).Xh,dI (orV (Xw f u l) e).Yh,dS (orV (Xw f u l) e).X9,dU (orV (Xw f u l) e).Xc,dI (orV (Xw f u l) e).X0.Xt,dI (orV (Xw f u l) e).X0.Xn,(Zk1 f u l e),(Zk2 f u l e),(Zk3 f u l e)] (.agg (Zk4 f u l e)),.t 7 (Zkd)] ⟨⟨rfl,rfl,by kernel_rfl,by kernel_rfl,.inl ⟨12,Ws,rfl,Nat.le_of_ble_eq_true rfl⟩⟩,⟨⟨rfl,by kernel_rfl⟩,trivial⟩⟩ [0,1] pb (ix (ix trivial))
  have hx9:=vt_s ho9 hk3 hq6
  refine cT (cn (dF hq6)) (sR [] (T.ret (rT ?_)))
  refine eN ⟨(Zke f u l e k),(Zk5 f u l e)⟩ ?_
  refine X7 (s':=⟨(Zke f u l e k),(Zka f u l e)⟩) (fun _ _ hG=>Yt (s:=⟨(Zke f u l e k),(Zk5 f u l e)⟩) (kk2 p3m) ⟨.inl rfl,p1k⟩ hG) ?_
  exact eX [.c 6 3 78 0 78 [dI 0,dI 0,dI 0,dI 0,dI 0,dS [],Zk6,dI 0,dI 0,Zk7,Zk7,Zk8] (.agg Zk9),.t 7 (.one (dI 30))] ⟨⟨rfl,rfl,by kernel_rfl,by kernel_rfl,.inl ⟨12,Ws,rfl,Nat.le_of_ble_eq_true rfl⟩⟩,⟨⟨rfl,by kernel_rfl⟩,trivial⟩⟩ [0,1] pZ2 (ix (ix trivial))
 have hk3:¬(k≠3∧k≠4∧k≠5):=(fun q=>hq4 q.2.1)
 refine sR (Xm (hY · (dF hq2)) [5,6,7] (hY 8 (dT hq3)::(hY 9 (dT hq3)::(hS 10 (oY rfl rfl rfl rfl (X3 rfl) (dF hq2) (Wc (b:=(decide (k≠3))) (av:=vB (decide (k≠4))) (X3 rfl) trivial (dT hq3)))::(hY 11 (dF hq2)::(hN 12 true (dF hq4)::(hN 13 true (dF hq4)::(hS 14 (oY rfl rfl rfl rfl (X3 rfl) (dF hq2) (Wo (b:=(decide (k≠4))) (av:=vB false) (X3 rfl) ⟨rfl,trivial⟩ (dF hq4)))::(hP 15 (dF hq2)::[]))))))))) (cF (b:=false) rfl (T.skip (nT (T.seq (sR [hR 3 rfl rfl (rCa (Ir f u l e.X5 ‹_› ‹_›) Tryz.func124 [0,1] [(.tmp 37,pv 0 0),(.tmp 39,vI e.X5)] 2 2)] ?_)))))
 by_cases hq7:V0 f e.X5
 ·have hx9:=Xak ho9 hk3 hq7
  refine cF (cn (dT hq7)) (T.skip (nT (sR [] (T.ret ?_))))
  exact eX [.c 6 3 78 0 78 [dI (orV (Xw f u l) e).X1,dI (orV (Xw f u l) e).Y1,dI (orV (Xw f u l) e).Xs,dI (orV (Xw f u l) e).Xh,dI (orV (Xw f u l) e).Yh,dS (orV (Xw f u l) e).X9,dU (orV (Xw f u l) e).Xc,dI (orV (Xw f u l) e).X0.Xt,dI (orV (Xw f u l) e).X0.Xn,(Zk1 f u l e),(Zk2 f u l e),(Zk3 f u l e)] (.agg (Zk4 f u l e)),.t 7 (Zkd)] ⟨⟨rfl,rfl,by kernel_rfl,by kernel_rfl,.inl ⟨12,Ws,rfl,Nat.le_of_ble_eq_true rfl⟩⟩,⟨⟨rfl,by kernel_rfl⟩,trivial⟩⟩ [0,1] pb (ix (ix trivial))
 have hx9:=vt_s ho9 hk3 hq7
 refine cT (cn (dF hq7)) (sR [] (T.ret (rT ?_)))
 refine eN ⟨(Zkf f u l e k),(Zk5 f u l e)⟩ ?_
 refine X7 (s':=⟨(Zkf f u l e k),(Zka f u l e)⟩) (fun _ _ hG=>Yt (s:=⟨(Zkf f u l e k),(Zk5 f u l e)⟩) (kk2 p3m) ⟨.inl rfl,p1k⟩ hG) ?_
 exact eX [.c 6 3 78 0 78 [dI 0,dI 0,dI 0,dI 0,dI 0,dS [],Zk6,dI 0,dI 0,Zk7,Zk7,Zk8] (.agg Zk9),.t 7 (.one (dI 30))] ⟨⟨rfl,rfl,by kernel_rfl,by kernel_rfl,.inl ⟨12,Ws,rfl,Nat.le_of_ble_eq_true rfl⟩⟩,⟨⟨rfl,by kernel_rfl⟩,trivial⟩⟩ [0,1] pZ2 (ix (ix trivial))
section
variable (f:Int) (u:Int) (rows:List (Yl×Bool)) (tp:Bool) (p:aM) (tc:Bool) (c:aC) (tx:Bool) (nx:Bool) (sx:Bool) (x:List aE) (need:Int) (kind:Int) (k:Nat)
end
section
variable (f:Int) (u:Int) (rows:List (Yl×Bool)) (tc:Bool) (c:aC) (kind:Int) (need:Int)
end
theorem Xh5 (tm:Bool) (m:aM) (s:Int) (fst:Bool) (d:List UInt8) (seq:Int):Holds Tryz.prog 117 ⟨[.tv (.agg [dI m.X1,dI m.Y1,dI m.Xs,dI m.Xh,dI m.Yh,dS m.X9,.d (dsl tm false kU8 m.Xc),dI m.X0.Xt,dI m.X0.Xn,.d (dsl tm false (kE tm) m.Xp),.d (dsl tm false (kE tm) m.Y4),.d (dsl tm false (kC tm) m.X6)]),vI s,pv 0 0,pv 1 0,pv 2 0],[.box 4 [dB fst],.box 60 [dS d],.box 3 [dI seq]],vI (X0g seq (if fst=true then m.X9 else d) m),[.live (.box 4 [dB false]),.live (.box 60 [dS (if fst=true then m.X9 else d)]),.live (.box 3 [dI seq])]⟩:=by
 refine Holds.of Tryz.func117 rfl (N:=21) Tryz.ntmps117 rfl fun w0 B0 S0 U0=>?_
 show T _ (Y2 21 3 w0 S0 U0 B0) ⟨[.tv (.agg [dI m.X1,dI m.Y1,dI m.Xs,dI m.Xh,dI m.Yh,dS m.X9,.d (dsl tm false kU8 m.Xc),dI m.X0.Xt,dI m.X0.Xn,.d (dsl tm false (kE tm) m.Xp),.d (dsl tm false (kE tm) m.Y4),.d (dsl tm false (kC tm) m.X6)]),vI s,pv 0 0,pv 1 0,pv 2 0],[.live (.box 4 [dB fst]),.live (.box 60 [dS d]),.live (.box 3 [dI seq])]⟩ _ _
 refine sR [] (T.seq (sR [] ?_))
 by_cases hq1:fst=true
 ·refine cT hq1 (xK [] (nT (T.seq (T.block (sR [] ?_)))))
  by_cases hq2:m.Xs≠seq
  ·refine cT (dT hq2) (sR [] (T.ret (rB (rT ?_))))
   exact eRt 7 (.one (dI 131)) [0,1,2] p3s (ix ⟨⟨rfl,p2q⟩,(ix trivial)⟩)
  refine cF (dF hq2) (sR [] (cF (show decide (m.X9≠m.X9)=false from dF (fun h=>h rfl)) (T.skip (nB (nT (sR [] (T.ret ?_)))))))
  exact eRt 7 (.one (dI 0)) [0,1,2] p3t (ix ⟨⟨rfl,p2q⟩,(ix trivial)⟩)
 replace hq1:=Bool.eq_false_iff.2 hq1
 refine cF hq1 (T.skip (nT (T.seq (T.block (sR [] ?_)))))
 by_cases hq3:m.Xs≠seq
 ·refine cT (dT hq3) (sR [] (T.ret (rB (rT ?_))))
  exact eRt 7 (.one (dI 131)) [0,1,2] p3s ⟨⟨rfl,p1y⟩,⟨⟨rfl,p1h⟩,(ix trivial)⟩⟩
 refine cF (dF hq3) (sR [] ?_)
 by_cases hq4:m.X9≠d
 ·refine cT (dT hq4) (sR [] (T.ret (rB (rT ?_))))
  exact eRt 7 (.one (dI 132)) [0,1,2] (by have e1:((X0g seq (if fst=true then m.X9 else d) m):Int)=132:=(by (simp [X0g, *];done));have hE:=cI e1;exact hE) ⟨⟨rfl,p1y⟩,⟨⟨rfl,p1h⟩,(ix trivial)⟩⟩
 refine cF (dF hq4) (T.skip (nB (nT (sR [] (T.ret ?_)))))
 exact eRt 7 (.one (dI 0)) [0,1,2] p3t ⟨⟨rfl,p1y⟩,⟨⟨rfl,p1h⟩,(ix trivial)⟩⟩
section
variable (f:Int) (u:Int) (rows:List (Yl×Bool)) (seq:Int) (tx:Bool) (nx:Bool) (sx:Bool) (x:List aE) (need:Int) (k:Nat)
abbrev Zl4:HS:=.live (.box 130 [dI (3*f+1),dI u,.mref 1])
abbrev Zl5:HS:=.live (mpK Xx Yg rows)
abbrev Zl6:HS:=.live (.box 3 [dI seq])
abbrev Zl7:List AV:=[pv 0 0,slV tx nx (kE sx) x,vI 5,vI need,sv (.clo 117 [2,3,4]),aa,aa,aa,aa,aa,aa,sv (.mref 5),aa,aa,aa,aa,aa,slV tx nx (kE sx) x,vI ((x.length:Nat):Int),vI ((k:Nat):Int)]
abbrev Zl9:=(vtV (Y5 f u rows) f (x.getD k zE) 5)
abbrev Zla:AV:=vI (x.getD k zE).X5
end
theorem Xfb (f:Int) (u:Int) (rows:List (Yl×Bool)) (tx:Bool) (nx:Bool) (sx:Bool) (x:List aE) (need:Int) (seq:Int) (hf:0≤f∧f≤2) (hu:0≤u∧u≤8) (hx:X16 x):Holds Tryz.prog 116 ⟨[pv 0 0,slV tx nx (kE sx) x,vI 5,vI need,sv (.clo 117 [2,3,4])],[.box 130 [dI (3*f+1),dI u,.mref 1],mpK Xx Yg rows,.box 4 [dB true],.box 60 [dS []],.box 3 [dI seq]],vI (X55 (gS (Y5 f u rows) f seq (Uq x)) x need),[.live (.box 130 [dI (3*f+1),dI u,.mref 1]),.live (mpK Xx Yg rows),.live (.box 4 [dB (fstF (Y5 f u rows) f x)]),.live (.box 60 [dS (X9k (Y5 f u rows) f x)]),.live (.box 3 [dI seq])]⟩:=by
 refine Holds.of Tryz.func116 rfl (N:=56) Tryz.ntmps116 rfl fun w0 B0 S0 U0=>?_
 show T _ (Y2 56 5 w0 S0 U0 B0) ⟨[pv 0 0,slV tx nx (kE sx) x,vI 5,vI need,sv (.clo 117 [2,3,4])],[(Zl4 f u),(Zl5 rows),.live (.box 4 [dB true]),.live (.box 60 [dS []]),(Zl6 seq)]⟩ _ _
 have hx1:=hx.1
 refine sR [] (sR [hR 0 rfl rfl (Xaz 5 (fInt .i64) Yg (X3 rfl))] (T.seq (sR [] (T.block ?_))))
 refine T.loop (ι:=Nat) (fun (k:Nat)=>⟨(Zl7 tx nx sx x need k),[(Zl4 f u),(Zl5 rows),.live (.box 4 [dB (X0k k)]),.live (.box 60 [dS (Fr x k)]),(Zl6 seq),.live (mpK (fInt .i64) Yg (Fx x k))]⟩) (fun (k:Nat)=>(k≤x.length)∧(∀ i,i<k→X02 (gS (Y5 f u rows) f seq (Uq x)) x i=0)) (fun (k:Nat)=>x.length-k) (0) ⟨(Nat.zero_le _),(fun j hj=>absurd hj (Nat.not_lt_zero _))⟩ (fun _ _ hG=>Yv [0,1,2,3,4,5] (bm 20 919583) (h2:=[(Zl4 f u),(Zl5 rows),.live (.box 4 [dB true]),.live (.box 60 [dS []]),(Zl6 seq),.live (mpK (fInt .i64) Yg ([]:List (Int×Bool)))]) rfl (cg3 (fun (q1:Bool) (q2:List UInt8) (q3:List (Int×Bool))=>([(Zl4 f u),(Zl5 rows),.live (.box 4 [dB q1]),.live (.box 60 [dS q2]),(Zl6 seq),.live (mpK (fInt .i64) Yg q3)]:List HS)) (by rfl) (by rfl) (by rfl)) hG) ?_
 rintro k ⟨hk,hb⟩
 show T _ _ ⟨(Zl7 tx nx sx x need k),[(Zl4 f u),(Zl5 rows),.live (.box 4 [dB (X0k k)]),.live (.box 60 [dS (Fr x k)]),(Zl6 seq),.live (mpK (fInt .i64) Yg (Fx x k))]⟩ _ _
 replace hk:k≤x.length:=hk
 replace hb:∀ i,i<k→X02 (gS (Y5 f u rows) f seq (Uq x)) x i=0:=hb
 refine sR [] (T.seq ?_)
 by_cases hq1:((k:Nat):Int)<((x.length:Nat):Int)
 rotate_left
 ·have hz9:=tly_0 (g:=gS (Y5 f u rows) f seq (Uq x)) need hb (by omega);have hda:=Xh3 hb hk (.inl (by omega))
  refine cF (dF hq1) (T.exit (xT (xT (xH (nT (T.seq (sR [] ?_)))))))
  by_cases hq8:((x.length:Nat):Int)<need
  ·refine cT (dT hq8) (sR [] (T.ret (rT ?_)))
   exact eRt 10 (.one (dI 32)) [0,1,2,3,4] (by have e1:((X55 (gS (Y5 f u rows) f seq (Uq x)) x need):Int)=32:=(by (rw [hz9,if_pos ‹_›]));have hE:=cI e1;exact hE) (ix (ix ⟨⟨rfl,p1q⟩,⟨⟨rfl,p1l⟩,(ix trivial)⟩⟩))
  refine cF (dF hq8) (T.skip (nT (sR [] (T.ret ?_))))
  exact eRt 10 (.one (dI 0)) [0,1,2,3,4] (by have e1:((X55 (gS (Y5 f u rows) f seq (Uq x)) x need):Int)=0:=(by (rw [hz9,if_neg ‹_›]));have hE:=cI e1;exact hE) (ix (ix ⟨⟨rfl,p1q⟩,⟨⟨rfl,p1l⟩,(ix trivial)⟩⟩))
 have hgk:=X90 hx (k:=k) (by omega);have hgk1:=hgk.1.1;have hgk2:=hgk.1.2;have hgk3:=hgk.2
 refine cT (dT hq1) (T.skip (nT (T.seq (T.block (sR [hR 0 rfl rfl (We tx nx (kE sx) x k (k:=.i64) (i:=((k:Nat):Int)) Tryz.underlying37 Vi rfl rfl (by omega) (X3 rfl) trivial)] (sR [hR 3 rfl rfl (rCa (Xkl f u rows sx (x.getD k zE) 5 ‹_› ‹_› (by omega) (by omega)) Tryz.func151 [0,1] [(.tmp 24,pv 0 0),(.tmp 25,.tv (.agg [dI (x.getD k zE).X5,.d (dsl sx false kU8 (x.getD k zE).Xd)])),(.tmp 26,vI 5)] 2 2)] (T.seq (sR [] ?_))))))))
 by_cases hq2:(vtE (Y5 f u rows) f (x.getD k zE) 5)=0
 rotate_left
 ·have hg9:=gS_1 (seq:=seq) (d:=Uq x) hq2;have hda:=Xh3 hb (by omega) (.inr hq2)
  refine cF (dF hq2) (T.skip (nT (T.seq (sR (Xm (hN · true (dF hq2)) [3,4,5,6] (hP 7 (dF hq2)::[])) (cF (b:=false) rfl (T.skip (nT (T.seq (sR [] ?_)))))))))
  by_cases hq7:(vtE (Y5 f u rows) f (x.getD k zE) 5)≠0
  ·have hz9:=Ec (g:=gS (Y5 f u rows) f seq (Uq x)) need hb ((X68 (by rw [hg9];exact hq7)).trans hg9) hq7 (by omega)
   refine cT (dT hq7) (sR [] (T.ret (rT (rB (rT (rT (rB (rT ?_))))))))
   exact eRt 10 (.one (dI (vtE (Y5 f u rows) f (x.getD k zE) 5))) [0,1,2,3,4] p3p (ix (ix ⟨⟨rfl,p1q⟩,⟨⟨rfl,p1l⟩,(ix trivial)⟩⟩))
  exact absurd hq2 hq7
 have hv9:¬vtE (Y5 f u rows) f (x.getD k zE) 5≠0:=(fun q=>q hq2);have hdn:=X9j hb (by omega) hv9;have hg9:gS (Y5 f u rows) f seq (Uq x) (x.getD k zE)=X0g seq (if X0k k=true then (vtV (Y5 f u rows) f (x.getD k zE) 5).X9 else Fr x k) (vtV (Y5 f u rows) f (x.getD k zE) 5):=((gS_2 hv9).trans (by rw [← hdn.1];rfl))
 refine cT (dT hq2) ?_
 refine xK [hR 4 rfl rfl (r_callC (ls:=[2,3,4]) (Xh5 false (vtV (Y5 f u rows) f (x.getD k zE) 5) (x.getD k zE).X5 (X0k k) (Fr x k) seq ) Tryz.func117 rfl (by decide) [2,3,4] [] (l:=[(.tmp 33,.tv (.agg [dI (Zl9 f u rows x k).X1,dI (Zl9 f u rows x k).Y1,dI (Zl9 f u rows x k).Xs,dI (Zl9 f u rows x k).Xh,dI (Zl9 f u rows x k).Yh,dS (Zl9 f u rows x k).X9,dU (Zl9 f u rows x k).Xc,dI (Zl9 f u rows x k).X0.Xt,dI (Zl9 f u rows x k).X0.Xn,.d (dsl false false (kE false) (Zl9 f u rows x k).Xp),.d (dsl false false (kE false) (Zl9 f u rows x k).Y4),.d (dsl false false (kC false) (Zl9 f u rows x k).X6)])),(.tmp 35,(Zla x k))]) [] rfl 3 3 rfl rfl rfl rfl rfl rfl rfl rfl rfl ⟨⟨.inl ⟨rfl,rfl⟩,⟨.inl ⟨rfl,rfl⟩,⟨.inl ⟨rfl,rfl⟩,⟨.inl ⟨rfl,rfl⟩,⟨.inl ⟨rfl,rfl⟩,⟨.inl ⟨rfl,rfl⟩,⟨.inl ⟨rfl,rfl⟩,⟨.inl ⟨rfl,rfl⟩,⟨.inl ⟨rfl,rfl⟩,⟨.inl ⟨rfl,rfl⟩,⟨.inl ⟨rfl,rfl⟩,⟨.inl ⟨rfl,rfl⟩,trivial⟩⟩⟩⟩⟩⟩⟩⟩⟩⟩⟩⟩,⟨.inl ⟨rfl,rfl⟩,⟨.inl ⟨rfl,rfl⟩,⟨.inl ⟨rfl,rfl⟩,⟨.inl ⟨rfl,rfl⟩,trivial⟩⟩⟩⟩⟩ rfl p4r (.inl rfl) (X3 rfl) trivial)] ?_
 refine nT (T.seq ?_)
 by_cases hq3:(X0g seq (if (X0k k)=true then (vtV (Y5 f u rows) f (x.getD k zE) 5).X9 else (Fr x k)) (vtV (Y5 f u rows) f (x.getD k zE) 5))=0
 ·have hn9:¬(gS (Y5 f u rows) f seq (Uq x)) (x.getD k zE)≠0:=(by rw [hg9];exact fun q=>q hq3)
  refine sR (Xm (hY · (dT hq3)) [3,4,5] (hS 6 (oY rfl rfl rfl rfl (X3 rfl) (dT hq3) (r_lookup 5 (Fx x k) (x.getD k zE).X5 (.one (dB (mget (Fx x k) (x.getD k zE).X5 false))) (ak:=(Zla x k)) (kd:=Yg) Tryz.underlying201 (Xe9 Tryz.underlying3) rfl Xhh ⟨.inl rfl,trivial⟩ rfl (X3 rfl) p1s))::(hP 7 (dT hq3)::[]))) ?_
  by_cases hq4:(mget (Fx x k) (x.getD k zE).X5 false)=true
  ·have ht9:=(X81 (l:=x) (k:=k) (by omega)).1 hq4;have hz9:=Ec (g:=gS (Y5 f u rows) f seq (Uq x)) need hb (vot_2 hn9 ht9) (by decide) (by omega)
   refine cT hq4 (xK [] (nT (T.seq (sR [] (cT (b:=true) rfl (sR [] (T.ret (rT (rB (rT (rT (rB (rT ?_)))))))))))))
   exact eRt 10 (.one (dI 33)) [0,1,2,3,4] p3p (ix (ix ⟨⟨rfl,p35⟩,⟨⟨rfl,pZ26⟩,(ix trivial)⟩⟩))
  have ht9:¬X03 x k:=(fun q=>absurd ((X81 (by omega)).2 q) ‹_›)
  replace hq4:=Bool.eq_false_iff.2 hq4
  refine cF hq4 (T.skip (nT (T.seq (sR [] ?_))))
  by_cases hq5:(X0g seq (if (X0k k)=true then (vtV (Y5 f u rows) f (x.getD k zE) 5).X9 else (Fr x k)) (vtV (Y5 f u rows) f (x.getD k zE) 5))≠0
  ·exact absurd hq3 hq5
  refine cF (dF hq5) (T.skip (nT (xK [hR 3 rfl rfl (X6o 5 (Fx x k) (x.getD k zE).X5 true (kd:=Yg) (ak:=(Zla x k)) (tv:=.one (dB true)) Tryz.underlying201 (Xe9 Tryz.underlying3) rfl rfl ⟨.inl rfl,trivial⟩ ⟨rfl,trivial⟩)] (nB (nT (xK [hR 0 rfl rfl (Yd (u1:=.int .i64 ((k:Nat):Int)) (u2:=.int .i64 1) (v:=.int .i64 ((k+1:Nat):Int)) (Wb pc) (X3 rfl) ⟨rfl,trivial⟩)] ?_))))))
  refine nL (k+1) ⟨(show (k+1)≤x.length from (by omega)),(show ∀ i,i<(k+1)→X02 (gS (Y5 f u rows) f seq (Uq x)) x i=0 from (Ut hb (vot_3 hn9 ht9)))⟩ (show (x.length-(k+1):Nat)<x.length-k from (by omega)) (fun _ _ hG=>Yv [0,1,2,3,4,5] (bm 20 919583) (h2:=[(Zl4 f u),(Zl5 rows),.live (.box 4 [dB false]),.live (.box 60 [dS (if (X0k k)=true then (Zl9 f u rows x k).X9 else (Fr x k))]),(Zl6 seq),.live (mpK (fInt .i64) Yg (mput (Fx x k) (x.getD k zE).X5 true))]) rfl (by have e1:((X0k (k+1)):Bool)=false:=(by rfl);have e2:((Fr x (k+1)):List UInt8)=(if (X0k k)=true then (vtV (Y5 f u rows) f (x.getD k zE) 5).X9 else (Fr x k)):=(by exact (hdn.1.trans hdn.2.2.2.1.symm).symm);have e3:((Fx x (k+1)):List (Int×Bool))=(mput (Fx x k) (x.getD k zE).X5 true):=(by (rw [Xat (by omega)]));have hE:=congr (congr (congrArg (fun (q1:Bool) (q2:List UInt8) (q3:List (Int×Bool))=>([(Zl4 f u),(Zl5 rows),.live (.box 4 [dB q1]),.live (.box 60 [dS q2]),(Zl6 seq),.live (mpK (fInt .i64) Yg q3)]:List HS)) e1) e2) e3;exact hE) hG)
 refine sR (Xm (hN · true (dF hq3)) [3,4,5,6] (hP 7 (dF hq3)::[])) (cF (b:=false) rfl (T.skip (nT (T.seq (sR [] ?_)))))
 by_cases hq6:(X0g seq (if (X0k k)=true then (vtV (Y5 f u rows) f (x.getD k zE) 5).X9 else (Fr x k)) (vtV (Y5 f u rows) f (x.getD k zE) 5))≠0
 ·have hz9:=Ec (g:=gS (Y5 f u rows) f seq (Uq x)) need hb ((X68 (by rw [hg9];exact hq6)).trans hg9) hq6 (by omega)
  refine cT (dT hq6) (sR [] (T.ret (rT (rB (rT (rT (rB (rT ?_))))))))
  exact eRt 10 (.one (dI (X0g seq (if (X0k k)=true then (Zl9 f u rows x k).X9 else (Fr x k)) (Zl9 f u rows x k)))) [0,1,2,3,4] p3p (ix (ix ⟨⟨rfl,p35⟩,⟨⟨rfl,pZ26⟩,(ix trivial)⟩⟩))
 exact absurd hq3 hq6
abbrev Zlc:TV:=.one (dS [])
theorem Xfc (f:Int) (u:Int) (rows:List (Yl×Bool)) (seq:Int) (tx:Bool) (nx:Bool) (sx:Bool) (x:List aE) (hf:0≤f∧f≤2) (hu:0≤u∧u≤8) (hx:X16 x):Holds Tryz.prog 59 ⟨[pv 0 0,vI seq,slV tx nx (kE sx) x],[.box 130 [dI (3*f+1),dI u,.mref 1],mpK Xx Yg rows],.tup [.one (dS (stD (Y5 f u rows) f seq x)),.one (dI (stE (Y5 f u rows) f seq x))],[.live (.box 130 [dI (3*f+1),dI u,.mref 1]),.live (mpK Xx Yg rows)]⟩:=by
 refine Holds.of Tryz.func59 rfl (N:=25) Tryz.ntmps59 rfl fun w0 B0 S0 U0=>?_
 show T _ (Y2 25 2 w0 S0 U0 B0) ⟨[pv 0 0,vI seq,slV tx nx (kE sx) x],[.live (.box 130 [dI (3*f+1),dI u,.mref 1]),.live (mpK Xx Yg rows)]⟩ _ _
 refine sR [] (T.seq (sR [] ?_))
 by_cases hq1:seq=0
 ·refine cT (dT hq1) (T.seq (sR [] ?_))
  by_cases hq2:((x.length:Nat):Int)>0
  ·have hx9:=st_0 (C:=(Y5 f u rows)) (f:=f) ‹_› hq2
   refine cT (dT hq2) (sR [] (T.ret (rT (rT ?_))))
   exact eX [.c 6 3 60 0 60 [dS []] (Zlc),.t 7 (.one (dI 120))] ⟨⟨rfl,rfl,by kernel_rfl,by kernel_rfl,.inr ⟨X2e,_,rfl,rfl⟩⟩,⟨⟨rfl,by kernel_rfl⟩,trivial⟩⟩ [0,1] (cg2 (fun (q1:List UInt8) (q2:Int)=>(.tup [.one (dS q1),.one (dI q2)]:AV)) Hz p3l) (ix (ix trivial))
  have hx9:=st_1 (C:=(Y5 f u rows)) (f:=f) ‹_› hq2
  refine cF (dF hq2) (T.skip (nT (sR [] (T.ret (rT ?_)))))
  exact eX [.c 6 3 60 0 60 [dS []] (Zlc),.t 7 (.one (dI 0))] ⟨⟨rfl,rfl,by kernel_rfl,by kernel_rfl,.inr ⟨X2e,_,rfl,rfl⟩⟩,⟨⟨rfl,by kernel_rfl⟩,trivial⟩⟩ [0,1] (cg2 (fun (q1:List UInt8) (q2:Int)=>(.tup [.one (dS q1),.one (dI q2)]:AV)) Hz p3l) (ix (ix trivial))
 have hs0:=hq1
 refine cF (dF hq1) (T.skip (nT (sR [] (sR [hR 3 rfl rfl (rCa (Xcv f u rows ‹_› ‹_›) Tryz.func33 [0,1] [(.tmp 16,pv 0 0)] 2 2),hR 4 rfl rfl (X1m (k:=.i64) (a:=1) (b:=2*f+1) (X3 rfl) ⟨rfl,trivial⟩),hR 5 rfl rfl (Xjp (f:=117) (ls:=[(.tmp 8,4),(.tmp 6,3),(.tmp 4,2)]) rfl (X3 rfl) trivial),hR 6 rfl rfl (rCa (Xfb f u rows tx nx sx x (max 1 (2*f+1)) seq ‹_› ‹_› ‹_›) Tryz.func116 [0,1,4,3,2] [(.tmp 14,pv 0 0),(.tmp 15,slV tx nx (kE sx) x),(.const (.int .i64 5),vI 5),(.tmp 18,vI (max 1 (2*f+1))),(.tmp 19,sv (.clo 117 [4,3,2]))] 5 5)] (T.seq (sR [] ?_))))))
 by_cases hq3:(X55 (gS (Y5 f u rows) f seq (Uq x)) x (max 1 (2*f+1)))≠0
 ·have hx9:=st_t hs0 rfl hq3
  refine cT (dT hq3) (sR [] (T.ret (rT ?_)))
  exact eX [.c 6 3 60 0 60 [dS []] (Zlc),.t 7 (.one (dI (X55 (gS (Y5 f u rows) f seq (Uq x)) x (max 1 (2*f+1)))))] ⟨⟨rfl,rfl,by kernel_rfl,by kernel_rfl,.inr ⟨X2e,_,rfl,rfl⟩⟩,⟨⟨rfl,by kernel_rfl⟩,trivial⟩⟩ [0,1] (cg2 (fun (q1:List UInt8) (q2:Int)=>(.tup [.one (dS q1),.one (dI q2)]:AV)) Hz p3l) (ix (ix trivial))
 have hx9:=st_ok hs0 (Classical.not_not.1 hq3)
 refine cF (dF hq3) (T.skip (nT (sR [] (T.ret ?_))))
 exact eX [.c 6 3 60 0 60 [dS (X9k (Y5 f u rows) f x)] (.one (dS (X9k (Y5 f u rows) f x))),.t 7 (.one (dI 0))] ⟨⟨rfl,rfl,by kernel_rfl,by kernel_rfl,.inr ⟨X2e,_,rfl,rfl⟩⟩,⟨⟨rfl,by kernel_rfl⟩,trivial⟩⟩ [0,1] (cg2 (fun (q1:List UInt8) (q2:Int)=>(.tup [.one (dS q1),.one (dI q2)]:AV)) Hz p39) (ix (ix trivial))
abbrev Zld (x:List aE):AV:=slV false false (kE false) x
abbrev Zle (j:Nat):AV:=vI ((j:Nat):Int)
theorem X6j (x:List aE) (j:Nat) (hj:j<x.length) (hx:x.length≤9223372036854775807):Holds Tryz.prog 113 ⟨[slV false false (kE false) x,vI ((j:Nat):Int)],[],vB (decide (X03 x j)),[]⟩:=by
 refine Holds.of Tryz.func113 rfl (N:=22) Tryz.ntmps113 rfl fun w0 B0 S0 U0=>?_
 show T _ (Y2 22 0 w0 S0 U0 B0) ⟨[(Zld x),(Zle j)],[]⟩ _ _
 refine sR [] (T.seq (sR [] (T.block ?_)))
 refine T.loop (ι:=Nat) (fun (k:Nat)=>⟨[(Zld x),(Zle j),aa,aa,vB false,vI ((k:Nat):Int)],[]⟩) (fun (k:Nat)=>(k≤j)∧(∀ i,i<k→¬(x.getD i zE).X5=(x.getD j zE).X5)) (fun (k:Nat)=>j-k) (0) ⟨(Nat.zero_le _),(fun j hj=>absurd hj (Nat.not_lt_zero _))⟩ (fun _ _ hG=>Yv [] (bm 6 51) rfl rfl hG) ?_
 rintro k ⟨hk,hb⟩
 show T _ _ ⟨[(Zld x),(Zle j),aa,aa,vB false,vI ((k:Nat):Int)],[]⟩ _ _
 replace hk:k≤j:=hk
 replace hb:∀ i,i<k→¬(x.getD i zE).X5=(x.getD j zE).X5:=hb
 refine T.seq (sR [] ?_)
 by_cases hq1:((k:Nat):Int)<((j:Nat):Int)
 ·refine cT (dT hq1) (T.skip (nT (T.seq (T.block ?_))))
  refine sD [[],[],[0,1],[0,1,2],[0,1,2,3],[],[],[5,6],[5,6,7],[5,6,7,8],[0,1,2,3,4,5,6,7,8,9]] [hR 2 rfl rfl (We false false (kE false) x k (k:=.i64) (i:=((k:Nat):Int)) Tryz.underlying37 Vi rfl rfl (by omega) (X3 rfl) trivial),hR 7 rfl rfl (We false false (kE false) x j (k:=.i64) (i:=((j:Nat):Int)) Tryz.underlying37 Vi rfl rfl ‹_› (X3 rfl) trivial)] ?_
  by_cases hq2:(x.getD k zE).X5=(x.getD j zE).X5
  ·refine cT (dT hq2) (sR [] (T.ret (rB (rT (rT (rB (rT ?_)))))))
   exact eRt 4 (.one (dB true)) [] (cB (by exact dT ⟨k,by omega,by assumption⟩)) trivial
  refine cF (dF hq2) (T.skip (nB (nT (xK [hR 1 rfl rfl (Yd (u1:=.int .i64 ((k:Nat):Int)) (u2:=.int .i64 1) (v:=.int .i64 ((k+1:Nat):Int)) (Wb pc) (X3 rfl) ⟨rfl,trivial⟩)] ?_))))
  refine nL (k+1) ⟨(show (k+1)≤j from (by omega)),(show ∀ i,i<(k+1)→¬(x.getD i zE).X5=(x.getD j zE).X5 from (Ut hb ‹_›))⟩ (show (j-(k+1):Nat)<j-k from (by omega)) (fun _ _ hG=>Yv [] (bm 6 51) rfl rfl hG)
 refine cF (dF hq1) (T.exit (xT (xT (xH (nT (sR [] (T.ret ?_)))))))
 exact eRt 4 (.one (dB false)) [] (cB (by exact dF (fun ⟨i,h1,h2⟩=>hb i (by omega) h2))) trivial
section
variable (f:Int) (u:Int) (l:List aE) (seq:Int) (x:List aE) (k:Nat)
abbrev Zlf:AV:=slV false false (kE false) x
abbrev Zlg:List HS:=[.live (.box 135 [dB true,dI f,dI u,.own 1 (kE false).sz 0 l.length]),.live (Xf 43 (kE false) l)]
abbrev Zlh:TV:=.one (dS [])
abbrev Zli:List AV:=[pv 0 0,vI seq,(Zlf x),aa,aa,aa,aa,aa,dv (Yk (Fr x k)),vI ((k:Nat):Int)]
abbrev Zlk:AV:=vI ((k+1:Nat):Int)
end
theorem Xbs (f:Int) (u:Int) (l:List aE) (seq:Int) (x:List aE) (hf:0≤f∧f≤2) (hu:0≤u∧u≤8) (hl:l.length≤9223372036854775806) (hx:X16 x):Holds Tryz.prog 57 ⟨[pv 0 0,vI seq,slV false false (kE false) x],[.box 135 [dB true,dI f,dI u,.own 1 (kE false).sz 0 l.length],Xf 43 (kE false) l],.tup [.one (dS (stD (Xw f u l) f seq x)),.one (dI (stE (Xw f u l) f seq x))],[.live (.box 135 [dB true,dI f,dI u,.own 1 (kE false).sz 0 l.length]),.live (Xf 43 (kE false) l)]⟩:=by
 refine Holds.of Tryz.func57 rfl (N:=61) Tryz.ntmps57 rfl fun w0 B0 S0 U0=>?_
 show T _ (Y2 61 2 w0 S0 U0 B0) ⟨[pv 0 0,vI seq,(Zlf x)],(Zlg f u l)⟩ _ _
 have hx1:=hx.1
 refine sR [] (T.seq (sR [] ?_))
 by_cases hq1:seq=0
 ·refine cT (dT hq1) (T.seq (sR [] ?_))
  by_cases hq2:((x.length:Nat):Int)>0
  ·have hx9:=st_0 (C:=(Xw f u l)) (f:=f) ‹_› hq2
   refine cT (dT hq2) (sR [] (T.ret (rT (rT ?_))))
   exact eX [.t 6 (Zlh),.t 7 (.one (dI 120))] ⟨⟨rfl,by kernel_rfl⟩,⟨⟨rfl,by kernel_rfl⟩,trivial⟩⟩ [0,1] (cg2 (fun (q1:List UInt8) (q2:Int)=>(.tup [.one (dS q1),.one (dI q2)]:AV)) Hz p3l) (ix (ix trivial))
  have hx9:=st_1 (C:=(Xw f u l)) (f:=f) ‹_› hq2
  refine cF (dF hq2) (T.skip (nT (sR [] (T.ret (rT ?_)))))
  exact eX [.t 6 (Zlh),.t 7 (.one (dI 0))] ⟨⟨rfl,by kernel_rfl⟩,⟨⟨rfl,by kernel_rfl⟩,trivial⟩⟩ [0,1] (cg2 (fun (q1:List UInt8) (q2:Int)=>(.tup [.one (dS q1),.one (dI q2)]:AV)) Hz p3l) (ix (ix trivial))
 have hs0:=hq1
 refine cF (dF hq1) (T.skip (nT (sR [] (T.seq (sR [] (T.block ?_))))))
 refine T.loop (ι:=Nat) (fun (k:Nat)=>⟨(Zli seq x k),(Zlg f u l)⟩) (fun (k:Nat)=>(k≤x.length)∧(∀ i,i<k→X02 (gS (Xw f u l) f seq (Uq x)) x i=0)) (fun (k:Nat)=>x.length-k) (0) ⟨(Nat.zero_le _),(fun j hj=>absurd hj (Nat.not_lt_zero _))⟩ (fun _ _ hG=>Yv [0,1] (bm 10 775) (t2:=[pv 0 0,vI seq,(Zlf x),aa,aa,aa,aa,aa,dv (Yk []),vI 0]) (congrArg (fun (q1:List UInt8)=>([pv 0 0,vI seq,(Zlf x),aa,aa,aa,aa,aa,dv (Yk q1),vI 0]:List AV)) (by rfl)) rfl hG) ?_
 rintro k ⟨hk,hb⟩
 show T _ _ ⟨(Zli seq x k),(Zlg f u l)⟩ _ _
 replace hk:k≤x.length:=hk
 replace hb:∀ i,i<k→X02 (gS (Xw f u l) f seq (Uq x)) x i=0:=hb
 refine T.seq (sR [] ?_)
 by_cases hq3:((k:Nat):Int)<((x.length:Nat):Int)
 rotate_left
 ·have hz0:=tly_0 (g:=gS (Xw f u l) f seq (Uq x)) (max 1 (2*f+1)) hb (by omega);have hda:=Xh3 hb hk (.inl (by omega))
  refine cF (dF hq3) (T.exit (xT (xT (xH (nT (T.seq (sR [hR 3 rfl rfl (rCa (Xby f u l ‹_› ‹_›) Tryz.func114 [0,1] [(.tmp 56,pv 0 0)] 2 2),hR 4 rfl rfl (X1m (k:=.i64) (a:=1) (b:=2*f+1) (X3 rfl) ⟨rfl,trivial⟩)] ?_)))))))
  by_cases hq12:((x.length:Nat):Int)<(max 1 (2*f+1))
  ·have hx9:=st_t hs0 (hz0.trans (if_pos hq12)) (by decide)
   refine cT (dT hq12) (sR [] (T.ret (rT ?_)))
   exact eX [.t 6 (Zlh),.t 7 (.one (dI 32))] ⟨⟨rfl,by kernel_rfl⟩,⟨⟨rfl,by kernel_rfl⟩,trivial⟩⟩ [0,1] (cg2 (fun (q1:List UInt8) (q2:Int)=>(.tup [.one (dS q1),.one (dI q2)]:AV)) Hz p3l) (ix (ix trivial))
  have hx9:=st_ok hs0 (hz0.trans (if_neg hq12))
  refine cF (dF hq12) (T.skip (nT (sR [] (T.ret ?_))))
  exact eX [.t 6 (.one (dS (Fr x k))),.t 7 (.one (dI 0))] ⟨⟨rfl,by kernel_rfl⟩,⟨⟨rfl,by kernel_rfl⟩,trivial⟩⟩ [0,1] (cg2 (fun (q1:List UInt8) (q2:Int)=>(.tup [.one (dS q1),.one (dI q2)]:AV)) (by exact (hda.1.trans hx9.1.symm).symm) p39) (ix (ix trivial))
 have hgk:=X90 hx (k:=k) (by omega);have hgk1:=hgk.1.1;have hgk2:=hgk.1.2;have hgk3:=hgk.2
 refine cT (dT hq3) (T.skip (nT (T.seq (T.block (sR [hR 3 rfl rfl (We false false (kE false) x k (k:=.i64) (i:=((k:Nat):Int)) Tryz.underlying37 Vi rfl rfl (by omega) (X3 rfl) trivial),hR 5 rfl rfl (rCa (Xg3 f u l (x.getD k zE) 5 ‹_› ‹_› ‹_› (by omega) (by omega)) Tryz.func112 [0,1] [(.tmp 24,pv 0 0),(.tmp 28,.tv (.agg [dI (x.getD k zE).X5,dU (x.getD k zE).Xd])),(.const (.int .i64 5),vI 5)] 2 2)] (T.seq (sR [] ?_)))))))
 by_cases hq4:((k:Nat):Int)=0
 ·have hgd:digN (Xw f u l) f x k=(vtV (Xw f u l) f (x.getD k zE) 5).X9:=if_pos (dT (show k=0 by omega))
  refine cT (dT hq4) (xK [] (nT (T.block (sR [] ?_))))
  by_cases hq5:(vtE (Xw f u l) f (x.getD k zE) 5)≠0
  ·have hg9:=gS_1 (seq:=seq) (d:=Uq x) hq5;have hz9:=Ec (g:=gS (Xw f u l) f seq (Uq x)) (max 1 (2*f+1)) hb ((X68 (by rw [hg9];exact hq5)).trans hg9) hq5 (by omega);have hx9:=st_t hs0 hz9 hq5
   refine cT (dT hq5) (sR [] (T.ret (rB (rB (rT (rT (rB (rT ?_))))))))
   exact eX [.t 6 (Zlh),.t 7 (.one (dI (vtE (Xw f u l) f (x.getD k zE) 5)))] ⟨⟨rfl,by kernel_rfl⟩,⟨⟨rfl,by kernel_rfl⟩,trivial⟩⟩ [0,1] (cg2 (fun (q1:List UInt8) (q2:Int)=>(.tup [.one (dS q1),.one (dI q2)]:AV)) Hz p3l) (ix (ix trivial))
  have hv9:=hq5;have hdn:=X9j hb (by omega) hv9;have hg9:gS (Xw f u l) f seq (Uq x) (x.getD k zE)=X0g seq (digN (Xw f u l) f x k) (vtV (Xw f u l) f (x.getD k zE) 5):=(gS_2 hv9).trans (by rw [hdn.1]);rw [hgd] at hg9
  refine cF (dF hq5) (sR [] ?_)
  by_cases hq6:(vtV (Xw f u l) f (x.getD k zE) 5).Xs≠seq
  ·have he9:=hg9.trans (if_pos hq6);have hz9:=Ec (g:=gS (Xw f u l) f seq (Uq x)) (max 1 (2*f+1)) hb ((X68 (by rw [he9];decide)).trans he9) (by decide) (by omega);have hx9:=st_t hs0 hz9 (by decide)
   refine cT (dT hq6) (sR [] (T.ret (rB (rB (rT (rT (rB (rT ?_))))))))
   exact eX [.t 6 (Zlh),.t 7 (.one (dI 131))] ⟨⟨rfl,by kernel_rfl⟩,⟨⟨rfl,by kernel_rfl⟩,trivial⟩⟩ [0,1] (cg2 (fun (q1:List UInt8) (q2:Int)=>(.tup [.one (dS q1),.one (dI q2)]:AV)) Hz p3l) (ix (ix trivial))
  have hq9:=hq6
  refine cF (dF hq6) (sR [] (cF (show decide ((vtV (Xw f u l) f (x.getD k zE) 5).X9≠(vtV (Xw f u l) f (x.getD k zE) 5).X9)=false from dF (fun h=>h rfl)) (sR [hR 2 rfl rfl (rCa (X6j x k (by omega) (by omega)) Tryz.func113 [] [(.tmp 51,(Zlf x)),(.tmp 52,vI ((k:Nat):Int))] 0 0)] ?_)))
  by_cases hq7:X03 x k
  ·have hn9:¬(gS (Xw f u l) f seq (Uq x)) (x.getD k zE)≠0:=p57;have hz9:=Ec (g:=gS (Xw f u l) f seq (Uq x)) (max 1 (2*f+1)) hb (vot_2 hn9 hq7) (by decide) (by omega);have hx9:=st_t hs0 hz9 (by decide)
   refine cT (dT hq7) (sR [] (T.ret (rB (rB (rT (rT (rB (rT ?_))))))))
   exact eX [.t 6 (Zlh),.t 7 (.one (dI 33))] ⟨⟨rfl,by kernel_rfl⟩,⟨⟨rfl,by kernel_rfl⟩,trivial⟩⟩ [0,1] (cg2 (fun (q1:List UInt8) (q2:Int)=>(.tup [.one (dS q1),.one (dI q2)]:AV)) Hz p3l) (ix (ix trivial))
  have hn9:¬(gS (Xw f u l) f seq (Uq x)) (x.getD k zE)≠0:=p57;have ht9:=hq7
  refine cF (dF hq7) (T.skip (nB (nB (nT (xK [hR 1 rfl rfl (Yd (u1:=.int .i64 ((k:Nat):Int)) (u2:=.int .i64 1) (v:=.int .i64 ((k+1:Nat):Int)) (Wb pc) (X3 rfl) ⟨rfl,trivial⟩)] ?_)))))
  refine nL (k+1) ⟨(show (k+1)≤x.length from (by omega)),(show ∀ i,i<(k+1)→X02 (gS (Xw f u l) f seq (Uq x)) x i=0 from (Ut hb (vot_3 hn9 ht9)))⟩ (show (x.length-(k+1):Nat)<x.length-k from (by omega)) (fun _ _ hG=>Yv [0,1] (bm 10 775) (t2:=[pv 0 0,vI seq,(Zlf x),aa,aa,aa,aa,aa,dv (Yk (vtV (Xw f u l) f (x.getD k zE) 5).X9),(Zlk k)]) p3a rfl hG)
 have hgd:digN (Xw f u l) f x k=Fr x k:=if_neg (by rw [show X0k k=false from dF (by omega)];decide)
 refine cF (dF hq4) (T.skip (nT (T.block (sR [] ?_))))
 by_cases hq8:(vtE (Xw f u l) f (x.getD k zE) 5)≠0
 ·have hg9:=gS_1 (seq:=seq) (d:=Uq x) hq8;have hz9:=Ec (g:=gS (Xw f u l) f seq (Uq x)) (max 1 (2*f+1)) hb ((X68 (by rw [hg9];exact hq8)).trans hg9) hq8 (by omega);have hx9:=st_t hs0 hz9 hq8
  refine cT (dT hq8) (sR [] (T.ret (rB (rB (rT (rT (rB (rT ?_))))))))
  exact eX [.t 6 (Zlh),.t 7 (.one (dI (vtE (Xw f u l) f (x.getD k zE) 5)))] ⟨⟨rfl,by kernel_rfl⟩,⟨⟨rfl,by kernel_rfl⟩,trivial⟩⟩ [0,1] (cg2 (fun (q1:List UInt8) (q2:Int)=>(.tup [.one (dS q1),.one (dI q2)]:AV)) Hz p3l) (ix (ix trivial))
 have hv9:=hq8;have hdn:=X9j hb (by omega) hv9;have hg9:gS (Xw f u l) f seq (Uq x) (x.getD k zE)=X0g seq (digN (Xw f u l) f x k) (vtV (Xw f u l) f (x.getD k zE) 5):=(gS_2 hv9).trans (by rw [hdn.1]);rw [hgd] at hg9
 refine cF (dF hq8) (sR [] ?_)
 by_cases hq9:(vtV (Xw f u l) f (x.getD k zE) 5).Xs≠seq
 ·have he9:=hg9.trans (if_pos hq9);have hz9:=Ec (g:=gS (Xw f u l) f seq (Uq x)) (max 1 (2*f+1)) hb ((X68 (by rw [he9];decide)).trans he9) (by decide) (by omega);have hx9:=st_t hs0 hz9 (by decide)
  refine cT (dT hq9) (sR [] (T.ret (rB (rB (rT (rT (rB (rT ?_))))))))
  exact eX [.t 6 (Zlh),.t 7 (.one (dI 131))] ⟨⟨rfl,by kernel_rfl⟩,⟨⟨rfl,by kernel_rfl⟩,trivial⟩⟩ [0,1] (cg2 (fun (q1:List UInt8) (q2:Int)=>(.tup [.one (dS q1),.one (dI q2)]:AV)) Hz p3l) (ix (ix trivial))
 have hq9:=hq9
 refine cF (dF hq9) (sR [] ?_)
 by_cases hq10:(vtV (Xw f u l) f (x.getD k zE) 5).X9≠(Fr x k)
 ·have he9:=hg9.trans ((if_neg hq9).trans (if_pos hq10));have hz9:=Ec (g:=gS (Xw f u l) f seq (Uq x)) (max 1 (2*f+1)) hb ((X68 (by rw [he9];decide)).trans he9) (by decide) (by omega);have hx9:=st_t hs0 hz9 (by decide)
  refine cT (dT hq10) (sR [] (T.ret (rB (rB (rT (rT (rB (rT ?_))))))))
  exact eX [.t 6 (Zlh),.t 7 (.one (dI 132))] ⟨⟨rfl,by kernel_rfl⟩,⟨⟨rfl,by kernel_rfl⟩,trivial⟩⟩ [0,1] (cg2 (fun (q1:List UInt8) (q2:Int)=>(.tup [.one (dS q1),.one (dI q2)]:AV)) Hz p3l) (ix (ix trivial))
 have he9:=hg9.trans ((if_neg hq9).trans (if_neg hq10));have hn9:¬(gS (Xw f u l) f seq (Uq x)) (x.getD k zE)≠0:=(by rw [he9];simp)
 refine cF (dF hq10) (sR [hR 2 rfl rfl (rCa (X6j x k (by omega) (by omega)) Tryz.func113 [] [(.tmp 51,(Zlf x)),(.tmp 52,vI ((k:Nat):Int))] 0 0)] ?_)
 by_cases hq11:X03 x k
 ·have hn9:¬(gS (Xw f u l) f seq (Uq x)) (x.getD k zE)≠0:=(by exact hn9);have hz9:=Ec (g:=gS (Xw f u l) f seq (Uq x)) (max 1 (2*f+1)) hb (vot_2 hn9 hq11) (by decide) (by omega);have hx9:=st_t hs0 hz9 (by decide)
  refine cT (dT hq11) (sR [] (T.ret (rB (rB (rT (rT (rB (rT ?_))))))))
  exact eX [.t 6 (Zlh),.t 7 (.one (dI 33))] ⟨⟨rfl,by kernel_rfl⟩,⟨⟨rfl,by kernel_rfl⟩,trivial⟩⟩ [0,1] (cg2 (fun (q1:List UInt8) (q2:Int)=>(.tup [.one (dS q1),.one (dI q2)]:AV)) Hz p3l) (ix (ix trivial))
 have hn9:¬(gS (Xw f u l) f seq (Uq x)) (x.getD k zE)≠0:=(by exact hn9);have ht9:=hq11
 refine cF (dF hq11) (T.skip (nB (nB (nT (xK [hR 1 rfl rfl (Yd (u1:=.int .i64 ((k:Nat):Int)) (u2:=.int .i64 1) (v:=.int .i64 ((k+1:Nat):Int)) (Wb pc) (X3 rfl) ⟨rfl,trivial⟩)] ?_)))))
 refine nL (k+1) ⟨(show (k+1)≤x.length from (by omega)),(show ∀ i,i<(k+1)→X02 (gS (Xw f u l) f seq (Uq x)) x i=0 from (Ut hb (vot_3 hn9 ht9)))⟩ (show (x.length-(k+1):Nat)<x.length-k from (by omega)) (fun _ _ hG=>Yv [0,1] (bm 10 775) (t2:=[pv 0 0,vI seq,(Zlf x),aa,aa,aa,aa,aa,dv (Yk (Fr x k)),(Zlk k)]) p3a rfl hG)
end Go.Proofs.YtnaopgohccacmaaGreat.Q
namespace Go.Proofs.YtnaopgohccacmaaGreat.Q
open Go Go.RowKit
set_option linter.unusedVariables false
end Go.Proofs.YtnaopgohccacmaaGreat.Q
namespace Go.Proofs.YtnaopgohccacmaaGreat.Q
open Go Go.RowKit
set_option linter.unusedVariables false
set_option linter.unusedSimpArgs false
set_option maxRecDepth 100000
set_option maxHeartbeats 4000000
section
variable (f:Int) (u:Int) (l:List aE) (c:aC) (kind:Int) (need:Int) (k:Nat)
end
end Go.Proofs.YtnaopgohccacmaaGreat.Q
namespace Go.Proofs.YtnaopgohccacmaaGreat.Q
set_option linter.unusedVariables false
set_option linter.unusedSimpArgs false
set_option maxRecDepth 100000
section
variable (C:aE→Int) (f seq:Int) (x:List aE) (b:List UInt8)
def s9E:Int:=if seq<1 then 2 else if stE C f seq x≠0 then stE C f seq x else if stD C f seq x≠ofB 7 [b] then 132 else if unE ((b.length:Nat):Int) b≠0∨unH ((b.length:Nat):Int) b≠seq then 12 else 0
def s9D:List UInt8:=if s9E C f seq x b=0 then unD ((b.length:Nat):Int) b else []
def s9S:List UInt8:=if s9E C f seq x b=0 then unS ((b.length:Nat):Int) b else []
end
section
variable {C:aE→Int} {f seq:Int} {x:List aE} {b:List UInt8}
theorem s9_of {n:Int} (h:s9E C f seq x b=n) (hn:n≠0):s9D C f seq x b=[]∧s9S C f seq x b=[]∧s9E C f seq x b=n:=⟨if_neg (by rw [h];exact hn),if_neg (by rw [h];exact hn),h⟩
theorem Xfy (h:seq<1):s9D C f seq x b=[]∧s9S C f seq x b=[]∧s9E C f seq x b=2:=s9_of (if_pos h) (by decide)
theorem s9_st (h:¬seq<1) (h1:stE C f seq x≠0):s9D C f seq x b=[]∧s9S C f seq x b=[]∧s9E C f seq x b=stE C f seq x:=s9_of ((if_neg h).trans (if_pos h1)) h1
theorem s9_dig (h:¬seq<1) (h1:¬stE C f seq x≠0) (h2:stD C f seq x≠ofB 7 [b]):s9D C f seq x b=[]∧s9S C f seq x b=[]∧s9E C f seq x b=132:=s9_of ((if_neg h).trans ((if_neg h1).trans (if_pos h2))) (by decide)
theorem X7d (h:¬seq<1) (h1:¬stE C f seq x≠0) (h2:¬stD C f seq x≠ofB 7 [b]) (h3:unE ((b.length:Nat):Int) b≠0∨unH ((b.length:Nat):Int) b≠seq):s9D C f seq x b=[]∧s9S C f seq x b=[]∧s9E C f seq x b=12:=s9_of ((if_neg h).trans ((if_neg h1).trans ((if_neg h2).trans (if_pos h3)))) (by decide)
theorem s9_ok (h:¬seq<1) (h1:¬stE C f seq x≠0) (h2:¬stD C f seq x≠ofB 7 [b]) (h3:¬unE ((b.length:Nat):Int) b≠0) (h4:¬unH ((b.length:Nat):Int) b≠seq):s9D C f seq x b=unD ((b.length:Nat):Int) b∧s9S C f seq x b=unS ((b.length:Nat):Int) b∧s9E C f seq x b=0:=by
  have e:s9E C f seq x b=0:=(if_neg h).trans ((if_neg h1).trans ((if_neg h2).trans (if_neg (fun q=>q.elim h3 h4))))
  exact ⟨if_pos e,if_pos e,e⟩
theorem s9_seq (h:s9E C f seq x b=0):¬seq<1:=fun q=>by rw [(Xfy (C:=C) (f:=f) (x:=x) (b:=b) q).2.2] at h;cases h
end
def X3k (l:List Yb) (d:List UInt8) (i:Nat):List UInt8:=if i+1<l.length then (l.getD (i+1) Xo).Y0 else d
def X5v (l:List Yb) (H:Int) (k:Nat):Prop:=∀ i,i<l.length→l.length-k≤i→(l.getD i Xo).Xg=H-(((l.length:Nat):Int)-1-((i:Nat):Int))
def Fv (l:List Yb) (d:List UInt8) (k:Nat):Prop:=∀ i,i<l.length→l.length-k≤i→Fa (l.getD i Xo)=X3k l d i
instance (l:List Yb) (H:Int) (k:Nat):Decidable (X5v l H k):=by unfold X5v;infer_instance
instance (l:List Yb) (d:List UInt8) (k:Nat):Decidable (Fv l d k):=by unfold Fv;infer_instance
def Fq (l:List Yb) (d:List UInt8) (k:Nat):Int:=if Fv l d k then 0 else 101
def X95 (l:List Yb) (H:Int) (d:List UInt8):Int:=if X5v l H l.length then Fq l d l.length else 100
section
variable {l:List Yb} {H:Int} {d:List UInt8} {k:Nat}
theorem hgt_0:X5v l H 0:=fun i h1 h2=>by omega
theorem dig_00:Fv l d 0:=fun i h1 h2=>by omega
theorem hgt_succ (hk:k<l.length) (h:X5v l H k) (h1:¬(l.getD (l.length-1-k) Xo).Xg≠H-((k:Nat):Int)):X5v l H (k+1):=fun i hi h2=>by
  by_cases q:l.length-k≤i
  · exact h i hi q
  · rw [show i=l.length-1-k by omega,Classical.not_not.1 h1];omega
theorem lnk_h (hk:k<l.length) (h1:(l.getD (l.length-1-k) Xo).Xg≠H-((k:Nat):Int)):X95 l H d=100:=if_neg fun q=>h1 (by rw [q (l.length-1-k) (by omega) (by omega)];omega)
theorem lnk_end (hk:l.length≤k) (hk2:k≤l.length) (h:X5v l H k):X95 l H d=Fq l d k:=by
  have e:k=l.length:=by omega
  subst e
  exact if_pos h
theorem Xex (h:Fq l d k≠0):Fq l d (k+1)=Fq l d k∧¬Fv l d (k+1):=by
  have hn:¬Fv l d k:=fun q=>h (if_pos q)
  have hn':¬Fv l d (k+1):=fun q=>hn fun i h1 h2=>q i h1 (by omega)
  exact ⟨by unfold Fq;rw [if_neg hn,if_neg hn'],hn'⟩
theorem err_0 (h:¬Fq l d k≠0):Fv l d k:=Classical.byContradiction fun q=>h (by unfold Fq;rw [if_neg q];decide)
theorem Xio {w:List UInt8} (hk:k<l.length) (hw:Fv l d k→k<l.length→w=X3k l d (l.length-1-k)) (h:¬Fq l d k≠0) (h1:Fa (l.getD (l.length-1-k) Xo)≠w):Fq l d (k+1)=101∧¬Fv l d (k+1):=by
  have hn:¬Fv l d (k+1):=fun q=>h1 (by rw [hw (err_0 h) hk,q (l.length-1-k) (by omega) (by omega)])
  exact ⟨if_neg hn,hn⟩
theorem err_good {w:List UInt8} (hk:k<l.length) (hw:Fv l d k→k<l.length→w=X3k l d (l.length-1-k)) (h:¬Fq l d k≠0) (h1:¬Fa (l.getD (l.length-1-k) Xo)≠w):Fq l d (k+1)=Fq l d k:=by
  have h0:=err_0 h
  have hn:Fv l d (k+1):=fun i hi h2=>by
    by_cases q:l.length-k≤i
    · exact h0 i hi q
    · rw [show i=l.length-1-k by omega,Classical.not_not.1 h1,hw h0 hk]
  unfold Fq
  rw [if_pos hn,if_pos h0]
theorem nxt_end (hk:0<l.length):X3k l d (l.length-1-0)=d:=if_neg (by omega)
theorem nxt_prev (hk:k+1<l.length):X3k l d (l.length-1-(k+1))=(l.getD (l.length-1-k) Xo).Y0:=by
  unfold X3k
  rw [if_pos (by omega),show l.length-1-(k+1)+1=l.length-1-k by omega]
end
def okHs (l:List Yb):Prop:=∀ h,h∈l→h.Y0.length≤10000000∧h.W3.length≤10000000∧h.Ye≤9223372036854775807∧Ek h.Xg
def okC9 (c:Wr):Prop:=X16 c.Xu∧c.Xc.length≤100000000∧okHs c.X2∧c.X2.length≤100000∧I0 szS 70 30000 c.Yu∧c.Xl.Xd.length≤500∧Ek c.Xs
theorem Xe4 {l:List Yb} (h:okHs l) (k:Nat):(l.getD k Xo).Y0.length≤10000000∧(l.getD k Xo).W3.length≤10000000∧(l.getD k Xo).Ye≤9223372036854775807∧Ek (l.getD k Xo).Xg:=by
  by_cases hk:k<l.length
  · exact h _ (J3 hk)
  · rw [List.getD_eq_getElem?_getD,List.getElem?_eq_none (by omega)]
    exact ⟨by decide,by decide,by decide,by unfold Ek;decide⟩
def inc9 (c:Wr):Int:=I1 (c.X2.getD 0 Xo).W3 (Vr c.Xl c.X0) c.Vp (c.X2.getD 0 Xo).Ye c.Yu
def c9E (C:aE→Int) (f:Int) (c:Wr):Int:=if s9E C f c.Xs c.Xu c.Xc≠0 then s9E C f c.Xs c.Xu c.Xc else if c.X2.length=0∨1000<c.X2.length then 90 else if X95 c.X2 c.Xs (s9D C f c.Xs c.Xu c.Xc)≠0 then X95 c.X2 c.Xs (s9D C f c.Xs c.Xu c.Xc) else inc9 c
section
variable {C:aE→Int} {f:Int} {c:Wr}
theorem c9_s (h:s9E C f c.Xs c.Xu c.Xc≠0):c9E C f c=s9E C f c.Xs c.Xu c.Xc:=if_pos h
theorem c9_n (h:¬s9E C f c.Xs c.Xu c.Xc≠0) (h1:c.X2.length=0∨1000<c.X2.length):c9E C f c=90:=(if_neg h).trans (if_pos h1)
theorem c9_l (h:¬s9E C f c.Xs c.Xu c.Xc≠0) (h1:¬(c.X2.length=0∨1000<c.X2.length)) (h2:X95 c.X2 c.Xs (s9D C f c.Xs c.Xu c.Xc)≠0):c9E C f c=X95 c.X2 c.Xs (s9D C f c.Xs c.Xu c.Xc):=(if_neg h).trans ((if_neg h1).trans (if_pos h2))
theorem c9_i (h:¬s9E C f c.Xs c.Xu c.Xc≠0) (h1:¬(c.X2.length=0∨1000<c.X2.length)) (h2:¬X95 c.X2 c.Xs (s9D C f c.Xs c.Xu c.Xc)≠0):c9E C f c=inc9 c:=(if_neg h).trans ((if_neg h1).trans (if_neg h2))
end
def hdrs (bf:Int→Xq) (h:Int) (k:Nat):List Yb:=(List.range k).map fun (t:Nat)=>Wp (bf (h+((t:Nat):Int)))
theorem Xk6 (bf:Int→Xq) (h:Int) (k:Nat):hdrs bf h (k+1)=hdrs bf h k++[Wp (bf (h+((k:Nat):Int)))]:=by unfold hdrs;rw [List.range_succ,List.map_append];rfl
theorem X4m (bf:Int→Xq) (h:Int) (k:Nat):(hdrs bf h k).length=k:=by unfold hdrs;rw [List.length_map,List.length_range]
def Hc (bf:Int→Xq) (h:Int) (k:Nat):Xq:=if k=0 then W1 else bf h
theorem frs_0 {bf:Int→Xq} {h:Int} {k:Nat} (hk:h+((k:Nat):Int)=h):Hc bf h (k+1)=bf (h+((k:Nat):Int)):=by rw [hk];exact if_neg (by omega)
theorem frs_s {bf:Int→Xq} {h:Int} {k:Nat} (hk:¬h+((k:Nat):Int)=h):Hc bf h (k+1)=Hc bf h k:=by unfold Hc;rw [if_neg (by omega),if_neg (by omega)]
theorem frs_pos {bf:Int→Xq} {h:Int} {k:Nat} (hk:0<k):Hc bf h k=bf h:=if_neg (by omega)
section
variable (bf:Int→Xq) (n:Nat) (seq:Int) (x:List aE) (b:List UInt8) (h i:Int)
def Hy:Int:=if unE ((b.length:Nat):Int) b≠0∨unH ((b.length:Nat):Int) b≠seq then 12 else if h<1∨h>seq∨seq-h>999 then 2 else if seq>((n:Nat):Int) then 4 else J8 (bf h) i
def Vc:Wr:=if Hy bf n seq b h i=0 then ⟨seq,x,b,hdrs bf h (seq-h+1).toNat,i,(bf h).Xb.getD i.toNat zE,(bf h).Xj.getD i.toNat Yj,Is (bf h) i⟩ else I7
end
section
variable {bf:Int→Xq} {n:Nat} {seq:Int} {x:List aE} {b:List UInt8} {h i:Int}
theorem Xc2 {e:Int} (q:Hy bf n seq b h i=e) (he:e≠0):Vc bf n seq x b h i=I7∧Hy bf n seq b h i=e:=⟨if_neg (by rw [q];exact he),q⟩
theorem X4d (q:unE ((b.length:Nat):Int) b≠0∨unH ((b.length:Nat):Int) b≠seq):Vc bf n seq x b h i=I7∧Hy bf n seq b h i=12:=Xc2 (if_pos q) (by decide)
theorem X2l (q1:¬unE ((b.length:Nat):Int) b≠0) (q2:¬unH ((b.length:Nat):Int) b≠seq) (q:h<1∨h>seq∨seq-h>999):Vc bf n seq x b h i=I7∧Hy bf n seq b h i=2:=Xc2 ((if_neg (fun w=>w.elim q1 q2)).trans (if_pos q)) (by decide)
theorem Xdx (q1:¬unE ((b.length:Nat):Int) b≠0) (q2:¬unH ((b.length:Nat):Int) b≠seq) (q:¬(h<1∨h>seq∨seq-h>999)) (q3:seq>((n:Nat):Int)):Vc bf n seq x b h i=I7∧Hy bf n seq b h i=4:=Xc2 ((if_neg (fun w=>w.elim q1 q2)).trans ((if_neg q).trans (if_pos q3))) (by decide)
theorem Xi1 (q1:¬unE ((b.length:Nat):Int) b≠0) (q2:¬unH ((b.length:Nat):Int) b≠seq) (q:¬(h<1∨h>seq∨seq-h>999)) (q3:¬seq>((n:Nat):Int)) (q4:J8 (bf h) i≠0):Vc bf n seq x b h i=I7∧Hy bf n seq b h i=J8 (bf h) i:=Xc2 ((if_neg (fun w=>w.elim q1 q2)).trans ((if_neg q).trans (if_neg q3))) q4
theorem prv_ok (q1:¬unE ((b.length:Nat):Int) b≠0) (q2:¬unH ((b.length:Nat):Int) b≠seq) (q:¬(h<1∨h>seq∨seq-h>999)) (q3:¬seq>((n:Nat):Int)) (q4:¬J8 (bf h) i≠0) {k:Nat} (hk:((k:Nat):Int)=seq-h+1):Vc bf n seq x b h i=⟨seq,x,b,hdrs bf h k,i,(bf h).Xb.getD i.toNat zE,(bf h).Xj.getD i.toNat Yj,Is (bf h) i⟩∧Hy bf n seq b h i=0:=by
  have e:Hy bf n seq b h i=0:=(if_neg (fun w=>w.elim q1 q2)).trans ((if_neg q).trans ((if_neg q3).trans (Classical.not_not.1 q4)))
  refine ⟨(if_pos e).trans ?_,e⟩
  rw [← hk];rfl
end
theorem un_rng {M:Int} {b:List UInt8} (h:¬unE M b≠0):0≤unH M b∧unH M b≤1099511627776:=by
  have h:=Classical.not_not.1 h
  unfold unE at h
  unfold unH
  split at h
  · rename_i q;rw [if_pos q];exact ⟨q.2.1,q.2.2⟩
  · cases h
theorem blk_in {n:Nat} {x:Int} (h:¬X0t 0 n x≠0):1≤x∧x≤((n:Nat):Int):=by
  have h:=Classical.not_not.1 h
  unfold X0t at h
  split at h
  · rename_i q;obtain ⟨q1,q2⟩:=q;omega
  · cases h
theorem Xix {n:Nat} {x:Int} (h:X0t 0 n x≠0) (hx:1≤x):x>((n:Nat):Int):=by
  refine Classical.byContradiction fun q=>h (if_pos ⟨by omega,by omega⟩)
theorem blk_few {l:Links} (hw:Xbd l) (x:Int):Hl (Yz 0 l x):=by
  unfold Yz;split
  · exact Xbc hw _
  · decide
theorem rblk_few {L:List Xq} (hw:X12 L) (x:Int):Hl (rblk 0 L x):=by
  unfold rblk;split
  · exact X5y hw _
  · decide
theorem Xcs (L:List Xq):Yz 0 (Yn L)=rblk 0 L:=funext fun x=>Xkn 0 L x
end Go.Proofs.YtnaopgohccacmaaGreat.Q
namespace Go.Proofs.YtnaopgohccacmaaGreat.Q
open Go Go.RowKit
set_option linter.unusedVariables false
set_option linter.unusedSimpArgs false
set_option maxRecDepth 100000
set_option maxHeartbeats 4000000
section
variable (f:Int) (u:Int) (rows:List (Yl×Bool)) (seq:Int) (tx:Bool) (nx:Bool) (sx:Bool) (x:List aE) (tb:Bool) (nb:Bool) (b:List UInt8)
abbrev Zmo:AV:=slV tx nx (kE sx) x
abbrev Zmp:List HS:=[.live (.box 130 [dI (3*f+1),dI u,.mref 1]),.live (mpK Xx Yg rows)]
abbrev Zmq:AV:=vB (decide (seq<1))
abbrev Zmr:AV:=slV false false kU8 ([]:List UInt8)
abbrev Zms:TV:=.one (dS [])
abbrev Zmt:TV:=.one (dU ([]:List UInt8))
abbrev Zmu:AV:=vB (decide ((stD (Y5 f u rows) f seq x)≠(ofB 7 [b])))
abbrev Zmv:St:=⟨[pv 0 0,vI seq,(Zmo tx nx sx x),slV tb nb kU8 b,aa,aa,aa,aa,dv (Yk []),dv (.slice none 0 0),vI 132,dv (Yk (stD (Y5 f u rows) f seq x)),vI 132,aa,aa,aa,aa,(Zmq seq),aa,aa,aa,aa,aa,aa,aa,aa,aa,aa,aa,aa,aa,aa,(Zmu f u rows seq x b),aa,vB true],(Zmp f u rows)⟩
abbrev Zmw:AV:=vI (unE ((b.length:Nat):Int) b)
abbrev Zmx:AV:=vI (unH ((b.length:Nat):Int) b)
abbrev Zmy:AV:=dv (Yk (unD ((b.length:Nat):Int) b))
abbrev Zmz:AV:=slV false false kU8 (unS ((b.length:Nat):Int) b)
abbrev Zn0:AV:=vB (decide ((stE (Y5 f u rows) f seq x)≠0))
abbrev Zn1:St:=⟨[pv 0 0,vI seq,(Zmo tx nx sx x),slV tb nb kU8 b,aa,aa,aa,aa,dv (Yk []),dv (.slice none 0 0),vI 12,dv (Yk (stD (Y5 f u rows) f seq x)),(Zmw b),(Zmx b),(Zmy b),(Zmz b),aa,(Zmq seq),aa,aa,aa,aa,aa,aa,aa,aa,aa,aa,aa,aa,aa,aa,(Zmu f u rows seq x b),aa,(Zn0 f u rows seq x),aa,aa,aa,aa,aa,aa,aa,aa,aa,aa,aa,aa,aa,aa,vB true],(Zmp f u rows)⟩
abbrev Zn2:St:=⟨[pv 0 0,vI seq,(Zmo tx nx sx x),slV tb nb kU8 b,aa,aa,aa,aa,dv (Yk []),dv (.slice none 0 0),vI 12,dv (Yk (stD (Y5 f u rows) f seq x)),(Zmw b),(Zmx b),(Zmy b),(Zmz b),aa,(Zmq seq),aa,aa,aa,aa,aa,aa,aa,aa,aa,aa,aa,aa,aa,aa,(Zmu f u rows seq x b),aa,(Zn0 f u rows seq x),aa,aa,aa,aa,aa,aa,aa,aa,aa,aa,aa,aa,aa,aa,vB (decide ((unH ((b.length:Nat):Int) b)≠seq))],(Zmp f u rows)⟩
abbrev Zn3:St:=⟨[pv 0 0,vI seq,(Zmo tx nx sx x),slV tb nb kU8 b,aa,aa,aa,aa,dv (Yk []),dv (.slice none 0 0),vI (stE (Y5 f u rows) f seq x),dv (Yk (stD (Y5 f u rows) f seq x)),vI (stE (Y5 f u rows) f seq x),aa,aa,aa,aa,(Zmq seq),aa,aa,aa,aa,aa,aa,aa,aa,aa,aa,aa,aa,aa,aa,vB false,aa,(Zn0 f u rows seq x)],(Zmp f u rows)⟩
end
theorem Xee (f:Int) (u:Int) (rows:List (Yl×Bool)) (seq:Int) (tx:Bool) (nx:Bool) (sx:Bool) (x:List aE) (tb:Bool) (nb:Bool) (b:List UInt8) (hf:0≤f∧f≤2) (hu:0≤u∧u≤8) (hx:X16 x) (hb:b.length≤100000000) (hi:-9223372036854775808≤seq∧seq≤9223372036854775807):Holds Tryz.prog 22 ⟨[pv 0 0,vI seq,slV tx nx (kE sx) x,slV tb nb kU8 b],[.box 130 [dI (3*f+1),dI u,.mref 1],mpK Xx Yg rows],.tup [.one (dS (s9D (Y5 f u rows) f seq x b)),.one (dU (s9S (Y5 f u rows) f seq x b)),.one (dI (s9E (Y5 f u rows) f seq x b))],[.live (.box 130 [dI (3*f+1),dI u,.mref 1]),.live (mpK Xx Yg rows)]⟩:=by
 refine Holds.of Tryz.func22 rfl (N:=52) Tryz.ntmps22 rfl fun w0 B0 S0 U0=>?_
 show T _ (Y2 52 2 w0 S0 U0 B0) ⟨[pv 0 0,vI seq,(Zmo tx nx sx x),slV tb nb kU8 b],(Zmp f u rows)⟩ _ _
 have hun:=Xfs (b:=b) (M:=((b.length:Nat):Int)) (M':=1099511627776) (Int.le_refl _) (by omega)
 obtain ⟨hun1,hun2,hun3,hun4⟩:=hun
 refine sR [] (T.seq (sR [] ?_))
 by_cases hq1:seq<1
 ·have hx9:=Xfy (C:=(Y5 f u rows)) (f:=f) (x:=x) (b:=b) hq1
  refine cT (dT hq1) (sR [] (T.ret (rT ?_)))
  refine eN ⟨[pv 0 0,vI seq,(Zmo tx nx sx x),slV tb nb kU8 b,aa,aa,aa,aa,dv (Yk []),dv (.slice none 0 0),vI 2,aa,aa,aa,aa,aa,aa,(Zmq seq)],(Zmp f u rows)⟩ ?_
  refine X7 (s':=⟨[pv 0 0,vI seq,(Zmo tx nx sx x),slV tb nb kU8 b,aa,aa,aa,aa,dv (Yk []),Zmr,vI 2,aa,aa,aa,aa,aa,aa,(Zmq seq)],(Zmp f u rows)⟩) (fun _ _ hG=>Yt (s:=⟨[pv 0 0,vI seq,(Zmo tx nx sx x),slV tb nb kU8 b,aa,aa,aa,aa,dv (Yk []),dv (.slice none 0 0),vI 2,aa,aa,aa,aa,aa,aa,(Zmq seq)],(Zmp f u rows)⟩) ⟨.inl rfl,(kk8 ⟨pZ5,(kk8 trivial)⟩)⟩ (kk2 trivial) hG) ?_
  exact eX [.t 8 (Zms),.t 9 (Zmt),.t 10 (.one (dI 2))] ⟨⟨rfl,by kernel_rfl⟩,⟨⟨rfl,by kernel_rfl⟩,⟨⟨rfl,by kernel_rfl⟩,trivial⟩⟩⟩ [0,1] (cg3 (fun (q1:List UInt8) (q2:List UInt8) (q3:Int)=>(.tup [.one (dS q1),.one (dU q2),.one (dI q3)]:AV)) Hz p39 p3f) (ix (ix trivial))
 have h0:=hq1
 refine cF (dF hq1) (T.skip (nT (sR [hR 3 rfl rfl (rCa (Xfc f u rows seq tx nx sx x ‹_› ‹_› ‹_›) Tryz.func59 [0,1] [(.tmp 19,pv 0 0),(.tmp 20,vI seq),(.tmp 21,(Zmo tx nx sx x))] 2 2)] (T.seq ?_))))
 by_cases hq2:(stE (Y5 f u rows) f seq x)=0
 rotate_left
 ·have hx9:=s9_st (b:=b) h0 hq2
  refine sR (Xm (hN · true (dF hq2)) [3,4,5,6] (hP 7 (dF hq2)::[])) (cF (b:=false) rfl (T.skip (nT (T.seq (sR [] ?_)))))
  by_cases hq7:(stE (Y5 f u rows) f seq x)≠0
  ·have hx9:=s9_st (b:=b) h0 hq7
   refine cT (dT hq7) (sR [] (T.ret (rT ?_)))
   refine eN (Zn3 f u rows seq tx nx sx x tb nb b) ?_
   refine X7 (s':=⟨[pv 0 0,vI seq,(Zmo tx nx sx x),slV tb nb kU8 b,aa,aa,aa,aa,dv (Yk []),Zmr,vI (stE (Y5 f u rows) f seq x),dv (Yk (stD (Y5 f u rows) f seq x)),vI (stE (Y5 f u rows) f seq x),aa,aa,aa,aa,(Zmq seq),aa,aa,aa,aa,aa,aa,aa,aa,aa,aa,aa,aa,aa,aa,vB false,aa,(Zn0 f u rows seq x)],(Zmp f u rows)⟩) (fun _ _ hG=>Yt (s:=(Zn3 f u rows seq tx nx sx x tb nb b)) ⟨.inl rfl,(kk8 ⟨pZ5,⟨.inl rfl,p2y⟩⟩)⟩ (kk2 trivial) hG) ?_
   exact eX [.t 8 (Zms),.t 9 (Zmt),.t 10 (.one (dI (stE (Y5 f u rows) f seq x)))] ⟨⟨rfl,by kernel_rfl⟩,⟨⟨rfl,by kernel_rfl⟩,⟨⟨rfl,by kernel_rfl⟩,trivial⟩⟩⟩ [0,1] (cg3 (fun (q1:List UInt8) (q2:List UInt8) (q3:Int)=>(.tup [.one (dS q1),.one (dU q2),.one (dI q3)]:AV)) Hz p39 p3f) (ix (ix trivial))
  exact absurd hq2 hq7
 have h1:¬stE (Y5 f u rows) f seq x≠0:=fun w=>w hq2
 refine sR [hY 3 (dT hq2),hY 4 (dT hq2),hS 5 (oY rfl rfl rfl rfl (X3 rfl) (dT hq2) (rCa (Xef tb nb b (by omega)) Tryz.func60 [] [(.tmp 29,slV tb nb kU8 b)] 0 0)),hY 6 (dT hq2),hP 7 (dT hq2)] ?_
 by_cases hq3:(stD (Y5 f u rows) f seq x)≠(ofB 7 [b])
 ·have hx9:=s9_dig h0 h1 hq3
  refine cT (dT hq3) (xK [] (nT (T.seq (sR [] (cT (b:=true) rfl (sR [] (T.ret (rT ?_))))))))
  refine eN (Zmv f u rows seq tx nx sx x tb nb b) ?_
  refine X7 (s':=⟨[pv 0 0,vI seq,(Zmo tx nx sx x),slV tb nb kU8 b,aa,aa,aa,aa,dv (Yk []),Zmr,vI 132,dv (Yk (stD (Y5 f u rows) f seq x)),vI 132,aa,aa,aa,aa,(Zmq seq),aa,aa,aa,aa,aa,aa,aa,aa,aa,aa,aa,aa,aa,aa,(Zmu f u rows seq x b),aa,vB true],(Zmp f u rows)⟩) (fun _ _ hG=>Yt (s:=(Zmv f u rows seq tx nx sx x tb nb b)) ⟨.inl rfl,(kk8 ⟨pZ5,⟨.inl rfl,p2y⟩⟩)⟩ (kk2 trivial) hG) ?_
  exact eX [.t 8 (Zms),.t 9 (Zmt),.t 10 (.one (dI 132))] ⟨⟨rfl,by kernel_rfl⟩,⟨⟨rfl,by kernel_rfl⟩,⟨⟨rfl,by kernel_rfl⟩,trivial⟩⟩⟩ [0,1] (cg3 (fun (q1:List UInt8) (q2:List UInt8) (q3:Int)=>(.tup [.one (dS q1),.one (dU q2),.one (dI q3)]:AV)) Hz p39 p3f) (ix (ix trivial))
 have h2:=hq3
 refine cF (dF hq3) (T.skip (nT (T.seq (sR [] ?_))))
 by_cases hq4:(stE (Y5 f u rows) f seq x)≠0
 ·exact absurd hq2 hq4
 have h1:=hq4
 refine cF (dF hq4) (T.skip (nT (sR [hR 1 rfl rfl (rCa (X34 tb nb b ‹_›) Tryz.func50 [] [(.tmp 37,slV tb nb kU8 b)] 0 0)] (T.seq ?_))))
 by_cases hq5:(unE ((b.length:Nat):Int) b)≠0
 ·have h3:=hq5;have hx9:=X7d h0 h1 h2 (.inl h3)
  refine sR (Xm (hN · false (dT hq5)) [3,4,5] (hP 6 (dT hq5)::[])) (cT (b:=true) rfl (sR [] (T.ret (rT ?_))))
  refine eN (Zn1 f u rows seq tx nx sx x tb nb b) ?_
  refine X7 (s':=⟨[pv 0 0,vI seq,(Zmo tx nx sx x),slV tb nb kU8 b,aa,aa,aa,aa,dv (Yk []),Zmr,vI 12,dv (Yk (stD (Y5 f u rows) f seq x)),(Zmw b),(Zmx b),(Zmy b),(Zmz b),aa,(Zmq seq),aa,aa,aa,aa,aa,aa,aa,aa,aa,aa,aa,aa,aa,aa,(Zmu f u rows seq x b),aa,(Zn0 f u rows seq x),aa,aa,aa,aa,aa,aa,aa,aa,aa,aa,aa,aa,aa,aa,vB true],(Zmp f u rows)⟩) (fun _ _ hG=>Yt (s:=(Zn1 f u rows seq tx nx sx x tb nb b)) ⟨.inl rfl,(kk8 ⟨pZ5,p3m⟩)⟩ (kk2 trivial) hG) ?_
  exact eX [.t 8 (Zms),.t 9 (Zmt),.t 10 (.one (dI 12))] ⟨⟨rfl,by kernel_rfl⟩,⟨⟨rfl,by kernel_rfl⟩,⟨⟨rfl,by kernel_rfl⟩,trivial⟩⟩⟩ [0,1] (cg3 (fun (q1:List UInt8) (q2:List UInt8) (q3:Int)=>(.tup [.one (dS q1),.one (dU q2),.one (dI q3)]:AV)) Hz p39 p3f) (ix (ix trivial))
 have h3:=hq5; 
 refine sR (Xm (hY · (dF hq5)) [3,4,5] (hP 6 (dF hq5)::[])) ?_
 by_cases hq6:(unH ((b.length:Nat):Int) b)≠seq
 ·have h4:=hq6;have hx9:=X7d h0 h1 h2 (.inr h4)
  refine cT (dT hq6) (sR [] (T.ret (rT ?_)))
  refine eN (Zn2 f u rows seq tx nx sx x tb nb b) ?_
  refine X7 (s':=⟨[pv 0 0,vI seq,(Zmo tx nx sx x),slV tb nb kU8 b,aa,aa,aa,aa,dv (Yk []),Zmr,vI 12,dv (Yk (stD (Y5 f u rows) f seq x)),(Zmw b),(Zmx b),(Zmy b),(Zmz b),aa,(Zmq seq),aa,aa,aa,aa,aa,aa,aa,aa,aa,aa,aa,aa,aa,aa,(Zmu f u rows seq x b),aa,(Zn0 f u rows seq x),aa,aa,aa,aa,aa,aa,aa,aa,aa,aa,aa,aa,aa,aa,vB (decide ((unH ((b.length:Nat):Int) b)≠seq))],(Zmp f u rows)⟩) (fun _ _ hG=>Yt (s:=(Zn2 f u rows seq tx nx sx x tb nb b)) ⟨.inl rfl,(kk8 ⟨pZ5,p3m⟩)⟩ (kk2 trivial) hG) ?_
  exact eX [.t 8 (Zms),.t 9 (Zmt),.t 10 (.one (dI 12))] ⟨⟨rfl,by kernel_rfl⟩,⟨⟨rfl,by kernel_rfl⟩,⟨⟨rfl,by kernel_rfl⟩,trivial⟩⟩⟩ [0,1] (cg3 (fun (q1:List UInt8) (q2:List UInt8) (q3:Int)=>(.tup [.one (dS q1),.one (dU q2),.one (dI q3)]:AV)) Hz p39 p3f) (ix (ix trivial))
 have h4:=hq6;have hx9:=s9_ok h0 h1 h2 h3 h4
 refine cF (dF hq6) (T.skip (nT (sR [] (T.ret ?_))))
 exact eX [.t 8 (.one (dS (unD ((b.length:Nat):Int) b))),.t 9 (.one (dU (unS ((b.length:Nat):Int) b))),.t 10 (.one (dI 0))] ⟨⟨rfl,by kernel_rfl⟩,⟨⟨rfl,by kernel_rfl⟩,⟨⟨rfl,by kernel_rfl⟩,trivial⟩⟩⟩ [0,1] (cg3 (fun (q1:List UInt8) (q2:List UInt8) (q3:Int)=>(.tup [.one (dS q1),.one (dU q2),.one (dI q3)]:AV)) Hz p39 p3f) (ix (ix trivial))
section
variable (f:Int) (u:Int) (l:List aE) (seq:Int) (x:List aE) (b:List UInt8)
abbrev Zn4:AV:=slV false false (kE false) x
abbrev Zn5:List HS:=[.live (.box 135 [dB true,dI f,dI u,.own 1 (kE false).sz 0 l.length]),.live (Xf 43 (kE false) l)]
abbrev Zn6:AV:=vB (decide (seq<1))
abbrev Zn7:List AV:=[pv 0 0,vI seq,(Zn4 x),slV false false kU8 b,aa,aa,aa,aa,dv (Yk []),dv (.slice none 0 0),vI 2,aa,aa,aa,aa,aa,aa,(Zn6 seq)]
abbrev Zn8:AV:=slV false false kU8 ([]:List UInt8)
abbrev Zn9:TV:=.one (dS [])
abbrev Zna:TV:=.one (dU ([]:List UInt8))
abbrev Znb:AV:=vB (decide ((stE (Xw f u l) f seq x)≠0))
abbrev Znc:St:=⟨[pv 0 0,vI seq,(Zn4 x),slV false false kU8 b,aa,aa,aa,aa,dv (Yk []),dv (.slice none 0 0),vI (stE (Xw f u l) f seq x),dv (Yk (stD (Xw f u l) f seq x)),vI (stE (Xw f u l) f seq x),aa,aa,aa,aa,(Zn6 seq),aa,aa,aa,aa,aa,aa,aa,aa,(Znb f u l seq x)],(Zn5 f u l)⟩
abbrev Znd:AV:=vB (decide ((stD (Xw f u l) f seq x)≠(ofB 7 [b])))
abbrev Zne:St:=⟨[pv 0 0,vI seq,(Zn4 x),slV false false kU8 b,aa,aa,aa,aa,dv (Yk []),dv (.slice none 0 0),vI 132,dv (Yk (stD (Xw f u l) f seq x)),vI (stE (Xw f u l) f seq x),aa,aa,aa,aa,(Zn6 seq),aa,aa,aa,aa,aa,aa,aa,aa,(Znb f u l seq x),aa,aa,aa,aa,(Znd f u l seq x b)],(Zn5 f u l)⟩
abbrev Znf:AV:=vI (unE 1099511627776 b)
abbrev Zng:AV:=vI (unH 1099511627776 b)
abbrev Znh:AV:=dv (Yk (unD 1099511627776 b))
abbrev Zni:AV:=slV false false kU8 (unS 1099511627776 b)
abbrev Znj:St:=⟨[pv 0 0,vI seq,(Zn4 x),slV false false kU8 b,aa,aa,aa,aa,dv (Yk []),dv (.slice none 0 0),vI 12,dv (Yk (stD (Xw f u l) f seq x)),(Znf b),(Zng b),(Znh b),(Zni b),aa,(Zn6 seq),aa,aa,aa,aa,aa,aa,aa,aa,(Znb f u l seq x),aa,aa,aa,aa,(Znd f u l seq x b),aa,aa,aa,aa,aa,aa,aa,aa,aa,aa,aa,aa,aa,vB true],(Zn5 f u l)⟩
abbrev Znk:St:=⟨[pv 0 0,vI seq,(Zn4 x),slV false false kU8 b,aa,aa,aa,aa,dv (Yk []),dv (.slice none 0 0),vI 12,dv (Yk (stD (Xw f u l) f seq x)),(Znf b),(Zng b),(Znh b),(Zni b),aa,(Zn6 seq),aa,aa,aa,aa,aa,aa,aa,aa,(Znb f u l seq x),aa,aa,aa,aa,(Znd f u l seq x b),aa,aa,aa,aa,aa,aa,aa,aa,aa,aa,aa,aa,aa,vB (decide ((unH 1099511627776 b)≠seq))],(Zn5 f u l)⟩
end
theorem Xdo (f:Int) (u:Int) (l:List aE) (seq:Int) (x:List aE) (b:List UInt8) (hf:0≤f∧f≤2) (hu:0≤u∧u≤8) (hl:l.length≤9223372036854775806) (hx:X16 x) (hb:b.length≤100000000) (hi:-9223372036854775808≤seq∧seq≤9223372036854775807):Holds Tryz.prog 19 ⟨[pv 0 0,vI seq,slV false false (kE false) x,slV false false kU8 b],[.box 135 [dB true,dI f,dI u,.own 1 (kE false).sz 0 l.length],Xf 43 (kE false) l],.tup [.one (dS (s9D (Xw f u l) f seq x b)),.one (dU (s9S (Xw f u l) f seq x b)),.one (dI (s9E (Xw f u l) f seq x b))],[.live (.box 135 [dB true,dI f,dI u,.own 1 (kE false).sz 0 l.length]),.live (Xf 43 (kE false) l)]⟩:=by
 refine Holds.of Tryz.func19 rfl (N:=48) Tryz.ntmps19 rfl fun w0 B0 S0 U0=>?_
 show T _ (Y2 48 2 w0 S0 U0 B0) ⟨[pv 0 0,vI seq,(Zn4 x),slV false false kU8 b],(Zn5 f u l)⟩ _ _
 have hun:=Xfs (b:=b) (M:=((b.length:Nat):Int)) (M':=1099511627776) (Int.le_refl _) (by omega)
 obtain ⟨hun1,hun2,hun3,hun4⟩:=hun
 refine sR [] (T.seq (sR [] ?_))
 by_cases hq1:seq<1
 ·have hx9:=Xfy (C:=(Xw f u l)) (f:=f) (x:=x) (b:=b) hq1
  refine cT (dT hq1) (sR [] (T.ret (rT ?_)))
  refine eN ⟨(Zn7 seq x b),(Zn5 f u l)⟩ ?_
  refine X7 (s':=⟨[pv 0 0,vI seq,(Zn4 x),slV false false kU8 b,aa,aa,aa,aa,dv (Yk []),Zn8,vI 2,aa,aa,aa,aa,aa,aa,(Zn6 seq)],(Zn5 f u l)⟩) (fun _ _ hG=>Yt (s:=⟨(Zn7 seq x b),(Zn5 f u l)⟩) ⟨.inl rfl,(kk8 ⟨pZ5,(kk8 trivial)⟩)⟩ (kk2 trivial) hG) ?_
  exact eX [.t 8 (Zn9),.t 9 (Zna),.t 10 (.one (dI 2))] ⟨⟨rfl,by kernel_rfl⟩,⟨⟨rfl,by kernel_rfl⟩,⟨⟨rfl,by kernel_rfl⟩,trivial⟩⟩⟩ [0,1] (cg3 (fun (q1:List UInt8) (q2:List UInt8) (q3:Int)=>(.tup [.one (dS q1),.one (dU q2),.one (dI q3)]:AV)) Hz p39 p3f) (ix (ix trivial))
 have h0:=hq1
 refine cF (dF hq1) (T.skip (nT (sR [hR 3 rfl rfl (rCa (Xbs f u l seq x ‹_› ‹_› ‹_› ‹_›) Tryz.func57 [0,1] [(.tmp 19,pv 0 0),(.tmp 20,vI seq),(.tmp 21,(Zn4 x))] 2 2)] (T.seq (sR [] ?_)))))
 by_cases hq2:(stE (Xw f u l) f seq x)≠0
 ·have hx9:=s9_st (b:=b) h0 hq2
  refine cT (dT hq2) (sR [] (T.ret (rT ?_)))
  refine eN (Znc f u l seq x b) ?_
  refine X7 (s':=⟨[pv 0 0,vI seq,(Zn4 x),slV false false kU8 b,aa,aa,aa,aa,dv (Yk []),Zn8,vI (stE (Xw f u l) f seq x),dv (Yk (stD (Xw f u l) f seq x)),vI (stE (Xw f u l) f seq x),aa,aa,aa,aa,(Zn6 seq),aa,aa,aa,aa,aa,aa,aa,aa,(Znb f u l seq x)],(Zn5 f u l)⟩) (fun _ _ hG=>Yt (s:=(Znc f u l seq x b)) ⟨.inl rfl,(kk8 ⟨pZ5,⟨.inl rfl,(X3o trivial)⟩⟩)⟩ (kk2 trivial) hG) ?_
  exact eX [.t 8 (Zn9),.t 9 (Zna),.t 10 (.one (dI (stE (Xw f u l) f seq x)))] ⟨⟨rfl,by kernel_rfl⟩,⟨⟨rfl,by kernel_rfl⟩,⟨⟨rfl,by kernel_rfl⟩,trivial⟩⟩⟩ [0,1] (cg3 (fun (q1:List UInt8) (q2:List UInt8) (q3:Int)=>(.tup [.one (dS q1),.one (dU q2),.one (dI q3)]:AV)) Hz p39 p3f) (ix (ix trivial))
 have h1:=hq2
 refine cF (dF hq2) (T.skip (nT (T.seq (sR [hR 2 rfl rfl (rCa (X8h false false b (by omega)) Tryz.func42 [] [(.tmp 29,slV false false kU8 b)] 0 0)] ?_))))
 by_cases hq3:(stD (Xw f u l) f seq x)≠(ofB 7 [b])
 ·have hx9:=s9_dig h0 h1 hq3
  refine cT (dT hq3) (sR [] (T.ret (rT ?_)))
  refine eN (Zne f u l seq x b) ?_
  refine X7 (s':=⟨[pv 0 0,vI seq,(Zn4 x),slV false false kU8 b,aa,aa,aa,aa,dv (Yk []),Zn8,vI 132,dv (Yk (stD (Xw f u l) f seq x)),vI (stE (Xw f u l) f seq x),aa,aa,aa,aa,(Zn6 seq),aa,aa,aa,aa,aa,aa,aa,aa,(Znb f u l seq x),aa,aa,aa,aa,(Znd f u l seq x b)],(Zn5 f u l)⟩) (fun _ _ hG=>Yt (s:=(Zne f u l seq x b)) ⟨.inl rfl,(kk8 ⟨pZ5,p3i⟩)⟩ (kk2 trivial) hG) ?_
  exact eX [.t 8 (Zn9),.t 9 (Zna),.t 10 (.one (dI 132))] ⟨⟨rfl,by kernel_rfl⟩,⟨⟨rfl,by kernel_rfl⟩,⟨⟨rfl,by kernel_rfl⟩,trivial⟩⟩⟩ [0,1] (cg3 (fun (q1:List UInt8) (q2:List UInt8) (q3:Int)=>(.tup [.one (dS q1),.one (dU q2),.one (dI q3)]:AV)) Hz p39 p3f) (ix (ix trivial))
 have h2:=hq3
 refine cF (dF hq3) (T.skip (nT (sR [hR 1 rfl rfl (rCa (X46 b ‹_›) Tryz.func43 [] [(.tmp 33,slV false false kU8 b)] 0 0)] (T.seq ?_))))
 by_cases hq4:(unE 1099511627776 b)≠0
 ·have h3:=hq4;rw [← hun4] at h3;have hx9:=X7d h0 h1 h2 (.inl h3)
  refine sR (Xm (hN · false (dT hq4)) [3,4,5] (hP 6 (dT hq4)::[])) (cT (b:=true) rfl (sR [] (T.ret (rT ?_))))
  refine eN (Znj f u l seq x b) ?_
  refine X7 (s':=⟨[pv 0 0,vI seq,(Zn4 x),slV false false kU8 b,aa,aa,aa,aa,dv (Yk []),Zn8,vI 12,dv (Yk (stD (Xw f u l) f seq x)),(Znf b),(Zng b),(Znh b),(Zni b),aa,(Zn6 seq),aa,aa,aa,aa,aa,aa,aa,aa,(Znb f u l seq x),aa,aa,aa,aa,(Znd f u l seq x b),aa,aa,aa,aa,aa,aa,aa,aa,aa,aa,aa,aa,aa,vB true],(Zn5 f u l)⟩) (fun _ _ hG=>Yt (s:=(Znj f u l seq x b)) ⟨.inl rfl,(kk8 ⟨pZ5,p4u⟩)⟩ (kk2 trivial) hG) ?_
  exact eX [.t 8 (Zn9),.t 9 (Zna),.t 10 (.one (dI 12))] ⟨⟨rfl,by kernel_rfl⟩,⟨⟨rfl,by kernel_rfl⟩,⟨⟨rfl,by kernel_rfl⟩,trivial⟩⟩⟩ [0,1] (cg3 (fun (q1:List UInt8) (q2:List UInt8) (q3:Int)=>(.tup [.one (dS q1),.one (dU q2),.one (dI q3)]:AV)) Hz p39 p3f) (ix (ix trivial))
 have h3:=hq4;rw [← hun4] at h3; 
 refine sR (Xm (hY · (dF hq4)) [3,4,5] (hP 6 (dF hq4)::[])) ?_
 by_cases hq5:(unH 1099511627776 b)≠seq
 ·have h4:=hq5;rw [← hun1] at h4;have hx9:=X7d h0 h1 h2 (.inr h4)
  refine cT (dT hq5) (sR [] (T.ret (rT ?_)))
  refine eN (Znk f u l seq x b) ?_
  refine X7 (s':=⟨[pv 0 0,vI seq,(Zn4 x),slV false false kU8 b,aa,aa,aa,aa,dv (Yk []),Zn8,vI 12,dv (Yk (stD (Xw f u l) f seq x)),(Znf b),(Zng b),(Znh b),(Zni b),aa,(Zn6 seq),aa,aa,aa,aa,aa,aa,aa,aa,(Znb f u l seq x),aa,aa,aa,aa,(Znd f u l seq x b),aa,aa,aa,aa,aa,aa,aa,aa,aa,aa,aa,aa,aa,vB (decide ((unH 1099511627776 b)≠seq))],(Zn5 f u l)⟩) (fun _ _ hG=>Yt (s:=(Znk f u l seq x b)) ⟨.inl rfl,(kk8 ⟨pZ5,p4u⟩)⟩ (kk2 trivial) hG) ?_
  exact eX [.t 8 (Zn9),.t 9 (Zna),.t 10 (.one (dI 12))] ⟨⟨rfl,by kernel_rfl⟩,⟨⟨rfl,by kernel_rfl⟩,⟨⟨rfl,by kernel_rfl⟩,trivial⟩⟩⟩ [0,1] (cg3 (fun (q1:List UInt8) (q2:List UInt8) (q3:Int)=>(.tup [.one (dS q1),.one (dU q2),.one (dI q3)]:AV)) Hz p39 p3f) (ix (ix trivial))
 have h4:=hq5;rw [← hun1] at h4;have hx9:=s9_ok h0 h1 h2 h3 h4
 refine cF (dF hq5) (T.skip (nT (sR [] (T.ret ?_))))
 exact eX [.t 8 (.one (dS (unD 1099511627776 b))),.t 9 (.one (dU (unS 1099511627776 b))),.t 10 (.one (dI 0))] ⟨⟨rfl,by kernel_rfl⟩,⟨⟨rfl,by kernel_rfl⟩,⟨⟨rfl,by kernel_rfl⟩,trivial⟩⟩⟩ [0,1] (cg3 (fun (q1:List UInt8) (q2:List UInt8) (q3:Int)=>(.tup [.one (dS q1),.one (dU q2),.one (dI q3)]:AV)) (by exact hx9.1.trans hun2) (by exact hx9.2.1.trans hun3) p3f) (ix (ix trivial))
end Go.Proofs.YtnaopgohccacmaaGreat.Q
