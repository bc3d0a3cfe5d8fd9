import Derived.Test.YtnaopgohccacmaaGreatC19n27
namespace Go.Proofs.YtnaopgohccacmaaGreat.Q
set_option linter.unusedVariables false
set_option linter.unusedSimpArgs false
set_option maxRecDepth 100000
def F4 (h:Nat→Int):Nat→Int
  | 0=>0
  | n+1=>if F4 h n≠0 then F4 h n else h n
theorem Xcp {h:Nat→Int}:∀ {n:Nat},(∀ j,j<n→h j=0)→F4 h n=0
  | 0,_=>rfl
  | n+1,q=>by
    have:=Xcp (h:=h) (n:=n) fun j hj=>q j (by omega)
    rw [F4,this]
    simp only [ne_eq,not_true,if_false]
    exact q n (by omega)
theorem Xer {h:Nat→Int} {k:Nat} (q:∀ j,j<k→h j=0) (hk:h k≠0):∀ {n:Nat},k<n→F4 h n=h k
  | 0,hn=>absurd hn (Nat.not_lt_zero _)
  | n+1,hn=>by
    by_cases e:k=n
    · subst e
      rw [F4,Xcp q]
      simp
    · have:=Xer q hk (n:=n) (by omega)
      rw [F4,this,if_pos hk]
section
variable (C:aE→Int) (f:Int)
def opE (e:aE) (k:Int):Int:=if C e≠0 then C e else if X0w e.Xf≠0 then 120 else if (Wl e.Xf).X2≠k then 120 else 0
def opV (e:aE) (k:Int):aM:=if opE C e k=0 then Wl e.Xf else zM
def opR (e:aE):Int:=if C e≠0 then C e else if X0w e.Xf≠0 then 120 else 0
def orV (e:aE):aM:=if opR C e=0 then Wl e.Xf else zM
def vtE (e:aE) (k:Int):Int:=if opE C e k≠0 then opE C e k else if k≠3∧k≠4∧k≠5 then 120 else if ¬V0 f e.X4 then 30 else 0
def vtV (e:aE) (k:Int):aM:=if vtE C f e k=0 then Wl e.Xf else zM
end
section
variable {C:aE→Int} {f:Int} {e:aE} {k:Int}
theorem op_of {x:Int} (h:opE C e k=x) (hx:x≠0):opV C e k=zM∧opE C e k=x:=⟨if_neg (by rw [h];exact hx),h⟩
theorem op_c (h:C e≠0):opV C e k=zM∧opE C e k=C e:=op_of (if_pos h) h
theorem op_d (h:¬C e≠0) (h1:X0w e.Xf≠0):opV C e k=zM∧opE C e k=120:=op_of ((if_neg h).trans (if_pos h1)) (by decide)
theorem op_k (h:¬C e≠0) (h1:¬X0w e.Xf≠0) (h2:(Wl e.Xf).X2≠k):opV C e k=zM∧opE C e k=120:=op_of ((if_neg h).trans ((if_neg h1).trans (if_pos h2))) (by decide)
theorem op_ok (h:¬C e≠0) (h1:¬X0w e.Xf≠0) (h2:¬(Wl e.Xf).X2≠k):opV C e k=Wl e.Xf∧opE C e k=0:=by
  have:opE C e k=0:=(if_neg h).trans ((if_neg h1).trans (if_neg h2))
  exact ⟨if_pos this,this⟩
theorem or_c (h:C e≠0):orV C e=zM∧opR C e=C e:=by
  have:opR C e=C e:=if_pos h
  exact ⟨if_neg (by rw [this];exact h),this⟩
theorem or_d (h:¬C e≠0) (h1:X0w e.Xf≠0):orV C e=zM∧opR C e=120:=by
  have:opR C e=120:=(if_neg h).trans (if_pos h1)
  exact ⟨if_neg (by rw [this];decide),this⟩
theorem or_ok (h:¬C e≠0) (h1:¬X0w e.Xf≠0):orV C e=Wl e.Xf∧opR C e=0:=by
  have:opR C e=0:=(if_neg h).trans (if_neg h1)
  exact ⟨if_pos this,this⟩
end
section
variable {C:aE→Int} {f:Int} {e:aE} {k:Int}
theorem op_val (h:¬opE C e k≠0):opV C e k=Wl e.Xf:=if_pos (Classical.not_not.1 h)
theorem or_op (C:aE→Int) (e:aE) (k:Int):(opR C e≠0→opE C e k=opR C e)∧(¬opR C e≠0→(Wl e.Xf).X2≠k→opE C e k=120)∧(¬opR C e≠0→¬(Wl e.Xf).X2≠k→opE C e k=0∧orV C e=Wl e.Xf):=by
  unfold opR opE orV
  by_cases h:C e≠0
  · exact ⟨fun _=>by rw [if_pos h,if_pos h],fun q=>absurd (by rw [if_pos h];exact h) q,fun q=>absurd (by rw [if_pos h];exact h) q⟩
  · by_cases h1:X0w e.Xf≠0
    · exact ⟨fun _=>by rw [if_neg h,if_pos h1,if_neg h,if_pos h1],fun q=>absurd (by rw [if_neg h,if_pos h1];decide) q,fun q=>absurd (by rw [if_neg h,if_pos h1];decide) q⟩
    · have e0:(if C e≠0 then C e else if X0w e.Xf≠0 then 120 else 0)=(0:Int):=by rw [if_neg h,if_neg h1]
      refine ⟨fun q=>absurd e0 q,fun _ q=>by rw [if_neg h,if_neg h1,if_pos q],fun _ q=>⟨by rw [if_neg h,if_neg h1,if_neg q],?_⟩⟩
      have e1:opR C e=0:=e0
      exact if_pos e1
theorem or_val (h:¬opR C e≠0):orV C e=Wl e.Xf:=if_pos (Classical.not_not.1 h)
theorem vt_of {x:Int} (h:vtE C f e k=x) (hx:x≠0):vtV C f e k=zM∧vtE C f e k=x:=⟨if_neg (by rw [h];exact hx),h⟩
theorem vt_o (h:opE C e k≠0):vtV C f e k=zM∧vtE C f e k=opE C e k:=vt_of (if_pos h) h
theorem vt_k (h:¬opE C e k≠0) (h1:k≠3) (h2:k≠4) (h3:k≠5):vtV C f e k=zM∧vtE C f e k=120:=vt_of ((if_neg h).trans (if_pos ⟨h1,h2,h3⟩)) (by decide)
theorem vt_s (h:¬opE C e k≠0) (h1:¬(k≠3∧k≠4∧k≠5)) (h2:¬V0 f e.X4):vtV C f e k=zM∧vtE C f e k=30:=vt_of ((if_neg h).trans ((if_neg h1).trans (if_pos h2))) (by decide)
theorem Xap (h:¬opE C e k≠0) (h1:¬(k≠3∧k≠4∧k≠5)) (h2:V0 f e.X4):vtV C f e k=Wl e.Xf∧vtE C f e k=0:=by
  have:vtE C f e k=0:=(if_neg h).trans ((if_neg h1).trans (if_neg (fun q=>q h2)))
  exact ⟨if_pos this,this⟩
end
def X09 (l:List aE) (j:Nat):Prop:=∃ i,i<j∧(l.getD i zE).X4=(l.getD j zE).X4
instance (l:List aE) (j:Nat):Decidable (X09 l j):=inferInstanceAs (Decidable (∃ i,i<j∧_))
def E1 (l:List aE) (k:Nat):List (Int×Bool):=(l.take k).foldl (fun t e=>mput t e.X4 true) []
def X08 (g:aE→Int) (l:List aE) (j:Nat):Int:=if g (l.getD j zE)≠0 then g (l.getD j zE) else if X09 l j then 33 else 0
def X5j (g:aE→Int) (l:List aE) (need:Int):Int:=if F4 (X08 g l) l.length≠0 then F4 (X08 g l) l.length else if ((l.length:Nat):Int)<need then 32 else 0
def X0n (seq:Int) (d:List UInt8) (m:aM):Int:=if m.Xo≠seq then 131 else if m.X8≠d then 132 else 0
def gS (C:aE→Int) (f:Int) (seq:Int) (d:List UInt8) (e:aE):Int:=if vtE C f e 5≠0 then vtE C f e 5 else X0n seq d (Wl e.Xf)
def Ur (l:List aE):List UInt8:=(Wl (l.getD 0 zE).Xf).X8
def stE (C:aE→Int) (f:Int) (seq:Int) (l:List aE):Int:=if seq=0 then (if ((l.length:Nat):Int)>0 then 120 else 0) else X5j (gS C f seq (Ur l)) l (max 1 (2*f+1))
def stD (C:aE→Int) (f:Int) (seq:Int) (l:List aE):List UInt8:=if seq≠0∧stE C f seq l=0 then Ur l else []
section
variable {g:aE→Int} {x:List aE} {k:Nat} {need:Int}
theorem X6i (h:g (x.getD k zE)≠0):X08 g x k=g (x.getD k zE):=if_pos h
theorem vot_2 (h:¬g (x.getD k zE)≠0) (h2:X09 x k):X08 g x k=33:=(if_neg h).trans (if_pos h2)
theorem vot_3 (h:¬g (x.getD k zE)≠0) (h2:¬X09 x k):X08 g x k=0:=(if_neg h).trans (if_neg h2)
theorem Eg {E:Int} (need:Int) (hb:∀ i,i<k→X08 g x i=0) (h:X08 g x k=E) (hE:E≠0) (hk:k<x.length):X5j g x need=E:=by
  have e:=Xer hb (by rw [h];exact hE) hk
  unfold X5j
  rw [e,h,if_pos hE]
theorem tly_0 (need:Int) (hb:∀ i,i<k→X08 g x i=0) (hk:x.length≤k):X5j g x need=if ((x.length:Nat):Int)<need then 32 else 0:=by
  have e:F4 (X08 g x) x.length=0:=Xcp fun i hi=>hb i (by omega)
  unfold X5j
  rw [e,if_neg (by simp)]
end
section
variable {C:aE→Int} {f:Int} {e:aE} {p:aM} {kind pre:Int}
theorem vt_val (h:¬vtE C f e kind≠0):vtV C f e kind=Wl e.Xf:=if_pos (Classical.not_not.1 h)
theorem gS_1 {seq:Int} {d:List UInt8} (h:vtE C f e 5≠0):gS C f seq d e=vtE C f e 5:=if_pos h
theorem gS_2 {seq:Int} {d:List UInt8} (h:¬vtE C f e 5≠0):gS C f seq d e=X0n seq d (vtV C f e 5):=by rw [vt_val h];exact if_neg h
end
section
variable {C:aE→Int} {f:Int} {c:aC} {kind need:Int}
end
def X9v (C:aE→Int) (f:Int) (x:List aE):List UInt8:=if 0<x.length∧vtE C f (x.getD 0 zE) 5=0 then Ur x else []
def fstF (C:aE→Int) (f:Int) (x:List aE):Bool:=!decide (0<x.length∧vtE C f (x.getD 0 zE) 5=0)
section
variable {C:aE→Int} {f seq:Int} {d:List UInt8} {x:List aE} {k:Nat}
def Ft (x:List aE) (k:Nat):List UInt8:=if k=0 then [] else Ur x
def X0s (k:Nat):Bool:=decide (k=0)
theorem Xfm (hb:∀ i,i<k→X08 (gS C f seq d) x i=0) (hk:0<k):vtE C f (x.getD 0 zE) 5=0:=by
  have h:=hb 0 hk
  refine Classical.byContradiction fun q=>?_
  have hg:=gS_1 (seq:=seq) (d:=d) q
  rw [X6i (by rw [hg];exact q),hg] at h
  exact q h
theorem Xgt (hb:∀ i,i<k→X08 (gS C f seq d) x i=0) (hk:k≤x.length) (h:x.length≤k∨vtE C f (x.getD k zE) 5≠0):Ft x k=X9v C f x∧X0s k=fstF C f x:=by
  unfold Ft X9v X0s fstF
  by_cases h0:k=0
  · subst h0
    have hn:¬(0<x.length∧vtE C f (x.getD 0 zE) 5=0):=fun q=>h.elim (fun w=>by omega) (fun w=>w q.2)
    rw [if_pos rfl,if_neg hn]
    exact ⟨rfl,by simp only [decide_eq_false hn];rfl⟩
  · have hy:0<x.length∧vtE C f (x.getD 0 zE) 5=0:=⟨by omega,Xfm hb (by omega)⟩
    rw [if_neg h0,if_pos hy]
    exact ⟨rfl,by rw [decide_eq_false h0,decide_eq_true hy];rfl⟩
def digN (C:aE→Int) (f:Int) (x:List aE) (k:Nat):List UInt8:=if X0s k=true then (vtV C f (x.getD k zE) 5).X8 else Ft x k
theorem X9u (hb:∀ i,i<k→X08 (gS C f seq d) x i=0) (hk:k<x.length) (h:¬vtE C f (x.getD k zE) 5≠0):digN C f x k=Ur x∧X9v C f x=Ur x∧fstF C f x=false∧Ft x (k+1)=Ur x∧X0s (k+1)=false:=by
  have h0:vtE C f (x.getD 0 zE) 5=0:=by
    by_cases q:k=0
    · subst q;exact Classical.not_not.1 h
    · exact Xfm hb (by omega)
  have hy:0<x.length∧vtE C f (x.getD 0 zE) 5=0:=⟨by omega,h0⟩
  refine ⟨?_,if_pos hy,?_,if_neg (by omega),decide_eq_false (by omega)⟩
  · unfold digN X0s Ft
    by_cases q:k=0
    · subst q
      rw [if_pos (by decide),vt_val h];rfl
    · rw [if_neg (by simp [q]),if_neg q]
  · unfold fstF;rw [decide_eq_true hy];rfl
end
theorem Xi3 {h:Nat→Int}:∀ {n:Nat},F4 h n=0→∀ j,j<n→h j=0
  | 0,_,j,hj=>absurd hj (Nat.not_lt_zero _)
  | n+1,q,j,hj=>by
    rw [F4] at q
    split at q
    · rename_i w;exact absurd q w
    · rename_i w
      rcases Nat.lt_or_ge j n with hlt|hge
      · exact Xi3 (Classical.not_not.1 w) j hlt
      · rw [show j=n by omega];exact q
section
variable {C:aE→Int} {f seq:Int} {x:List aE}
theorem st_0 (h:seq=0) (h1:((x.length:Nat):Int)>0):stD C f seq x=[]∧stE C f seq x=120:=⟨if_neg (fun q=>q.1 h),(if_pos h).trans (if_pos h1)⟩
theorem st_1 (h:seq=0) (h1:¬((x.length:Nat):Int)>0):stD C f seq x=[]∧stE C f seq x=0:=⟨if_neg (fun q=>q.1 h),(if_pos h).trans (if_neg h1)⟩
theorem st_t {E:Int} (h:¬seq=0) (h1:X5j (gS C f seq (Ur x)) x (max 1 (2*f+1))=E) (hE:E≠0):stD C f seq x=[]∧stE C f seq x=E:=by
  have e:stE C f seq x=E:=(if_neg h).trans h1
  exact ⟨if_neg (fun q=>hE (e ▸ q.2)),e⟩
theorem st_ok (h:¬seq=0) (h1:X5j (gS C f seq (Ur x)) x (max 1 (2*f+1))=0):stD C f seq x=X9v C f x∧stE C f seq x=0∧X9v C f x=Ur x:=by
  have e:stE C f seq x=0:=(if_neg h).trans h1
  have hd:stD C f seq x=Ur x:=if_pos ⟨h,e⟩
  unfold X5j at h1
  split at h1
  · rename_i w;exact absurd h1 w
  · rename_i w
    split at h1
    · cases h1
    · rename_i w2
      have hl:0<x.length:=by omega
      have h0:=Xfm (k:=x.length) (Xi3 (Classical.not_not.1 w)) hl
      have hf:X9v C f x=Ur x:=if_pos ⟨hl,h0⟩
      exact ⟨hd.trans hf.symm,e,hf⟩
end
def okEnv (e:aE):Prop:=X24 e.X4∧e.Xf.length≤16777216
def X0l (l:List aE):Prop:=l.length≤31∧∀ e,e∈l→okEnv e
theorem Xhe (M:Int) (r:List UInt8) (e:Int):∀ k,∀ x,x∈(Vm M r e k).l→X24 x.X4∧x.Xf.length≤r.length
  | 0=>fun x hx=>by cases hx
  | k+1=>fun x hx=>by
    have hl:=(Fi M r e k).1
    have hx:x∈(Vm M r e k).l++[evV M (Vm M r e k).rest (Vm M r e k).e]:=hx
    rw [List.mem_append,List.mem_singleton] at hx
    rcases hx with h|h
    · exact Xhe M r e k x h
    · subst h
      exact ⟨Xj2 _ _,Nat.le_trans (X0i _ _ _) (Nat.le_trans (U3 _ _ _ _) hl)⟩
def okEn (n:Nat) (l:List aE):Prop:=l.length≤15∧∀ e,e∈l→X24 e.X4∧e.Xf.length≤n
theorem finL_ok {M:Int} {r:List UInt8} {e:Int} {n:Nat} (h:r.length≤n):okEn n (Uq M r e).l:=⟨(X02 M r e).2,fun x hx=>by have:=Xhe M r e _ x hx;exact ⟨this.1,by omega⟩⟩
theorem Xir {M N:Int} {n:Nat} {s:RdM} (h:okEn n s.m.Xp) (hl:s.rest.length≤n) (j:Nat):okEn n (V3 M N s j).m.Xp:=by
  rcases (by omega:j=0∨j=1∨j=2∨j=3∨j=4∨j=5∨j=6∨j=7∨j=8∨9≤j) with q|q|q|q|q|q|q|q|q|q
  case inr.inr.inr.inr.inr.inr.inl=>subst q;exact finL_ok hl
  case inr.inr.inr.inr.inr.inr.inr.inr.inr=>obtain ⟨i,rfl⟩:∃ i,j=i+9:=⟨j-9,by omega⟩;exact h
  all_goals (subst q;exact h)
theorem X8l (M N:Int) (r:List UInt8) (e k:Int):∀ j,okEn r.length (Xx M N r e k j).m.Xp
  | 0=>⟨Nat.zero_le _,fun x hx=>by cases hx⟩
  | j+1=>by
    rw [Xx]
    split
    · exact Xir (X8l M N r e k j) (Eu _ _ _ _ _ _) j
    · exact X8l M N r e k j
theorem Xf4 (b:List UInt8):X0l (Wl b).Xp:=by
  unfold Wl decW
  split
  · rename_i h
    have hl:=h.1
    have hr:=U3 b 0 8 0
    obtain ⟨h1,h2⟩:=X8l ((b.length:Nat):Int) 16777216 (rdR b 0 8 0) (rdE b 0 8 0) (rdI b 0) 9
    exact ⟨Nat.le_trans h1 (by decide),fun e he=>⟨(h2 e he).1,by have:=(h2 e he).2;omega⟩⟩
  · exact ⟨Nat.zero_le _,fun x hx=>by cases hx⟩
theorem envs_le {l:List aE} {n:Nat} (h:∀ e,e∈l→e.Xf.length≤n):(Ec l).length≤l.length*(12+n):=by
  induction l with
  | nil=>simp [Ec]
  | cons e r ih =>
    have h1:=ih fun x hx=>h x (List.mem_cons_of_mem _ hx)
    have h2:=h e (List.mem_cons_self ..)
    rw [show Ec (e::r)=Ih e++Ec r from rfl,List.length_append,Xct,List.length_cons,Nat.succ_mul]
    omega
theorem Xhq {l:List aE} (h:X0l l):(Ec l).length≤520094068:=by
  have h1:=envs_le fun e he=>(h.2 e he).2
  have h2:=Nat.mul_le_mul_right (12+16777216) h.1
  omega
theorem X9d {l:List aE} (h:X0l l) {k:Nat} (hk:k<l.length):okEnv (l.getD k zE):=h.2 _ (J5 hk)
theorem mget_put {l:List (Int×Bool)} {k k':Int} {v z:Bool}:mget (mput l k v) k' z=if k=k' then v else mget l k' z:=by
  induction l with
  | nil=>simp only [mput,mget]
  | cons e r ih =>
    simp only [mput]
    by_cases h:e.1=k
    · subst h
      simp only [if_pos,mget]
      split<;>rfl
    · simp only [if_neg h,mget,ih]
      by_cases h2:e.1=k'
      · subst h2
        rw [if_pos rfl,if_pos rfl,if_neg (fun q=>h q.symm)]
      · rw [if_neg h2,if_neg h2]
theorem Xay {l:List aE} {k:Nat} (hk:k<l.length):E1 l (k+1)=mput (E1 l k) (l.getD k zE).X4 true:=by
  unfold E1
  rw [Hq (z:=zE) hk,List.foldl_append]
  rfl
theorem Xdf {l:List aE} {s:Int}:∀ {k:Nat},k≤l.length→(mget (E1 l k) s false=true↔∃ i,i<k∧(l.getD i zE).X4=s)
  | 0,_=>⟨px,fun ⟨i,h,_⟩=>absurd h (Nat.not_lt_zero _)⟩
  | k+1,hk=>by
    rw [Xay (by omega),mget_put]
    split
    · rename_i h;exact ⟨fun _=>⟨k,by omega,h⟩,fun _=>rfl⟩
    · rename_i h
      rw [Xdf (k:=k) (by omega)]
      exact ⟨fun ⟨i,h1,h2⟩=>⟨i,by omega,h2⟩,fun ⟨i,h1,h2⟩=>⟨i,by rcases Nat.lt_or_ge i k with q|q;exact q;exact absurd (by rw [← h2,show i=k by omega]) h,h2⟩⟩
theorem X8e {l:List aE} {k:Nat} (hk:k≤l.length):mget (E1 l k) (l.getD k zE).X4 false=true↔X09 l k:=Xdf hk
end Go.Proofs.YtnaopgohccacmaaGreat.Q
namespace Go.Proofs.YtnaopgohccacmaaGreat.Q
open Go Go.RowKit
set_option linter.unusedVariables false
set_option linter.unusedSimpArgs false
set_option maxRecDepth 100000
set_option maxHeartbeats 4000000
section
variable (f:Int) (u:Int) (rows:List (Yn×Bool)) (te:Bool) (e:aE) (k:Int)
abbrev Zgd:List SV:=[dI e.X4,.d (dsl te false kU8 e.Xf)]
abbrev Zge:HS:=.live (.box 130 [dI (3*f+1),dI u,.mref 1])
abbrev Zgf:HS:=.live (mpK Y0 Yc rows)
abbrev Zgg:List AV:=[pv 0 0,.tv (.agg (Zgd te e)),vI k,aa,pv 2 0,aa,pv 3 0,vI (Xz f u rows e),vI (Xz f u rows e),aa,aa,aa,aa,aa,aa,vB (decide ((Xz f u rows e)≠0))]
abbrev Zgh:SV:=.d (.val (.slice none 0 0))
abbrev Zgi:HS:=.live (.box 78 [dI 0,dI 0,dI 0,dI 0,dI 0,dS [],Zgh,dI 0,dI 0,Zgh,Zgh,Zgh])
abbrev Zgj:SV:=dU ([]:List UInt8)
abbrev Zgk:SV:=.d (dsl false false (kE false) ([]:List aE))
abbrev Zgl:SV:=.d (dsl false false (kC false) ([]:List aC))
abbrev Zgm:List SV:=[dI 0,dI 0,dI 0,dI 0,dI 0,dS [],Zgj,dI 0,dI 0,Zgk,Zgk,Zgl]
abbrev Zgn:List AV:=[pv 0 0,.tv (.agg (Zgd te e)),vI k,aa,pv 2 0,aa,pv 3 0,vI 120,vI (Xz f u rows e),pv 4 0,vI (X0w e.Xf),aa,aa,aa,aa,vB (decide ((Xz f u rows e)≠0)),aa,aa,aa,aa,aa,aa,aa,aa,aa,aa,aa,aa,aa,aa,aa,vB true]
abbrev Zgo:List SV:=[dI (Wl e.Xf).X2,dI (Wl e.Xf).Y1,dI (Wl e.Xf).Xo,dI (Wl e.Xf).Xi,dI (Wl e.Xf).Yj,dS (Wl e.Xf).X8,dU (Wl e.Xf).Xa,dI (Wl e.Xf).X1.Xw,dI (Wl e.Xf).X1.Xn,.d (dsl false false (kE false) (Wl e.Xf).Xp),.d (dsl false false (kE false) (Wl e.Xf).Y5),.d (dsl false false (kC false) (Wl e.Xf).X5)]
abbrev Zgp:List HS:=[(Zge f u),(Zgf rows),.live (.box 43 (Zgd te e)),Zgi,.live (.box 78 (Zgo e))]
abbrev Zgq:List AV:=[pv 0 0,.tv (.agg (Zgd te e)),vI k,aa,pv 2 0,aa,pv 3 0,vI 120,vI (Xz f u rows e),pv 4 0,vI (X0w e.Xf),aa,aa,aa,aa,vB (decide ((Xz f u rows e)≠0)),aa,aa,aa,aa,aa,aa,aa,aa,aa,aa,aa,aa,aa,aa,aa,vB (decide ((Wl e.Xf).X2≠k))]
end
theorem Xjy (f:Int) (u:Int) (rows:List (Yn×Bool)) (te:Bool) (e:aE) (k:Int) (hf:0≤f∧f≤2) (hu:0≤u∧u≤8) (hs:-9223372036854775808≤e.X4∧e.X4≤9223372036854775807) (hb:e.Xf.length≤100000000):Holds Tryz.prog 173 ⟨[pv 0 0,.tv (.agg [dI e.X4,.d (dsl te false kU8 e.Xf)]),vI k],[.box 130 [dI (3*f+1),dI u,.mref 1],mpK Y0 Yc rows],.tup [.agg [dI (opV (Xz f u rows) e k).X2,dI (opV (Xz f u rows) e k).Y1,dI (opV (Xz f u rows) e k).Xo,dI (opV (Xz f u rows) e k).Xi,dI (opV (Xz f u rows) e k).Yj,dS (opV (Xz f u rows) e k).X8,dU (opV (Xz f u rows) e k).Xa,dI (opV (Xz f u rows) e k).X1.Xw,dI (opV (Xz f u rows) e k).X1.Xn,.d (dsl false false (kE false) (opV (Xz f u rows) e k).Xp),.d (dsl false false (kE false) (opV (Xz f u rows) e k).Y5),.d (dsl false false (kC false) (opV (Xz f u rows) e k).X5)],.one (dI (opE (Xz f u rows) e k))],[.live (.box 130 [dI (3*f+1),dI u,.mref 1]),.live (mpK Y0 Yc rows)]⟩:=by
 refine Holds.of Tryz.func173 rfl (N:=34) Tryz.ntmps173 rfl fun w0 B0 S0 U0=>?_
 show T _ (Y2 34 2 w0 S0 U0 B0) ⟨[pv 0 0,.tv (.agg (Zgd te e)),vI k],[(Zge f u),(Zgf rows)]⟩ _ _
 refine sR [] ?_
 refine T.seq ?_
 refine sR [hR 2 rfl rfl (rCa (Xfh f u rows te e ‹_› ‹_› ‹_›) Tryz.func186 [0,1] [(.tmp 11,pv 0 0),(.tmp 12,.tv (.agg (Zgd te e)))] 2 2)] ?_
 refine sR [] ?_
 by_cases hq1:(Xz f u rows e)≠0
 ·have hx9:=op_c (C:=(Xz f u rows)) (k:=k) hq1
  refine cT (dT hq1) ?_
  refine sR [] ?_
  refine T.ret (rT ?_)
  refine eN ⟨(Zgg f u rows te e k),[(Zge f u),(Zgf rows),.live (.box 43 (Zgd te e)),Zgi]⟩ ?_
  refine Xc (s':=⟨(Zgg f u rows te e k),[(Zge f u),(Zgf rows),.live (.box 43 (Zgd te e)),.live (.box 78 Zgm)]⟩) (fun _ _ hG=>Ys (s:=⟨(Zgg f u rows te e k),[(Zge f u),(Zgf rows),.live (.box 43 (Zgd te e)),Zgi]⟩) (Fq trivial) ⟨.inl rfl,(kk2 ⟨pq,trivial⟩)⟩ hG) ?_
  exact eX [.c 6 3 78 0 78 [dI 0,dI 0,dI 0,dI 0,dI 0,dS [],Zgj,dI 0,dI 0,Zgk,Zgk,Zgl] (.agg Zgm),.t 7 (.one (dI (Xz f u rows e)))] ⟨⟨rfl,rfl,by kernel_rfl,by kernel_rfl,.inl ⟨12,Wp,rfl,Nat.le_of_ble_eq_true rfl⟩⟩,⟨⟨rfl,by kernel_rfl⟩,trivial⟩⟩ [0,1] pZ2 (ix (ix trivial))
 refine cF (dF hq1) ?_
 refine T.skip (nT ?_)
 refine sR [hR 2 rfl rfl (rCa (Xgg te false e.Xf (by omega)) Tryz.func187 [] [(.tmp 20,slV te false kU8 e.Xf)] 0 0)] ?_
 refine T.seq ?_
 by_cases hq2:(X0w e.Xf)≠0
 ·have hx9:=op_d (C:=(Xz f u rows)) (k:=k) ‹_› hq2
  refine sR (Xm (hN · false (dT hq2)) [3,4,5,6] (hP 7 (dT hq2)::[])) ?_
  refine cT (b:=true) rfl ?_
  refine sR [] ?_
  refine T.ret (rT ?_)
  refine eN ⟨(Zgn f u rows te e k),(Zgp f u rows te e)⟩ ?_
  refine Xc (s':=⟨(Zgn f u rows te e k),[(Zge f u),(Zgf rows),.live (.box 43 (Zgd te e)),.live (.box 78 Zgm),.live (.box 78 (Zgo e))]⟩) (fun _ _ hG=>Ys (s:=⟨(Zgn f u rows te e k),(Zgp f u rows te e)⟩) (Ey trivial) ⟨.inl rfl,p1n⟩ hG) ?_
  exact eX [.c 6 3 78 0 78 [dI 0,dI 0,dI 0,dI 0,dI 0,dS [],Zgj,dI 0,dI 0,Zgk,Zgk,Zgl] (.agg Zgm),.t 7 (.one (dI 120))] ⟨⟨rfl,rfl,by kernel_rfl,by kernel_rfl,.inl ⟨12,Wp,rfl,Nat.le_of_ble_eq_true rfl⟩⟩,⟨⟨rfl,by kernel_rfl⟩,trivial⟩⟩ [0,1] pZ2 (ix (ix trivial))
 refine sR (Xm (hY · (dF hq2)) [3,4,5,6] (hP 7 (dF hq2)::[])) ?_
 by_cases hq3:(Wl e.Xf).X2≠k
 ·have hx9:=op_k (C:=(Xz f u rows)) ‹_› ‹_› hq3
  refine cT (dT hq3) ?_
  refine sR [] ?_
  refine T.ret (rT ?_)
  refine eN ⟨(Zgq f u rows te e k),(Zgp f u rows te e)⟩ ?_
  refine Xc (s':=⟨(Zgq f u rows te e k),[(Zge f u),(Zgf rows),.live (.box 43 (Zgd te e)),.live (.box 78 Zgm),.live (.box 78 (Zgo e))]⟩) (fun _ _ hG=>Ys (s:=⟨(Zgq f u rows te e k),(Zgp f u rows te e)⟩) (Ey trivial) ⟨.inl rfl,p1n⟩ hG) ?_
  exact eX [.c 6 3 78 0 78 [dI 0,dI 0,dI 0,dI 0,dI 0,dS [],Zgj,dI 0,dI 0,Zgk,Zgk,Zgl] (.agg Zgm),.t 7 (.one (dI 120))] ⟨⟨rfl,rfl,by kernel_rfl,by kernel_rfl,.inl ⟨12,Wp,rfl,Nat.le_of_ble_eq_true rfl⟩⟩,⟨⟨rfl,by kernel_rfl⟩,trivial⟩⟩ [0,1] pZ2 (ix (ix trivial))
 have hx9:=op_ok (C:=(Xz f u rows)) ‹_› ‹_› hq3
 refine cF (dF hq3) ?_
 refine T.skip (nT ?_)
 refine sR [] ?_
 refine T.ret ?_
 exact eX [.c 6 3 78 0 78 [dI (Wl e.Xf).X2,dI (Wl e.Xf).Y1,dI (Wl e.Xf).Xo,dI (Wl e.Xf).Xi,dI (Wl e.Xf).Yj,dS (Wl e.Xf).X8,dU (Wl e.Xf).Xa,dI (Wl e.Xf).X1.Xw,dI (Wl e.Xf).X1.Xn,.d (dsl false false (kE false) (Wl e.Xf).Xp),.d (dsl false false (kE false) (Wl e.Xf).Y5),.d (dsl false false (kC false) (Wl e.Xf).X5)] (.agg (Zgo e)),.t 7 (.one (dI 0))] ⟨⟨rfl,rfl,by kernel_rfl,by kernel_rfl,.inl ⟨12,Wp,rfl,Nat.le_of_ble_eq_true rfl⟩⟩,⟨⟨rfl,by kernel_rfl⟩,trivial⟩⟩ [0,1] pZ2 (ix (ix trivial))
end Go.Proofs.YtnaopgohccacmaaGreat.Q
