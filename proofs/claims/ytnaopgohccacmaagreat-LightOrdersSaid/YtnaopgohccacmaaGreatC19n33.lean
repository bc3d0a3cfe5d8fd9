import Derived.Test.YtnaopgohccacmaaGreatC19n27
namespace Go.Proofs.YtnaopgohccacmaaGreat.Q
set_option linter.unusedVariables false
set_option linter.unusedSimpArgs false
set_option maxRecDepth 100000
def Hq (h:Nat→Int):Nat→Int
  | 0=>0
  | n+1=>if Hq h n≠0 then Hq h n else h n
theorem X7w {h:Nat→Int}:∀ {n:Nat},(∀ j,j<n→h j=0)→Hq h n=0
  | 0,_=>rfl
  | n+1,q=>by
    have:=X7w (h:=h) (n:=n) fun j hj=>q j (by omega)
    rw [Hq,this]
    simp only [ne_eq,not_true,if_false]
    exact q n (by omega)
theorem X9l {h:Nat→Int} {k:Nat} (q:∀ j,j<k→h j=0) (hk:h k≠0):∀ {n:Nat},k<n→Hq h n=h k
  | 0,hn=>absurd hn (Nat.not_lt_zero _)
  | n+1,hn=>by
    by_cases e:k=n
    · subst e
      rw [Hq,X7w q]
      simp
    · have:=X9l q hk (n:=n) (by omega)
      rw [Hq,this,if_pos hk]
section
variable (C:aE→Int) (f:Int)
def opE (e:aE) (k:Int):Int:=if C e≠0 then C e else if X11 e.X7≠0 then 120 else if (Wb e.X7).X1≠k then 120 else 0
def opV (e:aE) (k:Int):aM:=if opE C e k=0 then Wb e.X7 else zM
def opR (e:aE):Int:=if C e≠0 then C e else if X11 e.X7≠0 then 120 else 0
def orV (e:aE):aM:=if opR C e=0 then Wb e.X7 else zM
def rqE (e:aE):Int:=if opE C e 1≠0 then opE C e 1 else if (Wb e.X7).Xe≠e.X2 then 120 else if Wm f e.X2 then 120 else 0
def rqV (e:aE):X76:=if rqE C f e=0 then ⟨(Wb e.X7).Xe,(Wb e.X7).Y3,(Wb e.X7).Xc⟩ else Ir
def rqN (l:List aE) (j:Nat):Int:=rqE C f (l.getD j zE)
def btE (l:List aE):Int:=if ((l.length:Nat):Int)>4 then 11 else Hq (rqN C f l) l.length
def X1k (l:List aE):List UInt8:=ofB 8 (l.map Wd)
def ppE (e:aE):Int:=if opE C e 2≠0 then opE C e 2 else if e.X2≠W1 f (Wb e.X7).Xb then 133 else if (Wb e.X7).X6≠X1k (Wb e.X7).Xa then 132 else btE C f (Wb e.X7).Xa
def ppV (e:aE):aM:=if ppE C f e=0 then Wb e.X7 else zM
def vtE (e:aE) (k:Int):Int:=if opE C e k≠0 then opE C e k else if k≠3∧k≠4∧k≠5 then 120 else if ¬Wm f e.X2 then 30 else 0
def vtV (e:aE) (k:Int):aM:=if vtE C f e k=0 then Wb e.X7 else zM
end
section
variable {C:aE→Int} {f:Int} {e:aE} {k:Int}
theorem op_of {x:Int} (h:opE C e k=x) (hx:x≠0):opV C e k=zM∧opE C e k=x:=⟨if_neg p58,h⟩
theorem op_c (h:C e≠0):opV C e k=zM∧opE C e k=C e:=op_of (if_pos h) h
theorem op_d (h:¬C e≠0) (h1:X11 e.X7≠0):opV C e k=zM∧opE C e k=120:=op_of ((if_neg h).trans (if_pos h1)) (by decide)
theorem op_k (h:¬C e≠0) (h1:¬X11 e.X7≠0) (h2:(Wb e.X7).X1≠k):opV C e k=zM∧opE C e k=120:=op_of ((if_neg h).trans ((if_neg h1).trans (if_pos h2))) (by decide)
theorem op_ok (h:¬C e≠0) (h1:¬X11 e.X7≠0) (h2:¬(Wb e.X7).X1≠k):opV C e k=Wb e.X7∧opE C e k=0:=by
  have:opE C e k=0:=(if_neg h).trans ((if_neg h1).trans (if_neg h2))
  exact ⟨if_pos this,this⟩
theorem or_c (h:C e≠0):orV C e=zM∧opR C e=C e:=by
  have:opR C e=C e:=if_pos h
  exact ⟨if_neg (by rw [this];exact h),this⟩
theorem or_d (h:¬C e≠0) (h1:X11 e.X7≠0):orV C e=zM∧opR C e=120:=by
  have:opR C e=120:=(if_neg h).trans (if_pos h1)
  exact ⟨if_neg (by rw [this];decide),this⟩
theorem or_ok (h:¬C e≠0) (h1:¬X11 e.X7≠0):orV C e=Wb e.X7∧opR C e=0:=by
  have:opR C e=0:=(if_neg h).trans (if_neg h1)
  exact ⟨if_pos this,this⟩
end
section
variable {C:aE→Int} {f:Int} {e:aE} {k:Int}
theorem rq_of {x:Int} (h:rqE C f e=x) (hx:x≠0):rqV C f e=Ir∧rqE C f e=x:=⟨if_neg p58,h⟩
theorem rq_o (h:opE C e 1≠0):rqV C f e=Ir∧rqE C f e=opE C e 1:=rq_of (if_pos h) h
theorem rq_c (h:¬opE C e 1≠0) (h1:(Wb e.X7).Xe≠e.X2):rqV C f e=Ir∧rqE C f e=120:=rq_of ((if_neg h).trans (if_pos h1)) (by decide)
theorem rq_r (h:¬opE C e 1≠0) (h1:Wm f e.X2):rqV C f e=Ir∧rqE C f e=120:=by
  by_cases q:(Wb e.X7).Xe≠e.X2
  · exact rq_c h q
  · exact rq_of ((if_neg h).trans ((if_neg q).trans (if_pos h1))) (by decide)
theorem rq_ok (h:¬opE C e 1≠0) (h1:¬(Wb e.X7).Xe≠e.X2) (h2:¬Wm f e.X2):rqV C f e=⟨(Wb e.X7).Xe,(Wb e.X7).Y3,(Wb e.X7).Xc⟩∧rqE C f e=0:=by
  have:rqE C f e=0:=(if_neg h).trans ((if_neg h1).trans (if_neg h2))
  exact ⟨if_pos this,this⟩
theorem Xgw (h:¬opE C e k≠0):opV C e k=Wb e.X7:=if_pos (Classical.not_not.1 h)
theorem Xbe (C:aE→Int) (e:aE) (k:Int):(opR C e≠0→opE C e k=opR C e)∧(¬opR C e≠0→(Wb e.X7).X1≠k→opE C e k=120)∧(¬opR C e≠0→¬(Wb e.X7).X1≠k→opE C e k=0∧orV C e=Wb e.X7):=by
  unfold opR opE orV
  by_cases h:C e≠0
  · exact ⟨fun _=>by rw [if_pos h,if_pos h],fun q=>absurd (by rw [if_pos h];exact h) q,fun q=>absurd (by rw [if_pos h];exact h) q⟩
  · by_cases h1:X11 e.X7≠0
    · exact ⟨fun _=>by rw [if_neg h,if_pos h1,if_neg h,if_pos h1],fun q=>absurd (by rw [if_neg h,if_pos h1];decide) q,fun q=>absurd (by rw [if_neg h,if_pos h1];decide) q⟩
    · have e0:(if C e≠0 then C e else if X11 e.X7≠0 then 120 else 0)=(0:Int):=by rw [if_neg h,if_neg h1]
      refine ⟨fun q=>absurd e0 q,fun _ q=>by rw [if_neg h,if_neg h1,if_pos q],fun _ q=>⟨by rw [if_neg h,if_neg h1,if_neg q],?_⟩⟩
      have e1:opR C e=0:=e0
      exact if_pos e1
theorem Xgv (h:¬opR C e≠0):orV C e=Wb e.X7:=if_pos (Classical.not_not.1 h)
theorem Xjd {l:List aE} (h:((l.length:Nat):Int)>4):btE C f l=11:=if_pos h
theorem bt_at {l:List aE} {j:Nat} (h:¬((l.length:Nat):Int)>4) (hb:∀ i,i<j→rqN C f l i=0) (hj:rqE C f (l.getD j zE)≠0) (hl:j<l.length):btE C f l=rqE C f (l.getD j zE):=(if_neg h).trans (X9l hb hj hl)
theorem bt_0 {l:List aE} {j:Nat} (h:¬((l.length:Nat):Int)>4) (hb:∀ i,i<j→rqN C f l i=0) (hl:l.length≤j):btE C f l=0:=(if_neg h).trans (X7w fun i hi=>hb i (by omega))
theorem pp_of {x:Int} (h:ppE C f e=x) (hx:x≠0):ppV C f e=zM∧ppE C f e=x:=⟨if_neg p58,h⟩
theorem pp_o (h:opE C e 2≠0):ppV C f e=zM∧ppE C f e=opE C e 2:=pp_of (if_pos h) h
theorem pp_p (h:¬opE C e 2≠0) (h1:e.X2≠W1 f (Wb e.X7).Xb):ppV C f e=zM∧ppE C f e=133:=pp_of ((if_neg h).trans (if_pos h1)) (by decide)
theorem pp_d (h:¬opE C e 2≠0) (h1:¬e.X2≠W1 f (Wb e.X7).Xb) (h2:(Wb e.X7).X6≠X1k (Wb e.X7).Xa):ppV C f e=zM∧ppE C f e=132:=pp_of ((if_neg h).trans ((if_neg h1).trans (if_pos h2))) (by decide)
theorem pp_b (h:¬opE C e 2≠0) (h1:¬e.X2≠W1 f (Wb e.X7).Xb) (h2:¬(Wb e.X7).X6≠X1k (Wb e.X7).Xa) (h3:btE C f (Wb e.X7).Xa≠0):ppV C f e=zM∧ppE C f e=btE C f (Wb e.X7).Xa:=pp_of ((if_neg h).trans ((if_neg h1).trans (if_neg h2))) h3
theorem pp_ok (h:¬opE C e 2≠0) (h1:¬e.X2≠W1 f (Wb e.X7).Xb) (h2:¬(Wb e.X7).X6≠X1k (Wb e.X7).Xa) (h3:¬btE C f (Wb e.X7).Xa≠0):ppV C f e=Wb e.X7∧ppE C f e=0:=by
  have:ppE C f e=0:=(if_neg h).trans ((if_neg h1).trans ((if_neg h2).trans (Classical.not_not.1 h3)))
  exact ⟨if_pos this,this⟩
theorem vt_of {x:Int} (h:vtE C f e k=x) (hx:x≠0):vtV C f e k=zM∧vtE C f e k=x:=⟨if_neg p58,h⟩
theorem vt_o (h:opE C e k≠0):vtV C f e k=zM∧vtE C f e k=opE C e k:=vt_of (if_pos h) h
theorem vt_k (h:¬opE C e k≠0) (h1:k≠3) (h2:k≠4) (h3:k≠5):vtV C f e k=zM∧vtE C f e k=120:=vt_of ((if_neg h).trans (if_pos ⟨h1,h2,h3⟩)) (by decide)
theorem vt_s (h:¬opE C e k≠0) (h1:¬(k≠3∧k≠4∧k≠5)) (h2:¬Wm f e.X2):vtV C f e k=zM∧vtE C f e k=30:=vt_of ((if_neg h).trans ((if_neg h1).trans (if_pos h2))) (by decide)
theorem Xax (h:¬opE C e k≠0) (h1:¬(k≠3∧k≠4∧k≠5)) (h2:Wm f e.X2):vtV C f e k=Wb e.X7∧vtE C f e k=0:=by
  have:vtE C f e k=0:=(if_neg h).trans ((if_neg h1).trans (if_neg (fun q=>q h2)))
  exact ⟨if_pos this,this⟩
end
def F7 (l:List aE) (j:Nat):Prop:=∃ i,i<j∧(l.getD i zE).X2=(l.getD j zE).X2
instance (l:List aE) (j:Nat):Decidable (F7 l j):=inferInstanceAs (Decidable (∃ i,i<j∧_))
def I2 (l:List aE) (k:Nat):List (Int×Bool):=(l.take k).foldl (fun t e=>mput t e.X2 true) []
def E3 (g:aE→Int) (l:List aE) (j:Nat):Int:=if g (l.getD j zE)≠0 then g (l.getD j zE) else if F7 l j then 33 else 0
def F3 (g:aE→Int) (l:List aE) (need:Int):Int:=if Hq (E3 g l) l.length≠0 then Hq (E3 g l) l.length else if ((l.length:Nat):Int)<need then 32 else 0
def X1f (p:aM) (kind pre:Int) (m:aM) (s:Int):Int:=if m.Xb≠p.Xb then 130 else if m.Xg≠p.Xg then 131 else if m.X6≠p.X6 then 132 else if kind=3∧s=pre then 133 else 0
def X20 (seq:Int) (d:List UInt8) (m:aM):Int:=if m.Xg≠seq then 131 else if m.X6≠d then 132 else 0
def gC (C:aE→Int) (f:Int) (p:aM) (kind pre:Int) (e:aE):Int:=if vtE C f e kind≠0 then vtE C f e kind else X1f p kind pre (Wb e.X7) e.X2
def gS (C:aE→Int) (f:Int) (seq:Int) (d:List UInt8) (e:aE):Int:=if vtE C f e 5≠0 then vtE C f e 5 else X20 seq d (Wb e.X7)
def ceE (C:aE→Int) (f:Int) (c:aC) (kind need:Int):Int:=if ppE C f c.Yf≠0 then ppE C f c.Yf else F3 (gC C f (Wb c.Yf.X7) kind c.Yf.X2) c.Xo need
def ceV (C:aE→Int) (f:Int) (c:aC) (kind need:Int):aM:=if ceE C f c kind need=0 then Wb c.Yf.X7 else zM
def Hr (l:List aE):List UInt8:=(Wb (l.getD 0 zE).X7).X6
def stE (C:aE→Int) (f:Int) (seq:Int) (l:List aE):Int:=if seq=0 then (if ((l.length:Nat):Int)>0 then 120 else 0) else F3 (gS C f seq (Hr l)) l (max 1 (2*f+1))
def stD (C:aE→Int) (f:Int) (seq:Int) (l:List aE):List UInt8:=if seq≠0∧stE C f seq l=0 then Hr l else []
section
variable {g:aE→Int} {x:List aE} {k:Nat} {need:Int}
theorem X3c (h:g (x.getD k zE)≠0):E3 g x k=g (x.getD k zE):=if_pos h
theorem vot_2 (h:¬g (x.getD k zE)≠0) (h2:F7 x k):E3 g x k=33:=(if_neg h).trans (if_pos h2)
theorem vot_3 (h:¬g (x.getD k zE)≠0) (h2:¬F7 x k):E3 g x k=0:=(if_neg h).trans (if_neg h2)
theorem Hm {E:Int} (need:Int) (hb:∀ i,i<k→E3 g x i=0) (h:E3 g x k=E) (hE:E≠0) (hk:k<x.length):F3 g x need=E:=by
  have e:=X9l hb (by rw [h];exact hE) hk
  unfold F3
  rw [e,h,if_pos hE]
theorem tly_0 (need:Int) (hb:∀ i,i<k→E3 g x i=0) (hk:x.length≤k):F3 g x need=if ((x.length:Nat):Int)<need then 32 else 0:=by
  have e:Hq (E3 g x) x.length=0:=X7w fun i hi=>hb i (by omega)
  unfold F3
  rw [e,if_neg (by simp)]
end
section
variable {C:aE→Int} {f:Int} {e:aE} {p:aM} {kind pre:Int}
theorem Xg3 (h:¬vtE C f e kind≠0):vtV C f e kind=Wb e.X7:=if_pos (Classical.not_not.1 h)
theorem gC_1 (h:vtE C f e kind≠0):gC C f p kind pre e=vtE C f e kind:=if_pos h
theorem gC_2 (h:¬vtE C f e kind≠0):gC C f p kind pre e=X1f p kind pre (vtV C f e kind) e.X2:=by rw [Xg3 h];exact if_neg h
theorem gS_1 {seq:Int} {d:List UInt8} (h:vtE C f e 5≠0):gS C f seq d e=vtE C f e 5:=if_pos h
theorem gS_2 {seq:Int} {d:List UInt8} (h:¬vtE C f e 5≠0):gS C f seq d e=X20 seq d (vtV C f e 5):=by rw [Xg3 h];exact if_neg h
end
section
variable {C:aE→Int} {f:Int} {c:aC} {kind need:Int}
theorem ce_of {x:Int} (h:ceE C f c kind need=x) (hx:x≠0):ceV C f c kind need=zM∧ceE C f c kind need=x:=⟨if_neg p58,h⟩
theorem ce_p (h:ppE C f c.Yf≠0):ceV C f c kind need=zM∧ceE C f c kind need=ppE C f c.Yf:=ce_of (if_pos h) h
theorem Xgr {e:aE} (h:¬ppE C f e≠0):ppV C f e=Wb e.X7:=if_pos (Classical.not_not.1 h)
theorem ce_is (h:¬ppE C f c.Yf≠0):ceE C f c kind need=F3 (gC C f (ppV C f c.Yf) kind c.Yf.X2) c.Xo need:=by rw [Xgr h];exact if_neg h
theorem ce_t (h:¬ppE C f c.Yf≠0) (h1:F3 (gC C f (ppV C f c.Yf) kind c.Yf.X2) c.Xo need≠0):ceV C f c kind need=zM∧ceE C f c kind need=F3 (gC C f (ppV C f c.Yf) kind c.Yf.X2) c.Xo need:=ce_of (ce_is h) h1
theorem ce_ok (h:¬ppE C f c.Yf≠0) (h1:¬F3 (gC C f (ppV C f c.Yf) kind c.Yf.X2) c.Xo need≠0):ceV C f c kind need=ppV C f c.Yf∧ceE C f c kind need=0:=by
  have:ceE C f c kind need=0:=(ce_is h).trans (Classical.not_not.1 h1)
  exact ⟨by rw [Xgr h];exact if_pos this,this⟩
end
def X9s (C:aE→Int) (f:Int) (x:List aE):List UInt8:=if 0<x.length∧vtE C f (x.getD 0 zE) 5=0 then Hr x else []
def fstF (C:aE→Int) (f:Int) (x:List aE):Bool:=!decide (0<x.length∧vtE C f (x.getD 0 zE) 5=0)
section
variable {C:aE→Int} {f seq:Int} {d:List UInt8} {x:List aE} {k:Nat}
def X1i (x:List aE) (k:Nat):List UInt8:=if k=0 then [] else Hr x
def X1h (k:Nat):Bool:=decide (k=0)
theorem Xg4 (hb:∀ i,i<k→E3 (gS C f seq d) x i=0) (hk:0<k):vtE C f (x.getD 0 zE) 5=0:=by
  have h:=hb 0 hk
  refine Classical.byContradiction fun q=>?_
  have hg:=gS_1 (seq:=seq) (d:=d) q
  rw [X3c (by rw [hg];exact q),hg] at h
  exact q h
theorem dig_at (hb:∀ i,i<k→E3 (gS C f seq d) x i=0) (hk:k≤x.length) (h:x.length≤k∨vtE C f (x.getD k zE) 5≠0):X1i x k=X9s C f x∧X1h k=fstF C f x:=by
  unfold X1i X9s X1h fstF
  by_cases h0:k=0
  · subst h0
    have hn:¬(0<x.length∧vtE C f (x.getD 0 zE) 5=0):=fun q=>h.elim (fun w=>by omega) (fun w=>w q.2)
    rw [if_pos rfl,if_neg hn]
    exact ⟨rfl,by simp only [decide_eq_false hn];rfl⟩
  · have hy:0<x.length∧vtE C f (x.getD 0 zE) 5=0:=⟨by omega,Xg4 hb (by omega)⟩
    rw [if_neg h0,if_pos hy]
    exact ⟨rfl,by rw [decide_eq_false h0,decide_eq_true hy];rfl⟩
def digN (C:aE→Int) (f:Int) (x:List aE) (k:Nat):List UInt8:=if X1h k=true then (vtV C f (x.getD k zE) 5).X6 else X1i x k
theorem dig_next (hb:∀ i,i<k→E3 (gS C f seq d) x i=0) (hk:k<x.length) (h:¬vtE C f (x.getD k zE) 5≠0):digN C f x k=Hr x∧X9s C f x=Hr x∧fstF C f x=false∧X1i x (k+1)=Hr x∧X1h (k+1)=false:=by
  have h0:vtE C f (x.getD 0 zE) 5=0:=by
    by_cases q:k=0
    · subst q;exact Classical.not_not.1 h
    · exact Xg4 hb (by omega)
  have hy:0<x.length∧vtE C f (x.getD 0 zE) 5=0:=⟨by omega,h0⟩
  refine ⟨?_,if_pos hy,?_,if_neg (by omega),decide_eq_false (by omega)⟩
  · unfold digN X1h X1i
    by_cases q:k=0
    · subst q
      rw [if_pos (by decide),Xg3 h];rfl
    · rw [if_neg (by simp [q]),if_neg q]
  · unfold fstF;rw [decide_eq_true hy];rfl
end
theorem Xj2 {h:Nat→Int}:∀ {n:Nat},Hq h n=0→∀ j,j<n→h j=0
  | 0,_,j,hj=>absurd hj (Nat.not_lt_zero _)
  | n+1,q,j,hj=>by
    rw [Hq] at q
    split at q
    · rename_i w;exact absurd q w
    · rename_i w
      rcases Nat.lt_or_ge j n with hlt|hge
      · exact Xj2 (Classical.not_not.1 w) j hlt
      · rw [show j=n by omega];exact q
section
variable {C:aE→Int} {f seq:Int} {x:List aE}
theorem st_0 (h:seq=0) (h1:((x.length:Nat):Int)>0):stD C f seq x=[]∧stE C f seq x=120:=⟨if_neg (fun q=>q.1 h),(if_pos h).trans (if_pos h1)⟩
theorem st_1 (h:seq=0) (h1:¬((x.length:Nat):Int)>0):stD C f seq x=[]∧stE C f seq x=0:=⟨if_neg (fun q=>q.1 h),(if_pos h).trans (if_neg h1)⟩
theorem st_t {E:Int} (h:¬seq=0) (h1:F3 (gS C f seq (Hr x)) x (max 1 (2*f+1))=E) (hE:E≠0):stD C f seq x=[]∧stE C f seq x=E:=by
  have e:stE C f seq x=E:=(if_neg h).trans h1
  exact ⟨if_neg (fun q=>hE (e ▸ q.2)),e⟩
theorem st_ok (h:¬seq=0) (h1:F3 (gS C f seq (Hr x)) x (max 1 (2*f+1))=0):stD C f seq x=X9s C f x∧stE C f seq x=0∧X9s C f x=Hr x:=by
  have e:stE C f seq x=0:=(if_neg h).trans h1
  have hd:stD C f seq x=Hr x:=if_pos ⟨h,e⟩
  unfold F3 at h1
  split at h1
  · rename_i w;exact absurd h1 w
  · rename_i w
    split at h1
    · cases h1
    · rename_i w2
      have hl:0<x.length:=by omega
      have h0:=Xg4 (k:=x.length) (Xj2 (Classical.not_not.1 w)) hl
      have hf:X9s C f x=Hr x:=if_pos ⟨hl,h0⟩
      exact ⟨hd.trans hf.symm,e,hf⟩
end
def okEnv (e:aE):Prop:=X0w e.X2∧e.X7.length≤16777216
def F9 (l:List aE):Prop:=l.length≤31∧∀ e,e∈l→okEnv e
theorem Xi9 (M:Int) (r:List UInt8) (e:Int):∀ k,∀ x,x∈(Vn M r e k).l→X0w x.X2∧x.X7.length≤r.length
  | 0=>fun x hx=>by cases hx
  | k+1=>fun x hx=>by
    have hl:=(Fp M r e k).1
    have hx:x∈(Vn M r e k).l++[evV M (Vn M r e k).rest (Vn M r e k).e]:=hx
    rw [List.mem_append,List.mem_singleton] at hx
    rcases hx with h|h
    · exact Xi9 M r e k x h
    · subst h
      exact ⟨Xk4 _ _,Nat.le_trans (X0n _ _ _) (Nat.le_trans (U3 _ _ _ _) hl)⟩
def okEn (n:Nat) (l:List aE):Prop:=l.length≤15∧∀ e,e∈l→X0w e.X2∧e.X7.length≤n
theorem finL_ok {M:Int} {r:List UInt8} {e:Int} {n:Nat} (h:r.length≤n):okEn n (Up M r e).l:=⟨(X08 M r e).2,fun x hx=>by have:=Xi9 M r e _ x hx;exact ⟨this.1,by omega⟩⟩
theorem Xjp {M N:Int} {n:Nat} {s:RdM} (h:okEn n s.m.Xa) (hl:s.rest.length≤n) (j:Nat):okEn n (V7 M N s j).m.Xa:=by
  rcases (by omega:j=0∨j=1∨j=2∨j=3∨j=4∨j=5∨j=6∨j=7∨j=8∨9≤j) with q|q|q|q|q|q|q|q|q|q
  case inr.inr.inr.inr.inr.inr.inl=>subst q;exact finL_ok hl
  case inr.inr.inr.inr.inr.inr.inr.inr.inr=>obtain ⟨i,rfl⟩:∃ i,j=i+9:=⟨j-9,by omega⟩;exact h
  all_goals (subst q;exact h)
theorem X8l (M N:Int) (r:List UInt8) (e k:Int):∀ j,okEn r.length (Y0 M N r e k j).m.Xa
  | 0=>⟨Nat.zero_le _,fun x hx=>by cases hx⟩
  | j+1=>by
    rw [Y0]
    split
    · exact Xjp (X8l M N r e k j) (Ez _ _ _ _ _ _) j
    · exact X8l M N r e k j
theorem X2d (b:List UInt8):F9 (Wb b).Xa:=by
  unfold Wb decW
  split
  · rename_i h
    have hl:=h.1
    have hr:=U3 b 0 8 0
    obtain ⟨h1,h2⟩:=X8l ((b.length:Nat):Int) 16777216 (rdR b 0 8 0) (rdE b 0 8 0) (rdI b 0) 9
    exact ⟨Nat.le_trans h1 (by decide),fun e he=>⟨(h2 e he).1,by have:=(h2 e he).2;omega⟩⟩
  · exact ⟨Nat.zero_le _,fun x hx=>by cases hx⟩
theorem envs_le {l:List aE} {n:Nat} (h:∀ e,e∈l→e.X7.length≤n):(Jf l).length≤l.length*(12+n):=by
  induction l with
  | nil=>simp [Jf]
  | cons e r ih =>
    have h1:=ih fun x hx=>h x (List.mem_cons_of_mem _ hx)
    have h2:=h e (List.mem_cons_self ..)
    rw [show Jf (e::r)=Wd e++Jf r from rfl,List.length_append,X53,List.length_cons,Nat.succ_mul]
    omega
theorem X7v {l:List aE} (h:F9 l):(Jf l).length≤520094068:=by
  have h1:=envs_le fun e he=>(h.2 e he).2
  have h2:=Nat.mul_le_mul_right (12+16777216) h.1
  omega
theorem Fr {l:List aE} (h:F9 l) {k:Nat} (hk:k<l.length):okEnv (l.getD k zE):=h.2 _ (Ur hk)
theorem szP_env (l:List aE):∀ n,(l.map Wd).foldl (fun n p=>n+(4+p.length)) n=n+4*l.length+(Jf l).length:=by
  induction l with
  | nil=>intro n;simp [Jf]
  | cons e r ih =>
    intro n
    rw [List.map_cons,List.foldl_cons,ih,show Jf (e::r)=Wd e++Jf r from rfl,List.length_append,List.length_cons]
    omega
theorem X88 (l:List aE):szP (l.map Wd)=5+4*l.length+(Jf l).length:=szP_env l 5
theorem Xcu {l:List aE} {k:Nat} (hk:k<l.length):(l.map Wd).getD k []=Wd (l.getD k zE):=by
  rw [List.getD_eq_getElem?_getD,List.getD_eq_getElem?_getD,List.getElem?_map,List.getElem?_eq_getElem hk];rfl
theorem mget_put {l:List (Int×Bool)} {k k':Int} {v z:Bool}:mget (mput l k v) k' z=if k=k' then v else mget l k' z:=by
  induction l with
  | nil=>simp only [mput,mget]
  | cons e r ih =>
    simp only [mput]
    by_cases h:e.1=k
    · subst h
      simp only [if_pos,mget]
      split<;>rfl
    · simp only [if_neg h,mget,ih]
      by_cases h2:e.1=k'
      · subst h2
        rw [if_pos rfl,if_pos rfl,if_neg (fun q=>h q.symm)]
      · rw [if_neg h2,if_neg h2]
theorem X5p {l:List aE} {k:Nat} (hk:k<l.length):I2 l (k+1)=mput (I2 l k) (l.getD k zE).X2 true:=by
  unfold I2
  rw [Ic (z:=zE) hk,List.foldl_append]
  rfl
theorem Xdt {l:List aE} {s:Int}:∀ {k:Nat},k≤l.length→(mget (I2 l k) s false=true↔∃ i,i<k∧(l.getD i zE).X2=s)
  | 0,_=>⟨pZs,fun ⟨i,h,_⟩=>absurd h (Nat.not_lt_zero _)⟩
  | k+1,hk=>by
    rw [X5p (by omega),mget_put]
    split
    · rename_i h;exact ⟨fun _=>⟨k,by omega,h⟩,fun _=>rfl⟩
    · rename_i h
      rw [Xdt (k:=k) (by omega)]
      exact ⟨fun ⟨i,h1,h2⟩=>⟨i,by omega,h2⟩,fun ⟨i,h1,h2⟩=>⟨i,by rcases Nat.lt_or_ge i k with q|q;exact q;exact absurd (by rw [← h2,show i=k by omega]) h,h2⟩⟩
theorem X0g {l:List aE} {k:Nat} (hk:k≤l.length):mget (I2 l k) (l.getD k zE).X2 false=true↔F7 l k:=Xdt hk
end Go.Proofs.YtnaopgohccacmaaGreat.Q
namespace Go.Proofs.YtnaopgohccacmaaGreat.Q
open Go Go.RowKit
set_option linter.unusedVariables false
set_option linter.unusedSimpArgs false
set_option maxRecDepth 100000
set_option maxHeartbeats 4000000
section
variable (f:Int) (u:Int) (rows:List (Yb×Bool)) (te:Bool) (e:aE) (k:Int)
abbrev Zgd:List SV:=[dI e.X2,.d (dsl te false kU8 e.X7)]
abbrev Zge:HS:=.live (.box 130 [dI (3*f+1),dI u,.mref 1])
abbrev Zgf:HS:=.live (mpK Xi Y8 rows)
abbrev Zgg:List AV:=[pv 0 0,.tv (.agg (Zgd te e)),vI k,aa,pv 2 0,aa,pv 3 0,vI (Xd f u rows e),vI (Xd f u rows e),aa,aa,aa,aa,aa,aa,vB (decide ((Xd f u rows e)≠0))]
abbrev Zgh:SV:=.d (.val (.slice none 0 0))
abbrev Zgi:HS:=.live (.box 78 [dI 0,dI 0,dI 0,dI 0,dI 0,dS [],Zgh,dI 0,dI 0,Zgh,Zgh,Zgh])
abbrev Zgj:SV:=dU ([]:List UInt8)
abbrev Zgk:SV:=.d (dsl false false (kE false) ([]:List aE))
abbrev Zgl:SV:=.d (dsl false false (kC false) ([]:List aC))
abbrev Zgm:List SV:=[dI 0,dI 0,dI 0,dI 0,dI 0,dS [],Zgj,dI 0,dI 0,Zgk,Zgk,Zgl]
abbrev Zgn:List AV:=[pv 0 0,.tv (.agg (Zgd te e)),vI k,aa,pv 2 0,aa,pv 3 0,vI 120,vI (Xd f u rows e),pv 4 0,vI (X11 e.X7),aa,aa,aa,aa,vB (decide ((Xd f u rows e)≠0)),aa,aa,aa,aa,aa,aa,aa,aa,aa,aa,aa,aa,aa,aa,aa,vB true]
abbrev Zgo:List SV:=[dI (Wb e.X7).X1,dI (Wb e.X7).Xb,dI (Wb e.X7).Xg,dI (Wb e.X7).Xe,dI (Wb e.X7).Y3,dS (Wb e.X7).X6,dU (Wb e.X7).Xc,dI (Wb e.X7).X0.Xu,dI (Wb e.X7).X0.Xl,.d (dsl false false (kE false) (Wb e.X7).Xa),.d (dsl false false (kE false) (Wb e.X7).Xw),.d (dsl false false (kC false) (Wb e.X7).X5)]
abbrev Zgp:List HS:=[(Zge f u),(Zgf rows),.live (.box 43 (Zgd te e)),Zgi,.live (.box 78 (Zgo e))]
abbrev Zgq:List AV:=[pv 0 0,.tv (.agg (Zgd te e)),vI k,aa,pv 2 0,aa,pv 3 0,vI 120,vI (Xd f u rows e),pv 4 0,vI (X11 e.X7),aa,aa,aa,aa,vB (decide ((Xd f u rows e)≠0)),aa,aa,aa,aa,aa,aa,aa,aa,aa,aa,aa,aa,aa,aa,aa,vB (decide ((Wb e.X7).X1≠k))]
end
theorem X6d (f:Int) (u:Int) (rows:List (Yb×Bool)) (te:Bool) (e:aE) (k:Int) (hf:0≤f∧f≤2) (hu:0≤u∧u≤8) (hs:-9223372036854775808≤e.X2∧e.X2≤9223372036854775807) (hb:e.X7.length≤100000000):Holds Tryz.prog 173 ⟨[pv 0 0,.tv (.agg [dI e.X2,.d (dsl te false kU8 e.X7)]),vI k],[.box 130 [dI (3*f+1),dI u,.mref 1],mpK Xi Y8 rows],.tup [.agg [dI (opV (Xd f u rows) e k).X1,dI (opV (Xd f u rows) e k).Xb,dI (opV (Xd f u rows) e k).Xg,dI (opV (Xd f u rows) e k).Xe,dI (opV (Xd f u rows) e k).Y3,dS (opV (Xd f u rows) e k).X6,dU (opV (Xd f u rows) e k).Xc,dI (opV (Xd f u rows) e k).X0.Xu,dI (opV (Xd f u rows) e k).X0.Xl,.d (dsl false false (kE false) (opV (Xd f u rows) e k).Xa),.d (dsl false false (kE false) (opV (Xd f u rows) e k).Xw),.d (dsl false false (kC false) (opV (Xd f u rows) e k).X5)],.one (dI (opE (Xd f u rows) e k))],[.live (.box 130 [dI (3*f+1),dI u,.mref 1]),.live (mpK Xi Y8 rows)]⟩:=by
 refine Holds.of Tryz.func173 rfl (N:=34) Tryz.ntmps173 rfl fun w0 B0 S0 U0=>?_
 show T _ (Y5 34 2 w0 S0 U0 B0) ⟨[pv 0 0,.tv (.agg (Zgd te e)),vI k],[(Zge f u),(Zgf rows)]⟩ _ _
 refine sR [] (T.seq (sR [hR 2 rfl rfl (rCa (Xfv f u rows te e ‹_› ‹_› ‹_›) Tryz.func186 [0,1] [(.tmp 11,pv 0 0),(.tmp 12,.tv (.agg (Zgd te e)))] 2 2)] (sR [] ?_)))
 by_cases hq1:(Xd f u rows e)≠0
 ·have hx9:=op_c (C:=(Xd f u rows)) (k:=k) hq1
  refine cT (dT hq1) (sR [] (T.ret (rT ?_)))
  refine eN ⟨(Zgg f u rows te e k),[(Zge f u),(Zgf rows),.live (.box 43 (Zgd te e)),Zgi]⟩ ?_
  refine X8 (s':=⟨(Zgg f u rows te e k),[(Zge f u),(Zgf rows),.live (.box 43 (Zgd te e)),.live (.box 78 Zgm)]⟩) (fun _ _ hG=>Ym (s:=⟨(Zgg f u rows te e k),[(Zge f u),(Zgf rows),.live (.box 43 (Zgd te e)),Zgi]⟩) (X05 trivial) ⟨.inl rfl,(kk2 ⟨pZ1,trivial⟩)⟩ hG) ?_
  exact eX [.c 6 3 78 0 78 [dI 0,dI 0,dI 0,dI 0,dI 0,dS [],Zgj,dI 0,dI 0,Zgk,Zgk,Zgl] (.agg Zgm),.t 7 (.one (dI (Xd f u rows e)))] ⟨⟨rfl,rfl,by kernel_rfl,by kernel_rfl,.inl ⟨12,Yy,rfl,Nat.le_of_ble_eq_true rfl⟩⟩,⟨⟨rfl,by kernel_rfl⟩,trivial⟩⟩ [0,1] pZ0 (ix (ix trivial))
 refine cF (dF hq1) (T.skip (nT (sR [hR 2 rfl rfl (rCa (Xh3 te false e.X7 (by omega)) Tryz.func187 [] [(.tmp 20,slV te false kU8 e.X7)] 0 0)] (T.seq ?_))))
 by_cases hq2:(X11 e.X7)≠0
 ·have hx9:=op_d (C:=(Xd f u rows)) (k:=k) ‹_› hq2
  refine sR (Xr (hN · false (dT hq2)) [3,4,5,6] (hP 7 (dT hq2)::[])) (cT (b:=true) rfl (sR [] (T.ret (rT ?_))))
  refine eN ⟨(Zgn f u rows te e k),(Zgp f u rows te e)⟩ ?_
  refine X8 (s':=⟨(Zgn f u rows te e k),[(Zge f u),(Zgf rows),.live (.box 43 (Zgd te e)),.live (.box 78 Zgm),.live (.box 78 (Zgo e))]⟩) (fun _ _ hG=>Ym (s:=⟨(Zgn f u rows te e k),(Zgp f u rows te e)⟩) (X41 trivial) ⟨.inl rfl,pZv⟩ hG) ?_
  exact eX [.c 6 3 78 0 78 [dI 0,dI 0,dI 0,dI 0,dI 0,dS [],Zgj,dI 0,dI 0,Zgk,Zgk,Zgl] (.agg Zgm),.t 7 (.one (dI 120))] ⟨⟨rfl,rfl,by kernel_rfl,by kernel_rfl,.inl ⟨12,Yy,rfl,Nat.le_of_ble_eq_true rfl⟩⟩,⟨⟨rfl,by kernel_rfl⟩,trivial⟩⟩ [0,1] pZ0 (ix (ix trivial))
 refine sR (Xr (hY · (dF hq2)) [3,4,5,6] (hP 7 (dF hq2)::[])) ?_
 by_cases hq3:(Wb e.X7).X1≠k
 ·have hx9:=op_k (C:=(Xd f u rows)) ‹_› ‹_› hq3
  refine cT (dT hq3) (sR [] (T.ret (rT ?_)))
  refine eN ⟨(Zgq f u rows te e k),(Zgp f u rows te e)⟩ ?_
  refine X8 (s':=⟨(Zgq f u rows te e k),[(Zge f u),(Zgf rows),.live (.box 43 (Zgd te e)),.live (.box 78 Zgm),.live (.box 78 (Zgo e))]⟩) (fun _ _ hG=>Ym (s:=⟨(Zgq f u rows te e k),(Zgp f u rows te e)⟩) (X41 trivial) ⟨.inl rfl,pZv⟩ hG) ?_
  exact eX [.c 6 3 78 0 78 [dI 0,dI 0,dI 0,dI 0,dI 0,dS [],Zgj,dI 0,dI 0,Zgk,Zgk,Zgl] (.agg Zgm),.t 7 (.one (dI 120))] ⟨⟨rfl,rfl,by kernel_rfl,by kernel_rfl,.inl ⟨12,Yy,rfl,Nat.le_of_ble_eq_true rfl⟩⟩,⟨⟨rfl,by kernel_rfl⟩,trivial⟩⟩ [0,1] pZ0 (ix (ix trivial))
 have hx9:=op_ok (C:=(Xd f u rows)) ‹_› ‹_› hq3
 refine cF (dF hq3) (T.skip (nT (sR [] (T.ret ?_))))
 exact eX [.c 6 3 78 0 78 [dI (Wb e.X7).X1,dI (Wb e.X7).Xb,dI (Wb e.X7).Xg,dI (Wb e.X7).Xe,dI (Wb e.X7).Y3,dS (Wb e.X7).X6,dU (Wb e.X7).Xc,dI (Wb e.X7).X0.Xu,dI (Wb e.X7).X0.Xl,.d (dsl false false (kE false) (Wb e.X7).Xa),.d (dsl false false (kE false) (Wb e.X7).Xw),.d (dsl false false (kC false) (Wb e.X7).X5)] (.agg (Zgo e)),.t 7 (.one (dI 0))] ⟨⟨rfl,rfl,by kernel_rfl,by kernel_rfl,.inl ⟨12,Yy,rfl,Nat.le_of_ble_eq_true rfl⟩⟩,⟨⟨rfl,by kernel_rfl⟩,trivial⟩⟩ [0,1] pZ0 (ix (ix trivial))
section
variable (f:Int) (u:Int) (l:List aE) (e:aE)
abbrev Zgr:List SV:=[dI e.X2,dU e.X7]
abbrev Zgs:HS:=.live (.box 135 [dB true,dI f,dI u,.own 1 (kE false).sz 0 l.length])
abbrev Zgt:HS:=.live (Xf 43 (kE false) l)
abbrev Zgu:List AV:=[pv 0 0,.tv (.agg (Zgr e)),aa,pv 2 0,pv 3 0,vI (X9 f u l e),vI (X9 f u l e),aa,aa,aa,aa,aa,vB (decide ((X9 f u l e)≠0))]
abbrev Zgv:SV:=.d (.val (.slice none 0 0))
abbrev Zgw:HS:=.live (.box 78 [dI 0,dI 0,dI 0,dI 0,dI 0,dS [],Zgv,dI 0,dI 0,Zgv,Zgv,Zgv])
abbrev Zgx:SV:=dU ([]:List UInt8)
abbrev Zgy:SV:=.d (dsl false false (kE false) ([]:List aE))
abbrev Zgz:SV:=.d (dsl false false (kC false) ([]:List aC))
abbrev Zh0:List SV:=[dI 0,dI 0,dI 0,dI 0,dI 0,dS [],Zgx,dI 0,dI 0,Zgy,Zgy,Zgz]
abbrev Zh1:List AV:=[pv 0 0,.tv (.agg (Zgr e)),aa,pv 2 0,pv 3 0,vI 120,vI (X11 e.X7),pv 4 0,aa,aa,aa,aa,vB (decide ((X9 f u l e)≠0)),aa,aa,aa,aa,aa,aa,aa,aa,aa,vB (decide ((X11 e.X7)≠0))]
abbrev Zh2:List SV:=[dI (Wb e.X7).X1,dI (Wb e.X7).Xb,dI (Wb e.X7).Xg,dI (Wb e.X7).Xe,dI (Wb e.X7).Y3,dS (Wb e.X7).X6,dU (Wb e.X7).Xc,dI (Wb e.X7).X0.Xu,dI (Wb e.X7).X0.Xl,.d (dsl false false (kE false) (Wb e.X7).Xa),.d (dsl false false (kE false) (Wb e.X7).Xw),.d (dsl false false (kC false) (Wb e.X7).X5)]
end
theorem X3w (f:Int) (u:Int) (l:List aE) (e:aE) (hf:0≤f∧f≤2) (hu:0≤u∧u≤8) (hl:l.length≤9223372036854775806) (hs:-9223372036854775808≤e.X2∧e.X2≤9223372036854775807) (hb:e.X7.length≤100000000):Holds Tryz.prog 150 ⟨[pv 0 0,.tv (.agg [dI e.X2,dU e.X7])],[.box 135 [dB true,dI f,dI u,.own 1 (kE false).sz 0 l.length],Xf 43 (kE false) l],.tup [.agg [dI (orV (X9 f u l) e).X1,dI (orV (X9 f u l) e).Xb,dI (orV (X9 f u l) e).Xg,dI (orV (X9 f u l) e).Xe,dI (orV (X9 f u l) e).Y3,dS (orV (X9 f u l) e).X6,dU (orV (X9 f u l) e).Xc,dI (orV (X9 f u l) e).X0.Xu,dI (orV (X9 f u l) e).X0.Xl,.d (dsl false false (kE false) (orV (X9 f u l) e).Xa),.d (dsl false false (kE false) (orV (X9 f u l) e).Xw),.d (dsl false false (kC false) (orV (X9 f u l) e).X5)],.one (dI (opR (X9 f u l) e))],[.live (.box 135 [dB true,dI f,dI u,.own 1 (kE false).sz 0 l.length]),.live (Xf 43 (kE false) l)]⟩:=by
 refine Holds.of Tryz.func150 rfl (N:=25) Tryz.ntmps150 rfl fun w0 B0 S0 U0=>?_
 show T _ (Y5 25 2 w0 S0 U0 B0) ⟨[pv 0 0,.tv (.agg (Zgr e))],[(Zgs f u l),(Zgt l)]⟩ _ _
 refine sR [] (sR [hR 2 rfl rfl (rCa (Xe5 f u l false e ‹_› ‹_› ‹_› ‹_›) Tryz.func171 [0,1] [(.tmp 8,pv 0 0),(.tmp 9,.tv (.agg (Zgr e)))] 2 2)] (T.seq (sR [] ?_)))
 by_cases hq1:(X9 f u l e)≠0
 ·have hx9:=or_c (C:=(X9 f u l)) hq1
  refine cT (dT hq1) (sR [] (T.ret (rT ?_)))
  refine eN ⟨(Zgu f u l e),[(Zgs f u l),(Zgt l),.live (.box 43 (Zgr e)),Zgw]⟩ ?_
  refine X8 (s':=⟨(Zgu f u l e),[(Zgs f u l),(Zgt l),.live (.box 43 (Zgr e)),.live (.box 78 Zh0)]⟩) (fun _ _ hG=>Ym (s:=⟨(Zgu f u l e),[(Zgs f u l),(Zgt l),.live (.box 43 (Zgr e)),Zgw]⟩) ⟨.inl rfl,p3f⟩ ⟨.inl rfl,(kk2 ⟨pZ1,trivial⟩)⟩ hG) ?_
  exact eX [.c 4 3 78 0 78 [dI 0,dI 0,dI 0,dI 0,dI 0,dS [],Zgx,dI 0,dI 0,Zgy,Zgy,Zgz] (.agg Zh0),.t 5 (.one (dI (X9 f u l e)))] ⟨⟨rfl,rfl,by kernel_rfl,by kernel_rfl,.inl ⟨12,Yy,rfl,Nat.le_of_ble_eq_true rfl⟩⟩,⟨⟨rfl,by kernel_rfl⟩,trivial⟩⟩ [0,1] pZ0 (ix (ix trivial))
 refine cF (dF hq1) (T.skip (nT (sR [hR 2 rfl rfl (rCa (Xc6 e.X7 (by omega)) Tryz.func172 [] [(.tmp 17,slV false false kU8 e.X7)] 0 0)] (T.seq (sR [] ?_)))))
 by_cases hq2:(X11 e.X7)≠0
 ·have hx9:=or_d (C:=(X9 f u l)) ‹_› hq2
  refine cT (dT hq2) (sR [] (T.ret (rT ?_)))
  refine eN ⟨(Zh1 f u l e),[(Zgs f u l),(Zgt l),.live (.box 43 (Zgr e)),Zgw,.live (.box 78 (Zh2 e))]⟩ ?_
  refine X8 (s':=⟨(Zh1 f u l e),[(Zgs f u l),(Zgt l),.live (.box 43 (Zgr e)),.live (.box 78 Zh0),.live (.box 78 (Zh2 e))]⟩) (fun _ _ hG=>Ym (s:=⟨(Zh1 f u l e),[(Zgs f u l),(Zgt l),.live (.box 43 (Zgr e)),Zgw,.live (.box 78 (Zh2 e))]⟩) ⟨.inl rfl,p3l⟩ ⟨.inl rfl,pZv⟩ hG) ?_
  exact eX [.c 4 3 78 0 78 [dI 0,dI 0,dI 0,dI 0,dI 0,dS [],Zgx,dI 0,dI 0,Zgy,Zgy,Zgz] (.agg Zh0),.t 5 (.one (dI 120))] ⟨⟨rfl,rfl,by kernel_rfl,by kernel_rfl,.inl ⟨12,Yy,rfl,Nat.le_of_ble_eq_true rfl⟩⟩,⟨⟨rfl,by kernel_rfl⟩,trivial⟩⟩ [0,1] pZ0 (ix (ix trivial))
 have hx9:=or_ok (C:=(X9 f u l)) ‹_› hq2
 refine cF (dF hq2) (T.skip (nT (sR [] (T.ret ?_))))
 exact eX [.c 4 3 78 0 78 [dI (Wb e.X7).X1,dI (Wb e.X7).Xb,dI (Wb e.X7).Xg,dI (Wb e.X7).Xe,dI (Wb e.X7).Y3,dS (Wb e.X7).X6,dU (Wb e.X7).Xc,dI (Wb e.X7).X0.Xu,dI (Wb e.X7).X0.Xl,.d (dsl false false (kE false) (Wb e.X7).Xa),.d (dsl false false (kE false) (Wb e.X7).Xw),.d (dsl false false (kC false) (Wb e.X7).X5)] (.agg (Zh2 e)),.t 5 (.one (dI 0))] ⟨⟨rfl,rfl,by kernel_rfl,by kernel_rfl,.inl ⟨12,Yy,rfl,Nat.le_of_ble_eq_true rfl⟩⟩,⟨⟨rfl,by kernel_rfl⟩,trivial⟩⟩ [0,1] pZ0 (ix (ix trivial))
section
variable (tl:Bool) (nl:Bool) (sl_:Bool) (l:List aE) (k:Nat)
abbrev Zh3:AV:=slV tl nl (kE sl_) l
abbrev Zh4:AV:=Y7 0 (kSl false kU8) 0 (V3 [] (l.map Wd) k).length
abbrev Zh5:AV:=vI ((l.length:Nat):Int)
abbrev Zh6:AV:=vI ((k:Nat):Int)
abbrev Zh7:List HS:=[.live (Xf 25 (kSl false kU8) (V3 [] (l.map Wd) k))]
abbrev Zh9:List SV:=[dI (l.getD k zE).X2,.d (dsl sl_ false kU8 (l.getD k zE).X7)]
abbrev Zha:AV:=vI ((k+1:Nat):Int)
abbrev Zhb:AV:=vB (decide (((k:Nat):Int)<((l.length:Nat):Int)))
abbrev Zhc:List AV:=[aa,aa,aa,(Zh4 l k),(Zh6 k),pv 1 0,aa,aa,aa,(Zh3 tl nl sl_ l),(Zh5 l),(Zha k),(Zhb l k)]
abbrev Zhd:HS:=.live (Xf 25 (kSl false kU8) (((V3 [] (l.map Wd) k).set k (([]:List UInt8)++Wd (l.getD k zE))).take (V3 [] (l.map Wd) k).length))
abbrev Zhf:List AV:=[aa,aa,aa,Y7 0 (kSl false kU8) 0 (l.map Wd).length,aa,aa,aa,aa,aa,(Zh3 tl nl sl_ l),(Zh5 l),(Zh6 k),(Zhb l k)]
abbrev Zhg:HS:=.live (Xf 25 (kSl false kU8) (l.map Wd))
end
theorem Xki (tl:Bool) (nl:Bool) (sl_:Bool) (l:List aE) (hb:(Jf l).length≤1000000000):Holds Tryz.prog 175 ⟨[slV tl nl (kE sl_) l],[],dv (Ys (X1k l)),[]⟩:=by
 refine Holds.of Tryz.func175 rfl (N:=24) Tryz.ntmps175 rfl fun w0 B0 S0 U0=>?_
 show T _ (Y5 24 0 w0 S0 U0 B0) ⟨[(Zh3 tl nl sl_ l)],[]⟩ _ _
 have hsz:=X88 l
 have hml:(l.map Wd).length=l.length:=List.length_map ..
 have hlc:=X9c l
 have hll:=Fv l
 refine sR [] (sR [hR 2 rfl rfl (Xig 0 25 24 (kSl false kU8) (V3 [] (l.map Wd) 0) l.length l.length (p:=((l.length:Nat):Int)) (q:=((l.length:Nat):Int)) X55 Hw rfl rfl (by omega) (by omega) (by (unfold maxLen;omega)) (by intro j hj;replace hj:j<1:=hj;rcases j with _|j<;>first|exact .inl rfl|exact .inr ⟨rfl,rfl,rfl⟩|omega) (by (rw [fill_0,hml];rfl)) (X3 rfl) trivial)] ?_)
 refine T.seq (sR [] (T.block ?_))
 refine T.loop (ι:=Nat) (fun (k:Nat)=>⟨[aa,aa,aa,(Zh4 l k),aa,aa,aa,aa,aa,(Zh3 tl nl sl_ l),(Zh5 l),(Zh6 k)],(Zh7 l k)⟩) (fun (k:Nat)=>(k≤l.length)) (fun (k:Nat)=>l.length-k) (0) (Nat.zero_le _) (fun _ _ hG=>Yp [0] (bm 12 3592) rfl rfl hG) ?_
 rintro k hk
 show T _ _ ⟨[aa,aa,aa,(Zh4 l k),aa,aa,aa,aa,aa,(Zh3 tl nl sl_ l),(Zh5 l),(Zh6 k)],(Zh7 l k)⟩ _ _
 replace hk:k≤l.length:=hk
 have hfk:=X0a ([]:List UInt8) (l.map Wd) k
 refine sR [] (T.seq ?_)
 by_cases hq1:((k:Nat):Int)<((l.length:Nat):Int)
 ·have hrm:=X30 (z:=zE) Wd (l:=l) (k:=k) (by omega);have hrm2:(l.flatMap Wd).length=(Jf l).length:=rfl
  refine cT (dT hq1) (T.skip (nT (T.seq (T.block (sR [hR 1 rfl rfl (W9 tl nl (kE sl_) l k (k:=.i64) (i:=((k:Nat):Int)) Tryz.underlying37 Wy rfl rfl (by omega) (X3 rfl) trivial)] ?_)))))
  refine xR [hR 3 rfl rfl (rCn (X7d false false ([]:List UInt8) sl_ (l.getD k zE) (by (simp [maxLen,-List.getD_eq_getElem?_getD]<;>omega))) Tryz.func188 [2] [(.const (.slice none 0 0),dv (.slice none 0 0)),(.tmp 18,.tv (.agg (Zh9 sl_ l k)))] 0 1 ⟨.inr pq,⟨⟨.inl ⟨rfl,rfl⟩,⟨.inl ⟨rfl,rfl⟩,trivial⟩⟩,trivial⟩⟩ ⟨rfl,trivial⟩),hR 4 rfl rfl (Vk (k:=.i64) (l:=0) (sz:=(kSl false kU8).sz) (off:=0) (n:=(V3 [] (l.map Wd) k).length) (i:=((k:Nat):Int)) (m:=k) (o':=k*(kSl false kU8).sz+0) Tryz.underlying136 U9 rfl rfl (by omega) (by simp) (X3 rfl) trivial),hR 5 rfl rfl (Ug 1 19 2 5 kU8 (([]:List UInt8)++Wd (l.getD k zE)) (av:=Y7 2 kU8 0 (([]:List UInt8)++Wd (l.getD k zE)).length) (F5 0 25 (kSl false kU8) (V3 [] (l.map Wd) k) (([]:List UInt8)++Wd (l.getD k zE)) k 0 1 [dsl false false kU8 (([]:List UInt8)++Wd (l.getD k zE))] (tv:=.one (dU (([]:List UInt8)++Wd (l.getD k zE)))) (off:=k*(kSl false kU8).sz+0) X9z ⟨.inl rfl,trivial⟩ rfl rfl (by omega) (by decide) rfl (by intro j hj;replace hj:j<1:=hj;rcases j with _|j<;>first|rfl|omega) trivial) rfl (.inr pZ2) p2g rfl rfl)] pZ8 pZ8 ?_
  refine nB (nT (xK [hR 0 rfl rfl (Yg (u1:=.int .i64 ((k:Nat):Int)) (u2:=.int .i64 1) (v:=.int .i64 ((k+1:Nat):Int)) (W8 pb) (X3 rfl) ⟨rfl,trivial⟩)] ?_))
  refine eN ⟨(Zhc tl nl sl_ l k),[.live (Xf 25 (kSl false kU8) ((V3 [] (l.map Wd) k).set k (([]:List UInt8)++Wd (l.getD k zE)))),.live (.box 43 (Zh9 sl_ l k)),.dead]⟩ ?_
  refine X8 (s':=⟨(Zhc tl nl sl_ l k),[(Zhd l k),.live (.box 43 (Zh9 sl_ l k)),.dead]⟩) (fun _ _ hG=>Xfz 0 25 (kSl false kU8) ((V3 [] (l.map Wd) k).set k (([]:List UInt8)++Wd (l.getD k zE))) (((V3 [] (l.map Wd) k).set k (([]:List UInt8)++Wd (l.getD k zE))).take (V3 [] (l.map Wd) k).length) (V3 [] (l.map Wd) k).length rfl rfl hG) ?_
  refine nL (k+1) (show (k+1)≤l.length from (by omega)) (show (l.length-(k+1):Nat)<l.length-k from (by omega)) (fun _ _ hG=>Yp [0] (bm 12 3592) (t2:=[aa,aa,aa,(Zh4 l k),aa,aa,aa,aa,aa,(Zh3 tl nl sl_ l),(Zh5 l),(Zha k)]) (h2:=[(Zhd l k)]) (by have e1:((V3 [] (l.map Wd) (k+1)).length:Nat)=(V3 [] (l.map Wd) k).length:=(by (simp only [X0a,List.length_set]));have hE:=congrArg (fun (q1:Nat)=>([aa,aa,aa,Y7 0 (kSl false kU8) 0 q1,aa,aa,aa,aa,aa,(Zh3 tl nl sl_ l),(Zh5 l),(Zha k)]:List AV)) e1;exact hE) (by have e1:((V3 [] (l.map Wd) (k+1)):List (List UInt8))=(((V3 [] (l.map Wd) k).set k (([]:List UInt8)++Wd (l.getD k zE))).take (V3 [] (l.map Wd) k).length):=(by (rw [← Xf9 (by rw [hml];omega),Xcu (by omega),List.take_of_length_le (by rw [List.length_set];exact Nat.le_refl _)];rfl));have hE:=congrArg (fun (q1:List (List UInt8))=>([.live (Xf 25 (kSl false kU8) q1)]:List HS)) e1;exact hE) hG)
 refine cF (dF hq1) (T.exit (xT (xT (xH (nT ?_)))))
 refine tN ⟨[aa,aa,aa,(Zh4 l k),aa,aa,aa,aa,aa,(Zh3 tl nl sl_ l),(Zh5 l),(Zh6 k),(Zhb l k)],(Zh7 l k)⟩ ?_
 refine Wr (s':=⟨(Zhf tl nl sl_ l k),[(Zhg l)]⟩) (fun _ _ hG=>Yp [0] (bm 13 7688) (t2:=[aa,aa,aa,(Zh4 l k),aa,aa,aa,aa,aa,(Zh3 tl nl sl_ l),(Zh5 l),(Zh6 k),(Zhb l k)]) (h2:=(Zh7 l k)) (by have e1:((l.map Wd).length:Nat)=(V3 [] (l.map Wd) k).length:=p4u;have hE:=congrArg (fun (q1:Nat)=>([aa,aa,aa,Y7 0 (kSl false kU8) 0 q1,aa,aa,aa,aa,aa,(Zh3 tl nl sl_ l),(Zh5 l),(Zh6 k),(Zhb l k)]:List AV)) e1;exact hE) (by have e1:((l.map Wd):List (List UInt8))=(V3 [] (l.map Wd) k):=p4u;have hE:=congrArg (fun (q1:List (List UInt8))=>([.live (Xf 25 (kSl false kU8) q1)]:List HS)) e1;exact hE) hG) ?_
 refine sR [hR 1 rfl rfl (Wx (X2o (8:UInt8) true false false (l.map Wd) (by omega)) Tryz.func84 rfl (by decide) [] [0] (l:=[(.const (.int .u8 8),dv (.int .u8 8)),(.tmp 22,Y7 0 (kSl false kU8) 0 (l.map Wd).length)]) [(0,(Zhg l))] rfl 0 0 rfl rfl rfl rfl rfl rfl rfl rfl rfl ⟨.inl ⟨rfl,rfl⟩,⟨.inr (.inl ⟨rfl,pZs,rfl,rfl,by simp,25,(l.map Wd).length,W6 (kSl false kU8) (l.map Wd),List.Mem.head _,pk,fun i j=>by rw [Nat.zero_add]⟩),trivial⟩⟩ rfl pZ6 p2a (X3 rfl) ⟨rfl,trivial⟩)] (T.ret ?_)
 exact eRt 2 (.one (dS (ofB (8:UInt8) (l.map Wd)))) [] p1o trivial
section
variable (tl:Bool) (nl:Bool) (sl_:Bool) (l:List aE) (k:Nat)
abbrev Zhh:AV:=slV tl nl (kE sl_) l
abbrev Zhi:AV:=Y7 0 (kSl false kU8) 0 ((l.map Wd).take k).length
abbrev Zhj:AV:=vI ((k:Nat):Int)
abbrev Zhk:List HS:=[.live (Xf 25 (kSl false kU8) ((l.map Wd).take k))]
abbrev Zhl:AV:=vI ((k+1:Nat):Int)
abbrev Zhm:AV:=vB (decide (((k:Nat):Int)<((l.length:Nat):Int)))
abbrev Zhn:List AV:=[(Zhh tl nl sl_ l),aa,aa,Y7 0 (kSl false kU8) 0 (l.map Wd).length,(Zhj k),aa,aa,aa,(Zhm l k)]
abbrev Zho:HS:=.live (Xf 25 (kSl false kU8) (l.map Wd))
end
theorem X6w (tl:Bool) (nl:Bool) (sl_:Bool) (l:List aE) (hb:(Jf l).length≤1000000000):Holds Tryz.prog 28 ⟨[slV tl nl (kE sl_) l],[],dv (Ys (X1k l)),[]⟩:=by
 refine Holds.of Tryz.func28 rfl (N:=21) Tryz.ntmps28 rfl fun w0 B0 S0 U0=>?_
 show T _ (Y5 21 0 w0 S0 U0 B0) ⟨[(Zhh tl nl sl_ l)],[]⟩ _ _
 have hsz:=X88 l
 have hml:(l.map Wd).length=l.length:=List.length_map ..
 have hlc:=X9c l
 have hll:=Fv l
 refine sR [] (sR [] (T.seq (sR [] (T.block ?_))))
 refine tN ⟨[(Zhh tl nl sl_ l),aa,dv (Ys []),dv (.slice none 0 0),vI 0],[]⟩ ?_
 refine Wr (s':=⟨[(Zhh tl nl sl_ l),aa,dv (Ys []),Y7 0 (kSl false kU8) 0 0,vI 0],[.live (Xf 25 (kSl false kU8) ([]:List (List UInt8)))]⟩) (fun _ _ hG=>Vz 0 3 25 (kSl false kU8) rfl rfl hG) ?_
 refine T.loop (ι:=Nat) (fun (k:Nat)=>⟨[(Zhh tl nl sl_ l),aa,aa,(Zhi l k),(Zhj k)],(Zhk l k)⟩) (fun (k:Nat)=>(k≤l.length)) (fun (k:Nat)=>l.length-k) (0) (Nat.zero_le _) (fun _ _ hG=>Yp [0] (bm 5 25) (t2:=[(Zhh tl nl sl_ l),aa,aa,Y7 0 (kSl false kU8) 0 0,vI 0]) (h2:=[.live (Xf 25 (kSl false kU8) ([]:List (List UInt8)))]) (congrArg (fun (q1:Nat)=>([(Zhh tl nl sl_ l),aa,aa,Y7 0 (kSl false kU8) 0 q1,vI 0]:List AV)) (by rfl)) (congrArg (fun (q1:List (List UInt8))=>([.live (Xf 25 (kSl false kU8) q1)]:List HS)) (by rfl)) hG) ?_
 rintro k hk
 show T _ _ ⟨[(Zhh tl nl sl_ l),aa,aa,(Zhi l k),(Zhj k)],(Zhk l k)⟩ _ _
 replace hk:k≤l.length:=hk
 have htk:((l.map Wd).take k).length=k:=p1r
 refine T.seq (sR [] ?_)
 by_cases hq1:((k:Nat):Int)<((l.length:Nat):Int)
 ·have hrm:=X30 (z:=zE) Wd (l:=l) (k:=k) (by omega);have hrm2:(l.flatMap Wd).length=(Jf l).length:=rfl
  refine cT (dT hq1) (T.skip (nT (T.seq (T.block ?_))))
  refine xR [hR 3 rfl rfl (W9 tl nl (kE sl_) l k (k:=.i64) (i:=((k:Nat):Int)) Tryz.underlying37 Wy rfl rfl (by omega) (X3 rfl) trivial),hR 5 rfl rfl (rCn (Fq false false ([]:List UInt8) sl_ (l.getD k zE) (by (simp [maxLen,-List.getD_eq_getElem?_getD]<;>omega))) Tryz.func67 [1] [(.const (.slice none 0 0),dv (.slice none 0 0)),(.tmp 15,.tv (.agg [dI (l.getD k zE).X2,.d (dsl sl_ false kU8 (l.getD k zE).X7)]))] 0 1 ⟨.inr pq,⟨⟨.inl ⟨rfl,rfl⟩,⟨.inl ⟨rfl,rfl⟩,trivial⟩⟩,trivial⟩⟩ ⟨rfl,trivial⟩),hR 6 rfl rfl (Ug 0 16 1 5 kU8 (([]:List UInt8)++Wd (l.getD k zE)) (av:=Y7 1 kU8 0 (([]:List UInt8)++Wd (l.getD k zE)).length) (Ye 2 25 (kSl false kU8) (Et false kU8) [([]:List UInt8)++Wd (l.getD k zE)] [⟨0,.tmp 16,.one (dU (([]:List UInt8)++Wd (l.getD k zE))),0⟩] (cs:=[dU (([]:List UInt8)++Wd (l.getD k zE))]) Tryz.underlying136 U9 rfl Hw rfl rfl rfl pd (Yq rfl rfl pd W5) pZ8 (V6 pZ8) (X3 rfl) trivial) rfl (.inr pZ2) p2g rfl rfl),hR 7 rfl rfl (W0 0 3 25 24 (kSl false kU8) (Et false kU8) ((l.map Wd).take k) [([]:List UInt8)++Wd (l.getD k zE)] (((l.map Wd).take k)++[([]:List UInt8)++Wd (l.getD k zE)]) ((l.map Wd).take k).length (sy:=(.own 2 (kSl false kU8).sz 0 [([]:List UInt8)++Wd (l.getD k zE)].length)) (rhs:=[(2,.live (Xf 25 (kSl false kU8) [([]:List UInt8)++Wd (l.getD k zE)]))]) X55 (by omega) (V0 2 25 (kSl false kU8) [([]:List UInt8)++Wd (l.getD k zE)]) I7 (by (simp [maxLen,-List.getD_eq_getElem?_getD]<;>omega)) (by (simp [maxLen,-List.getD_eq_getElem?_getD]<;>omega)) (X3 rfl) trivial)] pZ8 pZ8 ?_
  refine nB (nT (xK [hR 1 rfl rfl (Yg (u1:=.int .i64 ((k:Nat):Int)) (u2:=.int .i64 1) (v:=.int .i64 ((k+1:Nat):Int)) (W8 pb) (X3 rfl) ⟨rfl,trivial⟩)] ?_))
  refine nL (k+1) (show (k+1)≤l.length from (by omega)) (show (l.length-(k+1):Nat)<l.length-k from (by omega)) (fun _ _ hG=>Wi [3] (bm 5 25) (t1:=[(Zhh tl nl sl_ l),aa,aa,Y7 3 (kSl false kU8) 0 ((l.map Wd).take (k+1)).length,(Zhl k)]) (t2:=[(Zhh tl nl sl_ l),aa,aa,Y7 3 (kSl false kU8) 0 (((l.map Wd).take k)++[([]:List UInt8)++Wd (l.getD k zE)]).length,(Zhl k)]) (h1:=[.live (Xf 25 (kSl false kU8) ((l.map Wd).take (k+1)))]) (h2:=[.live (Xf 25 (kSl false kU8) (((l.map Wd).take k)++[([]:List UInt8)++Wd (l.getD k zE)]))]) (by have e1:(((l.map Wd).take (k+1)).length:Nat)=(((l.map Wd).take k)++[([]:List UInt8)++Wd (l.getD k zE)]).length:=(by (rw [Ic (z:=[]) (by omega),Xcu (by omega)];rfl));have hE:=congrArg (fun (q1:Nat)=>([(Zhh tl nl sl_ l),aa,aa,Y7 3 (kSl false kU8) 0 q1,(Zhl k)]:List AV)) e1;exact hE) (by have e1:(((l.map Wd).take (k+1)):List (List UInt8))=((l.map Wd).take k)++[([]:List UInt8)++Wd (l.getD k zE)]:=(by (rw [Ic (z:=[]) (by omega),Xcu (by omega)];rfl));have hE:=congrArg (fun (q1:List (List UInt8))=>([.live (Xf 25 (kSl false kU8) q1)]:List HS)) e1;exact hE) hG)
 refine cF (dF hq1) (T.exit (xT (xT (xH (nT ?_)))))
 refine tN ⟨[(Zhh tl nl sl_ l),aa,aa,(Zhi l k),(Zhj k),aa,aa,aa,(Zhm l k)],(Zhk l k)⟩ ?_
 refine Wr (s':=⟨(Zhn tl nl sl_ l k),[(Zho l)]⟩) (fun _ _ hG=>Yp [0] (bm 9 281) (t2:=[(Zhh tl nl sl_ l),aa,aa,(Zhi l k),(Zhj k),aa,aa,aa,(Zhm l k)]) (h2:=(Zhk l k)) (by have e1:((l.map Wd).length:Nat)=((l.map Wd).take k).length:=p1i;have hE:=congrArg (fun (q1:Nat)=>([(Zhh tl nl sl_ l),aa,aa,Y7 0 (kSl false kU8) 0 q1,(Zhj k),aa,aa,aa,(Zhm l k)]:List AV)) e1;exact hE) (by have e1:((l.map Wd):List (List UInt8))=((l.map Wd).take k):=p1i;have hE:=congrArg (fun (q1:List (List UInt8))=>([.live (Xf 25 (kSl false kU8) q1)]:List HS)) e1;exact hE) hG) ?_
 refine sR [hR 1 rfl rfl (Wx (X00 (8:UInt8) true false false (l.map Wd) (by omega)) Tryz.func71 rfl (by decide) [] [0] (l:=[(.const (.int .u8 8),dv (.int .u8 8)),(.tmp 19,Y7 0 (kSl false kU8) 0 (l.map Wd).length)]) [(0,(Zho l))] rfl 0 0 rfl rfl rfl rfl rfl rfl rfl rfl rfl ⟨.inl ⟨rfl,rfl⟩,⟨.inr (.inl ⟨rfl,pZs,rfl,rfl,by simp,25,(l.map Wd).length,W6 (kSl false kU8) (l.map Wd),List.Mem.head _,pk,fun i j=>by rw [Nat.zero_add]⟩),trivial⟩⟩ rfl pZ6 p2a (X3 rfl) ⟨rfl,trivial⟩)] (T.ret ?_)
 exact eRt 2 (.one (dS (ofB (8:UInt8) (l.map Wd)))) [] p1o trivial
theorem iat_230:Tryz.prog.info? 230=some Tryz.t230:=by kernel_rfl
theorem H9:Wide Tryz.prog 230 (some 3):=⟨_,_,Tryz.underlying230,.inl ⟨_,rfl⟩,iat_230,rfl⟩
section
variable (f:Int) (u:Int) (rows:List (Yb×Bool)) (te:Bool) (e:aE)
abbrev Zhp:List SV:=[dI e.X2,.d (dsl te false kU8 e.X7)]
abbrev Zhq:HS:=.live (.box 130 [dI (3*f+1),dI u,.mref 1])
abbrev Zhr:List AV:=[pv 0 0,.tv (.agg (Zhp te e)),aa,pv 2 0,pv 3 0,vI 120,pv 4 0,vI 120,aa,aa,aa,aa,aa,aa,aa,aa,aa,aa,aa,aa,aa,aa,aa,aa,aa,aa,aa,aa,vB true,aa,vB true]
abbrev Zhs:HS:=.live (.box 78 [dI (opV (Xd f u rows) e 1).X1,dI (opV (Xd f u rows) e 1).Xb,dI (opV (Xd f u rows) e 1).Xg,dI (opV (Xd f u rows) e 1).Xe,dI (opV (Xd f u rows) e 1).Y3,dS (opV (Xd f u rows) e 1).X6,dU (opV (Xd f u rows) e 1).Xc,dI (opV (Xd f u rows) e 1).X0.Xu,dI (opV (Xd f u rows) e 1).X0.Xl,.d (dsl false false (kE false) (opV (Xd f u rows) e 1).Xa),.d (dsl false false (kE false) (opV (Xd f u rows) e 1).Xw),.d (dsl false false (kC false) (opV (Xd f u rows) e 1).X5)])
abbrev Zht:List HS:=[(Zhq f u),.live (mpK Xi Y8 rows),.live (.box 43 (Zhp te e)),.live (.box 230 [dI 0,dI 0,.d (.val (.slice none 0 0))]),(Zhs f u rows e)]
abbrev Zhu:SV:=dU ([]:List UInt8)
abbrev Zhv:List SV:=[dI 0,dI 0,Zhu]
abbrev Zhw:List HS:=[(Zhq f u),.live (mpK Xi Y8 rows),.live (.box 43 (Zhp te e)),.live (.box 230 Zhv),(Zhs f u rows e)]
abbrev Zhx:List AV:=[pv 0 0,.tv (.agg (Zhp te e)),aa,pv 2 0,pv 3 0,vI 120,pv 4 0,vI 120,aa,aa,aa,aa,aa,aa,aa,aa,aa,aa,aa,aa,aa,aa,aa,aa,aa,aa,aa,aa,vB (decide (Wm f e.X2)),aa,vB true]
abbrev Zhy:List AV:=[pv 0 0,.tv (.agg (Zhp te e)),aa,pv 2 0,pv 3 0,vI (opE (Xd f u rows) e 1),pv 4 0,vI (opE (Xd f u rows) e 1),aa,aa,aa,aa,aa,aa,aa,aa,aa,aa,aa,aa,aa,aa,aa,aa,aa,aa,aa,aa,vB false,aa,vB (decide ((opE (Xd f u rows) e 1)≠0))]
end
theorem Xd4 (f:Int) (u:Int) (rows:List (Yb×Bool)) (te:Bool) (e:aE) (hf:0≤f∧f≤2) (hu:0≤u∧u≤8) (hs:-9223372036854775808≤e.X2∧e.X2≤9223372036854775807) (hb:e.X7.length≤100000000):Holds Tryz.prog 189 ⟨[pv 0 0,.tv (.agg [dI e.X2,.d (dsl te false kU8 e.X7)])],[.box 130 [dI (3*f+1),dI u,.mref 1],mpK Xi Y8 rows],.tup [.agg [dI (rqV (Xd f u rows) f e).Xe,dI (rqV (Xd f u rows) f e).Y3,dU (rqV (Xd f u rows) f e).f_Op],.one (dI (rqE (Xd f u rows) f e))],[.live (.box 130 [dI (3*f+1),dI u,.mref 1]),.live (mpK Xi Y8 rows)]⟩:=by
 refine Holds.of Tryz.func189 rfl (N:=40) Tryz.ntmps189 rfl fun w0 B0 S0 U0=>?_
 show T _ (Y5 40 2 w0 S0 U0 B0) ⟨[pv 0 0,.tv (.agg (Zhp te e))],[(Zhq f u),.live (mpK Xi Y8 rows)]⟩ _ _
 refine sR [] (sR [hR 2 rfl rfl (rCa (X6d f u rows te e 1 ‹_› ‹_› ‹_› ‹_›) Tryz.func173 [0,1] [(.tmp 9,pv 0 0),(.tmp 10,.tv (.agg (Zhp te e))),(.const (.int .i64 1),vI 1)] 2 2)] (T.seq ?_))
 by_cases hq1:(opE (Xd f u rows) e 1)=0
 rotate_left
 ·have ho9:opE (Xd f u rows) e 1≠0:=hq1;have hx9:=rq_o (f:=f) ho9
  refine sR (Xr (hN · true (dF hq1)) [3,4,5,6,7,8] (hU 9::(hU 10::(hU 11::(hU 12::(hN 13 true (dF hq1)::(hP 14 (dF hq1)::[]))))))) (cF (b:=false) rfl (T.skip (nT (T.seq (sR [] ?_)))))
  by_cases hq5:(opE (Xd f u rows) e 1)≠0
  ·refine cT (dT hq5) (sR [] (T.ret (rT ?_)))
   refine eN ⟨(Zhy f u rows te e),(Zht f u rows te e)⟩ ?_
   refine X8 (s':=⟨(Zhy f u rows te e),(Zhw f u rows te e)⟩) (fun _ _ hG=>Ym (s:=⟨(Zhy f u rows te e),(Zht f u rows te e)⟩) ⟨.inl rfl,(kk2 (kk4 p2k))⟩ ⟨.inl rfl,p1m⟩ hG) ?_
   exact eX [.c 4 3 230 0 230 [dI 0,dI 0,Zhu] (.agg Zhv),.t 5 (.one (dI (opE (Xd f u rows) e 1)))] ⟨⟨rfl,rfl,by kernel_rfl,by kernel_rfl,.inl ⟨3,H9,rfl,Nat.le_of_ble_eq_true rfl⟩⟩,⟨⟨rfl,by kernel_rfl⟩,trivial⟩⟩ [0,1] py (ix (ix trivial))
  exact absurd ho9 hq5
 have ho9:¬opE (Xd f u rows) e 1≠0:=fun q=>q hq1;have hv9:=Xgw ho9
 by_cases hq2:(opV (Xd f u rows) e 1).Xe≠e.X2
 ·have hc9:=hq2;rw [hv9] at hc9;have hx9:=rq_c (f:=f) ho9 hc9
  refine sR (Xr (hY · (dT hq1)) [3,4,5,6,7,8] (Xr (hN · false (dT hq2)) [9,10,11,12] (hS 13 (oY rfl rfl rfl rfl (X3 rfl) (dT hq1) (Wg (b:=(decide ((opV (Xd f u rows) e 1).Xe≠e.X2))) (av:=vB true) (X3 rfl) ⟨rfl,trivial⟩ (dT hq2)))::(hP 14 (dT hq1)::[])))) (cT (b:=true) rfl (xK [] (nT (T.seq (sR [] (cT (b:=true) rfl (sR [] (T.ret (rT ?_)))))))))
  refine eN ⟨(Zhr te e),(Zht f u rows te e)⟩ ?_
  refine X8 (s':=⟨(Zhr te e),(Zhw f u rows te e)⟩) (fun _ _ hG=>Ym (s:=⟨(Zhr te e),(Zht f u rows te e)⟩) ⟨.inl rfl,(kk2 (kk4 p2k))⟩ ⟨.inl rfl,p1m⟩ hG) ?_
  exact eX [.c 4 3 230 0 230 [dI 0,dI 0,Zhu] (.agg Zhv),.t 5 (.one (dI 120))] ⟨⟨rfl,rfl,by kernel_rfl,by kernel_rfl,.inl ⟨3,H9,rfl,Nat.le_of_ble_eq_true rfl⟩⟩,⟨⟨rfl,by kernel_rfl⟩,trivial⟩⟩ [0,1] py (ix (ix trivial))
 have hc9:=hq2;rw [hv9] at hc9
 refine sR (Xr (hY · (dT hq1)) [3,4,5,6,7,8] (Xr (hY · (dF hq2)) [9,10,11] (hS 12 (oY rfl rfl rfl rfl (X3 rfl) (dF hq2) (rCa (Jv f u rows e.X2 ‹_› ‹_›) Tryz.func79 [0,1] [(.tmp 23,pv 0 0),(.tmp 25,vI e.X2)] 2 2))::(hS 13 (oY rfl rfl rfl rfl (X3 rfl) (dT hq1) (Wq (b:=(decide ((opV (Xd f u rows) e 1).Xe≠e.X2))) (av:=vB (decide (Wm f e.X2))) (X3 rfl) trivial (dF hq2)))::(hP 14 (dT hq1)::[]))))) ?_
 by_cases hq3:Wm f e.X2
 ·have hx9:=rq_r ho9 hq3
  refine cT (dT hq3) (xK [] (nT (T.seq (sR [] (cT (b:=true) rfl (sR [] (T.ret (rT ?_))))))))
  refine eN ⟨(Zhx f te e),(Zht f u rows te e)⟩ ?_
  refine X8 (s':=⟨(Zhx f te e),(Zhw f u rows te e)⟩) (fun _ _ hG=>Ym (s:=⟨(Zhx f te e),(Zht f u rows te e)⟩) ⟨.inl rfl,(kk2 (kk4 p2k))⟩ ⟨.inl rfl,p1m⟩ hG) ?_
  exact eX [.c 4 3 230 0 230 [dI 0,dI 0,Zhu] (.agg Zhv),.t 5 (.one (dI 120))] ⟨⟨rfl,rfl,by kernel_rfl,by kernel_rfl,.inl ⟨3,H9,rfl,Nat.le_of_ble_eq_true rfl⟩⟩,⟨⟨rfl,by kernel_rfl⟩,trivial⟩⟩ [0,1] py (ix (ix trivial))
 have hx9:=rq_ok ho9 hc9 hq3
 refine cF (dF hq3) (T.skip (nT (T.seq (sR [] ?_))))
 by_cases hq4:(opE (Xd f u rows) e 1)≠0
 ·exact absurd hq4 ho9
 refine cF (dF hq4) (T.skip (nT (sR [] (T.ret ?_))))
 exact eX [.c 4 3 230 0 230 [dI (opV (Xd f u rows) e 1).Xe,dI (opV (Xd f u rows) e 1).Y3,dU (opV (Xd f u rows) e 1).Xc] (.agg [dI (opV (Xd f u rows) e 1).Xe,dI (opV (Xd f u rows) e 1).Y3,dU (opV (Xd f u rows) e 1).Xc]),.t 5 (.one (dI 0))] ⟨⟨rfl,rfl,by kernel_rfl,by kernel_rfl,.inl ⟨3,H9,rfl,Nat.le_of_ble_eq_true rfl⟩⟩,⟨⟨rfl,by kernel_rfl⟩,trivial⟩⟩ [0,1] (by have e1:((rqV (Xd f u rows) f e).Xe:Int)=(opV (Xd f u rows) e 1).Xe:=H7;have e2:((rqV (Xd f u rows) f e).Y3:Int)=(opV (Xd f u rows) e 1).Y3:=H7;have e3:((rqV (Xd f u rows) f e).f_Op:List UInt8)=(opV (Xd f u rows) e 1).Xc:=H7;have e4:((rqE (Xd f u rows) f e):Int)=0:=p4z;have hE:=congr p3i e4;exact hE) (ix (ix trivial))
section
variable (f:Int) (u:Int) (l:List aE) (e:aE)
abbrev Zhz:List SV:=[dI e.X2,dU e.X7]
abbrev Zi0:HS:=.live (.box 135 [dB true,dI f,dI u,.own 1 (kE false).sz 0 l.length])
abbrev Zi1:List AV:=[pv 0 0,.tv (.agg (Zhz e)),aa,pv 2 0,pv 3 0,vI (opR (X9 f u l) e),pv 4 0,vI (opR (X9 f u l) e),aa,aa,aa,aa,aa,aa,aa,vB (decide ((opR (X9 f u l) e)≠0))]
abbrev Zi2:HS:=.live (.box 78 [dI (orV (X9 f u l) e).X1,dI (orV (X9 f u l) e).Xb,dI (orV (X9 f u l) e).Xg,dI (orV (X9 f u l) e).Xe,dI (orV (X9 f u l) e).Y3,dS (orV (X9 f u l) e).X6,dU (orV (X9 f u l) e).Xc,dI (orV (X9 f u l) e).X0.Xu,dI (orV (X9 f u l) e).X0.Xl,.d (dsl false false (kE false) (orV (X9 f u l) e).Xa),.d (dsl false false (kE false) (orV (X9 f u l) e).Xw),.d (dsl false false (kC false) (orV (X9 f u l) e).X5)])
abbrev Zi3:List HS:=[(Zi0 f u l),.live (Xf 43 (kE false) l),.live (.box 43 (Zhz e)),.live (.box 230 [dI 0,dI 0,.d (.val (.slice none 0 0))]),(Zi2 f u l e)]
abbrev Zi4:SV:=dU ([]:List UInt8)
abbrev Zi5:List SV:=[dI 0,dI 0,Zi4]
abbrev Zi6:List HS:=[(Zi0 f u l),.live (Xf 43 (kE false) l),.live (.box 43 (Zhz e)),.live (.box 230 Zi5),(Zi2 f u l e)]
abbrev Zi7:List AV:=[pv 0 0,.tv (.agg (Zhz e)),aa,pv 2 0,pv 3 0,vI 120,pv 4 0,vI (opR (X9 f u l) e),aa,aa,aa,aa,aa,aa,aa,vB (decide ((opR (X9 f u l) e)≠0)),aa,aa,aa,aa,aa,aa,aa,aa,aa,aa,aa,aa,aa,aa,aa,aa,aa,vB true]
abbrev Zi8:List AV:=[pv 0 0,.tv (.agg (Zhz e)),aa,pv 2 0,pv 3 0,vI 120,pv 4 0,vI (opR (X9 f u l) e),aa,aa,aa,aa,aa,aa,aa,vB (decide ((opR (X9 f u l) e)≠0)),aa,aa,aa,aa,aa,aa,aa,aa,aa,aa,aa,aa,aa,aa,aa,aa,aa,vB (decide (Wm f e.X2))]
end
theorem Xal (f:Int) (u:Int) (l:List aE) (e:aE) (hf:0≤f∧f≤2) (hu:0≤u∧u≤8) (hl:l.length≤9223372036854775806) (hs:-9223372036854775808≤e.X2∧e.X2≤9223372036854775807) (hb:e.X7.length≤100000000):Holds Tryz.prog 190 ⟨[pv 0 0,.tv (.agg [dI e.X2,dU e.X7])],[.box 135 [dB true,dI f,dI u,.own 1 (kE false).sz 0 l.length],Xf 43 (kE false) l],.tup [.agg [dI (rqV (X9 f u l) f e).Xe,dI (rqV (X9 f u l) f e).Y3,dU (rqV (X9 f u l) f e).f_Op],.one (dI (rqE (X9 f u l) f e))],[.live (.box 135 [dB true,dI f,dI u,.own 1 (kE false).sz 0 l.length]),.live (Xf 43 (kE false) l)]⟩:=by
 refine Holds.of Tryz.func190 rfl (N:=42) Tryz.ntmps190 rfl fun w0 B0 S0 U0=>?_
 show T _ (Y5 42 2 w0 S0 U0 B0) ⟨[pv 0 0,.tv (.agg (Zhz e))],[(Zi0 f u l),.live (Xf 43 (kE false) l)]⟩ _ _
 refine sR [] (sR [hR 2 rfl rfl (rCa (X3w f u l e ‹_› ‹_› ‹_› ‹_› ‹_›) Tryz.func150 [0,1] [(.tmp 9,pv 0 0),(.tmp 10,.tv (.agg (Zhz e)))] 2 2)] (T.seq (sR [] ?_)))
 by_cases hq1:(opR (X9 f u l) e)≠0
 ·have hr9:=(Xbe (X9 f u l) e 1).1 hq1;have hx9:=rq_o (f:=f) (show opE (X9 f u l) e 1≠0 by rw [hr9];exact hq1);rw [hr9] at hx9
  refine cT (dT hq1) (sR [] (T.ret (rT ?_)))
  refine eN ⟨(Zi1 f u l e),(Zi3 f u l e)⟩ ?_
  refine X8 (s':=⟨(Zi1 f u l e),(Zi6 f u l e)⟩) (fun _ _ hG=>Ym (s:=⟨(Zi1 f u l e),(Zi3 f u l e)⟩) (X05 trivial) ⟨.inl rfl,p1m⟩ hG) ?_
  exact eX [.c 4 3 230 0 230 [dI 0,dI 0,Zi4] (.agg Zi5),.t 5 (.one (dI (opR (X9 f u l) e)))] ⟨⟨rfl,rfl,by kernel_rfl,by kernel_rfl,.inl ⟨3,H9,rfl,Nat.le_of_ble_eq_true rfl⟩⟩,⟨⟨rfl,by kernel_rfl⟩,trivial⟩⟩ [0,1] py (ix (ix trivial))
 have hr9:=Xbe (X9 f u l) e 1;have hv9:=Xgv hq1
 refine cF (dF hq1) (T.skip (nT (T.seq ?_)))
 by_cases hq2:(orV (X9 f u l) e).X1≠1
 ·have hm9:=hq2;rw [hv9] at hm9;have hk9:=hr9.2.1 ‹_› hm9;have hx9:=rq_o (f:=f) (show opE (X9 f u l) e 1≠0 by rw [hk9];decide);rw [hk9] at hx9
  refine sR (Xr (hN · false (dT hq2)) [4,5,6,7,8] (hP 9 (dT hq2)::(Xr hN0 [11,12,13,14] (hP1 15::[])))) (cT (b:=true) rfl (sR [] (T.ret (rT ?_))))
  refine eN ⟨(Zi7 f u l e),(Zi3 f u l e)⟩ ?_
  refine X8 (s':=⟨(Zi7 f u l e),(Zi6 f u l e)⟩) (fun _ _ hG=>Ym (s:=⟨(Zi7 f u l e),(Zi3 f u l e)⟩) p4b ⟨.inl rfl,p1m⟩ hG) ?_
  exact eX [.c 4 3 230 0 230 [dI 0,dI 0,Zi4] (.agg Zi5),.t 5 (.one (dI 120))] ⟨⟨rfl,rfl,by kernel_rfl,by kernel_rfl,.inl ⟨3,H9,rfl,Nat.le_of_ble_eq_true rfl⟩⟩,⟨⟨rfl,by kernel_rfl⟩,trivial⟩⟩ [0,1] py (ix (ix trivial))
 have hm9:=hq2;rw [hv9] at hm9;have ho9:¬opE (X9 f u l) e 1≠0:=fun q=>q (hr9.2.2 ‹_› hm9).1
 by_cases hq3:(orV (X9 f u l) e).Xe≠e.X2
 ·have hc9:=hq3;rw [hv9] at hc9;have hx9:=rq_c (f:=f) ho9 hc9
  refine sR (Xr (hY · (dF hq2)) [4,5,6,7,8] (hP 9 (dF hq2)::(Xr (hN · false (dT hq3)) [11,12,13,14] (hP 15 (dT hq3)::[])))) (cT (b:=true) rfl (sR [] (T.ret (rT ?_))))
  refine eN ⟨(Zi7 f u l e),(Zi3 f u l e)⟩ ?_
  refine X8 (s':=⟨(Zi7 f u l e),(Zi6 f u l e)⟩) (fun _ _ hG=>Ym (s:=⟨(Zi7 f u l e),(Zi3 f u l e)⟩) p4b ⟨.inl rfl,p1m⟩ hG) ?_
  exact eX [.c 4 3 230 0 230 [dI 0,dI 0,Zi4] (.agg Zi5),.t 5 (.one (dI 120))] ⟨⟨rfl,rfl,by kernel_rfl,by kernel_rfl,.inl ⟨3,H9,rfl,Nat.le_of_ble_eq_true rfl⟩⟩,⟨⟨rfl,by kernel_rfl⟩,trivial⟩⟩ [0,1] py (ix (ix trivial))
 have hc9:=hq3;rw [hv9] at hc9
 refine sR (Xr (hY · (dF hq2)) [4,5,6,7,8] (hP 9 (dF hq2)::(Xr (hY · (dF hq3)) [11,12,13] (hS 14 (oY rfl rfl rfl rfl (X3 rfl) (dF hq3) (rCa (Jt f u l e.X2 ‹_› ‹_›) Tryz.func124 [0,1] [(.tmp 29,pv 0 0),(.tmp 31,vI e.X2)] 2 2))::(hP 15 (dF hq3)::[]))))) ?_
 by_cases hq4:Wm f e.X2
 ·have hx9:=rq_r ho9 hq4
  refine cT (dT hq4) (sR [] (T.ret (rT ?_)))
  refine eN ⟨(Zi8 f u l e),(Zi3 f u l e)⟩ ?_
  refine X8 (s':=⟨(Zi8 f u l e),(Zi6 f u l e)⟩) (fun _ _ hG=>Ym (s:=⟨(Zi8 f u l e),(Zi3 f u l e)⟩) p4b ⟨.inl rfl,p1m⟩ hG) ?_
  exact eX [.c 4 3 230 0 230 [dI 0,dI 0,Zi4] (.agg Zi5),.t 5 (.one (dI 120))] ⟨⟨rfl,rfl,by kernel_rfl,by kernel_rfl,.inl ⟨3,H9,rfl,Nat.le_of_ble_eq_true rfl⟩⟩,⟨⟨rfl,by kernel_rfl⟩,trivial⟩⟩ [0,1] py (ix (ix trivial))
 have hx9:=rq_ok ho9 hc9 hq4
 refine cF (dF hq4) (T.skip (nT (sR [] (T.ret ?_))))
 exact eX [.c 4 3 230 0 230 [dI (orV (X9 f u l) e).Xe,dI (orV (X9 f u l) e).Y3,dU (orV (X9 f u l) e).Xc] (.agg [dI (orV (X9 f u l) e).Xe,dI (orV (X9 f u l) e).Y3,dU (orV (X9 f u l) e).Xc]),.t 5 (.one (dI 0))] ⟨⟨rfl,rfl,by kernel_rfl,by kernel_rfl,.inl ⟨3,H9,rfl,Nat.le_of_ble_eq_true rfl⟩⟩,⟨⟨rfl,by kernel_rfl⟩,trivial⟩⟩ [0,1] (by have e1:((rqV (X9 f u l) f e).Xe:Int)=(orV (X9 f u l) e).Xe:=H7;have e2:((rqV (X9 f u l) f e).Y3:Int)=(orV (X9 f u l) e).Y3:=H7;have e3:((rqV (X9 f u l) f e).f_Op:List UInt8)=(orV (X9 f u l) e).Xc:=H7;have e4:((rqE (X9 f u l) f e):Int)=0:=p4z;have hE:=congr p3i e4;exact hE) (ix (ix trivial))
section
variable (f:Int) (u:Int) (rows:List (Yb×Bool)) (tx:Bool) (nx:Bool) (sx:Bool) (x:List aE) (k:Nat)
abbrev Zi9:List HS:=[.live (.box 130 [dI (3*f+1),dI u,.mref 1]),.live (mpK Xi Y8 rows)]
abbrev Zia:AV:=vB (decide (((x.length:Nat):Int)>4))
abbrev Zib:List AV:=[pv 0 0,slV tx nx (kE sx) x,aa,aa,vI 0,aa,aa,aa,aa,aa,aa,(Zia x),slV tx nx (kE sx) x,vI ((x.length:Nat):Int),vI ((k:Nat):Int)]
end
theorem Xhk (f:Int) (u:Int) (rows:List (Yb×Bool)) (tx:Bool) (nx:Bool) (sx:Bool) (x:List aE) (hf:0≤f∧f≤2) (hu:0≤u∧u≤8) (hx:F9 x):Holds Tryz.prog 176 ⟨[pv 0 0,slV tx nx (kE sx) x],[.box 130 [dI (3*f+1),dI u,.mref 1],mpK Xi Y8 rows],vI (btE (Xd f u rows) f x),[.live (.box 130 [dI (3*f+1),dI u,.mref 1]),.live (mpK Xi Y8 rows)]⟩:=by
 refine Holds.of Tryz.func176 rfl (N:=28) Tryz.ntmps176 rfl fun w0 B0 S0 U0=>?_
 show T _ (Y5 28 2 w0 S0 U0 B0) ⟨[pv 0 0,slV tx nx (kE sx) x],(Zi9 f u rows)⟩ _ _
 have hx1:=hx.1
 refine sR [] (T.seq (sR [] ?_))
 by_cases hq1:((x.length:Nat):Int)>4
 ·have hz9:=Xjd (C:=(Xd f u rows)) (f:=f) hq1
  refine cT (dT hq1) (sR [] (T.ret (rT ?_)))
  exact eRt 4 (.one (dI 11)) [0,1] p1f (ix (ix trivial))
 have hl4:=hq1
 refine cF (dF hq1) (T.skip (nT (T.seq (sR [] (T.block ?_)))))
 refine T.loop (ι:=Nat) (fun (k:Nat)=>⟨(Zib tx nx sx x k),(Zi9 f u rows)⟩) (fun (k:Nat)=>(k≤x.length)∧(∀ i,i<k→rqN (Xd f u rows) f x i=0)) (fun (k:Nat)=>x.length-k) (0) ⟨(Nat.zero_le _),(fun j hj=>absurd hj (Nat.not_lt_zero _))⟩ (fun _ _ hG=>Yp [0,1] (bm 15 30739) rfl rfl hG) ?_
 rintro k ⟨hk,hb⟩
 show T _ _ ⟨(Zib tx nx sx x k),(Zi9 f u rows)⟩ _ _
 replace hk:k≤x.length:=hk
 replace hb:∀ i,i<k→rqN (Xd f u rows) f x i=0:=hb
 refine sR [] (T.seq ?_)
 by_cases hq2:((k:Nat):Int)<((x.length:Nat):Int)
 ·have hgk:=Fr hx (k:=k) (by omega);have hgk1:=hgk.1.1;have hgk2:=hgk.1.2;have hgk3:=hgk.2
  refine cT (dT hq2) (T.skip (nT (T.seq (T.block (sR [hR 0 rfl rfl (W9 tx nx (kE sx) x k (k:=.i64) (i:=((k:Nat):Int)) Tryz.underlying37 Wy rfl rfl (by omega) (X3 rfl) trivial)] (sR [hR 2 rfl rfl (rCa (Xd4 f u rows sx (x.getD k zE) ‹_› ‹_› (by omega) (by omega)) Tryz.func189 [0,1] [(.tmp 19,pv 0 0),(.tmp 20,.tv (.agg [dI (x.getD k zE).X2,.d (dsl sx false kU8 (x.getD k zE).X7)]))] 2 2)] (sR [] ?_)))))))
  by_cases hq3:(rqE (Xd f u rows) f (x.getD k zE))≠0
  ·have hz9:=bt_at (C:=(Xd f u rows)) (f:=f) hl4 hb hq3 (by omega)
   refine cT (dT hq3) (sR [] (T.ret (rB (rT (rT (rB (rT ?_)))))))
   exact eRt 4 (.one (dI (rqE (Xd f u rows) f (x.getD k zE)))) [0,1] p1f (ix (ix trivial))
  refine cF (dF hq3) (T.skip (nB (nT (xK [hR 0 rfl rfl (Yg (u1:=.int .i64 ((k:Nat):Int)) (u2:=.int .i64 1) (v:=.int .i64 ((k+1:Nat):Int)) (W8 pb) (X3 rfl) ⟨rfl,trivial⟩)] ?_))))
  refine nL (k+1) ⟨(show (k+1)≤x.length from (by omega)),(show ∀ i,i<(k+1)→rqN (Xd f u rows) f x i=0 from (Ud hb p1h))⟩ (show (x.length-(k+1):Nat)<x.length-k from (by omega)) (fun _ _ hG=>Yp [0,1] (bm 15 30739) rfl rfl hG)
 have hz9:=bt_0 (C:=(Xd f u rows)) (f:=f) hl4 hb (by omega)
 refine cF (dF hq2) (T.exit (xT (xT (xH (nT (sR [] (T.ret ?_)))))))
 exact eRt 4 (.one (dI 0)) [0,1] p1f (ix (ix trivial))
section
variable (x:List aE) (f:Int) (u:Int) (l:List aE) (k:Nat)
abbrev Zie:AV:=slV false false (kE false) x
abbrev Zif:List HS:=[.live (.box 135 [dB true,dI f,dI u,.own 1 (kE false).sz 0 l.length]),.live (Xf 43 (kE false) l)]
abbrev Zig:AV:=vB (decide (((x.length:Nat):Int)>4))
abbrev Zih:List AV:=[pv 0 0,(Zie x),aa,aa,vI 0,vI ((k:Nat):Int),aa,aa,aa,aa,(Zig x)]
end
theorem Xe2 (f:Int) (u:Int) (l:List aE) (x:List aE) (hf:0≤f∧f≤2) (hu:0≤u∧u≤8) (hl:l.length≤9223372036854775806) (hx:F9 x):Holds Tryz.prog 177 ⟨[pv 0 0,slV false false (kE false) x],[.box 135 [dB true,dI f,dI u,.own 1 (kE false).sz 0 l.length],Xf 43 (kE false) l],vI (btE (X9 f u l) f x),[.live (.box 135 [dB true,dI f,dI u,.own 1 (kE false).sz 0 l.length]),.live (Xf 43 (kE false) l)]⟩:=by
 refine Holds.of Tryz.func177 rfl (N:=29) Tryz.ntmps177 rfl fun w0 B0 S0 U0=>?_
 show T _ (Y5 29 2 w0 S0 U0 B0) ⟨[pv 0 0,(Zie x)],(Zif f u l)⟩ _ _
 have hx1:=hx.1
 refine sR [] (T.seq (sR [] ?_))
 by_cases hq1:((x.length:Nat):Int)>4
 ·have hz9:=Xjd (C:=(X9 f u l)) (f:=f) hq1
  refine cT (dT hq1) (sR [] (T.ret (rT ?_)))
  exact eRt 4 (.one (dI 11)) [0,1] p1f (ix (ix trivial))
 have hl4:=hq1
 refine cF (dF hq1) (T.skip (nT (T.seq (sR [] (T.block ?_)))))
 refine T.loop (ι:=Nat) (fun (k:Nat)=>⟨(Zih x k),(Zif f u l)⟩) (fun (k:Nat)=>(k≤x.length)∧(∀ i,i<k→rqN (X9 f u l) f x i=0)) (fun (k:Nat)=>x.length-k) (0) ⟨(Nat.zero_le _),(fun j hj=>absurd hj (Nat.not_lt_zero _))⟩ (fun _ _ hG=>Yp [0,1] (bm 11 1075) rfl rfl hG) ?_
 rintro k ⟨hk,hb⟩
 show T _ _ ⟨(Zih x k),(Zif f u l)⟩ _ _
 replace hk:k≤x.length:=hk
 replace hb:∀ i,i<k→rqN (X9 f u l) f x i=0:=hb
 refine T.seq (sR [] ?_)
 by_cases hq2:((k:Nat):Int)<((x.length:Nat):Int)
 ·have hgk:=Fr hx (k:=k) (by omega);have hgk1:=hgk.1.1;have hgk2:=hgk.1.2;have hgk3:=hgk.2
  refine cT (dT hq2) (T.skip (nT (T.seq (T.block (sR [hR 3 rfl rfl (W9 false false (kE false) x k (k:=.i64) (i:=((k:Nat):Int)) Tryz.underlying37 Wy rfl rfl (by omega) (X3 rfl) trivial),hR 5 rfl rfl (rCa (Xal f u l (x.getD k zE) ‹_› ‹_› ‹_› (by omega) (by omega)) Tryz.func190 [0,1] [(.tmp 18,pv 0 0),(.tmp 22,.tv (.agg [dI (x.getD k zE).X2,dU (x.getD k zE).X7]))] 2 2)] (sR [] ?_))))))
  by_cases hq3:(rqE (X9 f u l) f (x.getD k zE))≠0
  ·have hz9:=bt_at (C:=(X9 f u l)) (f:=f) hl4 hb hq3 (by omega)
   refine cT (dT hq3) (sR [] (T.ret (rB (rT (rT (rB (rT ?_)))))))
   exact eRt 4 (.one (dI (rqE (X9 f u l) f (x.getD k zE)))) [0,1] p1f (ix (ix trivial))
  refine cF (dF hq3) (T.skip (nB (nT (xK [hR 1 rfl rfl (Yg (u1:=.int .i64 ((k:Nat):Int)) (u2:=.int .i64 1) (v:=.int .i64 ((k+1:Nat):Int)) (W8 pb) (X3 rfl) ⟨rfl,trivial⟩)] ?_))))
  refine nL (k+1) ⟨(show (k+1)≤x.length from (by omega)),(show ∀ i,i<(k+1)→rqN (X9 f u l) f x i=0 from (Ud hb p1h))⟩ (show (x.length-(k+1):Nat)<x.length-k from (by omega)) (fun _ _ hG=>Yp [0,1] (bm 11 1075) rfl rfl hG)
 have hz9:=bt_0 (C:=(X9 f u l)) (f:=f) hl4 hb (by omega)
 refine cF (dF hq2) (T.exit (xT (xT (xH (nT (sR [] (T.ret ?_)))))))
 exact eRt 4 (.one (dI 0)) [0,1] p1f (ix (ix trivial))
section
variable (f:Int) (u:Int) (rows:List (Yb×Bool)) (te:Bool) (e:aE)
abbrev Zik:List SV:=[dI e.X2,.d (dsl te false kU8 e.X7)]
abbrev Zil:HS:=.live (.box 130 [dI (3*f+1),dI u,.mref 1])
abbrev Zim:List AV:=[pv 0 0,.tv (.agg (Zik te e)),aa,pv 2 0,pv 3 0,vI (opE (Xd f u rows) e 2),pv 4 0,vI (opE (Xd f u rows) e 2),aa,aa,aa,aa,aa,aa,aa,aa,aa,aa,vB (decide ((opE (Xd f u rows) e 2)≠0)),aa,aa,aa,aa,aa,aa,aa,aa,aa,aa,aa,aa,aa,aa,aa,aa,aa,aa,vB (decide ((opE (Xd f u rows) e 2)≠0))]
abbrev Zin:SV:=.d (.val (.slice none 0 0))
abbrev Zio:=(opV (Xd f u rows) e 2)
abbrev Zip:List SV:=[dI (Zio f u rows e).X1,dI (Zio f u rows e).Xb,dI (Zio f u rows e).Xg,dI (Zio f u rows e).Xe,dI (Zio f u rows e).Y3,dS (Zio f u rows e).X6,dU (Zio f u rows e).Xc,dI (Zio f u rows e).X0.Xu,dI (Zio f u rows e).X0.Xl,.d (dsl false false (kE false) (Zio f u rows e).Xa),.d (dsl false false (kE false) (Zio f u rows e).Xw),.d (dsl false false (kC false) (Zio f u rows e).X5)]
abbrev Ziq:List HS:=[(Zil f u),.live (mpK Xi Y8 rows),.live (.box 43 (Zik te e)),.live (.box 78 [dI 0,dI 0,dI 0,dI 0,dI 0,dS [],Zin,dI 0,dI 0,Zin,Zin,Zin]),.live (.box 78 (Zip f u rows e))]
abbrev Zir:SV:=dU ([]:List UInt8)
abbrev Zis:SV:=.d (dsl false false (kE false) ([]:List aE))
abbrev Zit:SV:=.d (dsl false false (kC false) ([]:List aC))
abbrev Ziu:List SV:=[dI 0,dI 0,dI 0,dI 0,dI 0,dS [],Zir,dI 0,dI 0,Zis,Zis,Zit]
abbrev Ziv:List HS:=[(Zil f u),.live (mpK Xi Y8 rows),.live (.box 43 (Zik te e)),.live (.box 78 Ziu),.live (.box 78 (Zip f u rows e))]
abbrev Ziw:List AV:=[pv 0 0,.tv (.agg (Zik te e)),aa,pv 2 0,pv 3 0,vI 133,pv 4 0,vI 133,aa,aa,aa,aa,aa,aa,aa,aa,aa,aa,vB (decide ((opE (Xd f u rows) e 2)≠0)),aa,aa,vB (decide (e.X2≠(W1 f (Zio f u rows e).Xb))),aa,aa,aa,aa,aa,aa,aa,aa,aa,aa,aa,aa,aa,aa,aa,vB true]
abbrev Zix:List AV:=[pv 0 0,.tv (.agg (Zik te e)),aa,pv 2 0,pv 3 0,vI 132,pv 4 0,vI 132,aa,aa,aa,aa,aa,aa,aa,aa,aa,aa,vB (decide ((opE (Xd f u rows) e 2)≠0)),aa,aa,vB (decide (e.X2≠(W1 f (Zio f u rows e).Xb))),aa,aa,aa,aa,aa,aa,aa,vB (decide ((Zio f u rows e).X6≠(X1k (Zio f u rows e).Xa))),aa,aa,aa,aa,aa,aa,aa,vB true]
abbrev Ziy:List AV:=[pv 0 0,.tv (.agg (Zik te e)),aa,pv 2 0,pv 3 0,vI (btE (Xd f u rows) f (Zio f u rows e).Xa),pv 4 0,vI (btE (Xd f u rows) f (Zio f u rows e).Xa),aa,aa,aa,aa,aa,aa,aa,aa,aa,aa,vB (decide ((opE (Xd f u rows) e 2)≠0)),aa,aa,vB (decide (e.X2≠(W1 f (Zio f u rows e).Xb))),aa,aa,aa,aa,aa,aa,aa,vB (decide ((Zio f u rows e).X6≠(X1k (Zio f u rows e).Xa))),aa,aa,aa,aa,aa,aa,aa,vB (decide ((btE (Xd f u rows) f (Zio f u rows e).Xa)≠0))]
end
theorem X7i (f:Int) (u:Int) (rows:List (Yb×Bool)) (te:Bool) (e:aE) (hf:0≤f∧f≤2) (hu:0≤u∧u≤8) (hs:-9223372036854775808≤e.X2∧e.X2≤9223372036854775807) (hb:e.X7.length≤100000000):Holds Tryz.prog 153 ⟨[pv 0 0,.tv (.agg [dI e.X2,.d (dsl te false kU8 e.X7)])],[.box 130 [dI (3*f+1),dI u,.mref 1],mpK Xi Y8 rows],.tup [.agg [dI (ppV (Xd f u rows) f e).X1,dI (ppV (Xd f u rows) f e).Xb,dI (ppV (Xd f u rows) f e).Xg,dI (ppV (Xd f u rows) f e).Xe,dI (ppV (Xd f u rows) f e).Y3,dS (ppV (Xd f u rows) f e).X6,dU (ppV (Xd f u rows) f e).Xc,dI (ppV (Xd f u rows) f e).X0.Xu,dI (ppV (Xd f u rows) f e).X0.Xl,.d (dsl false false (kE false) (ppV (Xd f u rows) f e).Xa),.d (dsl false false (kE false) (ppV (Xd f u rows) f e).Xw),.d (dsl false false (kC false) (ppV (Xd f u rows) f e).X5)],.one (dI (ppE (Xd f u rows) f e))],[.live (.box 130 [dI (3*f+1),dI u,.mref 1]),.live (mpK Xi Y8 rows)]⟩:=by
 refine Holds.of Tryz.func153 rfl (N:=41) Tryz.ntmps153 rfl fun w0 B0 S0 U0=>?_
 show T _ (Y5 41 2 w0 S0 U0 B0) ⟨[pv 0 0,.tv (.agg (Zik te e))],[(Zil f u),.live (mpK Xi Y8 rows)]⟩ _ _
 refine sR [] (sR [hR 2 rfl rfl (rCa (X6d f u rows te e 2 ‹_› ‹_› ‹_› ‹_›) Tryz.func173 [0,1] [(.tmp 9,pv 0 0),(.tmp 10,.tv (.agg (Zik te e))),(.const (.int .i64 2),vI 2)] 2 2)] (T.seq (T.block (sR [] ?_))))
 by_cases hq1:(opE (Xd f u rows) e 2)≠0
 ·have ho9:=hq1;have hx9:=pp_o (f:=f) ho9
  refine cT (dT hq1) (T.skip (nB (nT (T.seq (sR [] (cT (dT hq1) (sR [] (T.ret (rT ?_)))))))))
  refine eN ⟨(Zim f u rows te e),(Ziq f u rows te e)⟩ ?_
  refine X8 (s':=⟨(Zim f u rows te e),(Ziv f u rows te e)⟩) (fun _ _ hG=>Ym (s:=⟨(Zim f u rows te e),(Ziq f u rows te e)⟩) (kk2 p4a) ⟨.inl rfl,pZv⟩ hG) ?_
  exact eX [.c 4 3 78 0 78 [dI 0,dI 0,dI 0,dI 0,dI 0,dS [],Zir,dI 0,dI 0,Zis,Zis,Zit] (.agg Ziu),.t 5 (.one (dI (opE (Xd f u rows) e 2)))] ⟨⟨rfl,rfl,by kernel_rfl,by kernel_rfl,.inl ⟨12,Yy,rfl,Nat.le_of_ble_eq_true rfl⟩⟩,⟨⟨rfl,by kernel_rfl⟩,trivial⟩⟩ [0,1] pZ0 (ix (ix trivial))
 have ho9:¬opE (Xd f u rows) e 2≠0:=hq1;have hv9:=Xgw ho9;have hbo:=X2d e.X7;rw [← hv9] at hbo;have hbl:=X7v hbo
 refine cF (dF hq1) ?_
 refine sD [[],[0],[],[],[3],[2,3,4],[0,1,2,3,4,5],[0,1,2,3,4,5,6]] [hR 5 rfl rfl (rCa (Xav f u rows (opV (Xd f u rows) e 2).Xb ‹_› ‹_›) Tryz.func174 [0,1] [(.tmp 24,pv 0 0),(.tmp 26,vI (Zio f u rows e).Xb)] 2 2)] ?_
 by_cases hq2:e.X2≠(W1 f (opV (Xd f u rows) e 2).Xb)
 ·have hp9:=hq2;rw [hv9] at hp9;have hx9:=pp_p ho9 hp9
  refine cT (dT hq2) (xK [] (nB (nT (T.seq (sR [] (cT (b:=true) rfl (sR [] (T.ret (rT ?_)))))))))
  refine eN ⟨(Ziw f u rows te e),(Ziq f u rows te e)⟩ ?_
  refine X8 (s':=⟨(Ziw f u rows te e),(Ziv f u rows te e)⟩) (fun _ _ hG=>Ym (s:=⟨(Ziw f u rows te e),(Ziq f u rows te e)⟩) (kk2 p4a) ⟨.inl rfl,pZv⟩ hG) ?_
  exact eX [.c 4 3 78 0 78 [dI 0,dI 0,dI 0,dI 0,dI 0,dS [],Zir,dI 0,dI 0,Zis,Zis,Zit] (.agg Ziu),.t 5 (.one (dI 133))] ⟨⟨rfl,rfl,by kernel_rfl,by kernel_rfl,.inl ⟨12,Yy,rfl,Nat.le_of_ble_eq_true rfl⟩⟩,⟨⟨rfl,by kernel_rfl⟩,trivial⟩⟩ [0,1] pZ0 (ix (ix trivial))
 have hp9:=hq2;rw [hv9] at hp9
 refine cF (dF hq2) ?_
 refine sD [[],[0],[],[2],[2,3],[0,1,2,3,4],[0,1,2,3,4,5]] [hR 4 rfl rfl (rCa (Xki false false false (opV (Xd f u rows) e 2).Xa (by omega)) Tryz.func175 [] [(.tmp 33,slV false false (kE false) (Zio f u rows e).Xa)] 0 0)] ?_
 by_cases hq3:(opV (Xd f u rows) e 2).X6≠(X1k (opV (Xd f u rows) e 2).Xa)
 ·have hd9:=hq3;rw [hv9] at hd9;have hx9:=pp_d ho9 hp9 hd9
  refine cT (dT hq3) (xK [] (nB (nT (T.seq (sR [] (cT (b:=true) rfl (sR [] (T.ret (rT ?_)))))))))
  refine eN ⟨(Zix f u rows te e),(Ziq f u rows te e)⟩ ?_
  refine X8 (s':=⟨(Zix f u rows te e),(Ziv f u rows te e)⟩) (fun _ _ hG=>Ym (s:=⟨(Zix f u rows te e),(Ziq f u rows te e)⟩) (kk2 p4a) ⟨.inl rfl,pZv⟩ hG) ?_
  exact eX [.c 4 3 78 0 78 [dI 0,dI 0,dI 0,dI 0,dI 0,dS [],Zir,dI 0,dI 0,Zis,Zis,Zit] (.agg Ziu),.t 5 (.one (dI 132))] ⟨⟨rfl,rfl,by kernel_rfl,by kernel_rfl,.inl ⟨12,Yy,rfl,Nat.le_of_ble_eq_true rfl⟩⟩,⟨⟨rfl,by kernel_rfl⟩,trivial⟩⟩ [0,1] pZ0 (ix (ix trivial))
 have hd9:=hq3;rw [hv9] at hd9
 refine cF (dF hq3) (xK [hR 3 rfl rfl (rCa (Xhk f u rows false false false (opV (Xd f u rows) e 2).Xa ‹_› ‹_› ‹_›) Tryz.func176 [0,1] [(.tmp 14,pv 0 0),(.tmp 16,slV false false (kE false) (Zio f u rows e).Xa)] 2 2)] (nB (nT (T.seq (sR [] ?_)))))
 by_cases hq4:(btE (Xd f u rows) f (opV (Xd f u rows) e 2).Xa)≠0
 ·have hb9:=hq4;rw [hv9] at hb9;have hx9:=pp_b ho9 hp9 hd9 hb9
  refine cT (dT hq4) (sR [] (T.ret (rT ?_)))
  refine eN ⟨(Ziy f u rows te e),(Ziq f u rows te e)⟩ ?_
  refine X8 (s':=⟨(Ziy f u rows te e),(Ziv f u rows te e)⟩) (fun _ _ hG=>Ym (s:=⟨(Ziy f u rows te e),(Ziq f u rows te e)⟩) (kk2 p4a) ⟨.inl rfl,pZv⟩ hG) ?_
  exact eX [.c 4 3 78 0 78 [dI 0,dI 0,dI 0,dI 0,dI 0,dS [],Zir,dI 0,dI 0,Zis,Zis,Zit] (.agg Ziu),.t 5 (.one (dI (btE (Xd f u rows) f (Zio f u rows e).Xa)))] ⟨⟨rfl,rfl,by kernel_rfl,by kernel_rfl,.inl ⟨12,Yy,rfl,Nat.le_of_ble_eq_true rfl⟩⟩,⟨⟨rfl,by kernel_rfl⟩,trivial⟩⟩ [0,1] (gc2 (hx9.1) (show ((ppE (Xd f u rows) f e):Int)=(btE (Xd f u rows) f (opV (Xd f u rows) e 2).Xa) from (by (rw [hx9.2,hv9]))) (fun qq0 (q13:Int)=>(.tup [.agg [dI (qq0.X1),dI (qq0.Xb),dI (qq0.Xg),dI (qq0.Xe),dI (qq0.Y3),dS (qq0.X6),dU (qq0.Xc),dI (qq0.X0.Xu),dI (qq0.X0.Xl),.d (dsl false false (kE false) (qq0.Xa)),.d (dsl false false (kE false) (qq0.Xw)),.d (dsl false false (kC false) (qq0.X5))],.one (dI q13)]:AV))) (ix (ix trivial))
 have hb9:=hq4;rw [hv9] at hb9;have hx9:=pp_ok ho9 hp9 hd9 hb9
 refine cF (dF hq4) (T.skip (nT (sR [] (T.ret ?_))))
 exact eX [.c 4 3 78 0 78 [dI (Zio f u rows e).X1,dI (Zio f u rows e).Xb,dI (Zio f u rows e).Xg,dI (Zio f u rows e).Xe,dI (Zio f u rows e).Y3,dS (Zio f u rows e).X6,dU (Zio f u rows e).Xc,dI (Zio f u rows e).X0.Xu,dI (Zio f u rows e).X0.Xl,.d (dsl false false (kE false) (Zio f u rows e).Xa),.d (dsl false false (kE false) (Zio f u rows e).Xw),.d (dsl false false (kC false) (Zio f u rows e).X5)] (.agg (Zip f u rows e)),.t 5 (.one (dI 0))] ⟨⟨rfl,rfl,by kernel_rfl,by kernel_rfl,.inl ⟨12,Yy,rfl,Nat.le_of_ble_eq_true rfl⟩⟩,⟨⟨rfl,by kernel_rfl⟩,trivial⟩⟩ [0,1] (by have e1:((ppV (Xd f u rows) f e).X1:Int)=(opV (Xd f u rows) e 2).X1:=H7;have e2:((ppV (Xd f u rows) f e).Xb:Int)=(opV (Xd f u rows) e 2).Xb:=H7;have e3:((ppV (Xd f u rows) f e).Xg:Int)=(opV (Xd f u rows) e 2).Xg:=H7;have e4:((ppV (Xd f u rows) f e).Xe:Int)=(opV (Xd f u rows) e 2).Xe:=H7;have e5:((ppV (Xd f u rows) f e).Y3:Int)=(opV (Xd f u rows) e 2).Y3:=H7;have e6:((ppV (Xd f u rows) f e).X6:List UInt8)=(opV (Xd f u rows) e 2).X6:=H7;have e7:((ppV (Xd f u rows) f e).Xc:List UInt8)=(opV (Xd f u rows) e 2).Xc:=H7;have e8:((ppV (Xd f u rows) f e).X0.Xu:Int)=(opV (Xd f u rows) e 2).X0.Xu:=H7;have e9:((ppV (Xd f u rows) f e).X0.Xl:Int)=(opV (Xd f u rows) e 2).X0.Xl:=H7;have e10:((ppV (Xd f u rows) f e).Xa:List aE)=(opV (Xd f u rows) e 2).Xa:=H7;have e11:((ppV (Xd f u rows) f e).Xw:List aE)=(opV (Xd f u rows) e 2).Xw:=H7;have e12:((ppV (Xd f u rows) f e).X5:List aC)=(opV (Xd f u rows) e 2).X5:=H7;have e13:((ppE (Xd f u rows) f e):Int)=0:=p4z;have hE:=congr pZ19 e13;exact hE) (ix (ix trivial))
section
variable (f:Int) (u:Int) (rows:List (Yb×Bool)) (te:Bool) (e:aE) (k:Int)
abbrev Ziz:List SV:=[dI e.X2,.d (dsl te false kU8 e.X7)]
abbrev Zj0:HS:=.live (.box 130 [dI (3*f+1),dI u,.mref 1])
abbrev Zj1:List AV:=[pv 0 0,.tv (.agg (Ziz te e)),vI k,aa,pv 2 0,aa,pv 3 0,vI (opE (Xd f u rows) e k),pv 4 0,vI (opE (Xd f u rows) e k),aa,aa,aa,aa,aa,aa,aa,vB (decide ((opE (Xd f u rows) e k)≠0))]
abbrev Zj2:SV:=.d (.val (.slice none 0 0))
abbrev Zj3:=(opV (Xd f u rows) e k)
abbrev Zj4:List SV:=[dI (Zj3 f u rows e k).X1,dI (Zj3 f u rows e k).Xb,dI (Zj3 f u rows e k).Xg,dI (Zj3 f u rows e k).Xe,dI (Zj3 f u rows e k).Y3,dS (Zj3 f u rows e k).X6,dU (Zj3 f u rows e k).Xc,dI (Zj3 f u rows e k).X0.Xu,dI (Zj3 f u rows e k).X0.Xl,.d (dsl false false (kE false) (Zj3 f u rows e k).Xa),.d (dsl false false (kE false) (Zj3 f u rows e k).Xw),.d (dsl false false (kC false) (Zj3 f u rows e k).X5)]
abbrev Zj5:List HS:=[(Zj0 f u),.live (mpK Xi Y8 rows),.live (.box 43 (Ziz te e)),.live (.box 78 [dI 0,dI 0,dI 0,dI 0,dI 0,dS [],Zj2,dI 0,dI 0,Zj2,Zj2,Zj2]),.live (.box 78 (Zj4 f u rows e k))]
abbrev Zj6:SV:=dU ([]:List UInt8)
abbrev Zj7:SV:=.d (dsl false false (kE false) ([]:List aE))
abbrev Zj8:SV:=.d (dsl false false (kC false) ([]:List aC))
abbrev Zj9:List SV:=[dI 0,dI 0,dI 0,dI 0,dI 0,dS [],Zj6,dI 0,dI 0,Zj7,Zj7,Zj8]
abbrev Zja:List HS:=[(Zj0 f u),.live (mpK Xi Y8 rows),.live (.box 43 (Ziz te e)),.live (.box 78 Zj9),.live (.box 78 (Zj4 f u rows e k))]
abbrev Zjb:List AV:=[pv 0 0,.tv (.agg (Ziz te e)),vI k,aa,pv 2 0,aa,pv 3 0,vI 120,pv 4 0,vI (opE (Xd f u rows) e k),aa,aa,aa,aa,aa,aa,aa,vB (decide ((opE (Xd f u rows) e k)≠0)),aa,aa,aa,aa,vB (decide (k≠5))]
abbrev Zjc:TV:=.one (dI 0)
abbrev Zjd:List AV:=[pv 0 0,.tv (.agg (Ziz te e)),vI k,aa,pv 2 0,aa,pv 3 0,vI 30,pv 4 0,vI (opE (Xd f u rows) e k),aa,aa,aa,aa,aa,aa,aa,vB (decide ((opE (Xd f u rows) e k)≠0)),aa,aa,aa,aa,vB (decide (k≠5)),aa,aa,aa,aa,aa,aa,aa,aa,aa,aa,aa,vB (!(decide (Wm f e.X2)))]
abbrev Zje:List AV:=[pv 0 0,.tv (.agg (Ziz te e)),vI k,aa,pv 2 0,aa,pv 3 0,vI 30,pv 4 0,vI (opE (Xd f u rows) e k),aa,aa,aa,aa,aa,aa,aa,vB (decide ((opE (Xd f u rows) e k)≠0)),aa,aa,aa,aa,vB false,aa,aa,aa,aa,aa,aa,aa,aa,aa,aa,aa,vB (!(decide (Wm f e.X2)))]
end
theorem Xbv (f:Int) (u:Int) (rows:List (Yb×Bool)) (te:Bool) (e:aE) (k:Int) (hf:0≤f∧f≤2) (hu:0≤u∧u≤8) (hs:-9223372036854775808≤e.X2∧e.X2≤9223372036854775807) (hb:e.X7.length≤100000000):Holds Tryz.prog 151 ⟨[pv 0 0,.tv (.agg [dI e.X2,.d (dsl te false kU8 e.X7)]),vI k],[.box 130 [dI (3*f+1),dI u,.mref 1],mpK Xi Y8 rows],.tup [.agg [dI (vtV (Xd f u rows) f e k).X1,dI (vtV (Xd f u rows) f e k).Xb,dI (vtV (Xd f u rows) f e k).Xg,dI (vtV (Xd f u rows) f e k).Xe,dI (vtV (Xd f u rows) f e k).Y3,dS (vtV (Xd f u rows) f e k).X6,dU (vtV (Xd f u rows) f e k).Xc,dI (vtV (Xd f u rows) f e k).X0.Xu,dI (vtV (Xd f u rows) f e k).X0.Xl,.d (dsl false false (kE false) (vtV (Xd f u rows) f e k).Xa),.d (dsl false false (kE false) (vtV (Xd f u rows) f e k).Xw),.d (dsl false false (kC false) (vtV (Xd f u rows) f e k).X5)],.one (dI (vtE (Xd f u rows) f e k))],[.live (.box 130 [dI (3*f+1),dI u,.mref 1]),.live (mpK Xi Y8 rows)]⟩:=by
 refine Holds.of Tryz.func151 rfl (N:=42) Tryz.ntmps151 rfl fun w0 B0 S0 U0=>?_
 show T _ (Y5 42 2 w0 S0 U0 B0) ⟨[pv 0 0,.tv (.agg (Ziz te e)),vI k],[(Zj0 f u),.live (mpK Xi Y8 rows)]⟩ _ _
 refine sR [] (sR [hR 3 rfl rfl (rCa (X6d f u rows te e k ‹_› ‹_› ‹_› ‹_›) Tryz.func173 [0,1] [(.tmp 11,pv 0 0),(.tmp 12,.tv (.agg (Ziz te e))),(.tmp 13,vI k)] 2 2)] (T.seq (T.block (sR [] ?_))))
 by_cases hq1:(opE (Xd f u rows) e k)≠0
 ·have ho9:=hq1;have hx9:=vt_o (f:=f) ho9
  refine cT (dT hq1) (sR [] (T.ret (rB (rT ?_))))
  refine eN ⟨(Zj1 f u rows te e k),(Zj5 f u rows te e k)⟩ ?_
  refine X8 (s':=⟨(Zj1 f u rows te e k),(Zja f u rows te e k)⟩) (fun _ _ hG=>Ym (s:=⟨(Zj1 f u rows te e k),(Zj5 f u rows te e k)⟩) (kk2 (X05 trivial)) ⟨.inl rfl,pZv⟩ hG) ?_
  exact eX [.c 6 3 78 0 78 [dI 0,dI 0,dI 0,dI 0,dI 0,dS [],Zj6,dI 0,dI 0,Zj7,Zj7,Zj8] (.agg Zj9),.t 7 (.one (dI (opE (Xd f u rows) e k)))] ⟨⟨rfl,rfl,by kernel_rfl,by kernel_rfl,.inl ⟨12,Yy,rfl,Nat.le_of_ble_eq_true rfl⟩⟩,⟨⟨rfl,by kernel_rfl⟩,trivial⟩⟩ [0,1] pZ0 (ix (ix trivial))
 have ho9:¬opE (Xd f u rows) e k≠0:=hq1;have hv9:=Xgw ho9;have hbo:=X2d e.X7;rw [← hv9] at hbo;have hbl:=X7v hbo
 refine cF (dF hq1) ?_
 by_cases hq2:k≠3
 rotate_left
 ·have hk3:¬(k≠3∧k≠4∧k≠5):=(fun q=>hq2 q.1)
  refine sR [hN 3 true (dF hq2),hN 4 true (dF hq2),hP 5 (dF hq2),hN1 7,hN1 8,hP0 9] (cF (b:=false) rfl (sR [hR 3 rfl rfl (rCa (Jv f u rows e.X2 ‹_› ‹_›) Tryz.func79 [0,1] [(.tmp 35,pv 0 0),(.tmp 37,vI e.X2)] 2 2)] ?_))
  by_cases hq7:Wm f e.X2
  ·have hx9:=Xax ho9 hk3 hq7
   refine cF (cn (dT hq7)) (T.skip (nB (nT (sR [] (T.ret ?_)))))
   exact eX [.c 6 3 78 0 78 [dI (Zj3 f u rows e k).X1,dI (Zj3 f u rows e k).Xb,dI (Zj3 f u rows e k).Xg,dI (Zj3 f u rows e k).Xe,dI (Zj3 f u rows e k).Y3,dS (Zj3 f u rows e k).X6,dU (Zj3 f u rows e k).Xc,dI (Zj3 f u rows e k).X0.Xu,dI (Zj3 f u rows e k).X0.Xl,.d (dsl false false (kE false) (Zj3 f u rows e k).Xa),.d (dsl false false (kE false) (Zj3 f u rows e k).Xw),.d (dsl false false (kC false) (Zj3 f u rows e k).X5)] (.agg (Zj4 f u rows e k)),.t 7 (Zjc)] ⟨⟨rfl,rfl,by kernel_rfl,by kernel_rfl,.inl ⟨12,Yy,rfl,Nat.le_of_ble_eq_true rfl⟩⟩,⟨⟨rfl,by kernel_rfl⟩,trivial⟩⟩ [0,1] pZ9 (ix (ix trivial))
  have hx9:=vt_s ho9 hk3 hq7
  refine cT (cn (dF hq7)) (sR [] (T.ret (rB (rT ?_))))
  refine eN ⟨(Zje f u rows te e k),(Zj5 f u rows te e k)⟩ ?_
  refine X8 (s':=⟨(Zje f u rows te e k),(Zja f u rows te e k)⟩) (fun _ _ hG=>Ym (s:=⟨(Zje f u rows te e k),(Zj5 f u rows te e k)⟩) ⟨.inl rfl,p4b⟩ ⟨.inl rfl,pZv⟩ hG) ?_
  exact eX [.c 6 3 78 0 78 [dI 0,dI 0,dI 0,dI 0,dI 0,dS [],Zj6,dI 0,dI 0,Zj7,Zj7,Zj8] (.agg Zj9),.t 7 (.one (dI 30))] ⟨⟨rfl,rfl,by kernel_rfl,by kernel_rfl,.inl ⟨12,Yy,rfl,Nat.le_of_ble_eq_true rfl⟩⟩,⟨⟨rfl,by kernel_rfl⟩,trivial⟩⟩ [0,1] pZ0 (ix (ix trivial))
 by_cases hq3:k≠4
 ·refine sR [hY 3 (dT hq2),hY 4 (dT hq2),hP 5 (dT hq2),hY 7 (dT hq3),hY 8 (dT hq3),hP 9 (dT hq3)] ?_
  by_cases hq4:k≠5
  ·have hx9:=vt_k (f:=f) ho9 ‹_› ‹_› hq4
   refine cT (dT hq4) (sR [] (T.ret (rB (rT ?_))))
   refine eN ⟨(Zjb f u rows te e k),(Zj5 f u rows te e k)⟩ ?_
   refine X8 (s':=⟨(Zjb f u rows te e k),(Zja f u rows te e k)⟩) (fun _ _ hG=>Ym (s:=⟨(Zjb f u rows te e k),(Zj5 f u rows te e k)⟩) ⟨.inl rfl,p3l⟩ ⟨.inl rfl,pZv⟩ hG) ?_
   exact eX [.c 6 3 78 0 78 [dI 0,dI 0,dI 0,dI 0,dI 0,dS [],Zj6,dI 0,dI 0,Zj7,Zj7,Zj8] (.agg Zj9),.t 7 (.one (dI 120))] ⟨⟨rfl,rfl,by kernel_rfl,by kernel_rfl,.inl ⟨12,Yy,rfl,Nat.le_of_ble_eq_true rfl⟩⟩,⟨⟨rfl,by kernel_rfl⟩,trivial⟩⟩ [0,1] pZ0 (ix (ix trivial))
  have hk3:¬(k≠3∧k≠4∧k≠5):=(fun q=>hq4 q.2.2)
  refine cF (dF hq4) (sR [hR 3 rfl rfl (rCa (Jv f u rows e.X2 ‹_› ‹_›) Tryz.func79 [0,1] [(.tmp 35,pv 0 0),(.tmp 37,vI e.X2)] 2 2)] ?_)
  by_cases hq5:Wm f e.X2
  ·have hx9:=Xax ho9 hk3 hq5
   refine cF (cn (dT hq5)) (T.skip (nB (nT (sR [] (T.ret ?_)))))
   exact eX [.c 6 3 78 0 78 [dI (Zj3 f u rows e k).X1,dI (Zj3 f u rows e k).Xb,dI (Zj3 f u rows e k).Xg,dI (Zj3 f u rows e k).Xe,dI (Zj3 f u rows e k).Y3,dS (Zj3 f u rows e k).X6,dU (Zj3 f u rows e k).Xc,dI (Zj3 f u rows e k).X0.Xu,dI (Zj3 f u rows e k).X0.Xl,.d (dsl false false (kE false) (Zj3 f u rows e k).Xa),.d (dsl false false (kE false) (Zj3 f u rows e k).Xw),.d (dsl false false (kC false) (Zj3 f u rows e k).X5)] (.agg (Zj4 f u rows e k)),.t 7 (Zjc)] ⟨⟨rfl,rfl,by kernel_rfl,by kernel_rfl,.inl ⟨12,Yy,rfl,Nat.le_of_ble_eq_true rfl⟩⟩,⟨⟨rfl,by kernel_rfl⟩,trivial⟩⟩ [0,1] pZ9 (ix (ix trivial))
  have hx9:=vt_s ho9 hk3 hq5
  refine cT (cn (dF hq5)) (sR [] (T.ret (rB (rT ?_))))
  refine eN ⟨(Zjd f u rows te e k),(Zj5 f u rows te e k)⟩ ?_
  refine X8 (s':=⟨(Zjd f u rows te e k),(Zja f u rows te e k)⟩) (fun _ _ hG=>Ym (s:=⟨(Zjd f u rows te e k),(Zj5 f u rows te e k)⟩) ⟨.inl rfl,p4b⟩ ⟨.inl rfl,pZv⟩ hG) ?_
  exact eX [.c 6 3 78 0 78 [dI 0,dI 0,dI 0,dI 0,dI 0,dS [],Zj6,dI 0,dI 0,Zj7,Zj7,Zj8] (.agg Zj9),.t 7 (.one (dI 30))] ⟨⟨rfl,rfl,by kernel_rfl,by kernel_rfl,.inl ⟨12,Yy,rfl,Nat.le_of_ble_eq_true rfl⟩⟩,⟨⟨rfl,by kernel_rfl⟩,trivial⟩⟩ [0,1] pZ0 (ix (ix trivial))
 have hk3:¬(k≠3∧k≠4∧k≠5):=(fun q=>hq3 q.2.1)
 refine sR [hY 3 (dT hq2),hY 4 (dT hq2),hP 5 (dT hq2),hN 7 true (dF hq3),hN 8 true (dF hq3),hP 9 (dF hq3)] (cF (b:=false) rfl (sR [hR 3 rfl rfl (rCa (Jv f u rows e.X2 ‹_› ‹_›) Tryz.func79 [0,1] [(.tmp 35,pv 0 0),(.tmp 37,vI e.X2)] 2 2)] ?_))
 by_cases hq6:Wm f e.X2
 ·have hx9:=Xax ho9 hk3 hq6
  refine cF (cn (dT hq6)) (T.skip (nB (nT (sR [] (T.ret ?_)))))
  exact eX [.c 6 3 78 0 78 [dI (Zj3 f u rows e k).X1,dI (Zj3 f u rows e k).Xb,dI (Zj3 f u rows e k).Xg,dI (Zj3 f u rows e k).Xe,dI (Zj3 f u rows e k).Y3,dS (Zj3 f u rows e k).X6,dU (Zj3 f u rows e k).Xc,dI (Zj3 f u rows e k).X0.Xu,dI (Zj3 f u rows e k).X0.Xl,.d (dsl false false (kE false) (Zj3 f u rows e k).Xa),.d (dsl false false (kE false) (Zj3 f u rows e k).Xw),.d (dsl false false (kC false) (Zj3 f u rows e k).X5)] (.agg (Zj4 f u rows e k)),.t 7 (Zjc)] ⟨⟨rfl,rfl,by kernel_rfl,by kernel_rfl,.inl ⟨12,Yy,rfl,Nat.le_of_ble_eq_true rfl⟩⟩,⟨⟨rfl,by kernel_rfl⟩,trivial⟩⟩ [0,1] pZ9 (ix (ix trivial))
 have hx9:=vt_s ho9 hk3 hq6
 refine cT (cn (dF hq6)) (sR [] (T.ret (rB (rT ?_))))
 refine eN ⟨(Zje f u rows te e k),(Zj5 f u rows te e k)⟩ ?_
 refine X8 (s':=⟨(Zje f u rows te e k),(Zja f u rows te e k)⟩) (fun _ _ hG=>Ym (s:=⟨(Zje f u rows te e k),(Zj5 f u rows te e k)⟩) ⟨.inl rfl,p4b⟩ ⟨.inl rfl,pZv⟩ hG) ?_
 exact eX [.c 6 3 78 0 78 [dI 0,dI 0,dI 0,dI 0,dI 0,dS [],Zj6,dI 0,dI 0,Zj7,Zj7,Zj8] (.agg Zj9),.t 7 (.one (dI 30))] ⟨⟨rfl,rfl,by kernel_rfl,by kernel_rfl,.inl ⟨12,Yy,rfl,Nat.le_of_ble_eq_true rfl⟩⟩,⟨⟨rfl,by kernel_rfl⟩,trivial⟩⟩ [0,1] pZ0 (ix (ix trivial))
section
variable (f:Int) (u:Int) (l:List aE) (e:aE)
abbrev Zjf:List SV:=[dI e.X2,dU e.X7]
abbrev Zjg:HS:=.live (.box 135 [dB true,dI f,dI u,.own 1 (kE false).sz 0 l.length])
abbrev Zjh:AV:=vB (decide ((opR (X9 f u l) e)≠0))
abbrev Zji:List AV:=[pv 0 0,.tv (.agg (Zjf e)),aa,pv 2 0,pv 3 0,vI (opR (X9 f u l) e),pv 4 0,vI (opR (X9 f u l) e),aa,aa,aa,aa,aa,aa,aa,(Zjh f u l e)]
abbrev Zjj:SV:=.d (.val (.slice none 0 0))
abbrev Zjk:List SV:=[dI (orV (X9 f u l) e).X1,dI (orV (X9 f u l) e).Xb,dI (orV (X9 f u l) e).Xg,dI (orV (X9 f u l) e).Xe,dI (orV (X9 f u l) e).Y3,dS (orV (X9 f u l) e).X6,dU (orV (X9 f u l) e).Xc,dI (orV (X9 f u l) e).X0.Xu,dI (orV (X9 f u l) e).X0.Xl,.d (dsl false false (kE false) (orV (X9 f u l) e).Xa),.d (dsl false false (kE false) (orV (X9 f u l) e).Xw),.d (dsl false false (kC false) (orV (X9 f u l) e).X5)]
abbrev Zjl:List HS:=[(Zjg f u l),.live (Xf 43 (kE false) l),.live (.box 43 (Zjf e)),.live (.box 78 [dI 0,dI 0,dI 0,dI 0,dI 0,dS [],Zjj,dI 0,dI 0,Zjj,Zjj,Zjj]),.live (.box 78 (Zjk f u l e))]
abbrev Zjm:SV:=dU ([]:List UInt8)
abbrev Zjn:SV:=.d (dsl false false (kE false) ([]:List aE))
abbrev Zjo:SV:=.d (dsl false false (kC false) ([]:List aC))
abbrev Zjp:List SV:=[dI 0,dI 0,dI 0,dI 0,dI 0,dS [],Zjm,dI 0,dI 0,Zjn,Zjn,Zjo]
abbrev Zjq:List HS:=[(Zjg f u l),.live (Xf 43 (kE false) l),.live (.box 43 (Zjf e)),.live (.box 78 Zjp),.live (.box 78 (Zjk f u l e))]
abbrev Zjr:AV:=vB (decide ((orV (X9 f u l) e).X1≠2))
abbrev Zjs:List AV:=[pv 0 0,.tv (.agg (Zjf e)),aa,pv 2 0,pv 3 0,vI 120,pv 4 0,vI (opR (X9 f u l) e),aa,aa,aa,aa,aa,aa,aa,(Zjh f u l e),aa,aa,aa,aa,(Zjr f u l e)]
abbrev Zjt:List AV:=[pv 0 0,.tv (.agg (Zjf e)),aa,pv 2 0,pv 3 0,vI 133,pv 4 0,vI (opR (X9 f u l) e),aa,aa,aa,aa,aa,aa,aa,(Zjh f u l e),aa,aa,aa,aa,(Zjr f u l e),aa,aa,aa,aa,aa,aa,aa,vB (decide (e.X2≠(W1 f (orV (X9 f u l) e).Xb)))]
abbrev Zju:List AV:=[pv 0 0,.tv (.agg (Zjf e)),aa,pv 2 0,pv 3 0,vI 132,pv 4 0,vI (opR (X9 f u l) e),aa,aa,aa,aa,aa,aa,aa,(Zjh f u l e),aa,aa,aa,aa,(Zjr f u l e),aa,aa,aa,aa,aa,aa,aa,vB (decide (e.X2≠(W1 f (orV (X9 f u l) e).Xb))),aa,aa,aa,aa,aa,aa,vB (decide ((orV (X9 f u l) e).X6≠(X1k (orV (X9 f u l) e).Xa)))]
abbrev Zjv:List AV:=[pv 0 0,.tv (.agg (Zjf e)),aa,pv 2 0,pv 3 0,vI (btE (X9 f u l) f (orV (X9 f u l) e).Xa),pv 4 0,vI (btE (X9 f u l) f (orV (X9 f u l) e).Xa),aa,aa,aa,aa,aa,aa,aa,(Zjh f u l e),aa,aa,aa,aa,(Zjr f u l e),aa,aa,aa,aa,aa,aa,aa,vB (decide (e.X2≠(W1 f (orV (X9 f u l) e).Xb))),aa,aa,aa,aa,aa,aa,vB (decide ((orV (X9 f u l) e).X6≠(X1k (orV (X9 f u l) e).Xa))),aa,aa,aa,aa,aa,aa,vB (decide ((btE (X9 f u l) f (orV (X9 f u l) e).Xa)≠0))]
end
theorem X5u (f:Int) (u:Int) (l:List aE) (e:aE) (hf:0≤f∧f≤2) (hu:0≤u∧u≤8) (hl:l.length≤9223372036854775806) (hs:-9223372036854775808≤e.X2∧e.X2≤9223372036854775807) (hb:e.X7.length≤100000000):Holds Tryz.prog 155 ⟨[pv 0 0,.tv (.agg [dI e.X2,dU e.X7])],[.box 135 [dB true,dI f,dI u,.own 1 (kE false).sz 0 l.length],Xf 43 (kE false) l],.tup [.agg [dI (ppV (X9 f u l) f e).X1,dI (ppV (X9 f u l) f e).Xb,dI (ppV (X9 f u l) f e).Xg,dI (ppV (X9 f u l) f e).Xe,dI (ppV (X9 f u l) f e).Y3,dS (ppV (X9 f u l) f e).X6,dU (ppV (X9 f u l) f e).Xc,dI (ppV (X9 f u l) f e).X0.Xu,dI (ppV (X9 f u l) f e).X0.Xl,.d (dsl false false (kE false) (ppV (X9 f u l) f e).Xa),.d (dsl false false (kE false) (ppV (X9 f u l) f e).Xw),.d (dsl false false (kC false) (ppV (X9 f u l) f e).X5)],.one (dI (ppE (X9 f u l) f e))],[.live (.box 135 [dB true,dI f,dI u,.own 1 (kE false).sz 0 l.length]),.live (Xf 43 (kE false) l)]⟩:=by
 refine Holds.of Tryz.func155 rfl (N:=46) Tryz.ntmps155 rfl fun w0 B0 S0 U0=>?_
 show T _ (Y5 46 2 w0 S0 U0 B0) ⟨[pv 0 0,.tv (.agg (Zjf e))],[(Zjg f u l),.live (Xf 43 (kE false) l)]⟩ _ _
 refine sR [] (sR [hR 2 rfl rfl (rCa (X3w f u l e ‹_› ‹_› ‹_› ‹_› ‹_›) Tryz.func150 [0,1] [(.tmp 9,pv 0 0),(.tmp 10,.tv (.agg (Zjf e)))] 2 2)] (T.seq (sR [] ?_)))
 by_cases hq1:(opR (X9 f u l) e)≠0
 ·have hr9:=(Xbe (X9 f u l) e 2).1 hq1;have hx9:=pp_o (f:=f) (show opE (X9 f u l) e 2≠0 by rw [hr9];exact hq1);rw [hr9] at hx9
  refine cT (dT hq1) (sR [] (T.ret (rT ?_)))
  refine eN ⟨(Zji f u l e),(Zjl f u l e)⟩ ?_
  refine X8 (s':=⟨(Zji f u l e),(Zjq f u l e)⟩) (fun _ _ hG=>Ym (s:=⟨(Zji f u l e),(Zjl f u l e)⟩) (X05 trivial) ⟨.inl rfl,pZv⟩ hG) ?_
  exact eX [.c 4 3 78 0 78 [dI 0,dI 0,dI 0,dI 0,dI 0,dS [],Zjm,dI 0,dI 0,Zjn,Zjn,Zjo] (.agg Zjp),.t 5 (.one (dI (opR (X9 f u l) e)))] ⟨⟨rfl,rfl,by kernel_rfl,by kernel_rfl,.inl ⟨12,Yy,rfl,Nat.le_of_ble_eq_true rfl⟩⟩,⟨⟨rfl,by kernel_rfl⟩,trivial⟩⟩ [0,1] pZ0 (ix (ix trivial))
 have hr9:=Xbe (X9 f u l) e 2;have hv9:=Xgv hq1;have hbo:=X2d e.X7;rw [← hv9] at hbo;have hbl:=X7v hbo
 refine cF (dF hq1) (T.skip (nT (T.seq (sR [] ?_))))
 by_cases hq2:(orV (X9 f u l) e).X1≠2
 ·have hm9:=hq2;rw [hv9] at hm9;have hk9:=hr9.2.1 ‹_› hm9;have hx9:=pp_o (f:=f) (show opE (X9 f u l) e 2≠0 by rw [hk9];decide);rw [hk9] at hx9
  refine cT (dT hq2) (sR [] (T.ret (rT ?_)))
  refine eN ⟨(Zjs f u l e),(Zjl f u l e)⟩ ?_
  refine X8 (s':=⟨(Zjs f u l e),(Zjq f u l e)⟩) (fun _ _ hG=>Ym (s:=⟨(Zjs f u l e),(Zjl f u l e)⟩) ⟨.inl rfl,(kk4 (X05 trivial))⟩ ⟨.inl rfl,pZv⟩ hG) ?_
  exact eX [.c 4 3 78 0 78 [dI 0,dI 0,dI 0,dI 0,dI 0,dS [],Zjm,dI 0,dI 0,Zjn,Zjn,Zjo] (.agg Zjp),.t 5 (.one (dI 120))] ⟨⟨rfl,rfl,by kernel_rfl,by kernel_rfl,.inl ⟨12,Yy,rfl,Nat.le_of_ble_eq_true rfl⟩⟩,⟨⟨rfl,by kernel_rfl⟩,trivial⟩⟩ [0,1] pZ0 (ix (ix trivial))
 have hm9:=hq2;rw [hv9] at hm9;have ho9:¬opE (X9 f u l) e 2≠0:=fun q=>q (hr9.2.2 ‹_› hm9).1
 refine cF (dF hq2) (T.skip (nT (T.seq ?_)))
 refine sD [[],[0],[],[],[3],[2,3,4],[0,1,2,3,4,5]] [hR 5 rfl rfl (rCa (Eo f u l (orV (X9 f u l) e).Xb ‹_› ‹_›) Tryz.func29 [0,1] [(.tmp 24,pv 0 0),(.tmp 26,vI (orV (X9 f u l) e).Xb)] 2 2)] ?_
 by_cases hq3:e.X2≠(W1 f (orV (X9 f u l) e).Xb)
 ·have hp9:=hq3;rw [hv9] at hp9;have hx9:=pp_p ho9 hp9
  refine cT (dT hq3) (sR [] (T.ret (rT ?_)))
  refine eN ⟨(Zjt f u l e),(Zjl f u l e)⟩ ?_
  refine X8 (s':=⟨(Zjt f u l e),(Zjq f u l e)⟩) (fun _ _ hG=>Ym (s:=⟨(Zjt f u l e),(Zjl f u l e)⟩) ⟨.inl rfl,(kk4 p2k)⟩ ⟨.inl rfl,pZv⟩ hG) ?_
  exact eX [.c 4 3 78 0 78 [dI 0,dI 0,dI 0,dI 0,dI 0,dS [],Zjm,dI 0,dI 0,Zjn,Zjn,Zjo] (.agg Zjp),.t 5 (.one (dI 133))] ⟨⟨rfl,rfl,by kernel_rfl,by kernel_rfl,.inl ⟨12,Yy,rfl,Nat.le_of_ble_eq_true rfl⟩⟩,⟨⟨rfl,by kernel_rfl⟩,trivial⟩⟩ [0,1] pZ0 (ix (ix trivial))
 have hp9:=hq3;rw [hv9] at hp9
 refine cF (dF hq3) (T.skip (nT (T.seq ?_)))
 refine sD [[],[0],[],[2],[2,3],[0,1,2,3,4]] [hR 4 rfl rfl (rCa (X6w false false false (orV (X9 f u l) e).Xa (by omega)) Tryz.func28 [] [(.tmp 33,slV false false (kE false) (orV (X9 f u l) e).Xa)] 0 0)] ?_
 by_cases hq4:(orV (X9 f u l) e).X6≠(X1k (orV (X9 f u l) e).Xa)
 ·have hd9:=hq4;rw [hv9] at hd9;have hx9:=pp_d ho9 hp9 hd9
  refine cT (dT hq4) (sR [] (T.ret (rT ?_)))
  refine eN ⟨(Zju f u l e),(Zjl f u l e)⟩ ?_
  refine X8 (s':=⟨(Zju f u l e),(Zjq f u l e)⟩) (fun _ _ hG=>Ym (s:=⟨(Zju f u l e),(Zjl f u l e)⟩) p4a ⟨.inl rfl,pZv⟩ hG) ?_
  exact eX [.c 4 3 78 0 78 [dI 0,dI 0,dI 0,dI 0,dI 0,dS [],Zjm,dI 0,dI 0,Zjn,Zjn,Zjo] (.agg Zjp),.t 5 (.one (dI 132))] ⟨⟨rfl,rfl,by kernel_rfl,by kernel_rfl,.inl ⟨12,Yy,rfl,Nat.le_of_ble_eq_true rfl⟩⟩,⟨⟨rfl,by kernel_rfl⟩,trivial⟩⟩ [0,1] pZ0 (ix (ix trivial))
 have hd9:=hq4;rw [hv9] at hd9
 refine cF (dF hq4) (T.skip (nT (sR [hR 3 rfl rfl (rCa (Xe2 f u l (orV (X9 f u l) e).Xa ‹_› ‹_› ‹_› ‹_›) Tryz.func177 [0,1] [(.tmp 37,pv 0 0),(.tmp 39,slV false false (kE false) (orV (X9 f u l) e).Xa)] 2 2)] (T.seq (sR [] ?_)))))
 by_cases hq5:(btE (X9 f u l) f (orV (X9 f u l) e).Xa)≠0
 ·have hb9:=hq5;rw [hv9] at hb9;have hx9:=pp_b ho9 hp9 hd9 hb9
  refine cT (dT hq5) (sR [] (T.ret (rT ?_)))
  refine eN ⟨(Zjv f u l e),(Zjl f u l e)⟩ ?_
  refine X8 (s':=⟨(Zjv f u l e),(Zjq f u l e)⟩) (fun _ _ hG=>Ym (s:=⟨(Zjv f u l e),(Zjl f u l e)⟩) ⟨.inl rfl,(kk2 p2y)⟩ ⟨.inl rfl,pZv⟩ hG) ?_
  exact eX [.c 4 3 78 0 78 [dI 0,dI 0,dI 0,dI 0,dI 0,dS [],Zjm,dI 0,dI 0,Zjn,Zjn,Zjo] (.agg Zjp),.t 5 (.one (dI (btE (X9 f u l) f (orV (X9 f u l) e).Xa)))] ⟨⟨rfl,rfl,by kernel_rfl,by kernel_rfl,.inl ⟨12,Yy,rfl,Nat.le_of_ble_eq_true rfl⟩⟩,⟨⟨rfl,by kernel_rfl⟩,trivial⟩⟩ [0,1] (gc2 (hx9.1) (show ((ppE (X9 f u l) f e):Int)=(btE (X9 f u l) f (orV (X9 f u l) e).Xa) from (by (rw [hx9.2,hv9]))) (fun qq0 (q13:Int)=>(.tup [.agg [dI (qq0.X1),dI (qq0.Xb),dI (qq0.Xg),dI (qq0.Xe),dI (qq0.Y3),dS (qq0.X6),dU (qq0.Xc),dI (qq0.X0.Xu),dI (qq0.X0.Xl),.d (dsl false false (kE false) (qq0.Xa)),.d (dsl false false (kE false) (qq0.Xw)),.d (dsl false false (kC false) (qq0.X5))],.one (dI q13)]:AV))) (ix (ix trivial))
 have hb9:=hq5;rw [hv9] at hb9;have hx9:=pp_ok ho9 hp9 hd9 hb9
 refine cF (dF hq5) (T.skip (nT (sR [] (T.ret ?_))))
 exact eX [.c 4 3 78 0 78 [dI (orV (X9 f u l) e).X1,dI (orV (X9 f u l) e).Xb,dI (orV (X9 f u l) e).Xg,dI (orV (X9 f u l) e).Xe,dI (orV (X9 f u l) e).Y3,dS (orV (X9 f u l) e).X6,dU (orV (X9 f u l) e).Xc,dI (orV (X9 f u l) e).X0.Xu,dI (orV (X9 f u l) e).X0.Xl,.d (dsl false false (kE false) (orV (X9 f u l) e).Xa),.d (dsl false false (kE false) (orV (X9 f u l) e).Xw),.d (dsl false false (kC false) (orV (X9 f u l) e).X5)] (.agg (Zjk f u l e)),.t 5 (.one (dI 0))] ⟨⟨rfl,rfl,by kernel_rfl,by kernel_rfl,.inl ⟨12,Yy,rfl,Nat.le_of_ble_eq_true rfl⟩⟩,⟨⟨rfl,by kernel_rfl⟩,trivial⟩⟩ [0,1] (by have e1:((ppV (X9 f u l) f e).X1:Int)=(orV (X9 f u l) e).X1:=H7;have e2:((ppV (X9 f u l) f e).Xb:Int)=(orV (X9 f u l) e).Xb:=H7;have e3:((ppV (X9 f u l) f e).Xg:Int)=(orV (X9 f u l) e).Xg:=H7;have e4:((ppV (X9 f u l) f e).Xe:Int)=(orV (X9 f u l) e).Xe:=H7;have e5:((ppV (X9 f u l) f e).Y3:Int)=(orV (X9 f u l) e).Y3:=H7;have e6:((ppV (X9 f u l) f e).X6:List UInt8)=(orV (X9 f u l) e).X6:=H7;have e7:((ppV (X9 f u l) f e).Xc:List UInt8)=(orV (X9 f u l) e).Xc:=H7;have e8:((ppV (X9 f u l) f e).X0.Xu:Int)=(orV (X9 f u l) e).X0.Xu:=H7;have e9:((ppV (X9 f u l) f e).X0.Xl:Int)=(orV (X9 f u l) e).X0.Xl:=H7;have e10:((ppV (X9 f u l) f e).Xa:List aE)=(orV (X9 f u l) e).Xa:=H7;have e11:((ppV (X9 f u l) f e).Xw:List aE)=(orV (X9 f u l) e).Xw:=H7;have e12:((ppV (X9 f u l) f e).X5:List aC)=(orV (X9 f u l) e).X5:=H7;have e13:((ppE (X9 f u l) f e):Int)=0:=p4z;have hE:=congr pZ19 e13;exact hE) (ix (ix trivial))
section
variable (f:Int) (u:Int) (l:List aE) (e:aE) (k:Int)
abbrev Zjw:List SV:=[dI e.X2,dU e.X7]
abbrev Zjx:HS:=.live (.box 135 [dB true,dI f,dI u,.own 1 (kE false).sz 0 l.length])
abbrev Zjy:AV:=vB (decide ((opR (X9 f u l) e)≠0))
abbrev Zjz:List AV:=[pv 0 0,.tv (.agg (Zjw e)),vI k,aa,pv 2 0,aa,pv 3 0,vI (opR (X9 f u l) e),pv 4 0,vI (opR (X9 f u l) e),aa,aa,aa,aa,aa,aa,aa,(Zjy f u l e)]
abbrev Zk0:SV:=.d (.val (.slice none 0 0))
abbrev Zk1:SV:=.d (dsl false false (kE false) (orV (X9 f u l) e).Xa)
abbrev Zk2:SV:=.d (dsl false false (kE false) (orV (X9 f u l) e).Xw)
abbrev Zk3:SV:=.d (dsl false false (kC false) (orV (X9 f u l) e).X5)
abbrev Zk4:List SV:=[dI (orV (X9 f u l) e).X1,dI (orV (X9 f u l) e).Xb,dI (orV (X9 f u l) e).Xg,dI (orV (X9 f u l) e).Xe,dI (orV (X9 f u l) e).Y3,dS (orV (X9 f u l) e).X6,dU (orV (X9 f u l) e).Xc,dI (orV (X9 f u l) e).X0.Xu,dI (orV (X9 f u l) e).X0.Xl,(Zk1 f u l e),(Zk2 f u l e),(Zk3 f u l e)]
abbrev Zk5:List HS:=[(Zjx f u l),.live (Xf 43 (kE false) l),.live (.box 43 (Zjw e)),.live (.box 78 [dI 0,dI 0,dI 0,dI 0,dI 0,dS [],Zk0,dI 0,dI 0,Zk0,Zk0,Zk0]),.live (.box 78 (Zk4 f u l e))]
abbrev Zk6:SV:=dU ([]:List UInt8)
abbrev Zk7:SV:=.d (dsl false false (kE false) ([]:List aE))
abbrev Zk8:SV:=.d (dsl false false (kC false) ([]:List aC))
abbrev Zk9:List SV:=[dI 0,dI 0,dI 0,dI 0,dI 0,dS [],Zk6,dI 0,dI 0,Zk7,Zk7,Zk8]
abbrev Zka:List HS:=[(Zjx f u l),.live (Xf 43 (kE false) l),.live (.box 43 (Zjw e)),.live (.box 78 Zk9),.live (.box 78 (Zk4 f u l e))]
abbrev Zkb:List AV:=[pv 0 0,.tv (.agg (Zjw e)),vI k,aa,pv 2 0,aa,pv 3 0,vI 120,pv 4 0,vI (opR (X9 f u l) e),aa,aa,aa,aa,aa,aa,aa,(Zjy f u l e),aa,aa,aa,aa,aa,aa,aa,aa,aa,aa,aa,aa,aa,aa,aa,aa,aa,vB true]
abbrev Zkc:List AV:=[pv 0 0,.tv (.agg (Zjw e)),vI k,aa,pv 2 0,aa,pv 3 0,vI 120,pv 4 0,vI (opR (X9 f u l) e),aa,aa,aa,aa,aa,aa,aa,(Zjy f u l e),aa,aa,aa,aa,aa,aa,aa,aa,aa,aa,aa,aa,aa,aa,aa,aa,aa,vB (decide (k≠5))]
abbrev Zkd:TV:=.one (dI 0)
abbrev Zke:List AV:=[pv 0 0,.tv (.agg (Zjw e)),vI k,aa,pv 2 0,aa,pv 3 0,vI 30,pv 4 0,vI (opR (X9 f u l) e),aa,aa,aa,aa,aa,aa,aa,(Zjy f u l e),aa,aa,aa,aa,aa,aa,aa,aa,aa,aa,aa,aa,aa,aa,aa,aa,aa,vB (decide (k≠5)),aa,aa,aa,aa,aa,vB (!(decide (Wm f e.X2)))]
abbrev Zkf:List AV:=[pv 0 0,.tv (.agg (Zjw e)),vI k,aa,pv 2 0,aa,pv 3 0,vI 30,pv 4 0,vI (opR (X9 f u l) e),aa,aa,aa,aa,aa,aa,aa,(Zjy f u l e),aa,aa,aa,aa,aa,aa,aa,aa,aa,aa,aa,aa,aa,aa,aa,aa,aa,vB false,aa,aa,aa,aa,aa,vB (!(decide (Wm f e.X2)))]
end
theorem Xga (f:Int) (u:Int) (l:List aE) (e:aE) (k:Int) (hf:0≤f∧f≤2) (hu:0≤u∧u≤8) (hl:l.length≤9223372036854775806) (hs:-9223372036854775808≤e.X2∧e.X2≤9223372036854775807) (hb:e.X7.length≤100000000):Holds Tryz.prog 112 ⟨[pv 0 0,.tv (.agg [dI e.X2,dU e.X7]),vI k],[.box 135 [dB true,dI f,dI u,.own 1 (kE false).sz 0 l.length],Xf 43 (kE false) l],.tup [.agg [dI (vtV (X9 f u l) f e k).X1,dI (vtV (X9 f u l) f e k).Xb,dI (vtV (X9 f u l) f e k).Xg,dI (vtV (X9 f u l) f e k).Xe,dI (vtV (X9 f u l) f e k).Y3,dS (vtV (X9 f u l) f e k).X6,dU (vtV (X9 f u l) f e k).Xc,dI (vtV (X9 f u l) f e k).X0.Xu,dI (vtV (X9 f u l) f e k).X0.Xl,.d (dsl false false (kE false) (vtV (X9 f u l) f e k).Xa),.d (dsl false false (kE false) (vtV (X9 f u l) f e k).Xw),.d (dsl false false (kC false) (vtV (X9 f u l) f e k).X5)],.one (dI (vtE (X9 f u l) f e k))],[.live (.box 135 [dB true,dI f,dI u,.own 1 (kE false).sz 0 l.length]),.live (Xf 43 (kE false) l)]⟩:=by
 refine Holds.of Tryz.func112 rfl (N:=44) Tryz.ntmps112 rfl fun w0 B0 S0 U0=>?_
 show T _ (Y5 44 2 w0 S0 U0 B0) ⟨[pv 0 0,.tv (.agg (Zjw e)),vI k],[(Zjx f u l),.live (Xf 43 (kE false) l)]⟩ _ _
 refine sR [] (sR [hR 2 rfl rfl (rCa (X3w f u l e ‹_› ‹_› ‹_› ‹_› ‹_›) Tryz.func150 [0,1] [(.tmp 11,pv 0 0),(.tmp 12,.tv (.agg (Zjw e)))] 2 2)] (T.seq (sR [] ?_)))
 by_cases hq1:(opR (X9 f u l) e)≠0
 ·have hr9:=(Xbe (X9 f u l) e k).1 hq1;have hx9:=vt_o (f:=f) (show opE (X9 f u l) e k≠0 by rw [hr9];exact hq1);rw [hr9] at hx9
  refine cT (dT hq1) (sR [] (T.ret (rT ?_)))
  refine eN ⟨(Zjz f u l e k),(Zk5 f u l e)⟩ ?_
  refine X8 (s':=⟨(Zjz f u l e k),(Zka f u l e)⟩) (fun _ _ hG=>Ym (s:=⟨(Zjz f u l e k),(Zk5 f u l e)⟩) (kk2 (X05 trivial)) ⟨.inl rfl,pZv⟩ hG) ?_
  exact eX [.c 6 3 78 0 78 [dI 0,dI 0,dI 0,dI 0,dI 0,dS [],Zk6,dI 0,dI 0,Zk7,Zk7,Zk8] (.agg Zk9),.t 7 (.one (dI (opR (X9 f u l) e)))] ⟨⟨rfl,rfl,by kernel_rfl,by kernel_rfl,.inl ⟨12,Yy,rfl,Nat.le_of_ble_eq_true rfl⟩⟩,⟨⟨rfl,by kernel_rfl⟩,trivial⟩⟩ [0,1] pZ0 (ix (ix trivial))
 have hr9:=Xbe (X9 f u l) e k;have hv9:=Xgv hq1;have hbo:=X2d e.X7;rw [← hv9] at hbo;have hbl:=X7v hbo
 refine cF (dF hq1) (T.skip (nT (T.seq ?_)))
 by_cases hq2:(orV (X9 f u l) e).X1≠k
 ·have hm9:=hq2;rw [hv9] at hm9;have hk9:=hr9.2.1 ‹_› hm9;have hx9:=vt_o (f:=f) (show opE (X9 f u l) e k≠0 by rw [hk9];decide);rw [hk9] at hx9
  refine sR (Xr (hN · false (dT hq2)) [5,6,7] (hU 8::(hU 9::(hN 10 false (dT hq2)::(hN 11 false (dT hq2)::(hU 12::(hU 13::(hN 14 false (dT hq2)::(hP 15 (dT hq2)::[]))))))))) (cT (b:=true) rfl (sR [] (T.ret (rT ?_))))
  refine eN ⟨(Zkb f u l e k),(Zk5 f u l e)⟩ ?_
  refine X8 (s':=⟨(Zkb f u l e k),(Zka f u l e)⟩) (fun _ _ hG=>Ym (s:=⟨(Zkb f u l e k),(Zk5 f u l e)⟩) p4a ⟨.inl rfl,pZv⟩ hG) ?_
  exact eX [.c 6 3 78 0 78 [dI 0,dI 0,dI 0,dI 0,dI 0,dS [],Zk6,dI 0,dI 0,Zk7,Zk7,Zk8] (.agg Zk9),.t 7 (.one (dI 120))] ⟨⟨rfl,rfl,by kernel_rfl,by kernel_rfl,.inl ⟨12,Yy,rfl,Nat.le_of_ble_eq_true rfl⟩⟩,⟨⟨rfl,by kernel_rfl⟩,trivial⟩⟩ [0,1] pZ0 (ix (ix trivial))
 have hm9:=hq2;rw [hv9] at hm9;have ho9:¬opE (X9 f u l) e k≠0:=fun q=>q (hr9.2.2 ‹_› hm9).1
 by_cases hq3:k≠3
 rotate_left
 ·have hk3:¬(k≠3∧k≠4∧k≠5):=(fun q=>hq3 q.1)
  refine sR (Xr (hY · (dF hq2)) [5,6,7] (hN 8 true (dF hq3)::(hN 9 true (dF hq3)::(hS 10 (oY rfl rfl rfl rfl (X3 rfl) (dF hq2) (Wq (b:=(decide (k≠3))) (av:=vB false) (X3 rfl) ⟨rfl,trivial⟩ (dF hq3)))::(hY 11 (dF hq2)::(hN1 12::(hN1 13::(hS 14 (oY rfl rfl rfl rfl (X3 rfl) (dF hq2) (Wq (b:=false) (av:=vB false) (X3 rfl) ⟨rfl,trivial⟩ rfl))::(hP 15 (dF hq2)::[]))))))))) (cF (b:=false) rfl (T.skip (nT (T.seq (sR [hR 3 rfl rfl (rCa (Jt f u l e.X2 ‹_› ‹_›) Tryz.func124 [0,1] [(.tmp 37,pv 0 0),(.tmp 39,vI e.X2)] 2 2)] ?_)))))
  by_cases hq8:Wm f e.X2
  ·have hx9:=Xax ho9 hk3 hq8
   refine cF (cn (dT hq8)) (T.skip (nT (sR [] (T.ret ?_))))
   exact eX [.c 6 3 78 0 78 [dI (orV (X9 f u l) e).X1,dI (orV (X9 f u l) e).Xb,dI (orV (X9 f u l) e).Xg,dI (orV (X9 f u l) e).Xe,dI (orV (X9 f u l) e).Y3,dS (orV (X9 f u l) e).X6,dU (orV (X9 f u l) e).Xc,dI (orV (X9 f u l) e).X0.Xu,dI (orV (X9 f u l) e).X0.Xl,(Zk1 f u l e),(Zk2 f u l e),(Zk3 f u l e)] (.agg (Zk4 f u l e)),.t 7 (Zkd)] ⟨⟨rfl,rfl,by kernel_rfl,by kernel_rfl,.inl ⟨12,Yy,rfl,Nat.le_of_ble_eq_true rfl⟩⟩,⟨⟨rfl,by kernel_rfl⟩,trivial⟩⟩ [0,1] pa (ix (ix trivial))
  have hx9:=vt_s ho9 hk3 hq8
  refine cT (cn (dF hq8)) (sR [] (T.ret (rT ?_)))
  refine eN ⟨(Zkf f u l e k),(Zk5 f u l e)⟩ ?_
  refine X8 (s':=⟨(Zkf f u l e k),(Zka f u l e)⟩) (fun _ _ hG=>Ym (s:=⟨(Zkf f u l e k),(Zk5 f u l e)⟩) (kk2 p2y) ⟨.inl rfl,pZv⟩ hG) ?_
  exact eX [.c 6 3 78 0 78 [dI 0,dI 0,dI 0,dI 0,dI 0,dS [],Zk6,dI 0,dI 0,Zk7,Zk7,Zk8] (.agg Zk9),.t 7 (.one (dI 30))] ⟨⟨rfl,rfl,by kernel_rfl,by kernel_rfl,.inl ⟨12,Yy,rfl,Nat.le_of_ble_eq_true rfl⟩⟩,⟨⟨rfl,by kernel_rfl⟩,trivial⟩⟩ [0,1] pZ0 (ix (ix trivial))
 by_cases hq4:k≠4
 ·refine sR (Xr (hY · (dF hq2)) [5,6,7] (hY 8 (dT hq3)::(hY 9 (dT hq3)::(hS 10 (oY rfl rfl rfl rfl (X3 rfl) (dF hq2) (Wg (b:=(decide (k≠3))) (av:=vB (decide (k≠4))) (X3 rfl) trivial (dT hq3)))::(hY 11 (dF hq2)::(hY 12 (dT hq4)::(hY 13 (dT hq4)::(hS 14 (oY rfl rfl rfl rfl (X3 rfl) (dF hq2) (Wg (b:=(decide (k≠4))) (av:=vB (decide (k≠5))) (X3 rfl) trivial (dT hq4)))::(hP 15 (dF hq2)::[]))))))))) ?_
  by_cases hq5:k≠5
  ·have hx9:=vt_k (f:=f) ho9 ‹_› ‹_› hq5
   refine cT (dT hq5) (sR [] (T.ret (rT ?_)))
   refine eN ⟨(Zkc f u l e k),(Zk5 f u l e)⟩ ?_
   refine X8 (s':=⟨(Zkc f u l e k),(Zka f u l e)⟩) (fun _ _ hG=>Ym (s:=⟨(Zkc f u l e k),(Zk5 f u l e)⟩) p4a ⟨.inl rfl,pZv⟩ hG) ?_
   exact eX [.c 6 3 78 0 78 [dI 0,dI 0,dI 0,dI 0,dI 0,dS [],Zk6,dI 0,dI 0,Zk7,Zk7,Zk8] (.agg Zk9),.t 7 (.one (dI 120))] ⟨⟨rfl,rfl,by kernel_rfl,by kernel_rfl,.inl ⟨12,Yy,rfl,Nat.le_of_ble_eq_true rfl⟩⟩,⟨⟨rfl,by kernel_rfl⟩,trivial⟩⟩ [0,1] pZ0 (ix (ix trivial))
  have hk3:¬(k≠3∧k≠4∧k≠5):=(fun q=>hq5 q.2.2)
  refine cF (dF hq5) (T.skip (nT (T.seq (sR [hR 3 rfl rfl (rCa (Jt f u l e.X2 ‹_› ‹_›) Tryz.func124 [0,1] [(.tmp 37,pv 0 0),(.tmp 39,vI e.X2)] 2 2)] ?_))))
  by_cases hq6:Wm f e.X2
  ·have hx9:=Xax ho9 hk3 hq6
   refine cF (cn (dT hq6)) (T.skip (nT (sR [] (T.ret ?_))))
   exact eX [.c 6 3 78 0 78 [dI (orV (X9 f u l) e).X1,dI (orV (X9 f u l) e).Xb,dI (orV (X9 f u l) e).Xg,dI (orV (X9 f u l) e).Xe,dI (orV (X9 f u l) e).Y3,dS (orV (X9 f u l) e).X6,dU (orV (X9 f u l) e).Xc,dI (orV (X9 f u l) e).X0.Xu,dI (orV (X9 f u l) e).X0.Xl,(Zk1 f u l e),(Zk2 f u l e),(Zk3 f u l e)] (.agg (Zk4 f u l e)),.t 7 (Zkd)] ⟨⟨rfl,rfl,by kernel_rfl,by kernel_rfl,.inl ⟨12,Yy,rfl,Nat.le_of_ble_eq_true rfl⟩⟩,⟨⟨rfl,by kernel_rfl⟩,trivial⟩⟩ [0,1] pa (ix (ix trivial))
  have hx9:=vt_s ho9 hk3 hq6
  refine cT (cn (dF hq6)) (sR [] (T.ret (rT ?_)))
  refine eN ⟨(Zke f u l e k),(Zk5 f u l e)⟩ ?_
  refine X8 (s':=⟨(Zke f u l e k),(Zka f u l e)⟩) (fun _ _ hG=>Ym (s:=⟨(Zke f u l e k),(Zk5 f u l e)⟩) (kk2 p2y) ⟨.inl rfl,pZv⟩ hG) ?_
  exact eX [.c 6 3 78 0 78 [dI 0,dI 0,dI 0,dI 0,dI 0,dS [],Zk6,dI 0,dI 0,Zk7,Zk7,Zk8] (.agg Zk9),.t 7 (.one (dI 30))] ⟨⟨rfl,rfl,by kernel_rfl,by kernel_rfl,.inl ⟨12,Yy,rfl,Nat.le_of_ble_eq_true rfl⟩⟩,⟨⟨rfl,by kernel_rfl⟩,trivial⟩⟩ [0,1] pZ0 (ix (ix trivial))
 have hk3:¬(k≠3∧k≠4∧k≠5):=(fun q=>hq4 q.2.1)
 refine sR (Xr (hY · (dF hq2)) [5,6,7] (hY 8 (dT hq3)::(hY 9 (dT hq3)::(hS 10 (oY rfl rfl rfl rfl (X3 rfl) (dF hq2) (Wg (b:=(decide (k≠3))) (av:=vB (decide (k≠4))) (X3 rfl) trivial (dT hq3)))::(hY 11 (dF hq2)::(hN 12 true (dF hq4)::(hN 13 true (dF hq4)::(hS 14 (oY rfl rfl rfl rfl (X3 rfl) (dF hq2) (Wq (b:=(decide (k≠4))) (av:=vB false) (X3 rfl) ⟨rfl,trivial⟩ (dF hq4)))::(hP 15 (dF hq2)::[]))))))))) (cF (b:=false) rfl (T.skip (nT (T.seq (sR [hR 3 rfl rfl (rCa (Jt f u l e.X2 ‹_› ‹_›) Tryz.func124 [0,1] [(.tmp 37,pv 0 0),(.tmp 39,vI e.X2)] 2 2)] ?_)))))
 by_cases hq7:Wm f e.X2
 ·have hx9:=Xax ho9 hk3 hq7
  refine cF (cn (dT hq7)) (T.skip (nT (sR [] (T.ret ?_))))
  exact eX [.c 6 3 78 0 78 [dI (orV (X9 f u l) e).X1,dI (orV (X9 f u l) e).Xb,dI (orV (X9 f u l) e).Xg,dI (orV (X9 f u l) e).Xe,dI (orV (X9 f u l) e).Y3,dS (orV (X9 f u l) e).X6,dU (orV (X9 f u l) e).Xc,dI (orV (X9 f u l) e).X0.Xu,dI (orV (X9 f u l) e).X0.Xl,(Zk1 f u l e),(Zk2 f u l e),(Zk3 f u l e)] (.agg (Zk4 f u l e)),.t 7 (Zkd)] ⟨⟨rfl,rfl,by kernel_rfl,by kernel_rfl,.inl ⟨12,Yy,rfl,Nat.le_of_ble_eq_true rfl⟩⟩,⟨⟨rfl,by kernel_rfl⟩,trivial⟩⟩ [0,1] pa (ix (ix trivial))
 have hx9:=vt_s ho9 hk3 hq7
 refine cT (cn (dF hq7)) (sR [] (T.ret (rT ?_)))
 refine eN ⟨(Zkf f u l e k),(Zk5 f u l e)⟩ ?_
 refine X8 (s':=⟨(Zkf f u l e k),(Zka f u l e)⟩) (fun _ _ hG=>Ym (s:=⟨(Zkf f u l e k),(Zk5 f u l e)⟩) (kk2 p2y) ⟨.inl rfl,pZv⟩ hG) ?_
 exact eX [.c 6 3 78 0 78 [dI 0,dI 0,dI 0,dI 0,dI 0,dS [],Zk6,dI 0,dI 0,Zk7,Zk7,Zk8] (.agg Zk9),.t 7 (.one (dI 30))] ⟨⟨rfl,rfl,by kernel_rfl,by kernel_rfl,.inl ⟨12,Yy,rfl,Nat.le_of_ble_eq_true rfl⟩⟩,⟨⟨rfl,by kernel_rfl⟩,trivial⟩⟩ [0,1] pZ0 (ix (ix trivial))
theorem Xl0 (tm:Bool) (m:aM) (s:Int) (tp:Bool) (p:aM) (kind:Int) (tc:Bool) (c:aC):Holds Tryz.prog 154 ⟨[.tv (.agg [dI m.X1,dI m.Xb,dI m.Xg,dI m.Xe,dI m.Y3,dS m.X6,.d (dsl tm false kU8 m.Xc),dI m.X0.Xu,dI m.X0.Xl,.d (dsl tm false (kE tm) m.Xa),.d (dsl tm false (kE tm) m.Xw),.d (dsl tm false (kC tm) m.X5)]),vI s,pv 0 0,pv 1 0,pv 2 0],[.box 78 [dI p.X1,dI p.Xb,dI p.Xg,dI p.Xe,dI p.Y3,dS p.X6,.d (dsl tp false kU8 p.Xc),dI p.X0.Xu,dI p.X0.Xl,.d (dsl tp false (kE tp) p.Xa),.d (dsl tp false (kE tp) p.Xw),.d (dsl tp false (kC tp) p.X5)],.box 3 [dI kind],.box 86 [dI c.Yf.X2,.d (dsl tc false kU8 c.Yf.X7),.d (dsl tc false (kE tc) c.Xo)]],vI (X1f p kind c.Yf.X2 m s),[.live (.box 78 [dI p.X1,dI p.Xb,dI p.Xg,dI p.Xe,dI p.Y3,dS p.X6,.d (dsl tp false kU8 p.Xc),dI p.X0.Xu,dI p.X0.Xl,.d (dsl tp false (kE tp) p.Xa),.d (dsl tp false (kE tp) p.Xw),.d (dsl tp false (kC tp) p.X5)]),.live (.box 3 [dI kind]),.live (.box 86 [dI c.Yf.X2,.d (dsl tc false kU8 c.Yf.X7),.d (dsl tc false (kE tc) c.Xo)])]⟩:=by
 refine Holds.of Tryz.func154 rfl (N:=36) Tryz.ntmps154 rfl fun w0 B0 S0 U0=>?_
 show T _ (Y5 36 3 w0 S0 U0 B0) ⟨[.tv (.agg [dI m.X1,dI m.Xb,dI m.Xg,dI m.Xe,dI m.Y3,dS m.X6,.d (dsl tm false kU8 m.Xc),dI m.X0.Xu,dI m.X0.Xl,.d (dsl tm false (kE tm) m.Xa),.d (dsl tm false (kE tm) m.Xw),.d (dsl tm false (kC tm) m.X5)]),vI s,pv 0 0,pv 1 0,pv 2 0],[.live (.box 78 [dI p.X1,dI p.Xb,dI p.Xg,dI p.Xe,dI p.Y3,dS p.X6,.d (dsl tp false kU8 p.Xc),dI p.X0.Xu,dI p.X0.Xl,.d (dsl tp false (kE tp) p.Xa),.d (dsl tp false (kE tp) p.Xw),.d (dsl tp false (kC tp) p.X5)]),.live (.box 3 [dI kind]),.live (.box 86 [dI c.Yf.X2,.d (dsl tc false kU8 c.Yf.X7),.d (dsl tc false (kE tc) c.Xo)])]⟩ _ _
 refine sR [] (T.seq (T.block (sR [] ?_)))
 by_cases hq1:m.Xb≠p.Xb
 ·refine cT (dT hq1) (sR [] (T.ret (rB (rT ?_))))
  exact eRt 7 (.one (dI 130)) [0,1,2] (by have e1:((X1f p kind c.Yf.X2 m s):Int)=130:=p3t;have hE:=cI e1;exact hE) (ix (ix (ix trivial)))
 refine cF (dF hq1) (sR [] ?_)
 by_cases hq2:m.Xg≠p.Xg
 ·refine cT (dT hq2) (sR [] (T.ret (rB (rT ?_))))
  exact eRt 7 (.one (dI 131)) [0,1,2] (by have e1:((X1f p kind c.Yf.X2 m s):Int)=131:=p3t;have hE:=cI e1;exact hE) (ix (ix (ix trivial)))
 refine cF (dF hq2) (sR [] ?_)
 by_cases hq3:m.X6≠p.X6
 ·refine cT (dT hq3) (sR [] (T.ret (rB (rT ?_))))
  exact eRt 7 (.one (dI 132)) [0,1,2] (by have e1:((X1f p kind c.Yf.X2 m s):Int)=132:=p3t;have hE:=cI e1;exact hE) (ix (ix (ix trivial)))
 refine cF (dF hq3) ?_
 by_cases hq4:kind=3
 ·refine sR (Xr (hY · (dT hq4)) [3,4,5,6,7] (hP 8 (dT hq4)::[])) ?_
  by_cases hq5:s=c.Yf.X2
  ·refine cT (dT hq5) (sR [] (T.ret (rB (rT ?_))))
   exact eRt 7 (.one (dI 133)) [0,1,2] (by have e1:((X1f p kind c.Yf.X2 m s):Int)=133:=p3t;have hE:=cI e1;exact hE) (ix (ix (ix trivial)))
  refine cF (dF hq5) (T.skip (nB (nT (sR [] (T.ret ?_)))))
  exact eRt 7 (.one (dI 0)) [0,1,2] p4l (ix (ix (ix trivial)))
 refine sR (Xr (hN · true (dF hq4)) [3,4,5,6,7] (hP 8 (dF hq4)::[])) (cF (b:=false) rfl (T.skip (nB (nT (sR [] (T.ret ?_))))))
 exact eRt 7 (.one (dI 0)) [0,1,2] p4l (ix (ix (ix trivial)))
end Go.Proofs.YtnaopgohccacmaaGreat.Q
