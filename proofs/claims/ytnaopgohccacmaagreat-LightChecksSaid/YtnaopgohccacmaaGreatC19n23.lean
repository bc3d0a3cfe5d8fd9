import Derived.Test.YtnaopgohccacmaaGreatC19n22
namespace Go.Proofs.YtnaopgohccacmaaGreat.Q
set_option linter.unusedVariables false
set_option linter.unusedSimpArgs false
set_option maxRecDepth 100000
structure RdL where
  rest:List UInt8
  e:Int
  l:List aE
structure RdC where
  rest:List UInt8
  e:Int
  l:List aC
structure RdM where
  rest:List UInt8
  e:Int
  m:aM
section
variable (M N:Int) (r:List UInt8) (e:Int)
def evR:List UInt8:=Vw (rdR r e 8 0) (rdE r e 8 0) M
def evE:Int:=V5 (rdR r e 8 0) (rdE r e 8 0) M
def evV:aE:=⟨rdI r e,rdY (rdR r e 8 0) (rdE r e 8 0) M⟩
def stepL (s:RdL):RdL:=⟨evR M s.rest s.e,evE M s.rest s.e,s.l++[evV M s.rest s.e]⟩
def Vm:Nat→RdL
  | 0=>⟨rdR r e 4 (Yu 15 (r.take 4)),rdE r e 4 (Yu 15 (r.take 4)),[]⟩
  | k+1=>stepL M (Vm k)
def Uq:RdL:=Vm M r e (rdC r e 15)
def stepC (s:RdC):RdC:=⟨(Uq M (evR M s.rest s.e) (evE M s.rest s.e)).rest,(Uq M (evR M s.rest s.e) (evE M s.rest s.e)).e,s.l++[⟨evV M s.rest s.e,(Uq M (evR M s.rest s.e) (evE M s.rest s.e)).l⟩]⟩
def Wb:Nat→RdC
  | 0=>⟨rdR r e 4 (Yu 8 (r.take 4)),rdE r e 4 (Yu 8 (r.take 4)),[]⟩
  | k+1=>stepC M (Wb k)
def X03:RdC:=Wb M r e (rdC r e 8)
def mk0 (k:Int):aM:=⟨k,0,0,0,0,[],[],⟨0,0⟩,[],[],[]⟩
def V3 (s:RdM):Nat→RdM
  | 0=>⟨rdR s.rest s.e 8 0,rdE s.rest s.e 8 0,⟨s.m.X2,rdI s.rest s.e,s.m.Xo,s.m.Xi,s.m.Yj,s.m.X8,s.m.Xa,s.m.X1,s.m.Xp,s.m.Y5,s.m.X5⟩⟩
  | 1=>⟨rdR s.rest s.e 8 0,rdE s.rest s.e 8 0,⟨s.m.X2,s.m.Y1,rdI s.rest s.e,s.m.Xi,s.m.Yj,s.m.X8,s.m.Xa,s.m.X1,s.m.Xp,s.m.Y5,s.m.X5⟩⟩
  | 2=>⟨rdR (rdR s.rest s.e 8 0) (rdE s.rest s.e 8 0) 8 0,rdE (rdR s.rest s.e 8 0) (rdE s.rest s.e 8 0) 8 0,⟨s.m.X2,s.m.Y1,s.m.Xo,rdI s.rest s.e,rdI (rdR s.rest s.e 8 0) (rdE s.rest s.e 8 0),s.m.X8,s.m.Xa,s.m.X1,s.m.Xp,s.m.Y5,s.m.X5⟩⟩
  | 3=>⟨Vw s.rest s.e M,V5 s.rest s.e M,⟨s.m.X2,s.m.Y1,s.m.Xo,s.m.Xi,s.m.Yj,rdY s.rest s.e M,s.m.Xa,s.m.X1,s.m.Xp,s.m.Y5,s.m.X5⟩⟩
  | 4=>⟨Vw s.rest s.e M,V5 s.rest s.e M,⟨s.m.X2,s.m.Y1,s.m.Xo,s.m.Xi,s.m.Yj,s.m.X8,rdY s.rest s.e M,s.m.X1,s.m.Xp,s.m.Y5,s.m.X5⟩⟩
  | 5=>⟨rdR (rdR s.rest s.e 8 0) (rdE s.rest s.e 8 0) 8 0,rdE (rdR s.rest s.e 8 0) (rdE s.rest s.e 8 0) 8 0,⟨s.m.X2,s.m.Y1,s.m.Xo,s.m.Xi,s.m.Yj,s.m.X8,s.m.Xa,⟨rdI s.rest s.e,rdI (rdR s.rest s.e 8 0) (rdE s.rest s.e 8 0)⟩,s.m.Xp,s.m.Y5,s.m.X5⟩⟩
  | 6=>⟨(Uq N s.rest s.e).rest,(Uq N s.rest s.e).e,⟨s.m.X2,s.m.Y1,s.m.Xo,s.m.Xi,s.m.Yj,s.m.X8,s.m.Xa,s.m.X1,(Uq N s.rest s.e).l,s.m.Y5,s.m.X5⟩⟩
  | 7=>⟨(Uq N s.rest s.e).rest,(Uq N s.rest s.e).e,⟨s.m.X2,s.m.Y1,s.m.Xo,s.m.Xi,s.m.Yj,s.m.X8,s.m.Xa,s.m.X1,s.m.Xp,(Uq N s.rest s.e).l,s.m.X5⟩⟩
  | 8=>⟨(X03 N s.rest s.e).rest,(X03 N s.rest s.e).e,⟨s.m.X2,s.m.Y1,s.m.Xo,s.m.Xi,s.m.Yj,s.m.X8,s.m.Xa,s.m.X1,s.m.Xp,s.m.Y5,(X03 N s.rest s.e).l⟩⟩
  | _=>s
def Xx (k:Int):Nat→RdM
  | 0=>⟨r,e,mk0 k⟩
  | j+1=>if Uz (Xj k) j=true then V3 M N (Xx k j) j else Xx k j
end
def X67 (M N:Int) (b:List UInt8):RdM:=Xx M N (rdR b 0 8 0) (rdE b 0 8 0) (rdI b 0) 9
def okD (M N:Int) (b:List UInt8):Prop:=b.length≤16777216∧okK (rdI b 0)∧rdX (X67 M N b).rest (X67 M N b).e=0∧X6h (X67 M N b).m
instance (M N:Int) (b:List UInt8):Decidable (okD M N b):=by unfold okD;infer_instance
def decW (M N:Int) (b:List UInt8):aM:=if okD M N b then (X67 M N b).m else zM
def decX (M N:Int) (b:List UInt8):Int:=if b.length>16777216 then 11 else if okD M N b then 0 else 12
def Wl (b:List UInt8):aM:=decW ((b.length:Nat):Int) 16777216 b
def X0w (b:List UInt8):Int:=decX ((b.length:Nat):Int) 16777216 b
section
variable {M N:Int} {r B:List UInt8} {e:Int}
theorem X7v (M:Int) (r:List UInt8) (e:Int):(evR M r e).length≤r.length:=Nat.le_trans (X1n _ _ _) (U3 _ _ _ _)
theorem Fi (M:Int) (r:List UInt8) (e:Int):∀ k,(Vm M r e k).rest.length≤r.length∧(Vm M r e k).l.length=k
  | 0=>⟨U3 _ _ _ _,rfl⟩
  | k+1=>by
    obtain ⟨h1,h2⟩:=Fi M r e k
    refine ⟨Nat.le_trans (X7v _ _ _) h1,?_⟩
    show ((Vm M r e k).l++[_]).length=_
    rw [List.length_append,List.length_singleton,h2]
theorem X2m (r:List UInt8) (e:Int) (n:Nat):rdC r e ((n:Nat):Int)≤n:=by
  unfold rdC
  split
  · rename_i h
    have h3:=h.2.2
    unfold Yu at h3
    split at h3
    · cases h3
    · omega
  · exact Nat.zero_le _
theorem X02 (M:Int) (r:List UInt8) (e:Int):(Uq M r e).rest.length≤r.length∧(Uq M r e).l.length≤15:=⟨(Fi _ _ _ _).1,by rw [Uq,(Fi _ _ _ _).2];exact X2m r e 15⟩
theorem Hw (M:Int) (r:List UInt8) (e:Int):∀ k,(Wb M r e k).rest.length≤r.length∧(Wb M r e k).l.length=k
  | 0=>⟨U3 _ _ _ _,rfl⟩
  | k+1=>by
    obtain ⟨h1,h2⟩:=Hw M r e k
    refine ⟨Nat.le_trans (X02 _ _ _).1 (Nat.le_trans (X7v _ _ _) h1),?_⟩
    show ((Wb M r e k).l++[_]).length=_
    rw [List.length_append,List.length_singleton,h2]
theorem Xes (M:Int) (r:List UInt8) (e:Int):(X03 M r e).rest.length≤r.length∧(X03 M r e).l.length≤8:=⟨(Hw _ _ _ _).1,by rw [X03,(Hw _ _ _ _).2];exact X2m r e 8⟩
theorem sufE (h:r <:+ B):evR M r e <:+ B:=sufY (sufR h)
theorem sufL (h:r <:+ B):∀ k,(Vm M r e k).rest <:+ B
  | 0=>sufR h
  | k+1=>sufE (sufL h k)
theorem sufF (h:r <:+ B):(Uq M r e).rest <:+ B:=sufL h _
theorem sufC (h:r <:+ B):∀ k,(Wb M r e k).rest <:+ B
  | 0=>sufR h
  | k+1=>sufF (sufE (sufC h k))
theorem sufG (h:r <:+ B):(X03 M r e).rest <:+ B:=sufC h _
theorem Uv {k:Int} {j i:Nat} (h:j=i) (hb:Uz (Xj k) j=true):Xx M N r e k (j+1)=V3 M N (Xx M N r e k j) i:=by subst h;rw [Xx,if_pos hb]
theorem Ej {k:Int} {j:Nat} (hb:¬Uz (Xj k) j=true):Xx M N r e k (j+1)=Xx M N r e k j:=by rw [Xx,if_neg hb]
theorem Xip (s:RdM) (j:Nat):(V3 M N s j).rest.length≤s.rest.length:=by
  rcases (by omega:j=0∨j=1∨j=2∨j=3∨j=4∨j=5∨j=6∨j=7∨j=8∨9≤j) with h|h|h|h|h|h|h|h|h|h
  · subst h;exact U3 _ _ _ _
  · subst h;exact U3 _ _ _ _
  · subst h;exact Nat.le_trans (U3 _ _ _ _) (U3 _ _ _ _)
  · subst h;exact X1n _ _ _
  · subst h;exact X1n _ _ _
  · subst h;exact Nat.le_trans (U3 _ _ _ _) (U3 _ _ _ _)
  · subst h;exact (X02 _ _ _).1
  · subst h;exact (X02 _ _ _).1
  · subst h;exact (Xes _ _ _).1
  · obtain ⟨i,rfl⟩:∃ i,j=i+9:=⟨j-9,by omega⟩
    exact Nat.le_refl _
theorem Eu (M N:Int) (r:List UInt8) (e k:Int):∀ j,(Xx M N r e k j).rest.length≤r.length
  | 0=>Nat.le_refl _
  | j+1=>by
    rw [Xx]
    split
    · exact Nat.le_trans (Xip _ _) (Eu M N r e k j)
    · exact Eu M N r e k j
theorem Xio {s:RdM} (h:s.rest <:+ B) (j:Nat):(V3 M N s j).rest <:+ B:=by
  rcases (by omega:j=0∨j=1∨j=2∨j=3∨j=4∨j=5∨j=6∨j=7∨j=8∨9≤j) with q|q|q|q|q|q|q|q|q|q
  · subst q;exact sufR h
  · subst q;exact sufR h
  · subst q;exact sufR (sufR h)
  · subst q;exact sufY h
  · subst q;exact sufY h
  · subst q;exact sufR (sufR h)
  · subst q;exact sufF h
  · subst q;exact sufF h
  · subst q;exact sufG h
  · obtain ⟨i,rfl⟩:∃ i,j=i+9:=⟨j-9,by omega⟩
    exact h
theorem sufM (M N:Int) (e k:Int) (h:r <:+ B):∀ j,(Xx M N r e k j).rest <:+ B
  | 0=>h
  | j+1=>by
    rw [Xx]
    split
    · exact Xio (sufM M N e k h j) j
    · exact sufM M N e k h j
def fitM (n:Nat) (m:aM):Prop:=m.Xp.length≤15∧m.Y5.length≤15∧m.X5.length≤8∧m.Xa.length≤n∧m.X8.length≤n
theorem Xiq {n:Nat} {s:RdM} (h:fitM n s.m) (hl:s.rest.length≤n) (j:Nat):fitM n (V3 M N s j).m:=by
  obtain ⟨h1,h2,h3,h4,h5⟩:=h
  rcases (by omega:j=0∨j=1∨j=2∨j=3∨j=4∨j=5∨j=6∨j=7∨j=8∨9≤j) with h|h|h|h|h|h|h|h|h|h
  · subst h;exact ⟨h1,h2,h3,h4,h5⟩
  · subst h;exact ⟨h1,h2,h3,h4,h5⟩
  · subst h;exact ⟨h1,h2,h3,h4,h5⟩
  · subst h;exact ⟨h1,h2,h3,h4,Nat.le_trans (X0i _ _ _) hl⟩
  · subst h;exact ⟨h1,h2,h3,Nat.le_trans (X0i _ _ _) hl,h5⟩
  · subst h;exact ⟨h1,h2,h3,h4,h5⟩
  · subst h;exact ⟨(X02 _ _ _).2,h2,h3,h4,h5⟩
  · subst h;exact ⟨h1,(X02 _ _ _).2,h3,h4,h5⟩
  · subst h;exact ⟨h1,h2,(Xes _ _ _).2,h4,h5⟩
  · obtain ⟨i,rfl⟩:∃ i,j=i+9:=⟨j-9,by omega⟩
    exact ⟨h1,h2,h3,h4,h5⟩
theorem X4f (M N:Int) (r:List UInt8) (e k:Int):∀ j,fitM r.length (Xx M N r e k j).m
  | 0=>⟨Nat.zero_le _,Nat.zero_le _,Nat.zero_le _,Nat.zero_le _,Nat.zero_le _⟩
  | j+1=>by
    rw [Xx]
    split
    · exact Xiq (X4f M N r e k j) (Eu _ _ _ _ _ _) j
    · exact X4f M N r e k j
end
theorem X6a {M N:Int} {b:List UInt8} (h:¬okD M N b) (hl:¬b.length>16777216):decW M N b=zM∧decX M N b=12:=⟨if_neg h,by rw [decX,if_neg hl,if_neg h]⟩
theorem Xi7 {M N:Int} {b:List UInt8} (h:okD M N b):decW M N b=(X67 M N b).m∧decX M N b=0:=⟨if_pos h,by rw [decX,if_neg (by have:=h.1;omega),if_pos h]⟩
theorem Xf2 {M N:Int} {b:List UInt8} (h:b.length>16777216):decW M N b=zM∧decX M N b=11:=⟨if_neg (fun q=>by have:=q.1;omega),if_pos h⟩
end Go.Proofs.YtnaopgohccacmaaGreat.Q
namespace Go.Proofs.YtnaopgohccacmaaGreat.Q
set_option linter.unusedVariables false
set_option linter.unusedSimpArgs false
set_option maxRecDepth 100000
section
variable {M M':Int} {r:List UInt8} {e:Int}
theorem Jm {n m:Int} (h:rdE r e n m=0):e=0:=(X5y h).1
theorem X1o (h:V5 r e M=0):e=0:=(X7r.1 h).1.1
theorem ev_any (hM:((r.length:Nat):Int)≤M) (hM':((r.length:Nat):Int)≤M') (h:evE M r e=0):e=0∧evE M' r e=0∧evR M' r e=evR M r e∧evV M' r e=evV M r e:=by
  have hl:=U3 r e 8 0
  obtain ⟨a1,a2,a3⟩:=X4p (M':=M') (show (((rdR r e 8 0).length:Nat):Int)≤M by omega) (by omega) h
  exact ⟨Jm (X1o h),a1,a3,by unfold evV;rw [a2]⟩
theorem Xdh (hM:((r.length:Nat):Int)≤M) (hM':((r.length:Nat):Int)≤M'):∀ k,(Vm M r e k).e=0→e=0∧Vm M' r e k=Vm M r e k
  | 0,h=>⟨Jm h,rfl⟩
  | k+1,h=>by
    have hl:=(Fi M r e k).1
    obtain ⟨a1,a2,a3,a4⟩:=ev_any (M':=M') (show (((Vm M r e k).rest.length:Nat):Int)≤M by omega) (by omega) h
    obtain ⟨b1,b2⟩:=Xdh hM hM' k a1
    refine ⟨b1,?_⟩
    show stepL M' (Vm M' r e k)=stepL M (Vm M r e k)
    rw [b2]
    unfold stepL
    rw [a2,a3,a4,show evE M (Vm M r e k).rest (Vm M r e k).e=0 from h]
theorem X9p (hM:((r.length:Nat):Int)≤M) (hM':((r.length:Nat):Int)≤M') (h:(Uq M r e).e=0):e=0∧Uq M' r e=Uq M r e:=Xdh hM hM' _ h
theorem Xdi (hM:((r.length:Nat):Int)≤M) (hM':((r.length:Nat):Int)≤M'):∀ k,(Wb M r e k).e=0→e=0∧Wb M' r e k=Wb M r e k
  | 0,h=>⟨Jm h,rfl⟩
  | k+1,h=>by
    have hl:=(Hw M r e k).1
    have hl2:=X7v M (Wb M r e k).rest (Wb M r e k).e
    obtain ⟨c1,c2⟩:=X9p (M':=M') (show (((evR M (Wb M r e k).rest (Wb M r e k).e).length:Nat):Int)≤M by omega) (by omega) h
    obtain ⟨a1,a2,a3,a4⟩:=ev_any (M':=M') (show (((Wb M r e k).rest.length:Nat):Int)≤M by omega) (by omega) c1
    obtain ⟨b1,b2⟩:=Xdi hM hM' k a1
    refine ⟨b1,?_⟩
    show stepC M' (Wb M' r e k)=stepC M (Wb M r e k)
    rw [b2]
    unfold stepC
    rw [a2,a3,a4,← c1,c2]
theorem finC_any (hM:((r.length:Nat):Int)≤M) (hM':((r.length:Nat):Int)≤M') (h:(X03 M r e).e=0):e=0∧X03 M' r e=X03 M r e:=Xdi hM hM' _ h
theorem Xis {N N':Int} {s:RdM} (hM:((s.rest.length:Nat):Int)≤M) (hM':((s.rest.length:Nat):Int)≤M') (hN:((s.rest.length:Nat):Int)≤N) (hN':((s.rest.length:Nat):Int)≤N') (j:Nat) (h:(V3 M N s j).e=0):s.e=0∧V3 M' N' s j=V3 M N s j:=by
  rcases (by omega:j=0∨j=1∨j=2∨j=3∨j=4∨j=5∨j=6∨j=7∨j=8∨9≤j) with q|q|q|q|q|q|q|q|q|q
  · subst q;exact ⟨Jm h,rfl⟩
  · subst q;exact ⟨Jm h,rfl⟩
  · subst q;exact ⟨Jm (Jm h),rfl⟩
  · subst q
    obtain ⟨a1,a2,a3⟩:=X4p (M':=M') hM hM' h
    refine ⟨X1o h,?_⟩
    simp only [V3]
    rw [a1,a2,a3,show V5 s.rest s.e M=0 from h]
  · subst q
    obtain ⟨a1,a2,a3⟩:=X4p (M':=M') hM hM' h
    refine ⟨X1o h,?_⟩
    simp only [V3]
    rw [a1,a2,a3,show V5 s.rest s.e M=0 from h]
  · subst q;exact ⟨Jm (Jm h),rfl⟩
  · subst q
    obtain ⟨a1,a2⟩:=X9p hN hN' h
    exact ⟨a1,by simp only [V3];rw [a2]⟩
  · subst q
    obtain ⟨a1,a2⟩:=X9p hN hN' h
    exact ⟨a1,by simp only [V3];rw [a2]⟩
  · subst q
    obtain ⟨a1,a2⟩:=finC_any hN hN' h
    exact ⟨a1,by simp only [V3];rw [a2]⟩
  · obtain ⟨i,rfl⟩:∃ i,j=i+9:=⟨j-9,by omega⟩
    exact ⟨h,rfl⟩
theorem X8m {N N':Int} {k:Int} (hM:((r.length:Nat):Int)≤M) (hM':((r.length:Nat):Int)≤M') (hN:((r.length:Nat):Int)≤N) (hN':((r.length:Nat):Int)≤N'):∀ j,(Xx M N r e k j).e=0→Xx M' N' r e k j=Xx M N r e k j
  | 0,_=>rfl
  | j+1,h=>by
    have hl:=Eu M N r e k j
    rw [Xx] at h ⊢
    rw [Xx]
    split
    · rename_i hb
      rw [if_pos hb] at h
      obtain ⟨a1,a2⟩:=Xis (M':=M') (N':=N') (by omega) (by omega) (by omega) (by omega) j h
      rw [X8m hM hM' hN hN' j a1,a2]
    · rename_i hb
      rw [if_neg hb] at h
      exact X8m hM hM' hN hN' j h
end
theorem Xhr {M N M' N':Int} {b:List UInt8} (hM:((b.length:Nat):Int)≤M) (hM':((b.length:Nat):Int)≤M') (hN:((b.length:Nat):Int)≤N) (hN':((b.length:Nat):Int)≤N') (h:okD M N b):X67 M' N' b=X67 M N b∧okD M' N' b:=by
  have hl:=U3 b 0 8 0
  have e:=X8m (r:=rdR b 0 8 0) (e:=rdE b 0 8 0) (k:=rdI b 0) (M:=M) (M':=M') (N:=N) (N':=N') (by omega) (by omega) (by omega) (by omega) 9 (rdX_ok h.2.2.1).1
  have e':X67 M' N' b=X67 M N b:=e
  exact ⟨e',h.1,h.2.1,by rw [e'];exact h.2.2.1,by rw [e'];exact h.2.2.2⟩
theorem Xf3 {b:List UInt8} (h:okD 1099511627776 1099511627776 b):Wl b=(X67 1099511627776 1099511627776 b).m∧X0w b=0:=by
  have hl:=h.1
  obtain ⟨e,h2⟩:=Xhr (M':=((b.length:Nat):Int)) (N':=16777216) (by omega) (by omega) (by omega) (by omega) h
  rw [← e]
  exact Xi7 h2
theorem X9w {b:List UInt8} (h:¬okD 1099511627776 1099511627776 b) (hb:¬b.length>16777216):Wl b=zM∧X0w b=12 :=
  X6a (fun q=>h (Xhr (by omega) (by omega) (by omega) (by omega) q).2) hb
end Go.Proofs.YtnaopgohccacmaaGreat.Q
namespace Go.Proofs.YtnaopgohccacmaaGreat.Q
set_option linter.unusedVariables false
theorem X8h {M N:Int} {r:List UInt8} {e k:Int}:∀ j,j≤8→(Xx M N r e k j).m.X5=[]
  | 0,_=>rfl
  | j+1,hj=>by
    have ih:=X8h (M:=M) (N:=N) (r:=r) (e:=e) (k:=k) j (by omega)
    rw [Xx]
    split
    · rcases (by omega:j=0∨j=1∨j=2∨j=3∨j=4∨j=5∨j=6∨j=7) with q|q|q|q|q|q|q|q<;>subst q<;>exact ih
    · exact ih
end Go.Proofs.YtnaopgohccacmaaGreat.Q
namespace Go.Proofs.YtnaopgohccacmaaGreat.Q
open Go Go.RowKit
set_option linter.unusedVariables false
set_option linter.unusedSimpArgs false
set_option maxRecDepth 100000
set_option maxHeartbeats 4000000
theorem I6 (rest:List UInt8) (e:Int) (hr:rest.length≤100000000):Holds Tryz.prog 194 ⟨[.tv (.agg [.ptr 0 0])],[.box 195 [dU rest,dI e]],vI (rdI rest e),[.live (.box 195 [dU (rdR rest e 8 0),dI (rdE rest e 8 0)])]⟩:=by
 refine Holds.of Tryz.func194 rfl (N:=6) Tryz.ntmps194 rfl fun w0 B0 S0 U0=>?_
 show T _ (Y2 6 1 w0 S0 U0 B0) ⟨[.tv (.agg [.ptr 0 0])],[.live (.box 195 [dU rest,dI e])]⟩ _ _
 refine sR [] ?_
 refine sR [hR 2 rfl rfl (rCa (rd_Int rest e (by omega)) Tryz.func105 [0] [(.tmp 4,pv 0 0)] 1 1)] ?_
 refine T.ret ?_
 exact eRt 2 (.one (dI (rdI rest e))) [0] rfl (ix trivial)
section
variable (rest:List UInt8) (e:Int)
abbrev Zam:List AV:=[.tv (.agg [.ptr 0 0]),pv 1 0,pv 2 0,pv 3 0]
abbrev Zan:HS:=.live (.box 195 [dU (Vw (rdR rest e 8 0) (rdE rest e 8 0) 16777216),dI (V5 (rdR rest e 8 0) (rdE rest e 8 0) 16777216)])
abbrev Zao:St:=⟨Zam,[(Zan rest e),.live (.box 240 [.ptr 0 0]),.live (.box 43 [dI 0,.d (.val (.slice none 0 0))]),.live (.box 43 [dI (rdI rest e),.own 4 kU8.sz 0 (rdY (rdR rest e 8 0) (rdE rest e 8 0) 16777216).length]),.live (Xe 5 kU8 (rdY (rdR rest e 8 0) (rdE rest e 8 0) 16777216))]⟩
abbrev Zap:SV:=dU (rdY (rdR rest e 8 0) (rdE rest e 8 0) 16777216)
end
theorem X48 (rest:List UInt8) (e:Int) (hr:rest.length≤100000000):Holds Tryz.prog 199 ⟨[.tv (.agg [.ptr 0 0])],[.box 195 [dU rest,dI e]],.tv (.agg [dI (evV 16777216 rest e).X4,dU (evV 16777216 rest e).Xf]),[.live (.box 195 [dU (evR 16777216 rest e),dI (evE 16777216 rest e)])]⟩:=by
 refine Holds.of Tryz.func199 rfl (N:=12) Tryz.ntmps199 rfl fun w0 B0 S0 U0=>?_
 show T _ (Y2 12 1 w0 S0 U0 B0) ⟨[.tv (.agg [.ptr 0 0])],[.live (.box 195 [dU rest,dI e])]⟩ _ _
 have hr1:=U3 rest e 8 0
 have hr2:=X0i (rdR rest e 8 0) (rdE rest e 8 0) 16777216
 refine sR [] ?_
 refine sR [hR 1 rfl rfl (rCa (I6 rest e ‹_›) Tryz.func194 [0] [(.tmp 4,.tv (.agg [.ptr 0 0]))] 1 1)] ?_
 refine sR [hR 2 rfl rfl (rCa (X1m (rdR rest e 8 0) (rdE rest e 8 0) 16777216 (by omega)) Tryz.func106 [0,4] [(.tmp 8,pv 0 0),(.const (.int .i64 16777216),vI 16777216)] 1 2)] ?_
 refine tN (Zao rest e) ?_
 refine Wv (s':=⟨Zam,[(Zan rest e),.live (.box 240 [.ptr 0 0]),.live (.box 43 [dI 0,.d (.val (.slice none 0 0))]),.live (.box 43 [dI (rdI rest e),(Zap rest e)]),.dead]⟩) (fun _ _ hG=>Gs.freeze (s:=(Zao rest e)) 4 (el:=W6 kU8 (rdY (rdR rest e 8 0) (rdE rest e 8 0) 16777216)) (sz:=kU8.sz) (n:=(rdY (rdR rest e 8 0) (rdE rest e 8 0) 16777216).length) rfl (kk4 trivial) ⟨pc,⟨pc,⟨pc,⟨p36,⟨(.inl ⟨rfl,rfl⟩),trivial⟩⟩⟩⟩⟩ hG) ?_
 refine sR [] ?_
 refine T.ret ?_
 exact eX [.c 2 2 43 0 43 [dI (rdI rest e),(Zap rest e)] (.agg [dI (rdI rest e),(Zap rest e)])] ⟨⟨rfl,rfl,by kernel_rfl,by kernel_rfl,.inl ⟨2,F8,rfl,Nat.le_of_ble_eq_true rfl⟩⟩,trivial⟩ [0] (cg2 (fun (q1:Int) (q2:List UInt8)=>(.tv (.agg [dI q1,dU q2]):AV)) (by rfl) (by rfl)) ⟨⟨rfl,(by have e1:((Vw (rdR rest e 8 0) (rdE rest e 8 0) 16777216):List UInt8)=(evR 16777216 rest e):=(by rfl);have e2:((V5 (rdR rest e 8 0) (rdE rest e 8 0) 16777216):Int)=(evE 16777216 rest e):=(by rfl);have hE:=congr pZ18 e2;exact Eq.trans pZ7 hE)⟩,trivial⟩
section
variable (rest:List UInt8) (e:Int) (k:Nat)
abbrev Zaq:AV:=vI ((rdC rest e 15:Nat):Int)
abbrev Zar:HS:=.live (.box 195 [dU (rdR rest e 4 (Yu 15 (rest.take 4))),dI (rdE rest e 4 (Yu 15 (rest.take 4)))])
abbrev Zas:HS:=.live (.box 240 [.ptr 0 0])
abbrev Zat:=(Vm 16777216 rest e k)
abbrev Zau:List HS:=[.live (.box 195 [dU (Zat rest e k).rest,dI (Zat rest e k).e]),Zas,.live (Xe 43 (kE false) (Zat rest e k).l)]
abbrev Zav:St:=⟨[aa,pv 1 0,Y9 2 (kE false) 0 (Zat rest e k).l.length,aa,aa,(Zaq rest e),vI ((k:Nat):Int)],(Zau rest e k)⟩
abbrev Zay:=(evV 16777216 (Zat rest e k).rest (Zat rest e k).e)
abbrev Zaz:AV:=vI ((k+1:Nat):Int)
abbrev Zb0:List HS:=[.live (.box 195 [dU (Vm 16777216 rest e (k+1)).rest,dI (Vm 16777216 rest e (k+1)).e]),Zas,.live (Xe 43 (kE false) (Vm 16777216 rest e (k+1)).l)]
abbrev Zb1:St:=⟨[aa,pv 1 0,Y9 2 (kE false) 0 (Zat rest e k).l.length,aa,aa,(Zaq rest e),vI ((k:Nat):Int),vB (decide (((k:Nat):Int)<((rdC rest e 15:Nat):Int)))],(Zau rest e k)⟩
end
theorem X8a (rest:List UInt8) (e:Int) (hr:rest.length≤100000000):Holds Tryz.prog 196 ⟨[.tv (.agg [.ptr 0 0])],[.box 195 [dU rest,dI e]],slV false false (kE false) (Uq 16777216 rest e).l,[.live (.box 195 [dU (Uq 16777216 rest e).rest,dI (Uq 16777216 rest e).e])]⟩:=by
 refine Holds.of Tryz.func196 rfl (N:=15) Tryz.ntmps196 rfl fun w0 B0 S0 U0=>?_
 show T _ (Y2 15 1 w0 S0 U0 B0) ⟨[.tv (.agg [.ptr 0 0])],[.live (.box 195 [dU rest,dI e])]⟩ _ _
 have hr1:=U3 rest e 4 (Yu 15 (rest.take 4))
 refine sR [] ?_
 refine T.seq ?_
 refine sR [hR 2 rfl rfl (rCa (X93 rest e 15 (by omega)) Tryz.func147 [0] [(.tmp 4,pv 0 0),(.const (.int .i64 15),vI 15)] 1 1)] ?_
 refine T.block ?_
 refine tN ⟨[.tv (.agg [.ptr 0 0]),pv 1 0,dv (.slice none 0 0),aa,aa,(Zaq rest e),vI 0],[(Zar rest e),Zas]⟩ ?_
 refine Wv (s':=⟨[.tv (.agg [.ptr 0 0]),pv 1 0,Y9 2 (kE false) 0 0,aa,aa,(Zaq rest e),vI 0],[(Zar rest e),Zas,.live (Xe 43 (kE false) ([]:List aE))]⟩) (fun _ _ hG=>Vy 2 2 43 (kE false) rfl rfl hG) ?_
 refine T.loop (ι:=Nat) (fun (k:Nat)=>(Zav rest e k)) (fun (k:Nat)=>(k≤rdC rest e 15)) (fun (k:Nat)=>rdC rest e 15-k) (0) (Nat.zero_le _) (fun _ _ hG=>Yt [0,1,2] (bm 7 102) (t2:=[aa,pv 1 0,Y9 2 (kE false) 0 0,aa,aa,(Zaq rest e),vI 0]) (h2:=[(Zar rest e),Zas,.live (Xe 43 (kE false) ([]:List aE))]) (congrArg (fun (q1:Nat)=>([aa,pv 1 0,Y9 2 (kE false) 0 q1,aa,aa,(Zaq rest e),vI 0]:List AV)) (by rfl)) (cg3 (fun (q1:List UInt8) (q2:Int) (q3:List aE)=>([.live (.box 195 [dU q1,dI q2]),Zas,.live (Xe 43 (kE false) q3)]:List HS)) (by rfl) (by rfl) (by rfl)) hG) ?_
 rintro k hk
 show T _ _ (Zav rest e k) _ _
 replace hk:k≤rdC rest e 15:=hk
 have hg:=Fi 16777216 rest e k
 have hg1:=hg.1
 have hg2:=hg.2
 have hcm:rdC rest e 15≤15:=X2m rest e 15
 refine sR [] ?_
 refine T.seq ?_
 by_cases hq1:((k:Nat):Int)<((rdC rest e 15:Nat):Int)
 ·refine cT (dT hq1) ?_
  refine T.skip (nT (T.seq ?_))
  refine T.block ?_
  refine xR [hR 2 rfl rfl (rCa (X48 (Vm 16777216 rest e k).rest (Vm 16777216 rest e k).e (by omega)) Tryz.func199 [0] [(.tmp 9,.tv (.agg [.ptr 0 0]))] 1 1),hR 3 rfl rfl (Yd 3 43 (kE false) (W5 false) [(evV 16777216 (Vm 16777216 rest e k).rest (Vm 16777216 rest e k).e)] [⟨0,.tmp 10,.agg [dI (Zay rest e k).X4,dU (Zay rest e k).Xf],0⟩] (cs:=[dI (Zay rest e k).X4,dU (Zay rest e k).Xf]) Tryz.underlying37 Vs rfl F7 rfl rfl rfl pd (Yp rfl rfl pd W4) pZ7 (V1 pZ7) (X3 rfl) trivial),hR 4 rfl rfl (Yy 2 4 43 32 (kE false) (W5 false) (Vm 16777216 rest e k).l [(evV 16777216 (Vm 16777216 rest e k).rest (Vm 16777216 rest e k).e)] ((Vm 16777216 rest e k).l++[(evV 16777216 (Vm 16777216 rest e k).rest (Vm 16777216 rest e k).e)]) (Vm 16777216 rest e k).l.length (sy:=(.own 3 (kE false).sz 0 [(Zay rest e k)].length)) (rhs:=[(3,.live (Xe 43 (kE false) [(Zay rest e k)]))]) Fb (by omega) (Wu 3 43 (kE false) [(evV 16777216 (Vm 16777216 rest e k).rest (Vm 16777216 rest e k).e)]) Jn (by (simp [maxLen,-List.getD_eq_getElem?_getD]<;>omega)) (by (simp [maxLen,-List.getD_eq_getElem?_getD]<;>omega)) (X3 rfl) trivial)] pZ7 pZ7 ?_
  refine nB ?_
  refine nT ?_
  refine xK [hR 0 rfl rfl (Ye (u1:=.int .i64 ((k:Nat):Int)) (u2:=.int .i64 1) (v:=.int .i64 ((k+1:Nat):Int)) (Wa pa) (X3 rfl) ⟨rfl,trivial⟩)] ?_
  refine nL (k+1) (show (k+1)≤rdC rest e 15 from (by omega)) (show (rdC rest e 15-(k+1):Nat)<rdC rest e 15-k from (by omega)) (fun _ _ hG=>Vb [0,1,4] (bm 7 102) (t1:=[aa,pv 1 0,Y9 4 (kE false) 0 (Vm 16777216 rest e (k+1)).l.length,aa,aa,(Zaq rest e),(Zaz k)]) (t2:=[aa,pv 1 0,Y9 4 (kE false) 0 ((Zat rest e k).l++[(Zay rest e k)]).length,aa,aa,(Zaq rest e),(Zaz k)]) (h1:=(Zb0 rest e k)) (h2:=[.live (.box 195 [dU (evR 16777216 (Zat rest e k).rest (Zat rest e k).e),dI (evE 16777216 (Zat rest e k).rest (Zat rest e k).e)]),Zas,.live (Xe 43 (kE false) ((Zat rest e k).l++[(Zay rest e k)]))]) (congrArg (fun (q1:Nat)=>([aa,pv 1 0,Y9 4 (kE false) 0 q1,aa,aa,(Zaq rest e),(Zaz k)]:List AV)) (by rfl)) (cg3 (fun (q1:List UInt8) (q2:Int) (q3:List aE)=>([.live (.box 195 [dU q1,dI q2]),Zas,.live (Xe 43 (kE false) q3)]:List HS)) (by rfl) (by rfl) (by rfl)) hG)
 refine cF (dF hq1) ?_
 refine T.exit ?_
 refine xT ?_
 refine xT ?_
 refine xH ?_
 refine nT ?_
 refine sR [] ?_
 refine T.ret ?_
 refine eN (Zb1 rest e k) ?_
 refine Xc (s':=⟨[aa,pv 1 0,slV false false (kE false) (Zat rest e k).l,aa,aa,(Zaq rest e),vI ((k:Nat):Int),vB (decide (((k:Nat):Int)<((rdC rest e 15:Nat):Int)))],[.live (.box 195 [dU (Zat rest e k).rest,dI (Zat rest e k).e]),Zas,.dead]⟩) (fun _ _ hG=>Gs.freeze (s:=(Zb1 rest e k)) 2 (el:=W6 (kE false) (Vm 16777216 rest e k).l) (sz:=(kE false).sz) (n:=(Vm 16777216 rest e k).l.length) rfl (kk2 ⟨(.inr pZ0),⟨.inl rfl,(kk4 trivial)⟩⟩) ⟨pc,⟨pc,⟨(.inl ⟨rfl,rfl⟩),trivial⟩⟩⟩ hG) ?_
 exact eRt 2 (.one (.d (dsl false false (kE false) (Zat rest e k).l))) [0] (by have e1:((Uq 16777216 rest e).l:List aE)=(Vm 16777216 rest e k).l:=p4l;have hE:=congrArg (fun (q1:List aE)=>(slV false false (kE false) q1:AV)) e1;exact hE) ⟨⟨rfl,(by have e1:((Vm 16777216 rest e k).rest:List UInt8)=(Uq 16777216 rest e).rest:=p4l;have e2:((Vm 16777216 rest e k).e:Int)=(Uq 16777216 rest e).e:=p4l;have hE:=congr pZ18 e2;exact Eq.trans pZ7 hE)⟩,trivial⟩
theorem Xh5:Zero Tryz.prog 86 [.int .i64 0,.slice none 0 0,.slice none 0 0]:=⟨_,_,Fr,rfl,rfl⟩
theorem Xi6:Elem Tryz.prog 76 86 3 56:=⟨Tryz.underlying76,_,_,Fr,rfl,rfl,rfl,rfl,by decide⟩
section
variable (rest:List UInt8) (e:Int) (k:Nat)
abbrev Zb2:AV:=vI ((rdC rest e 8:Nat):Int)
abbrev Zb3:HS:=.live (.box 195 [dU (rdR rest e 4 (Yu 8 (rest.take 4))),dI (rdE rest e 4 (Yu 8 (rest.take 4)))])
abbrev Zb4:HS:=.live (.box 240 [.ptr 0 0])
abbrev Zb5:=(Wb 16777216 rest e k)
abbrev Zb6:List HS:=[.live (.box 195 [dU (Zb5 rest e k).rest,dI (Zb5 rest e k).e]),Zb4,.live (Xe 86 (kC false) (Zb5 rest e k).l)]
abbrev Zb7:St:=⟨[aa,pv 1 0,Y9 2 (kC false) 0 (Zb5 rest e k).l.length,aa,aa,aa,(Zb2 rest e),vI ((k:Nat):Int)],(Zb6 rest e k)⟩
abbrev Zba:=(evV 16777216 (Zb5 rest e k).rest (Zb5 rest e k).e)
abbrev Zbb:=(Uq 16777216 (evR 16777216 (Zb5 rest e k).rest (Zb5 rest e k).e) (evE 16777216 (Zb5 rest e k).rest (Zb5 rest e k).e))
abbrev Zbc:=(aC.mk (Zba rest e k) (Zbb rest e k).l)
abbrev Zbd:AV:=vI ((k+1:Nat):Int)
abbrev Zbe:List HS:=[.live (.box 195 [dU (Wb 16777216 rest e (k+1)).rest,dI (Wb 16777216 rest e (k+1)).e]),Zb4,.live (Xe 86 (kC false) (Wb 16777216 rest e (k+1)).l)]
abbrev Zbf:List AV:=[aa,pv 1 0,Y9 2 (kC false) 0 (Zb5 rest e k).l.length,aa,aa,aa,(Zb2 rest e),vI ((k:Nat):Int),vB (decide (((k:Nat):Int)<((rdC rest e 8:Nat):Int)))]
end
theorem Xit (rest:List UInt8) (e:Int) (hr:rest.length≤100000000):Holds Tryz.prog 197 ⟨[.tv (.agg [.ptr 0 0])],[.box 195 [dU rest,dI e]],slV false false (kC false) (X03 16777216 rest e).l,[.live (.box 195 [dU (X03 16777216 rest e).rest,dI (X03 16777216 rest e).e])]⟩:=by
 refine Holds.of Tryz.func197 rfl (N:=21) Tryz.ntmps197 rfl fun w0 B0 S0 U0=>?_
 show T _ (Y2 21 1 w0 S0 U0 B0) ⟨[.tv (.agg [.ptr 0 0])],[.live (.box 195 [dU rest,dI e])]⟩ _ _
 have hr1:=U3 rest e 4 (Yu 8 (rest.take 4))
 refine sR [] ?_
 refine T.seq ?_
 refine sR [hR 2 rfl rfl (rCa (X93 rest e 8 (by omega)) Tryz.func147 [0] [(.tmp 5,pv 0 0),(.const (.int .i64 8),vI 8)] 1 1)] ?_
 refine T.block ?_
 refine tN ⟨[.tv (.agg [.ptr 0 0]),pv 1 0,dv (.slice none 0 0),aa,aa,aa,(Zb2 rest e),vI 0],[(Zb3 rest e),Zb4]⟩ ?_
 refine Wv (s':=⟨[.tv (.agg [.ptr 0 0]),pv 1 0,Y9 2 (kC false) 0 0,aa,aa,aa,(Zb2 rest e),vI 0],[(Zb3 rest e),Zb4,.live (Xe 86 (kC false) ([]:List aC))]⟩) (fun _ _ hG=>Vy 2 2 86 (kC false) rfl rfl hG) ?_
 refine T.loop (ι:=Nat) (fun (k:Nat)=>(Zb7 rest e k)) (fun (k:Nat)=>(k≤rdC rest e 8)) (fun (k:Nat)=>rdC rest e 8-k) (0) (Nat.zero_le _) (fun _ _ hG=>Yt [0,1,2] (bm 8 198) (t2:=[aa,pv 1 0,Y9 2 (kC false) 0 0,aa,aa,aa,(Zb2 rest e),vI 0]) (h2:=[(Zb3 rest e),Zb4,.live (Xe 86 (kC false) ([]:List aC))]) (congrArg (fun (q1:Nat)=>([aa,pv 1 0,Y9 2 (kC false) 0 q1,aa,aa,aa,(Zb2 rest e),vI 0]:List AV)) (by rfl)) (cg3 (fun (q1:List UInt8) (q2:Int) (q3:List aC)=>([.live (.box 195 [dU q1,dI q2]),Zb4,.live (Xe 86 (kC false) q3)]:List HS)) (by rfl) (by rfl) (by rfl)) hG) ?_
 rintro k hk
 show T _ _ (Zb7 rest e k) _ _
 replace hk:k≤rdC rest e 8:=hk
 have hg:=Hw 16777216 rest e k
 have hg1:=hg.1
 have hg2:=hg.2
 have hcm:rdC rest e 8≤8:=X2m rest e 8
 have hve:=X7v 16777216 (Wb 16777216 rest e k).rest (Wb 16777216 rest e k).e
 refine sR [] ?_
 refine T.seq ?_
 by_cases hq1:((k:Nat):Int)<((rdC rest e 8:Nat):Int)
 ·refine cT (dT hq1) ?_
  refine T.skip (nT (T.seq ?_))
  refine T.block ?_
  refine sR [hR 1 rfl rfl (rCa (X48 (Wb 16777216 rest e k).rest (Wb 16777216 rest e k).e (by omega)) Tryz.func199 [0] [(.tmp 9,.tv (.agg [.ptr 0 0]))] 1 1)] ?_
  refine sR [hR 1 rfl rfl (rCa (X8a (evR 16777216 (Wb 16777216 rest e k).rest (Wb 16777216 rest e k).e) (evE 16777216 (Wb 16777216 rest e k).rest (Wb 16777216 rest e k).e) (by omega)) Tryz.func196 [0] [(.tmp 12,.tv (.agg [.ptr 0 0]))] 1 1)] ?_
  refine xR [hR 2 rfl rfl (Yd 4 86 (kC false) (Hs false) [(aC.mk (evV 16777216 (Wb 16777216 rest e k).rest (Wb 16777216 rest e k).e) (Uq 16777216 (evR 16777216 (Wb 16777216 rest e k).rest (Wb 16777216 rest e k).e) (evE 16777216 (Wb 16777216 rest e k).rest (Wb 16777216 rest e k).e)).l)] [⟨0,.tmp 16,.agg [dI (Zba rest e k).X4,dU (Zba rest e k).Xf,.d (dsl false false (kE false) (Zbb rest e k).l)],0⟩] (cs:=[dI (Zba rest e k).X4,dU (Zba rest e k).Xf,.d (dsl false false (kE false) (Zbb rest e k).l)]) Tryz.underlying76 Fr rfl Xh5 rfl rfl rfl pd (Yp rfl rfl pd W4) pZ7 (V1 pZ7) (X3 rfl) trivial),hR 3 rfl rfl (Yy 2 5 86 56 (kC false) (Hs false) (Wb 16777216 rest e k).l [(aC.mk (evV 16777216 (Wb 16777216 rest e k).rest (Wb 16777216 rest e k).e) (Uq 16777216 (evR 16777216 (Wb 16777216 rest e k).rest (Wb 16777216 rest e k).e) (evE 16777216 (Wb 16777216 rest e k).rest (Wb 16777216 rest e k).e)).l)] ((Wb 16777216 rest e k).l++[(aC.mk (evV 16777216 (Wb 16777216 rest e k).rest (Wb 16777216 rest e k).e) (Uq 16777216 (evR 16777216 (Wb 16777216 rest e k).rest (Wb 16777216 rest e k).e) (evE 16777216 (Wb 16777216 rest e k).rest (Wb 16777216 rest e k).e)).l)]) (Wb 16777216 rest e k).l.length (sy:=(.own 4 (kC false).sz 0 [(Zbc rest e k)].length)) (rhs:=[(4,.live (Xe 86 (kC false) [(Zbc rest e k)]))]) Xi6 (by omega) (Wu 4 86 (kC false) [(aC.mk (evV 16777216 (Wb 16777216 rest e k).rest (Wb 16777216 rest e k).e) (Uq 16777216 (evR 16777216 (Wb 16777216 rest e k).rest (Wb 16777216 rest e k).e) (evE 16777216 (Wb 16777216 rest e k).rest (Wb 16777216 rest e k).e)).l)]) Jn (by (simp [maxLen,-List.getD_eq_getElem?_getD]<;>omega)) (by (simp [maxLen,-List.getD_eq_getElem?_getD]<;>omega)) (X3 rfl) trivial)] pZ7 pZ7 ?_
  refine nB ?_
  refine nT ?_
  refine xK [hR 0 rfl rfl (Ye (u1:=.int .i64 ((k:Nat):Int)) (u2:=.int .i64 1) (v:=.int .i64 ((k+1:Nat):Int)) (Wa pa) (X3 rfl) ⟨rfl,trivial⟩)] ?_
  refine nL (k+1) (show (k+1)≤rdC rest e 8 from (by omega)) (show (rdC rest e 8-(k+1):Nat)<rdC rest e 8-k from (by omega)) (fun _ _ hG=>Vb [0,1,5] (bm 8 198) (t1:=[aa,pv 1 0,Y9 5 (kC false) 0 (Wb 16777216 rest e (k+1)).l.length,aa,aa,aa,(Zb2 rest e),(Zbd k)]) (t2:=[aa,pv 1 0,Y9 5 (kC false) 0 ((Zb5 rest e k).l++[(Zbc rest e k)]).length,aa,aa,aa,(Zb2 rest e),(Zbd k)]) (h1:=(Zbe rest e k)) (h2:=[.live (.box 195 [dU (Zbb rest e k).rest,dI (Zbb rest e k).e]),Zb4,.live (Xe 86 (kC false) ((Zb5 rest e k).l++[(Zbc rest e k)]))]) (congrArg (fun (q1:Nat)=>([aa,pv 1 0,Y9 5 (kC false) 0 q1,aa,aa,aa,(Zb2 rest e),(Zbd k)]:List AV)) (by rfl)) (cg3 (fun (q1:List UInt8) (q2:Int) (q3:List aC)=>([.live (.box 195 [dU q1,dI q2]),Zb4,.live (Xe 86 (kC false) q3)]:List HS)) (by rfl) (by rfl) (by rfl)) hG)
 refine cF (dF hq1) ?_
 refine T.exit ?_
 refine xT ?_
 refine xT ?_
 refine xH ?_
 refine nT ?_
 refine sR [] ?_
 refine T.ret ?_
 refine eN ⟨(Zbf rest e k),(Zb6 rest e k)⟩ ?_
 refine Xc (s':=⟨[aa,pv 1 0,slV false false (kC false) (Zb5 rest e k).l,aa,aa,aa,(Zb2 rest e),vI ((k:Nat):Int),vB (decide (((k:Nat):Int)<((rdC rest e 8:Nat):Int)))],[.live (.box 195 [dU (Zb5 rest e k).rest,dI (Zb5 rest e k).e]),Zb4,.dead]⟩) (fun _ _ hG=>Gs.freeze (s:=⟨(Zbf rest e k),(Zb6 rest e k)⟩) 2 (el:=W6 (kC false) (Wb 16777216 rest e k).l) (sz:=(kC false).sz) (n:=(Wb 16777216 rest e k).l.length) rfl (kk2 ⟨(.inr pZ0),p4s⟩) ⟨pc,⟨pc,⟨(.inl ⟨rfl,rfl⟩),trivial⟩⟩⟩ hG) ?_
 exact eRt 2 (.one (.d (dsl false false (kC false) (Zb5 rest e k).l))) [0] (by have e1:((X03 16777216 rest e).l:List aC)=(Wb 16777216 rest e k).l:=p4o;have hE:=congrArg (fun (q1:List aC)=>(slV false false (kC false) q1:AV)) e1;exact hE) ⟨⟨rfl,(by have e1:((Wb 16777216 rest e k).rest:List UInt8)=(X03 16777216 rest e).rest:=p4o;have e2:((Wb 16777216 rest e k).e:Int)=(X03 16777216 rest e).e:=p4o;have hE:=congr pZ18 e2;exact Eq.trans pZ7 hE)⟩,trivial⟩
end Go.Proofs.YtnaopgohccacmaaGreat.Q
