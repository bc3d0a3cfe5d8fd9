import Derived.Test.YthnefnknoahbkaaGreatC18n11
namespace Go.Proofs.YthnefnknoahbkaaGreat.Q
set_option linter.unusedVariables false
set_option linter.unusedSimpArgs false
set_option maxRecDepth 100000
def Vv (e:aE):List UInt8:=Ym e.f_Signer++Wl e.X7
def X2p (l:List aE):List UInt8:=l.flatMap Vv
def Uk (l:List aE) (k:Nat):List UInt8:=Wh ((l.length:Nat):Int)++X2p (l.take k)
def Wc (l:List aE):List UInt8:=Wh ((l.length:Nat):Int)++X2p l
def Xbd (c:aC):List UInt8:=Vv c.Vg++Wc c.Yi
def X6t (l:List aC):List UInt8:=l.flatMap Xbd
def H3 (l:List aC):List UInt8:=Wh ((l.length:Nat):Int)++X6t l
theorem X9m (e:aE):(Vv e).length=12+e.X7.length:=by rw [Vv,List.length_append,Yl,Wn];omega
theorem X3g {α:Type} {z:α} (f:α→List UInt8) {l:List α} {k:Nat} (hk:k<l.length):(l.take (k+1)).flatMap f=(l.take k).flatMap f++f (l.getD k z):=by
  rw [Ic (z:=z) hk,List.flatMap_append];simp
theorem X8j {α:Type} {z:α} (f:α→List UInt8) {l:List α} {k:Nat} (hk:k<l.length):((l.take k).flatMap f).length+(f (l.getD k z)).length≤(l.flatMap f).length:=by
  have h:l.flatMap f=(l.take (k+1)).flatMap f++(l.drop (k+1)).flatMap f:=by rw [← List.flatMap_append,List.take_append_drop]
  rw [h,X3g (z:=z) f hk,List.length_append,List.length_append]
  omega
theorem Xdy {α:Type} (f:α→List UInt8) (l:List α) (k:Nat):((l.take k).flatMap f).length≤(l.flatMap f).length:=by
  have h:l.flatMap f=(l.take k).flatMap f++(l.drop k).flatMap f:=by rw [← List.flatMap_append,List.take_append_drop]
  rw [h,List.length_append];omega
theorem X6g {l:List aE} {k:Nat} (hk:k<l.length):Uk l (k+1)=Uk l k++Vv (l.getD k zE):=by
  rw [Uk,X2p,X3g (z:=zE) Vv hk,← List.append_assoc];rfl
theorem Xdu {l:List aE} {k:Nat} (hk:l.length≤k):Uk l k=Wc l:=by rw [Uk,List.take_of_length_le hk];rfl
theorem Hg (l:List aE):(Wc l).length=4+(X2p l).length:=by rw [Wc,List.length_append,I0]
theorem Xan (l:List aE):l.length≤(Wc l).length:=by
  rw [Hg]
  have:∀ l:List aE,l.length≤(X2p l).length:=by
    intro l
    induction l with
    | nil=>simp
    | cons e r ih=>rw [show X2p (e::r)=Vv e++X2p r from rfl,List.length_append,X9m,List.length_cons];omega
  have:=this l
  omega
theorem lst_le (l:List aE) (k:Nat):(Uk l k).length≤(Wc l).length:=by
  rw [Hg,Uk,List.length_append,I0]
  have:=Xdy Vv l k
  unfold X2p;omega
theorem Xam {l:List aE} {k:Nat} (hk:k<l.length):(Uk l k).length+(Vv (l.getD k zE)).length≤(Wc l).length:=by
  rw [Hg,Uk,List.length_append,I0]
  have:=X8j (z:=zE) Vv hk
  unfold X2p;omega
def Vf (l:List aC) (k:Nat):List UInt8:=X6t (l.take k)
theorem crt_0 (l:List aC):Vf l 0=[]:=by simp [Vf,X6t]
theorem crt_succ {l:List aC} {k:Nat} (hk:k<l.length):Vf l (k+1)=Vf l k++(Vv (l.getD k zC).Vg++Wc (l.getD k zC).Yi):=X3g (z:=zC) Xbd hk
theorem Xe7 {l:List aC} {k:Nat} (hk:l.length≤k):Vf l k=X6t l:=by rw [Vf,List.take_of_length_le hk]
theorem X0v (l:List aC):(H3 l).length=4+(X6t l).length:=by rw [H3,List.length_append,I0]
theorem crt_le (l:List aC) (k:Nat):4+(Vf l k).length≤(H3 l).length:=by
  rw [X0v]
  have:=Xdy Xbd l k
  unfold Vf X6t;omega
theorem Xb6 {l:List aC} {k:Nat} (hk:k<l.length):4+((Vf l k).length+((Vv (l.getD k zC).Vg).length+(Wc (l.getD k zC).Yi).length))≤(H3 l).length:=by
  rw [X0v]
  have h:=X8j (z:=zC) Xbd hk
  have e:(Xbd (l.getD k zC)).length=(Vv (l.getD k zC).Vg).length+(Wc (l.getD k zC).Yi).length:=List.length_append
  unfold Vf X6t;omega
def Jg (m:aM):Nat→List UInt8
  | 0=>Ym m.Xr
  | 1=>Ym m.Xy
  | 2=>Ym m.Xa++Ym m.Xw
  | 3=>Wl m.Xb
  | 4=>Wl m.Xi
  | 5=>Ym m.X1.Xt++Ym m.X1.Xn
  | 6=>Wc m.Xe
  | 7=>Wc m.Xp
  | 8=>H3 m.X5
  | _=>[]
def Xm (m:aM):Nat→List UInt8
  | 0=>Ym m.X2
  | j+1=>Xm m j++(if U8 (Xg m.X2) j=true then Jg m j else [])
def Yj (m:aM):List UInt8:=if X3r m then Xm m 9 else []
section
variable {m:aM}
theorem Jk {j i:Nat} (h:j=i) (hb:U8 (Xg m.X2) j=true):Xm m (j+1)=Xm m j++Jg m i:=by subst h;rw [Xm,if_pos hb]
theorem Hi {j:Nat} (hb:¬U8 (Xg m.X2) j=true):Xm m (j+1)=Xm m j:=by rw [Xm,if_neg hb,List.append_nil]
theorem Xb0 (m:aM) (j:Nat):∀ d,(Xm m j).length≤(Xm m (j+d)).length
  | 0=>Nat.le_refl _
  | d+1=>Nat.le_trans (Xb0 m j d) (by rw [← Nat.add_assoc,Xm,List.length_append];omega)
theorem enc_le {j:Nat} (hj:j≤9):(Xm m j).length≤(Xm m 9).length:=by
  have:=Xb0 m j (9-j)
  rwa [show j+(9-j)=9 by omega] at this
theorem Vh {j i:Nat} (h:j=i) (hb:U8 (Xg m.X2) j=true) (hj:j≤8):(Xm m j).length+(Jg m i).length≤(Xm m 9).length:=by
  have:=enc_le (m:=m) (show j+1≤9 by omega)
  rwa [Jk h hb,List.length_append] at this
end
end Go.Proofs.YthnefnknoahbkaaGreat.Q
namespace Go.Proofs.YthnefnknoahbkaaGreat.Q
open Go Go.RowKit
set_option linter.unusedVariables false
set_option linter.unusedSimpArgs false
set_option maxRecDepth 100000
set_option maxHeartbeats 4000000
theorem E4 (tb:Bool) (nb:Bool) (b:List UInt8) (te:Bool) (e:aE) (hb:b.length+(Vv e).length≤10000000000):Holds Tryz.prog 76 ⟨[slV tb nb kU8 b,.tv (.agg [dI e.f_Signer,.d (dsl te false kU8 e.X7)])],[],Xx 0 kU8 0 (b++Vv e).length,[.live (Xc 5 kU8 (b++Vv e))]⟩:=by
 refine Holds.of Tryz.func76 rfl (N:=12) Tryz.ntmps76 rfl fun w0 B0 S0 U0=>?_
 show T _ (Y0 12 0 w0 S0 U0 B0) ⟨[slV tb nb kU8 b,.tv (.agg [dI e.f_Signer,.d (dsl te false kU8 e.X7)])],[]⟩ _ _
 have hel:=X9m e
 have hi:=Yl e.f_Signer
 refine sR [] ?_
 refine sD [[],[],[1],[0,1,2],[],[4],[0,1,2,3,4,5],[0,1,2,3,4,5,6]] [hR 3 rfl rfl (rCa (Uv tb nb b e.f_Signer (by omega)) Tryz.func72 [1] [(.tmp 5,slV tb nb kU8 b),(.tmp 7,vI e.f_Signer)] 0 1),hR 6 rfl rfl (Wk (Hz true false (b++Ym e.f_Signer) te false e.X7 (by (simp [maxLen,-List.getD_eq_getElem?_getD]<;>omega))) Tryz.func73 rfl (by decide) [2] [1] (l:=[(.tmp 8,Xx 1 kU8 0 (b++Ym e.f_Signer).length),(.tmp 10,slV te false kU8 e.X7)]) [(1,.live (Xc 5 kU8 (b++Ym e.f_Signer)))] rfl 0 1 rfl rfl rfl rfl rfl rfl rfl rfl rfl ⟨.inr (.inl ⟨rfl,p1b,rfl,rfl,by simp,5,(b++Ym e.f_Signer).length,Yu kU8 (b++Ym e.f_Signer),List.Mem.head _,pg,fun i j=>by rw [Nat.zero_add]⟩),⟨.inl ⟨rfl,rfl⟩,trivial⟩⟩ rfl pZ4 pe (X4 rfl) trivial)] ?_
 refine T.ret ?_
 exact eRt 4 (.one (.own 2 kU8.sz 0 (b++Ym e.f_Signer++Wl e.X7).length)) [2] p2u ⟨⟨rfl,p2p⟩,trivial⟩
theorem El (tb:Bool) (nb:Bool) (b:List UInt8) (te:Bool) (e:aE) (hb:b.length+(Vv e).length≤10000000000):Holds Tryz.prog 48 ⟨[slV tb nb kU8 b,.tv (.agg [dI e.f_Signer,.d (dsl te false kU8 e.X7)])],[],Xx 0 kU8 0 (b++Vv e).length,[.live (Xc 5 kU8 (b++Vv e))]⟩:=by
 refine Holds.of Tryz.func48 rfl (N:=12) Tryz.ntmps48 rfl fun w0 B0 S0 U0=>?_
 show T _ (Y0 12 0 w0 S0 U0 B0) ⟨[slV tb nb kU8 b,.tv (.agg [dI e.f_Signer,.d (dsl te false kU8 e.X7)])],[]⟩ _ _
 have hel:=X9m e
 have hi:=Yl e.f_Signer
 refine sR [] ?_
 refine sD [[],[],[1],[0,1,2],[],[4],[0,1,2,3,4,5],[0,1,2,3,4,5,6]] [hR 3 rfl rfl (rCa (I5 tb nb b e.f_Signer (by omega)) Tryz.func44 [1] [(.tmp 5,slV tb nb kU8 b),(.tmp 7,vI e.f_Signer)] 0 1),hR 6 rfl rfl (Wk (En true false (b++Ym e.f_Signer) te false e.X7 (by (simp [maxLen,-List.getD_eq_getElem?_getD]<;>omega))) Tryz.func45 rfl (by decide) [2] [1] (l:=[(.tmp 8,Xx 1 kU8 0 (b++Ym e.f_Signer).length),(.tmp 10,slV te false kU8 e.X7)]) [(1,.live (Xc 5 kU8 (b++Ym e.f_Signer)))] rfl 0 1 rfl rfl rfl rfl rfl rfl rfl rfl rfl ⟨.inr (.inl ⟨rfl,p1b,rfl,rfl,by simp,5,(b++Ym e.f_Signer).length,Yu kU8 (b++Ym e.f_Signer),List.Mem.head _,pg,fun i j=>by rw [Nat.zero_add]⟩),⟨.inl ⟨rfl,rfl⟩,trivial⟩⟩ rfl pZ4 pe (X4 rfl) trivial)] ?_
 refine T.ret ?_
 exact eRt 4 (.one (.own 2 kU8.sz 0 (b++Ym e.f_Signer++Wl e.X7).length)) [2] p2u ⟨⟨rfl,p2p⟩,trivial⟩
section
variable (b:List UInt8) (tl:Bool) (nl:Bool) (sl_:Bool) (l:List aE) (k:Nat)
abbrev Z3x:AV:=slV tl nl (kE sl_) l
abbrev Z3y:AV:=vI ((l.length:Nat):Int)
abbrev Z3z:St:=⟨[Xx 0 kU8 0 (b++Uk l k).length,(Z3x tl nl sl_ l),aa,aa,aa,aa,aa,aa,aa,aa,aa,(Z3x tl nl sl_ l),(Z3y l),vI ((k:Nat):Int)],[.live (Xc 5 kU8 (b++Uk l k))]⟩
abbrev Z41:AV:=vI ((k+1:Nat):Int)
end
theorem Ev (tb:Bool) (nb:Bool) (b:List UInt8) (tl:Bool) (nl:Bool) (sl_:Bool) (l:List aE) (hb:b.length+(Wc l).length≤10000000000) (hl:l.length≤9223372036854775807):Holds Tryz.prog 74 ⟨[slV tb nb kU8 b,slV tl nl (kE sl_) l],[],Xx 0 kU8 0 (b++Wc l).length,[.live (Xc 5 kU8 (b++Wc l))]⟩:=by
 refine Holds.of Tryz.func74 rfl (N:=22) Tryz.ntmps74 rfl fun w0 B0 S0 U0=>?_
 show T _ (Y0 22 0 w0 S0 U0 B0) ⟨[slV tb nb kU8 b,(Z3x tl nl sl_ l)],[]⟩ _ _
 have hll:=Hg l
 have hcl:=I0 ((l.length:Nat):Int)
 refine sR [] (sR [hR 3 rfl rfl (rCa (Hy tb nb b ((l.length:Nat):Int) (by omega)) Tryz.func75 [0] [(.tmp 7,slV tb nb kU8 b),(.tmp 9,(Z3y l))] 0 1)] (T.seq (sR [] (T.block ?_))))
 refine T.loop (ι:=Nat) (fun (k:Nat)=>(Z3z b tl nl sl_ l k)) (fun (k:Nat)=>(k≤l.length)) (fun (k:Nat)=>l.length-k) (0) (Nat.zero_le _) (fun _ _ hG=>Y9 [0] (bm 14 14339) (t2:=[Xx 0 kU8 0 (b++Wh ((l.length:Nat):Int)).length,(Z3x tl nl sl_ l),aa,aa,aa,aa,aa,aa,aa,aa,aa,(Z3x tl nl sl_ l),(Z3y l),vI 0]) (h2:=[.live (Xc 5 kU8 (b++Wh ((l.length:Nat):Int)))]) (congrArg (fun (q1:Nat)=>([Xx 0 kU8 0 q1,(Z3x tl nl sl_ l),aa,aa,aa,aa,aa,aa,aa,aa,aa,(Z3x tl nl sl_ l),(Z3y l),vI 0]:List AV)) (by rfl)) p2i hG) ?_
 rintro k hk
 show T _ _ (Z3z b tl nl sl_ l k) _ _
 replace hk:k≤l.length:=hk
 have hle:=lst_le l k
 refine sR [] (T.seq ?_)
 by_cases hq1:((k:Nat):Int)<((l.length:Nat):Int)
 ·have hrm:=Xam (l:=l) (k:=k) (by omega)
  refine cT (dT hq1) (T.skip (nT (T.seq (T.block (sR [hR 0 rfl rfl (Yo tl nl (kE sl_) l k (k:=.i64) (i:=((k:Nat):Int)) Tryz.underlying39 I3 rfl rfl (by omega) (X4 rfl) trivial)] ?_)))))
  refine xK [hR 2 rfl rfl (Wk (E4 true false (b++Uk l k) sl_ (l.getD k zE) (by (simp [maxLen,-List.getD_eq_getElem?_getD]<;>omega))) Tryz.func76 rfl (by decide) [2] [0] (l:=[(.tmp 17,Xx 0 kU8 0 (b++Uk l k).length),(.tmp 18,.tv (.agg [dI (l.getD k zE).f_Signer,.d (dsl sl_ false kU8 (l.getD k zE).X7)]))]) [(0,.live (Xc 5 kU8 (b++Uk l k)))] rfl 0 1 rfl rfl rfl rfl rfl rfl rfl rfl rfl ⟨.inr (.inl ⟨rfl,p1b,rfl,rfl,by simp,5,(b++Uk l k).length,Yu kU8 (b++Uk l k),List.Mem.head _,pg,fun i j=>by rw [Nat.zero_add]⟩),⟨⟨.inl ⟨rfl,rfl⟩,⟨.inl ⟨rfl,rfl⟩,trivial⟩⟩,trivial⟩⟩ rfl pZ4 pe (X4 rfl) trivial)] ?_
  refine nB (nT (xK [hR 0 rfl rfl (Y4 (u1:=.int .i64 ((k:Nat):Int)) (u2:=.int .i64 1) (v:=.int .i64 ((k+1:Nat):Int)) (Yn pZ5) (X4 rfl) ⟨rfl,trivial⟩)] ?_))
  refine nL (k+1) (show (k+1)≤l.length from (by omega)) (show (l.length-(k+1):Nat)<l.length-k from (by omega)) (fun _ _ hG=>Ww [2] (bm 14 14339) (t1:=[Xx 2 kU8 0 (b++Uk l (k+1)).length,(Z3x tl nl sl_ l),aa,aa,aa,aa,aa,aa,aa,aa,aa,(Z3x tl nl sl_ l),(Z3y l),(Z41 k)]) (t2:=[Xx 2 kU8 0 ((b++Uk l k)++Vv (l.getD k zE)).length,(Z3x tl nl sl_ l),aa,aa,aa,aa,aa,aa,aa,aa,aa,(Z3x tl nl sl_ l),(Z3y l),(Z41 k)]) (h1:=[.live (Xc 5 kU8 (b++Uk l (k+1)))]) (h2:=[.live (Xc 5 kU8 ((b++Uk l k)++Vv (l.getD k zE)))]) (by have e1:((b++Uk l (k+1)).length:Nat)=((b++Uk l k)++Vv (l.getD k zE)).length:=(by (rw [X6g (by omega),← List.append_assoc]));have hE:=congrArg (fun (q1:Nat)=>([Xx 2 kU8 0 q1,(Z3x tl nl sl_ l),aa,aa,aa,aa,aa,aa,aa,aa,aa,(Z3x tl nl sl_ l),(Z3y l),(Z41 k)]:List AV)) e1;exact hE) p2h hG)
 refine cF (dF hq1) (T.exit (xT (xT (xH (nT (sR [] (T.ret ?_)))))))
 exact eRt 4 (.one (.own 0 kU8.sz 0 (b++Uk l k).length)) [0] p38 ⟨⟨rfl,p33⟩,trivial⟩
abbrev Z42 (k:Nat):AV:=vI ((k+1:Nat):Int)
theorem X1i (tb:Bool) (nb:Bool) (b:List UInt8) (tl:Bool) (nl:Bool) (sl_:Bool) (l:List aE) (hb:b.length+(Wc l).length≤10000000000) (hl:l.length≤9223372036854775807):Holds Tryz.prog 46 ⟨[slV tb nb kU8 b,slV tl nl (kE sl_) l],[],Xx 0 kU8 0 (b++Wc l).length,[.live (Xc 5 kU8 (b++Wc l))]⟩:=by
 refine Holds.of Tryz.func46 rfl (N:=23) Tryz.ntmps46 rfl fun w0 B0 S0 U0=>?_
 show T _ (Y0 23 0 w0 S0 U0 B0) ⟨[slV tb nb kU8 b,slV tl nl (kE sl_) l],[]⟩ _ _
 have hll:=Hg l
 have hcl:=I0 ((l.length:Nat):Int)
 refine sR [] (sR [hR 3 rfl rfl (rCa (Em tb nb b ((l.length:Nat):Int) (by omega)) Tryz.func47 [0] [(.tmp 6,slV tb nb kU8 b),(.tmp 8,vI ((l.length:Nat):Int))] 0 1)] (T.seq (sR [] (T.block ?_))))
 refine T.loop (ι:=Nat) (fun (k:Nat)=>⟨[Xx 0 kU8 0 (b++Uk l k).length,slV tl nl (kE sl_) l,aa,aa,aa,vI ((k:Nat):Int)],[.live (Xc 5 kU8 (b++Uk l k))]⟩) (fun (k:Nat)=>(k≤l.length)) (fun (k:Nat)=>l.length-k) (0) (Nat.zero_le _) (fun _ _ hG=>Y9 [0] (bm 6 35) (t2:=[Xx 0 kU8 0 (b++Wh ((l.length:Nat):Int)).length,slV tl nl (kE sl_) l,aa,aa,aa,vI 0]) (h2:=[.live (Xc 5 kU8 (b++Wh ((l.length:Nat):Int)))]) (congrArg (fun (q1:Nat)=>([Xx 0 kU8 0 q1,slV tl nl (kE sl_) l,aa,aa,aa,vI 0]:List AV)) (by rfl)) p2i hG) ?_
 rintro k hk
 show T _ _ ⟨[Xx 0 kU8 0 (b++Uk l k).length,slV tl nl (kE sl_) l,aa,aa,aa,vI ((k:Nat):Int)],[.live (Xc 5 kU8 (b++Uk l k))]⟩ _ _
 replace hk:k≤l.length:=hk
 have hle:=lst_le l k
 refine T.seq (sR [] ?_)
 by_cases hq1:((k:Nat):Int)<((l.length:Nat):Int)
 ·have hrm:=Xam (l:=l) (k:=k) (by omega)
  refine cT (dT hq1) (T.skip (nT (T.seq (T.block ?_))))
  refine xR [hR 3 rfl rfl (Yo tl nl (kE sl_) l k (k:=.i64) (i:=((k:Nat):Int)) Tryz.underlying39 I3 rfl rfl (by omega) (X4 rfl) trivial),hR 5 rfl rfl (Wk (El true false (b++Uk l k) sl_ (l.getD k zE) (by (simp [maxLen,-List.getD_eq_getElem?_getD]<;>omega))) Tryz.func48 rfl (by decide) [1] [0] (l:=[(.tmp 16,Xx 0 kU8 0 (b++Uk l k).length),(.tmp 20,.tv (.agg [dI (l.getD k zE).f_Signer,.d (dsl sl_ false kU8 (l.getD k zE).X7)]))]) [(0,.live (Xc 5 kU8 (b++Uk l k)))] rfl 0 1 rfl rfl rfl rfl rfl rfl rfl rfl rfl ⟨.inr (.inl ⟨rfl,p1b,rfl,rfl,by simp,5,(b++Uk l k).length,Yu kU8 (b++Uk l k),List.Mem.head _,pg,fun i j=>by rw [Nat.zero_add]⟩),⟨⟨.inl ⟨rfl,rfl⟩,⟨.inl ⟨rfl,rfl⟩,trivial⟩⟩,trivial⟩⟩ rfl pZ4 pe (X4 rfl) trivial)] pZ2 pZ2 ?_
  refine nB (nT (xK [hR 1 rfl rfl (Y4 (u1:=.int .i64 ((k:Nat):Int)) (u2:=.int .i64 1) (v:=.int .i64 ((k+1:Nat):Int)) (Yn pZ5) (X4 rfl) ⟨rfl,trivial⟩)] ?_))
  refine nL (k+1) (show (k+1)≤l.length from (by omega)) (show (l.length-(k+1):Nat)<l.length-k from (by omega)) (fun _ _ hG=>Ww [1] (bm 6 35) (t1:=[Xx 1 kU8 0 (b++Uk l (k+1)).length,slV tl nl (kE sl_) l,aa,aa,aa,(Z42 k)]) (t2:=[Xx 1 kU8 0 ((b++Uk l k)++Vv (l.getD k zE)).length,slV tl nl (kE sl_) l,aa,aa,aa,(Z42 k)]) (h1:=[.live (Xc 5 kU8 (b++Uk l (k+1)))]) (h2:=[.live (Xc 5 kU8 ((b++Uk l k)++Vv (l.getD k zE)))]) (by have e1:((b++Uk l (k+1)).length:Nat)=((b++Uk l k)++Vv (l.getD k zE)).length:=(by (rw [X6g (by omega),← List.append_assoc]));have hE:=congrArg (fun (q1:Nat)=>([Xx 1 kU8 0 q1,slV tl nl (kE sl_) l,aa,aa,aa,(Z42 k)]:List AV)) e1;exact hE) p2h hG)
 refine cF (dF hq1) (T.exit (xT (xT (xH (nT (sR [] (T.ret ?_)))))))
 exact eRt 4 (.one (.own 0 kU8.sz 0 (b++Uk l k).length)) [0] p38 ⟨⟨rfl,p33⟩,trivial⟩
theorem X9s:Zero Tryz.prog 110 [.int .i64 0,.slice none 0 0,.slice none 0 0]:=⟨_,_,Jz,rfl,rfl⟩
section
variable (tm:Bool) (m:aM) (j:Nat) (k:Nat)
abbrev Z43:List SV:=[dI m.X2,dI m.Xr,dI m.Xy,dI m.Xa,dI m.Xw,dS m.Xb,.d (dsl tm false kU8 m.Xi),dI m.X1.Xt,dI m.X1.Xn,.d (dsl tm false (kE tm) m.Xe),.d (dsl tm false (kE tm) m.Xp),.d (dsl tm false (kC tm) m.X5)]
abbrev Z44:HS:=.live (.box 42 (Z43 tm m))
abbrev Z45:St:=⟨[.tv (.agg (Z43 tm m)),pv 0 0,dv (.slice none 0 0),aa,aa,aa,aa,aa,aa,aa,aa,vB (decide ((X1t m)≠0))],[(Z44 tm m)]⟩
abbrev Z46:AV:=Xx 2 kU8 0 (Xm m j).length
abbrev Z47:AV:=vI ((2 ^ j:Nat):Int)
abbrev Z48:HS:=.live (.box 133 [dI (Y3 m.X2).V4,dI (Y3 m.X2).W4,dI (Y3 m.X2).Wm,dI (Y3 m.X2).V7])
abbrev Z49:HS:=.live (Xc 5 kU8 (Xm m j))
abbrev Z4b:AV:=vI ((2 ^ (j+1):Nat):Int)
abbrev Z4d:List HS:=[(Z44 tm m),(Z48 m),.live (Xc 5 kU8 (Xm m (j+1)))]
abbrev Z4f:AV:=vI (((2 ^ j)*2 ^ 1:Nat):Int)
abbrev Z4g:List AV:=[aa,pv 0 0,aa,pv 1 0,aa,Xx 3 kU8 0 (Xm m (j+1)).length,(Z4b j)]
abbrev Z4h:AV:=vI ((m.X5.length:Nat):Int)
abbrev Z4i:AV:=Xx 2 kU8 0 ((Xm m j)++Wh ((m.X5.length:Nat):Int)++Vf m.X5 k).length
abbrev Z4j:AV:=slV tm false (kC tm) m.X5
abbrev Z4k:HS:=.live (Xc 5 kU8 ((Xm m j)++Wh ((m.X5.length:Nat):Int)++Vf m.X5 k))
abbrev Z4l:St:=⟨[aa,pv 0 0,aa,pv 1 0,aa,(Z4i m j k),(Z47 j),aa,aa,aa,aa,aa,aa,aa,aa,aa,aa,aa,aa,aa,aa,aa,aa,aa,aa,aa,aa,aa,aa,aa,aa,aa,aa,aa,aa,aa,aa,aa,aa,aa,aa,aa,aa,aa,aa,aa,aa,aa,aa,aa,aa,aa,aa,aa,aa,aa,aa,aa,aa,aa,aa,aa,aa,aa,aa,aa,aa,aa,aa,aa,aa,aa,aa,aa,aa,aa,aa,aa,aa,aa,aa,aa,aa,aa,aa,aa,aa,aa,aa,aa,aa,aa,aa,aa,aa,aa,(Z4j tm m),(Z4h m),vI ((k:Nat):Int)],[(Z44 tm m),(Z48 m),(Z4k m j k)]⟩
abbrev Z4m:AV:=vI ((k+1:Nat):Int)
abbrev Z4n:St:=⟨[aa,pv 0 0,(Z46 m j),pv 1 0,aa,(Z46 m j),(Z47 j),aa,aa,aa,aa,aa,aa,aa,aa,aa,aa,aa,aa,aa,aa,aa,vB (decide (((2 ^ j:Nat):Int)≤256))],[(Z44 tm m),(Z48 m),(Z49 m j)]⟩
end
theorem Xc9 (tm:Bool) (m:aM) (hl:(Xm m 9).length≤1000000000) (hq:m.Xe.length≤9223372036854775807) (hr:m.Xp.length≤9223372036854775807) (hc:m.X5.length≤9223372036854775807) (hd:m.Xi.length≤9223372036854775807) (hg:m.Xb.length≤9223372036854775807):Holds Tryz.prog 41 ⟨[.tv (.agg [dI m.X2,dI m.Xr,dI m.Xy,dI m.Xa,dI m.Xw,dS m.Xb,.d (dsl tm false kU8 m.Xi),dI m.X1.Xt,dI m.X1.Xn,.d (dsl tm false (kE tm) m.Xe),.d (dsl tm false (kE tm) m.Xp),.d (dsl tm false (kC tm) m.X5)])],[],slV false false kU8 (Yj m),[]⟩:=by
 refine Holds.of Tryz.func41 rfl (N:=111) Tryz.ntmps41 rfl fun w0 B0 S0 U0=>?_
 show T _ (Y0 111 0 w0 S0 U0 B0) ⟨[.tv (.agg (Z43 tm m))],[]⟩ _ _
 refine sR [] (T.seq (sR [hR 1 rfl rfl (rCa (X8b tm m ‹_› ‹_› ‹_› ‹_› ‹_›) Tryz.func70 [] [(.tmp 9,.tv (.agg (Z43 tm m)))] 0 0)] ?_))
 by_cases hq1:(X1t m)≠0
 ·refine cT (dT hq1) (sR [] (T.ret (rT ?_)))
  refine eN (Z45 tm m) ?_
  refine Xh (s':=⟨[.tv (.agg (Z43 tm m)),pv 0 0,slV false false kU8 ([]:List UInt8),aa,aa,aa,aa,aa,aa,aa,aa,vB (decide ((X1t m)≠0))],[(Z44 tm m)]⟩) (fun _ _ hG=>We (s:=(Z45 tm m)) (kk2 ⟨p1a,⟨.inl rfl,(kk8 trivial)⟩⟩) ⟨.inl rfl,trivial⟩ hG) ?_
  exact eRt 2 (.one (dU ([]:List UInt8))) [] p3l trivial
 refine cF (dF hq1) (T.skip (nT (sR [hR 2 rfl rfl (rCa (Eu m.X2 ) Tryz.func71 [] [(.tmp 14,vI m.X2)] 0 0)] ?_)))
 refine sR [hR 2 rfl rfl (rCn (Uv false false ([]:List UInt8) m.X2 (by (simp [maxLen,-List.getD_eq_getElem?_getD]<;>omega))) Tryz.func72 [2] [(.const (.slice none 0 0),dv (.slice none 0 0)),(.tmp 19,vI m.X2)] 0 1 ⟨.inr p1a,⟨.inl ⟨rfl,rfl⟩,trivial⟩⟩ ⟨rfl,trivial⟩)] ?_
 refine T.seq (sR [] (T.block ?_))
 refine T.loop (ι:=Nat) (fun (j:Nat)=>⟨[aa,pv 0 0,aa,pv 1 0,aa,(Z46 m j),(Z47 j)],[(Z44 tm m),(Z48 m),(Z49 m j)]⟩) (fun (j:Nat)=>(j≤9)) (fun (j:Nat)=>9-j) (0) (by omega) (fun _ _ hG=>Y9 [0,1,2] (bm 7 106) (t2:=[aa,pv 0 0,aa,pv 1 0,aa,Xx 2 kU8 0 (([]:List UInt8)++Ym m.X2).length,vI 1]) (h2:=[(Z44 tm m),(Z48 m),.live (Xc 5 kU8 (([]:List UInt8)++Ym m.X2))]) (cg2 (fun (q1:Nat) (q2:Int)=>([aa,pv 0 0,aa,pv 1 0,aa,Xx 2 kU8 0 q1,vI q2]:List AV)) (by rfl) (by rfl)) (congrArg (fun (q1:List UInt8)=>([(Z44 tm m),(Z48 m),.live (Xc 5 kU8 q1)]:List HS)) (by rfl)) hG) ?_
 rintro j hj
 show T _ _ ⟨[aa,pv 0 0,aa,pv 1 0,aa,(Z46 m j),(Z47 j)],[(Z44 tm m),(Z48 m),(Z49 m j)]⟩ _ _
 replace hj:j≤9:=hj
 have hp9:=Xdk hj
 have hel:=enc_le (m:=m) hj
 refine T.seq (sR [] ?_)
 by_cases hq2:((2 ^ j:Nat):Int)≤256
 rotate_left
 ·have hj9:j=9:=(by have h9:¬j≤8:=fun q=>hq2 ((X95 hj).2 q);omega)
  refine cF (dF hq2) (T.exit (xT (xT (xH (nT (sR [] (T.ret ?_)))))))
  refine eN (Z4n tm m j) ?_
  refine Xh (s':=⟨[aa,pv 0 0,slV false false kU8 (Xm m j),pv 1 0,aa,slV false false kU8 (Xm m j),(Z47 j),aa,aa,aa,aa,aa,aa,aa,aa,aa,aa,aa,aa,aa,aa,aa,vB (decide (((2 ^ j:Nat):Int)≤256))],[(Z44 tm m),(Z48 m),.dead]⟩) (fun _ _ hG=>Gs.freeze (s:=(Z4n tm m j)) 2 (el:=Yu kU8 (Xm m j)) (sz:=kU8.sz) (n:=(Xm m j).length) rfl (kk2 ⟨(.inr pZ6),(kk2 ⟨(.inr pZ6),⟨.inl rfl,(X6j trivial)⟩⟩)⟩) ⟨pd,⟨pd,⟨(.inl ⟨rfl,rfl⟩),trivial⟩⟩⟩ hG) ?_
  exact eRt 2 (.one (dU (Xm m j))) [] (by have e1:((Yj m):List UInt8)=(Xm m j):=(by (rw [Yj,if_pos (chk0.1 pZ29),hj9]));have hE:=congrArg (fun (q1:List UInt8)=>(slV false false kU8 q1:AV)) e1;exact hE) trivial
 have hj8:j≤8:=(X95 hj).1 hq2
 refine cT (dT hq2) (T.skip (nT (T.seq (T.block (T.seq (sR [hR 3 rfl rfl (Y4 (u1:=.int .i64 (Y3 m.X2).V4) (u2:=.int .i64 ((2 ^ j:Nat):Int)) (v:=.int .i64 (J0 (Y3 m.X2).V4 ((2 ^ j:Nat):Int))) (X71 rfl) (X4 rfl) trivial)] ?_))))))
 by_cases hq3:(J0 (Y3 m.X2).V4 ((2 ^ j:Nat):Int))=0
 ·have hbt:=(X52 hj8).1 hq3
  refine cT (dT hq3) (T.exit (xT (xH (nT (xK [hR 1 rfl rfl (Y4 (u1:=.int .i64 ((2 ^ j:Nat):Int)) (u2:=.int .u64 1) (v:=.int .i64 (((2 ^ j)*2 ^ 1:Nat):Int)) (Ud (n:=1) rfl pk pZ5) (X4 rfl) ⟨rfl,trivial⟩)] ?_)))))
  refine nL (j+1) (show (j+1)≤9 from (by omega)) (show (9-(j+1):Nat)<9-j from (by omega)) (fun _ _ hG=>Y9 [0,1,2] (bm 7 106) (t2:=[aa,pv 0 0,aa,pv 1 0,aa,(Z46 m j),(Z4f j)]) (h2:=[(Z44 tm m),(Z48 m),(Z49 m j)]) (by have e1:((Xm m (j+1)).length:Nat)=(Xm m j).length:=(by (rw [Hi hbt]));have e2:(((2 ^ (j+1):Nat):Int):Int)=(((2 ^ j)*2 ^ 1:Nat):Int):=(by rfl);have hE:=congr p41 e2;exact hE) (by have e1:((Xm m (j+1)):List UInt8)=(Xm m j):=(by (rw [Hi hbt]));have hE:=congrArg (fun (q1:List UInt8)=>([(Z44 tm m),(Z48 m),.live (Xc 5 kU8 q1)]:List HS)) e1;exact hE) hG)
 have hbt:U8 (Xg m.X2) j=true:=Classical.byContradiction fun q=>hq3 ((X52 hj8).2 q)
 refine cF (dF hq3) (T.skip (nT (sR [] (T.block (sR [] ?_)))))
 by_cases hq4:((2 ^ j:Nat):Int)=1
 ·have hji:j=0:=J5 (i:=0) hj hq4;have hrm:=Vh hji hbt hj8;simp only [Jg,List.length_append,Yl,Wn] at hrm;have hi1:=Yl m.Xa;have hi2:=Yl m.X1.Xt
  refine cT (dT hq4) (xK [hR 3 rfl rfl (Wk (Uv true false (Xm m j) m.Xr (by omega)) Tryz.func72 rfl (by decide) [3] [2] (l:=[(.tmp 33,(Z46 m j)),(.tmp 35,vI m.Xr)]) [(2,(Z49 m j))] rfl 0 1 rfl rfl rfl rfl rfl rfl rfl rfl rfl ⟨.inr (.inl ⟨rfl,p1b,rfl,rfl,by simp,5,(Xm m j).length,Yu kU8 (Xm m j),List.Mem.head _,pg,fun i j=>by rw [Nat.zero_add]⟩),⟨.inl ⟨rfl,rfl⟩,trivial⟩⟩ rfl pZ4 pe (X4 rfl) trivial)] (nB (nB (nT ?_))))
  refine xK [hR 1 rfl rfl (Y4 (u1:=.int .i64 ((2 ^ j:Nat):Int)) (u2:=.int .u64 1) (v:=.int .i64 (((2 ^ j)*2 ^ 1:Nat):Int)) (Ud (n:=1) rfl pk pZ5) (X4 rfl) ⟨rfl,trivial⟩)] ?_
  refine nL (j+1) (show (j+1)≤9 from (by omega)) (show (9-(j+1):Nat)<9-j from (by omega)) (fun _ _ hG=>Ww [0,1,3] (bm 7 106) (t1:=(Z4g m j)) (t2:=[aa,pv 0 0,aa,pv 1 0,aa,Xx 3 kU8 0 ((Xm m j)++Ym m.Xr).length,(Z4f j)]) (h1:=(Z4d tm m j)) (h2:=[(Z44 tm m),(Z48 m),.live (Xc 5 kU8 ((Xm m j)++Ym m.Xr))]) (by have e1:((Xm m (j+1)).length:Nat)=((Xm m j)++Ym m.Xr).length:=X4k;have e2:(((2 ^ (j+1):Nat):Int):Int)=(((2 ^ j)*2 ^ 1:Nat):Int):=(by rfl);have hE:=congr p1e e2;exact hE) (by have e1:((Xm m (j+1)):List UInt8)=(Xm m j)++Ym m.Xr:=X4k;have hE:=congrArg (fun (q1:List UInt8)=>([(Z44 tm m),(Z48 m),.live (Xc 5 kU8 q1)]:List HS)) e1;exact hE) hG)
 have hn0:j≠0:=(fun q=>hq4 p2q)
 refine cF (dF hq4) (sR [] ?_)
 by_cases hq5:((2 ^ j:Nat):Int)=2
 ·have hji:j=1:=J5 (i:=1) hj hq5;have hrm:=Vh hji hbt hj8;simp only [Jg,List.length_append,Yl,Wn] at hrm;have hi1:=Yl m.Xa;have hi2:=Yl m.X1.Xt
  refine cT (dT hq5) (xK [hR 3 rfl rfl (Wk (Uv true false (Xm m j) m.Xy (by omega)) Tryz.func72 rfl (by decide) [3] [2] (l:=[(.tmp 39,(Z46 m j)),(.tmp 41,vI m.Xy)]) [(2,(Z49 m j))] rfl 0 1 rfl rfl rfl rfl rfl rfl rfl rfl rfl ⟨.inr (.inl ⟨rfl,p1b,rfl,rfl,by simp,5,(Xm m j).length,Yu kU8 (Xm m j),List.Mem.head _,pg,fun i j=>by rw [Nat.zero_add]⟩),⟨.inl ⟨rfl,rfl⟩,trivial⟩⟩ rfl pZ4 pe (X4 rfl) trivial)] (nB (nB (nT ?_))))
  refine xK [hR 1 rfl rfl (Y4 (u1:=.int .i64 ((2 ^ j:Nat):Int)) (u2:=.int .u64 1) (v:=.int .i64 (((2 ^ j)*2 ^ 1:Nat):Int)) (Ud (n:=1) rfl pk pZ5) (X4 rfl) ⟨rfl,trivial⟩)] ?_
  refine nL (j+1) (show (j+1)≤9 from (by omega)) (show (9-(j+1):Nat)<9-j from (by omega)) (fun _ _ hG=>Ww [0,1,3] (bm 7 106) (t1:=(Z4g m j)) (t2:=[aa,pv 0 0,aa,pv 1 0,aa,Xx 3 kU8 0 ((Xm m j)++Ym m.Xy).length,(Z4f j)]) (h1:=(Z4d tm m j)) (h2:=[(Z44 tm m),(Z48 m),.live (Xc 5 kU8 ((Xm m j)++Ym m.Xy))]) (by have e1:((Xm m (j+1)).length:Nat)=((Xm m j)++Ym m.Xy).length:=X4k;have e2:(((2 ^ (j+1):Nat):Int):Int)=(((2 ^ j)*2 ^ 1:Nat):Int):=(by rfl);have hE:=congr p1e e2;exact hE) (by have e1:((Xm m (j+1)):List UInt8)=(Xm m j)++Ym m.Xy:=X4k;have hE:=congrArg (fun (q1:List UInt8)=>([(Z44 tm m),(Z48 m),.live (Xc 5 kU8 q1)]:List HS)) e1;exact hE) hG)
 have hn1:j≠1:=(fun q=>hq5 p2q)
 refine cF (dF hq5) (sR [] ?_)
 by_cases hq6:((2 ^ j:Nat):Int)=4
 ·have hji:j=2:=J5 (i:=2) hj hq6;have hrm:=Vh hji hbt hj8;simp only [Jg,List.length_append,Yl,Wn] at hrm;have hi1:=Yl m.Xa;have hi2:=Yl m.X1.Xt
  refine cT (dT hq6) ?_
  refine xD [[],[],[1],[0,1,2],[],[4],[0,1,2,3,4,5],[0,1,2,3,4,5,6]] [hR 3 rfl rfl (Wk (Uv true false (Xm m j) m.Xa (by omega)) Tryz.func72 rfl (by decide) [3] [2] (l:=[(.tmp 45,(Z46 m j)),(.tmp 47,vI m.Xa)]) [(2,(Z49 m j))] rfl 0 1 rfl rfl rfl rfl rfl rfl rfl rfl rfl ⟨.inr (.inl ⟨rfl,p1b,rfl,rfl,by simp,5,(Xm m j).length,Yu kU8 (Xm m j),List.Mem.head _,pg,fun i j=>by rw [Nat.zero_add]⟩),⟨.inl ⟨rfl,rfl⟩,trivial⟩⟩ rfl pZ4 pe (X4 rfl) trivial),hR 6 rfl rfl (Wk (Uv true false ((Xm m j)++Ym m.Xa) m.Xw (by (simp [maxLen,-List.getD_eq_getElem?_getD]<;>omega))) Tryz.func72 rfl (by decide) [4] [3] (l:=[(.tmp 48,Xx 3 kU8 0 ((Xm m j)++Ym m.Xa).length),(.tmp 50,vI m.Xw)]) [(3,.live (Xc 5 kU8 ((Xm m j)++Ym m.Xa)))] rfl 0 1 rfl rfl rfl rfl rfl rfl rfl rfl rfl ⟨.inr (.inl ⟨rfl,p1b,rfl,rfl,by simp,5,((Xm m j)++Ym m.Xa).length,Yu kU8 ((Xm m j)++Ym m.Xa),List.Mem.head _,pg,fun i j=>by rw [Nat.zero_add]⟩),⟨.inl ⟨rfl,rfl⟩,trivial⟩⟩ rfl pZ4 pe (X4 rfl) trivial)] pZ2 pZ2 pZ2 pZ2 pZ2 pZ2 ?_
  refine nB (nB (nT (xK [hR 1 rfl rfl (Y4 (u1:=.int .i64 ((2 ^ j:Nat):Int)) (u2:=.int .u64 1) (v:=.int .i64 (((2 ^ j)*2 ^ 1:Nat):Int)) (Ud (n:=1) rfl pk pZ5) (X4 rfl) ⟨rfl,trivial⟩)] ?_)))
  refine nL (j+1) (show (j+1)≤9 from (by omega)) (show (9-(j+1):Nat)<9-j from (by omega)) (fun _ _ hG=>Ww [0,1,4] (bm 7 106) (t1:=[aa,pv 0 0,aa,pv 1 0,aa,Xx 4 kU8 0 (Xm m (j+1)).length,(Z4b j)]) (t2:=[aa,pv 0 0,aa,pv 1 0,aa,Xx 4 kU8 0 ((Xm m j)++Ym m.Xa++Ym m.Xw).length,(Z4f j)]) (h1:=(Z4d tm m j)) (h2:=[(Z44 tm m),(Z48 m),.live (Xc 5 kU8 ((Xm m j)++Ym m.Xa++Ym m.Xw))]) (by have e1:((Xm m (j+1)).length:Nat)=((Xm m j)++Ym m.Xa++Ym m.Xw).length:=p2w;have e2:(((2 ^ (j+1):Nat):Int):Int)=(((2 ^ j)*2 ^ 1:Nat):Int):=(by rfl);have hE:=congr p40 e2;exact hE) (by have e1:((Xm m (j+1)):List UInt8)=(Xm m j)++Ym m.Xa++Ym m.Xw:=p2w;have hE:=congrArg (fun (q1:List UInt8)=>([(Z44 tm m),(Z48 m),.live (Xc 5 kU8 q1)]:List HS)) e1;exact hE) hG)
 have hn2:j≠2:=(fun q=>hq6 p2q)
 refine cF (dF hq6) (sR [] ?_)
 by_cases hq7:((2 ^ j:Nat):Int)=8
 ·have hji:j=3:=J5 (i:=3) hj hq7;have hrm:=Vh hji hbt hj8;simp only [Jg,List.length_append,Yl,Wn] at hrm;have hi1:=Yl m.Xa;have hi2:=Yl m.X1.Xt
  refine cT (dT hq7) ?_
  refine xR [hR 3 rfl rfl (X88 (l:=m.Xb) Tryz.underlying35 Tryz.underlying34 Tryz.underlying5 (X4 rfl) trivial),hR 4 rfl rfl (Wk (Hz true false (Xm m j) false true m.Xb (by omega)) Tryz.func73 rfl (by decide) [3] [2] (l:=[(.tmp 54,(Z46 m j)),(.tmp 57,slV false true kU8 m.Xb)]) [(2,(Z49 m j))] rfl 0 1 rfl rfl rfl rfl rfl rfl rfl rfl rfl ⟨.inr (.inl ⟨rfl,p1b,rfl,rfl,by simp,5,(Xm m j).length,Yu kU8 (Xm m j),List.Mem.head _,pg,fun i j=>by rw [Nat.zero_add]⟩),⟨.inl ⟨rfl,rfl⟩,trivial⟩⟩ rfl pZ4 pe (X4 rfl) trivial)] pZ2 pZ2 (nB (nB (nT ?_)))
  refine xK [hR 1 rfl rfl (Y4 (u1:=.int .i64 ((2 ^ j:Nat):Int)) (u2:=.int .u64 1) (v:=.int .i64 (((2 ^ j)*2 ^ 1:Nat):Int)) (Ud (n:=1) rfl pk pZ5) (X4 rfl) ⟨rfl,trivial⟩)] ?_
  refine nL (j+1) (show (j+1)≤9 from (by omega)) (show (9-(j+1):Nat)<9-j from (by omega)) (fun _ _ hG=>Ww [0,1,3] (bm 7 106) (t1:=(Z4g m j)) (t2:=[aa,pv 0 0,aa,pv 1 0,aa,Xx 3 kU8 0 ((Xm m j)++Wl m.Xb).length,(Z4f j)]) (h1:=(Z4d tm m j)) (h2:=[(Z44 tm m),(Z48 m),.live (Xc 5 kU8 ((Xm m j)++Wl m.Xb))]) (by have e1:((Xm m (j+1)).length:Nat)=((Xm m j)++Wl m.Xb).length:=X4k;have e2:(((2 ^ (j+1):Nat):Int):Int)=(((2 ^ j)*2 ^ 1:Nat):Int):=(by rfl);have hE:=congr p1e e2;exact hE) (by have e1:((Xm m (j+1)):List UInt8)=(Xm m j)++Wl m.Xb:=X4k;have hE:=congrArg (fun (q1:List UInt8)=>([(Z44 tm m),(Z48 m),.live (Xc 5 kU8 q1)]:List HS)) e1;exact hE) hG)
 have hn3:j≠3:=(fun q=>hq7 p2q)
 refine cF (dF hq7) (sR [] ?_)
 by_cases hq8:((2 ^ j:Nat):Int)=16
 ·have hji:j=4:=J5 (i:=4) hj hq8;have hrm:=Vh hji hbt hj8;simp only [Jg,List.length_append,Yl,Wn] at hrm;have hi1:=Yl m.Xa;have hi2:=Yl m.X1.Xt
  refine cT (dT hq8) (xK [hR 3 rfl rfl (Wk (Hz true false (Xm m j) tm false m.Xi (by omega)) Tryz.func73 rfl (by decide) [3] [2] (l:=[(.tmp 61,(Z46 m j)),(.tmp 63,slV tm false kU8 m.Xi)]) [(2,(Z49 m j))] rfl 0 1 rfl rfl rfl rfl rfl rfl rfl rfl rfl ⟨.inr (.inl ⟨rfl,p1b,rfl,rfl,by simp,5,(Xm m j).length,Yu kU8 (Xm m j),List.Mem.head _,pg,fun i j=>by rw [Nat.zero_add]⟩),⟨.inl ⟨rfl,rfl⟩,trivial⟩⟩ rfl pZ4 pe (X4 rfl) trivial)] (nB (nB (nT ?_))))
  refine xK [hR 1 rfl rfl (Y4 (u1:=.int .i64 ((2 ^ j:Nat):Int)) (u2:=.int .u64 1) (v:=.int .i64 (((2 ^ j)*2 ^ 1:Nat):Int)) (Ud (n:=1) rfl pk pZ5) (X4 rfl) ⟨rfl,trivial⟩)] ?_
  refine nL (j+1) (show (j+1)≤9 from (by omega)) (show (9-(j+1):Nat)<9-j from (by omega)) (fun _ _ hG=>Ww [0,1,3] (bm 7 106) (t1:=(Z4g m j)) (t2:=[aa,pv 0 0,aa,pv 1 0,aa,Xx 3 kU8 0 ((Xm m j)++Wl m.Xi).length,(Z4f j)]) (h1:=(Z4d tm m j)) (h2:=[(Z44 tm m),(Z48 m),.live (Xc 5 kU8 ((Xm m j)++Wl m.Xi))]) (by have e1:((Xm m (j+1)).length:Nat)=((Xm m j)++Wl m.Xi).length:=X4k;have e2:(((2 ^ (j+1):Nat):Int):Int)=(((2 ^ j)*2 ^ 1:Nat):Int):=(by rfl);have hE:=congr p1e e2;exact hE) (by have e1:((Xm m (j+1)):List UInt8)=(Xm m j)++Wl m.Xi:=X4k;have hE:=congrArg (fun (q1:List UInt8)=>([(Z44 tm m),(Z48 m),.live (Xc 5 kU8 q1)]:List HS)) e1;exact hE) hG)
 have hn4:j≠4:=(fun q=>hq8 p2q)
 refine cF (dF hq8) (sR [] ?_)
 by_cases hq9:((2 ^ j:Nat):Int)=32
 ·have hji:j=5:=J5 (i:=5) hj hq9;have hrm:=Vh hji hbt hj8;simp only [Jg,List.length_append,Yl,Wn] at hrm;have hi1:=Yl m.Xa;have hi2:=Yl m.X1.Xt
  refine cT (dT hq9) ?_
  refine xD [[],[],[1],[1,2],[0,1,2,3],[],[5],[5,6],[0,1,2,3,4,5,6,7],[0,1,2,3,4,5,6,7,8]] [hR 4 rfl rfl (Wk (Uv true false (Xm m j) m.X1.Xt (by omega)) Tryz.func72 rfl (by decide) [3] [2] (l:=[(.tmp 67,(Z46 m j)),(.tmp 70,vI m.X1.Xt)]) [(2,(Z49 m j))] rfl 0 1 rfl rfl rfl rfl rfl rfl rfl rfl rfl ⟨.inr (.inl ⟨rfl,p1b,rfl,rfl,by simp,5,(Xm m j).length,Yu kU8 (Xm m j),List.Mem.head _,pg,fun i j=>by rw [Nat.zero_add]⟩),⟨.inl ⟨rfl,rfl⟩,trivial⟩⟩ rfl pZ4 pe (X4 rfl) trivial),hR 8 rfl rfl (Wk (Uv true false ((Xm m j)++Ym m.X1.Xt) m.X1.Xn (by (simp [maxLen,-List.getD_eq_getElem?_getD]<;>omega))) Tryz.func72 rfl (by decide) [4] [3] (l:=[(.tmp 71,Xx 3 kU8 0 ((Xm m j)++Ym m.X1.Xt).length),(.tmp 74,vI m.X1.Xn)]) [(3,.live (Xc 5 kU8 ((Xm m j)++Ym m.X1.Xt)))] rfl 0 1 rfl rfl rfl rfl rfl rfl rfl rfl rfl ⟨.inr (.inl ⟨rfl,p1b,rfl,rfl,by simp,5,((Xm m j)++Ym m.X1.Xt).length,Yu kU8 ((Xm m j)++Ym m.X1.Xt),List.Mem.head _,pg,fun i j=>by rw [Nat.zero_add]⟩),⟨.inl ⟨rfl,rfl⟩,trivial⟩⟩ rfl pZ4 pe (X4 rfl) trivial)] pZ2 pZ2 pZ2 pZ2 pZ2 pZ2 ?_
  refine nB (nB (nT (xK [hR 1 rfl rfl (Y4 (u1:=.int .i64 ((2 ^ j:Nat):Int)) (u2:=.int .u64 1) (v:=.int .i64 (((2 ^ j)*2 ^ 1:Nat):Int)) (Ud (n:=1) rfl pk pZ5) (X4 rfl) ⟨rfl,trivial⟩)] ?_)))
  refine nL (j+1) (show (j+1)≤9 from (by omega)) (show (9-(j+1):Nat)<9-j from (by omega)) (fun _ _ hG=>Ww [0,1,4] (bm 7 106) (t1:=[aa,pv 0 0,aa,pv 1 0,aa,Xx 4 kU8 0 (Xm m (j+1)).length,(Z4b j)]) (t2:=[aa,pv 0 0,aa,pv 1 0,aa,Xx 4 kU8 0 ((Xm m j)++Ym m.X1.Xt++Ym m.X1.Xn).length,(Z4f j)]) (h1:=(Z4d tm m j)) (h2:=[(Z44 tm m),(Z48 m),.live (Xc 5 kU8 ((Xm m j)++Ym m.X1.Xt++Ym m.X1.Xn))]) (by have e1:((Xm m (j+1)).length:Nat)=((Xm m j)++Ym m.X1.Xt++Ym m.X1.Xn).length:=p2w;have e2:(((2 ^ (j+1):Nat):Int):Int)=(((2 ^ j)*2 ^ 1:Nat):Int):=(by rfl);have hE:=congr p40 e2;exact hE) (by have e1:((Xm m (j+1)):List UInt8)=(Xm m j)++Ym m.X1.Xt++Ym m.X1.Xn:=p2w;have hE:=congrArg (fun (q1:List UInt8)=>([(Z44 tm m),(Z48 m),.live (Xc 5 kU8 q1)]:List HS)) e1;exact hE) hG)
 have hn5:j≠5:=(fun q=>hq9 p2q)
 refine cF (dF hq9) (sR [] ?_)
 by_cases hq10:((2 ^ j:Nat):Int)=64
 ·have hji:j=6:=J5 (i:=6) hj hq10;have hrm:=Vh hji hbt hj8;simp only [Jg,List.length_append,Yl,Wn] at hrm;have hi1:=Yl m.Xa;have hi2:=Yl m.X1.Xt
  refine cT (dT hq10) (xK [hR 3 rfl rfl (Wk (Ev true false (Xm m j) tm false tm m.Xe (by omega) ‹_›) Tryz.func74 rfl (by decide) [3] [2] (l:=[(.tmp 78,(Z46 m j)),(.tmp 80,slV tm false (kE tm) m.Xe)]) [(2,(Z49 m j))] rfl 0 1 rfl rfl rfl rfl rfl rfl rfl rfl rfl ⟨.inr (.inl ⟨rfl,p1b,rfl,rfl,by simp,5,(Xm m j).length,Yu kU8 (Xm m j),List.Mem.head _,pg,fun i j=>by rw [Nat.zero_add]⟩),⟨.inl ⟨rfl,rfl⟩,trivial⟩⟩ rfl pZ4 pe (X4 rfl) trivial)] (nB (nB (nT ?_))))
  refine xK [hR 1 rfl rfl (Y4 (u1:=.int .i64 ((2 ^ j:Nat):Int)) (u2:=.int .u64 1) (v:=.int .i64 (((2 ^ j)*2 ^ 1:Nat):Int)) (Ud (n:=1) rfl pk pZ5) (X4 rfl) ⟨rfl,trivial⟩)] ?_
  refine nL (j+1) (show (j+1)≤9 from (by omega)) (show (9-(j+1):Nat)<9-j from (by omega)) (fun _ _ hG=>Ww [0,1,3] (bm 7 106) (t1:=(Z4g m j)) (t2:=[aa,pv 0 0,aa,pv 1 0,aa,Xx 3 kU8 0 ((Xm m j)++Wc m.Xe).length,(Z4f j)]) (h1:=(Z4d tm m j)) (h2:=[(Z44 tm m),(Z48 m),.live (Xc 5 kU8 ((Xm m j)++Wc m.Xe))]) (by have e1:((Xm m (j+1)).length:Nat)=((Xm m j)++Wc m.Xe).length:=X4k;have e2:(((2 ^ (j+1):Nat):Int):Int)=(((2 ^ j)*2 ^ 1:Nat):Int):=(by rfl);have hE:=congr p1e e2;exact hE) (by have e1:((Xm m (j+1)):List UInt8)=(Xm m j)++Wc m.Xe:=X4k;have hE:=congrArg (fun (q1:List UInt8)=>([(Z44 tm m),(Z48 m),.live (Xc 5 kU8 q1)]:List HS)) e1;exact hE) hG)
 have hn6:j≠6:=(fun q=>hq10 p2q)
 refine cF (dF hq10) (sR [] ?_)
 by_cases hq11:((2 ^ j:Nat):Int)=128
 ·have hji:j=7:=J5 (i:=7) hj hq11;have hrm:=Vh hji hbt hj8;simp only [Jg,List.length_append,Yl,Wn] at hrm;have hi1:=Yl m.Xa;have hi2:=Yl m.X1.Xt
  refine cT (dT hq11) (xK [hR 3 rfl rfl (Wk (Ev true false (Xm m j) tm false tm m.Xp (by omega) ‹_›) Tryz.func74 rfl (by decide) [3] [2] (l:=[(.tmp 84,(Z46 m j)),(.tmp 86,slV tm false (kE tm) m.Xp)]) [(2,(Z49 m j))] rfl 0 1 rfl rfl rfl rfl rfl rfl rfl rfl rfl ⟨.inr (.inl ⟨rfl,p1b,rfl,rfl,by simp,5,(Xm m j).length,Yu kU8 (Xm m j),List.Mem.head _,pg,fun i j=>by rw [Nat.zero_add]⟩),⟨.inl ⟨rfl,rfl⟩,trivial⟩⟩ rfl pZ4 pe (X4 rfl) trivial)] (nB (nB (nT ?_))))
  refine xK [hR 1 rfl rfl (Y4 (u1:=.int .i64 ((2 ^ j:Nat):Int)) (u2:=.int .u64 1) (v:=.int .i64 (((2 ^ j)*2 ^ 1:Nat):Int)) (Ud (n:=1) rfl pk pZ5) (X4 rfl) ⟨rfl,trivial⟩)] ?_
  refine nL (j+1) (show (j+1)≤9 from (by omega)) (show (9-(j+1):Nat)<9-j from (by omega)) (fun _ _ hG=>Ww [0,1,3] (bm 7 106) (t1:=(Z4g m j)) (t2:=[aa,pv 0 0,aa,pv 1 0,aa,Xx 3 kU8 0 ((Xm m j)++Wc m.Xp).length,(Z4f j)]) (h1:=(Z4d tm m j)) (h2:=[(Z44 tm m),(Z48 m),.live (Xc 5 kU8 ((Xm m j)++Wc m.Xp))]) (by have e1:((Xm m (j+1)).length:Nat)=((Xm m j)++Wc m.Xp).length:=X4k;have e2:(((2 ^ (j+1):Nat):Int):Int)=(((2 ^ j)*2 ^ 1:Nat):Int):=(by rfl);have hE:=congr p1e e2;exact hE) (by have e1:((Xm m (j+1)):List UInt8)=(Xm m j)++Wc m.Xp:=X4k;have hE:=congrArg (fun (q1:List UInt8)=>([(Z44 tm m),(Z48 m),.live (Xc 5 kU8 q1)]:List HS)) e1;exact hE) hG)
 have hn7:j≠7:=(fun q=>hq11 p2q)
 refine cF (dF hq11) (sR [] ?_)
 by_cases hq12:((2 ^ j:Nat):Int)=256
 rotate_left
 ·exact absurd (show j=8 by omega) (fun q=>hq12 p2q)
 have hji:j=8:=J5 (i:=8) hj hq12;have hrm:=Vh hji hbt hj8;simp only [Jg,List.length_append,Yl,Wn] at hrm;have hi1:=Yl m.Xa;have hi2:=Yl m.X1.Xt
 refine cT (dT hq12) (sR [hR 4 rfl rfl (Wk (Hy true false (Xm m j) ((m.X5.length:Nat):Int) (by omega)) Tryz.func75 rfl (by decide) [3] [2] (l:=[(.tmp 90,(Z46 m j)),(.tmp 93,(Z4h m))]) [(2,(Z49 m j))] rfl 0 1 rfl rfl rfl rfl rfl rfl rfl rfl rfl ⟨.inr (.inl ⟨rfl,p1b,rfl,rfl,by simp,5,(Xm m j).length,Yu kU8 (Xm m j),List.Mem.head _,pg,fun i j=>by rw [Nat.zero_add]⟩),⟨.inl ⟨rfl,rfl⟩,trivial⟩⟩ rfl pZ4 pe (X4 rfl) trivial)] (sR [] (T.block ?_)))
 refine T.loop (ι:=Nat) (fun (k:Nat)=>(Z4l tm m j k)) (fun (k:Nat)=>(k≤m.X5.length)) (fun (k:Nat)=>m.X5.length-k) (0) (Nat.zero_le _) (fun _ _ hG=>Ww [0,1,3] (bm 99 554597137599850363154807652458) (t1:=[aa,pv 0 0,aa,pv 1 0,aa,Xx 3 kU8 0 ((Xm m j)++Wh ((m.X5.length:Nat):Int)++Vf m.X5 0).length,(Z47 j),aa,aa,aa,aa,aa,aa,aa,aa,aa,aa,aa,aa,aa,aa,aa,aa,aa,aa,aa,aa,aa,aa,aa,aa,aa,aa,aa,aa,aa,aa,aa,aa,aa,aa,aa,aa,aa,aa,aa,aa,aa,aa,aa,aa,aa,aa,aa,aa,aa,aa,aa,aa,aa,aa,aa,aa,aa,aa,aa,aa,aa,aa,aa,aa,aa,aa,aa,aa,aa,aa,aa,aa,aa,aa,aa,aa,aa,aa,aa,aa,aa,aa,aa,aa,aa,aa,aa,aa,aa,(Z4j tm m),(Z4h m),vI 0]) (t2:=[aa,pv 0 0,aa,pv 1 0,aa,Xx 3 kU8 0 ((Xm m j)++Wh ((m.X5.length:Nat):Int)).length,(Z47 j),aa,aa,aa,aa,aa,aa,aa,aa,aa,aa,aa,aa,aa,aa,aa,aa,aa,aa,aa,aa,aa,aa,aa,aa,aa,aa,aa,aa,aa,aa,aa,aa,aa,aa,aa,aa,aa,aa,aa,aa,aa,aa,aa,aa,aa,aa,aa,aa,aa,aa,aa,aa,aa,aa,aa,aa,aa,aa,aa,aa,aa,aa,aa,aa,aa,aa,aa,aa,aa,aa,aa,aa,aa,aa,aa,aa,aa,aa,aa,aa,aa,aa,aa,aa,aa,aa,aa,aa,aa,(Z4j tm m),(Z4h m),vI 0]) (h1:=[(Z44 tm m),(Z48 m),.live (Xc 5 kU8 ((Xm m j)++Wh ((m.X5.length:Nat):Int)++Vf m.X5 0))]) (h2:=[(Z44 tm m),(Z48 m),.live (Xc 5 kU8 ((Xm m j)++Wh ((m.X5.length:Nat):Int)))]) (by have e1:(((Xm m j)++Wh ((m.X5.length:Nat):Int)++Vf m.X5 0).length:Nat)=((Xm m j)++Wh ((m.X5.length:Nat):Int)).length:=p3v;have hE:=congrArg (fun (q1:Nat)=>([aa,pv 0 0,aa,pv 1 0,aa,Xx 3 kU8 0 q1,(Z47 j),aa,aa,aa,aa,aa,aa,aa,aa,aa,aa,aa,aa,aa,aa,aa,aa,aa,aa,aa,aa,aa,aa,aa,aa,aa,aa,aa,aa,aa,aa,aa,aa,aa,aa,aa,aa,aa,aa,aa,aa,aa,aa,aa,aa,aa,aa,aa,aa,aa,aa,aa,aa,aa,aa,aa,aa,aa,aa,aa,aa,aa,aa,aa,aa,aa,aa,aa,aa,aa,aa,aa,aa,aa,aa,aa,aa,aa,aa,aa,aa,aa,aa,aa,aa,aa,aa,aa,aa,aa,(Z4j tm m),(Z4h m),vI 0]:List AV)) e1;exact hE) (by have e1:(((Xm m j)++Wh ((m.X5.length:Nat):Int)++Vf m.X5 0):List UInt8)=(Xm m j)++Wh ((m.X5.length:Nat):Int):=p3v;have hE:=congrArg (fun (q1:List UInt8)=>([(Z44 tm m),(Z48 m),.live (Xc 5 kU8 q1)]:List HS)) e1;exact hE) hG) ?_
 rintro k hk
 show T _ _ (Z4l tm m j k) _ _
 replace hk:k≤m.X5.length:=hk
 have hcle:=crt_le m.X5 k
 refine sR [] (T.seq ?_)
 by_cases hq13:((k:Nat):Int)<((m.X5.length:Nat):Int)
 ·have hcr:=Xb6 (l:=m.X5) (k:=k) (by omega);have hvc:=Xan (m.X5.getD k zC).Yi;have hcl:=I0 ((m.X5.length:Nat):Int)
  refine cT (dT hq13) (T.skip (nT (T.seq (T.block (sR [hR 0 rfl rfl (Yo tm false (kC tm) m.X5 k (k:=.i64) (i:=((k:Nat):Int)) Tryz.underlying40 Jz rfl rfl (by omega) (X4 rfl) trivial)] ?_)))))
  refine xD [[],[],[1],[0,1,2],[],[4],[0,1,2,3,4,5],[0,1,2,3,4,5,6]] [hR 3 rfl rfl (Wk (E4 true false ((Xm m j)++Wh ((m.X5.length:Nat):Int)++Vf m.X5 k) tm (m.X5.getD k zC).Vg (by (simp [maxLen,-List.getD_eq_getElem?_getD]<;>omega))) Tryz.func76 rfl (by decide) [4] [2] (l:=[(.tmp 102,(Z4i m j k)),(.tmp 104,.tv (.agg [dI (m.X5.getD k zC).Vg.f_Signer,.d (dsl tm false kU8 (m.X5.getD k zC).Vg.X7)]))]) [(2,(Z4k m j k))] rfl 0 1 rfl rfl rfl rfl rfl rfl rfl rfl rfl ⟨.inr (.inl ⟨rfl,p1b,rfl,rfl,by simp,5,((Xm m j)++Wh ((m.X5.length:Nat):Int)++Vf m.X5 k).length,Yu kU8 ((Xm m j)++Wh ((m.X5.length:Nat):Int)++Vf m.X5 k),List.Mem.head _,pg,fun i j=>by rw [Nat.zero_add]⟩),⟨⟨.inl ⟨rfl,rfl⟩,⟨.inl ⟨rfl,rfl⟩,trivial⟩⟩,trivial⟩⟩ rfl pZ4 pe (X4 rfl) trivial),hR 6 rfl rfl (Wk (Ev true false (((Xm m j)++Wh ((m.X5.length:Nat):Int)++Vf m.X5 k)++Vv (m.X5.getD k zC).Vg) tm false tm (m.X5.getD k zC).Yi (by (simp [maxLen,-List.getD_eq_getElem?_getD]<;>omega)) (by omega)) Tryz.func74 rfl (by decide) [5] [4] (l:=[(.tmp 105,Xx 4 kU8 0 (((Xm m j)++Wh ((m.X5.length:Nat):Int)++Vf m.X5 k)++Vv (m.X5.getD k zC).Vg).length),(.tmp 107,slV tm false (kE tm) (m.X5.getD k zC).Yi)]) [(4,.live (Xc 5 kU8 (((Xm m j)++Wh ((m.X5.length:Nat):Int)++Vf m.X5 k)++Vv (m.X5.getD k zC).Vg)))] rfl 0 1 rfl rfl rfl rfl rfl rfl rfl rfl rfl ⟨.inr (.inl ⟨rfl,p1b,rfl,rfl,by simp,5,(((Xm m j)++Wh ((m.X5.length:Nat):Int)++Vf m.X5 k)++Vv (m.X5.getD k zC).Vg).length,Yu kU8 (((Xm m j)++Wh ((m.X5.length:Nat):Int)++Vf m.X5 k)++Vv (m.X5.getD k zC).Vg),List.Mem.head _,pg,fun i j=>by rw [Nat.zero_add]⟩),⟨.inl ⟨rfl,rfl⟩,trivial⟩⟩ rfl pZ4 pe (X4 rfl) trivial)] pZ2 pZ2 pZ2 pZ2 pZ2 pZ2 ?_
  refine nB (nT (xK [hR 0 rfl rfl (Y4 (u1:=.int .i64 ((k:Nat):Int)) (u2:=.int .i64 1) (v:=.int .i64 ((k+1:Nat):Int)) (Yn pZ5) (X4 rfl) ⟨rfl,trivial⟩)] ?_))
  refine nL (k+1) (show (k+1)≤m.X5.length from (by omega)) (show (m.X5.length-(k+1):Nat)<m.X5.length-k from (by omega)) (fun _ _ hG=>Ww [0,1,5] (bm 99 554597137599850363154807652458) (t1:=[aa,pv 0 0,aa,pv 1 0,aa,Xx 5 kU8 0 ((Xm m j)++Wh ((m.X5.length:Nat):Int)++Vf m.X5 (k+1)).length,(Z47 j),aa,aa,aa,aa,aa,aa,aa,aa,aa,aa,aa,aa,aa,aa,aa,aa,aa,aa,aa,aa,aa,aa,aa,aa,aa,aa,aa,aa,aa,aa,aa,aa,aa,aa,aa,aa,aa,aa,aa,aa,aa,aa,aa,aa,aa,aa,aa,aa,aa,aa,aa,aa,aa,aa,aa,aa,aa,aa,aa,aa,aa,aa,aa,aa,aa,aa,aa,aa,aa,aa,aa,aa,aa,aa,aa,aa,aa,aa,aa,aa,aa,aa,aa,aa,aa,aa,aa,aa,aa,(Z4j tm m),(Z4h m),(Z4m k)]) (t2:=[aa,pv 0 0,aa,pv 1 0,aa,Xx 5 kU8 0 (((Xm m j)++Wh ((m.X5.length:Nat):Int)++Vf m.X5 k)++Vv (m.X5.getD k zC).Vg++Wc (m.X5.getD k zC).Yi).length,(Z47 j),aa,aa,aa,aa,aa,aa,aa,aa,aa,aa,aa,aa,aa,aa,aa,aa,aa,aa,aa,aa,aa,aa,aa,aa,aa,aa,aa,aa,aa,aa,aa,aa,aa,aa,aa,aa,aa,aa,aa,aa,aa,aa,aa,aa,aa,aa,aa,aa,aa,aa,aa,aa,aa,aa,aa,aa,aa,aa,aa,aa,aa,aa,aa,aa,aa,aa,aa,aa,aa,aa,aa,aa,aa,aa,aa,aa,aa,aa,aa,aa,aa,aa,aa,aa,aa,aa,aa,aa,aa,(Z4j tm m),(Z4h m),(Z4m k)]) (h1:=[(Z44 tm m),(Z48 m),.live (Xc 5 kU8 ((Xm m j)++Wh ((m.X5.length:Nat):Int)++Vf m.X5 (k+1)))]) (h2:=[(Z44 tm m),(Z48 m),.live (Xc 5 kU8 (((Xm m j)++Wh ((m.X5.length:Nat):Int)++Vf m.X5 k)++Vv (m.X5.getD k zC).Vg++Wc (m.X5.getD k zC).Yi))]) (by have e1:(((Xm m j)++Wh ((m.X5.length:Nat):Int)++Vf m.X5 (k+1)).length:Nat)=(((Xm m j)++Wh ((m.X5.length:Nat):Int)++Vf m.X5 k)++Vv (m.X5.getD k zC).Vg++Wc (m.X5.getD k zC).Yi).length:=p32;have hE:=congrArg (fun (q1:Nat)=>([aa,pv 0 0,aa,pv 1 0,aa,Xx 5 kU8 0 q1,(Z47 j),aa,aa,aa,aa,aa,aa,aa,aa,aa,aa,aa,aa,aa,aa,aa,aa,aa,aa,aa,aa,aa,aa,aa,aa,aa,aa,aa,aa,aa,aa,aa,aa,aa,aa,aa,aa,aa,aa,aa,aa,aa,aa,aa,aa,aa,aa,aa,aa,aa,aa,aa,aa,aa,aa,aa,aa,aa,aa,aa,aa,aa,aa,aa,aa,aa,aa,aa,aa,aa,aa,aa,aa,aa,aa,aa,aa,aa,aa,aa,aa,aa,aa,aa,aa,aa,aa,aa,aa,aa,(Z4j tm m),(Z4h m),(Z4m k)]:List AV)) e1;exact hE) (by have e1:(((Xm m j)++Wh ((m.X5.length:Nat):Int)++Vf m.X5 (k+1)):List UInt8)=((Xm m j)++Wh ((m.X5.length:Nat):Int)++Vf m.X5 k)++Vv (m.X5.getD k zC).Vg++Wc (m.X5.getD k zC).Yi:=p32;have hE:=congrArg (fun (q1:List UInt8)=>([(Z44 tm m),(Z48 m),.live (Xc 5 kU8 q1)]:List HS)) e1;exact hE) hG)
 refine cF (dF hq13) (T.exit (xT (xT (xH (nB (nB (nT (xK [hR 1 rfl rfl (Y4 (u1:=.int .i64 ((2 ^ j:Nat):Int)) (u2:=.int .u64 1) (v:=.int .i64 (((2 ^ j)*2 ^ 1:Nat):Int)) (Ud (n:=1) rfl pk pZ5) (X4 rfl) ⟨rfl,trivial⟩)] ?_))))))))
 refine nL (j+1) (show (j+1)≤9 from (by omega)) (show (9-(j+1):Nat)<9-j from (by omega)) (fun _ _ hG=>Y9 [0,1,2] (bm 7 106) (t2:=[aa,pv 0 0,aa,pv 1 0,aa,(Z4i m j k),(Z4f j)]) (h2:=[(Z44 tm m),(Z48 m),(Z4k m j k)]) (by have e1:((Xm m (j+1)).length:Nat)=((Xm m j)++Wh ((m.X5.length:Nat):Int)++Vf m.X5 k).length:=p48;have e2:(((2 ^ (j+1):Nat):Int):Int)=(((2 ^ j)*2 ^ 1:Nat):Int):=(by rfl);have hE:=congr p41 e2;exact hE) (by have e1:((Xm m (j+1)):List UInt8)=((Xm m j)++Wh ((m.X5.length:Nat):Int)++Vf m.X5 k):=p48;have hE:=congrArg (fun (q1:List UInt8)=>([(Z44 tm m),(Z48 m),.live (Xc 5 kU8 q1)]:List HS)) e1;exact hE) hG)
section
variable (tm:Bool) (m:aM) (k:Nat)
abbrev Z4o:List SV:=[dI m.X2,dI m.Xr,dI m.Xy,dI m.Xa,dI m.Xw,dS m.Xb,.d (dsl tm false kU8 m.Xi),dI m.X1.Xt,dI m.X1.Xn,.d (dsl tm false (kE tm) m.Xe),.d (dsl tm false (kE tm) m.Xp),.d (dsl tm false (kC tm) m.X5)]
abbrev Z4p:HS:=.live (.box 42 (Z4o tm m))
abbrev Z4q:St:=⟨[.tv (.agg (Z4o tm m)),pv 0 0,dv (.slice none 0 0),aa,aa,aa,aa,aa,aa,vB (decide ((X1t m)≠0))],[(Z4p tm m)]⟩
abbrev Z4r:List AV:=[aa,pv 0 0,aa,pv 1 0,aa,Xx 2 kU8 0 (Xm m 1).length]
abbrev Z4s:HS:=.live (.box 86 [dB (Xg m.X2).Xr,dB (Xg m.X2).Xy,dB (Xg m.X2).Xa,dB (Xg m.X2).Xb,dB (Xg m.X2).Xi,dB (Xg m.X2).X1,dB (Xg m.X2).Xe,dB (Xg m.X2).Xp,dB (Xg m.X2).X5])
abbrev Z4t:List HS:=[(Z4p tm m),(Z4s m),.live (Xc 5 kU8 (Xm m 1))]
abbrev Z4u:List AV:=[aa,pv 0 0,aa,pv 1 0,aa,Xx 2 kU8 0 (Xm m 0).length]
abbrev Z4v:List HS:=[(Z4p tm m),(Z4s m),.live (Xc 5 kU8 (Xm m 0))]
abbrev Z4w:List AV:=[aa,pv 0 0,aa,pv 1 0,aa,Xx 2 kU8 0 (Xm m 2).length]
abbrev Z4x:List HS:=[(Z4p tm m),(Z4s m),.live (Xc 5 kU8 (Xm m 2))]
abbrev Z4y:List AV:=[aa,pv 0 0,aa,pv 1 0,aa,Xx 2 kU8 0 (Xm m 3).length]
abbrev Z4z:List HS:=[(Z4p tm m),(Z4s m),.live (Xc 5 kU8 (Xm m 3))]
abbrev Z50:AV:=Xx 4 kU8 0 ((Xm m 2)++Ym m.Xa++Ym m.Xw).length
abbrev Z51:List AV:=[aa,pv 0 0,aa,pv 1 0,aa,Xx 2 kU8 0 (Xm m 4).length]
abbrev Z52:List HS:=[(Z4p tm m),(Z4s m),.live (Xc 5 kU8 (Xm m 4))]
abbrev Z53:List AV:=[aa,pv 0 0,aa,pv 1 0,aa,Xx 2 kU8 0 (Xm m 5).length]
abbrev Z54:List HS:=[(Z4p tm m),(Z4s m),.live (Xc 5 kU8 (Xm m 5))]
abbrev Z55:List AV:=[aa,pv 0 0,aa,pv 1 0,aa,Xx 2 kU8 0 (Xm m 6).length]
abbrev Z56:List HS:=[(Z4p tm m),(Z4s m),.live (Xc 5 kU8 (Xm m 6))]
abbrev Z57:AV:=Xx 4 kU8 0 ((Xm m 5)++Ym m.X1.Xt++Ym m.X1.Xn).length
abbrev Z58:List AV:=[aa,pv 0 0,aa,pv 1 0,aa,Xx 2 kU8 0 (Xm m 7).length]
abbrev Z59:List HS:=[(Z4p tm m),(Z4s m),.live (Xc 5 kU8 (Xm m 7))]
abbrev Z5a:List AV:=[aa,pv 0 0,aa,pv 1 0,aa,Xx 2 kU8 0 (Xm m 8).length]
abbrev Z5b:List HS:=[(Z4p tm m),(Z4s m),.live (Xc 5 kU8 (Xm m 8))]
abbrev Z5c:List AV:=[aa,pv 0 0,aa,pv 1 0,aa,Xx 2 kU8 0 (Xm m 9).length]
abbrev Z5d:List HS:=[(Z4p tm m),(Z4s m),.live (Xc 5 kU8 (Xm m 9))]
abbrev Z5e:AV:=Xx 2 kU8 0 ((Xm m 8)++Wh ((m.X5.length:Nat):Int)++Vf m.X5 k).length
abbrev Z5f:HS:=.live (Xc 5 kU8 ((Xm m 8)++Wh ((m.X5.length:Nat):Int)++Vf m.X5 k))
abbrev Z5g:St:=⟨[aa,pv 0 0,aa,pv 1 0,aa,(Z5e m k),vI ((k:Nat):Int)],[(Z4p tm m),(Z4s m),(Z5f m k)]⟩
abbrev Z5h:List HS:=[(Z4p tm m),(Z4s m),.live (Xc 5 kU8 ((Xm m 8)++Wh ((m.X5.length:Nat):Int)++Vf m.X5 0))]
abbrev Z5i:AV:=vI ((k+1:Nat):Int)
abbrev Z5j:List HS:=[(Z4p tm m),(Z4s m),.live (Xc 5 kU8 ((Xm m 8)++Wh ((m.X5.length:Nat):Int)++Vf m.X5 (k+1)))]
abbrev Z5k:List AV:=[aa,pv 0 0,Xx 2 kU8 0 (Xm m 9).length,pv 1 0,aa,Xx 2 kU8 0 (Xm m 9).length]
end
theorem H6 (tm:Bool) (m:aM) (hl:(Xm m 9).length≤1000000000) (hq:m.Xe.length≤9223372036854775807) (hr:m.Xp.length≤9223372036854775807) (hc:m.X5.length≤9223372036854775807) (hd:m.Xi.length≤9223372036854775807) (hg:m.Xb.length≤9223372036854775807):Holds Tryz.prog 21 ⟨[.tv (.agg [dI m.X2,dI m.Xr,dI m.Xy,dI m.Xa,dI m.Xw,dS m.Xb,.d (dsl tm false kU8 m.Xi),dI m.X1.Xt,dI m.X1.Xn,.d (dsl tm false (kE tm) m.Xe),.d (dsl tm false (kE tm) m.Xp),.d (dsl tm false (kC tm) m.X5)])],[],slV false false kU8 (Yj m),[]⟩:=by
 refine Holds.of Tryz.func21 rfl (N:=106) Tryz.ntmps21 rfl fun w0 B0 S0 U0=>?_
 show T _ (Y0 106 0 w0 S0 U0 B0) ⟨[.tv (.agg (Z4o tm m))],[]⟩ _ _
 have hi1:=Yl m.Xa
 have hi2:=Yl m.X1.Xt
 have hi0:=Yl m.X2
 refine sR [] (T.seq (sR [hR 1 rfl rfl (rCa (X41 tm m (by omega) (by omega) (by omega) (by omega) (by omega)) Tryz.func31 [] [(.tmp 7,.tv (.agg (Z4o tm m)))] 0 0)] ?_))
 by_cases hq1:(X1t m)≠0
 ·refine cT (dT hq1) (sR [] (T.ret (rT ?_)))
  refine eN (Z4q tm m) ?_
  refine Xh (s':=⟨[.tv (.agg (Z4o tm m)),pv 0 0,slV false false kU8 ([]:List UInt8),aa,aa,aa,aa,aa,aa,vB (decide ((X1t m)≠0))],[(Z4p tm m)]⟩) (fun _ _ hG=>We (s:=(Z4q tm m)) (kk2 ⟨p1a,⟨.inl rfl,p3m⟩⟩) ⟨.inl rfl,trivial⟩ hG) ?_
  exact eRt 2 (.one (dU ([]:List UInt8))) [] p3l trivial
 have hwl:=chk0.1 (Classical.not_not.1 hq1);have hcl0:=I0 ((m.X5.length:Nat):Int)
 refine cF (dF hq1) (T.skip (nT (sR [hR 2 rfl rfl (rCa (Fl m.X2 ) Tryz.func28 [] [(.tmp 12,vI m.X2)] 0 0)] (sR [hR 2 rfl rfl (rCn (I5 false false ([]:List UInt8) m.X2 (by decide)) Tryz.func44 [2] [(.const (.slice none 0 0),dv (.slice none 0 0)),(.tmp 17,vI m.X2)] 0 1 ⟨.inr p1a,⟨.inl ⟨rfl,rfl⟩,trivial⟩⟩ ⟨rfl,trivial⟩)] ?_))))
 refine Va ⟨(Z4r m),(Z4t tm m)⟩ ?_ ?_
 ·refine tN ⟨[.tv (.agg (Z4o tm m)),pv 0 0,dv (.slice none 0 0),pv 1 0,aa,Xx 2 kU8 0 (([]:List UInt8)++Ym m.X2).length,aa,aa,aa,vB (decide ((X1t m)≠0))],[(Z4p tm m),(Z4s m),.live (Xc 5 kU8 (([]:List UInt8)++Ym m.X2))]⟩ ?_
  refine Wv (s':=⟨(Z4u m),(Z4v tm m)⟩) (fun _ _ hG=>Y9 [0,1,2] (bm 6 42) (t2:=[aa,pv 0 0,aa,pv 1 0,aa,Xx 2 kU8 0 (([]:List UInt8)++Ym m.X2).length]) (h2:=[(Z4p tm m),(Z4s m),.live (Xc 5 kU8 (([]:List UInt8)++Ym m.X2))]) (congrArg (fun (q1:Nat)=>([aa,pv 0 0,aa,pv 1 0,aa,Xx 2 kU8 0 q1]:List AV)) (by rfl)) (congrArg (fun (q1:List UInt8)=>([(Z4p tm m),(Z4s m),.live (Xc 5 kU8 q1)]:List HS)) (by rfl)) hG) (sR [] ?_)
  by_cases hq2:(Xg m.X2).Xr=true
  ·have hbt:U8 (Xg m.X2) 0=true:=hq2;have hst:Xm m 1=Xm m 0++Ym m.Xr:=(Jk (j:=0) (i:=0) rfl hbt);have hrm:=Vh (m:=m) (j:=0) (i:=0) rfl hbt (by decide);simp only [Jg,List.length_append,Yl,Wn] at hrm
   refine cT hq2 (xK [hR 3 rfl rfl (Wk (I5 true false (Xm m 0) m.Xr (by omega)) Tryz.func44 rfl (by decide) [3] [2] (l:=[(.tmp 21,Xx 2 kU8 0 (Xm m 0).length),(.tmp 23,vI m.Xr)]) [(2,.live (Xc 5 kU8 (Xm m 0)))] rfl 0 1 rfl rfl rfl rfl rfl rfl rfl rfl rfl ⟨.inr (.inl ⟨rfl,p1b,rfl,rfl,by simp,5,(Xm m 0).length,Yu kU8 (Xm m 0),List.Mem.head _,pg,fun i j=>by rw [Nat.zero_add]⟩),⟨.inl ⟨rfl,rfl⟩,trivial⟩⟩ rfl pZ4 pe (X4 rfl) trivial)] ?_)
   refine eN ⟨[aa,pv 0 0,aa,pv 1 0,aa,Xx 3 kU8 0 ((Xm m 0)++Ym m.Xr).length,aa,aa,aa,aa,aa,aa,aa,aa,aa,aa,aa,aa,aa,aa,vB (Xg m.X2).Xr],[(Z4p tm m),(Z4s m),.live (Xc 5 kU8 (Xm m 0)),.live (Xc 5 kU8 ((Xm m 0)++Ym m.Xr))]⟩ ?_
   refine Xh (s':=⟨(Z4r m),(Z4t tm m)⟩) (fun _ _ hG=>Ww [0,1,3] (bm 6 42) (t1:=[aa,pv 0 0,aa,pv 1 0,aa,Xx 3 kU8 0 (Xm m 1).length]) (t2:=[aa,pv 0 0,aa,pv 1 0,aa,Xx 3 kU8 0 ((Xm m 0)++Ym m.Xr).length]) (h1:=(Z4t tm m)) (h2:=[(Z4p tm m),(Z4s m),.live (Xc 5 kU8 ((Xm m 0)++Ym m.Xr))]) (by have e1:((Xm m 1).length:Nat)=((Xm m 0)++Ym m.Xr).length:=pp;have hE:=congrArg (fun (q1:Nat)=>([aa,pv 0 0,aa,pv 1 0,aa,Xx 3 kU8 0 q1]:List AV)) e1;exact hE) (by have e1:((Xm m 1):List UInt8)=(Xm m 0)++Ym m.Xr:=pp;have hE:=congrArg (fun (q1:List UInt8)=>([(Z4p tm m),(Z4s m),.live (Xc 5 kU8 q1)]:List HS)) e1;exact hE) hG) ?_
   exact nJ
  have hbt:¬U8 (Xg m.X2) 0=true:=hq2;have hst:Xm m 1=Xm m 0:=Hi (j:=0) hbt
  replace hq2:=Bool.eq_false_iff.2 hq2
  refine cF hq2 (T.skip ?_)
  refine eN ⟨[aa,pv 0 0,aa,pv 1 0,aa,Xx 2 kU8 0 (Xm m 0).length,aa,aa,aa,aa,aa,aa,aa,aa,aa,aa,aa,aa,aa,aa,vB (Xg m.X2).Xr],(Z4v tm m)⟩ ?_
  refine Xh (s':=⟨(Z4r m),(Z4t tm m)⟩) (fun _ _ hG=>Y9 [0,1,2] (bm 6 42) (t2:=(Z4u m)) (h2:=(Z4v tm m)) (by have e1:((Xm m 1).length:Nat)=(Xm m 0).length:=pp;have hE:=congrArg (fun (q1:Nat)=>([aa,pv 0 0,aa,pv 1 0,aa,Xx 2 kU8 0 q1]:List AV)) e1;exact hE) (by have e1:((Xm m 1):List UInt8)=(Xm m 0):=pp;have hE:=congrArg (fun (q1:List UInt8)=>([(Z4p tm m),(Z4s m),.live (Xc 5 kU8 q1)]:List HS)) e1;exact hE) hG) ?_
  exact nJ
 refine Va ⟨(Z4w m),(Z4x tm m)⟩ ?_ ?_
 ·refine sR [] ?_
  by_cases hq3:(Xg m.X2).Xy=true
  ·have hbt:U8 (Xg m.X2) 1=true:=hq3;have hst:Xm m 2=Xm m 1++Ym m.Xy:=(Jk (j:=1) (i:=1) rfl hbt);have hrm:=Vh (m:=m) (j:=1) (i:=1) rfl hbt (by decide);simp only [Jg,List.length_append,Yl,Wn] at hrm
   refine cT hq3 (xK [hR 3 rfl rfl (Wk (I5 true false (Xm m 1) m.Xy (by omega)) Tryz.func44 rfl (by decide) [3] [2] (l:=[(.tmp 27,Xx 2 kU8 0 (Xm m 1).length),(.tmp 29,vI m.Xy)]) [(2,.live (Xc 5 kU8 (Xm m 1)))] rfl 0 1 rfl rfl rfl rfl rfl rfl rfl rfl rfl ⟨.inr (.inl ⟨rfl,p1b,rfl,rfl,by simp,5,(Xm m 1).length,Yu kU8 (Xm m 1),List.Mem.head _,pg,fun i j=>by rw [Nat.zero_add]⟩),⟨.inl ⟨rfl,rfl⟩,trivial⟩⟩ rfl pZ4 pe (X4 rfl) trivial)] ?_)
   refine eN ⟨[aa,pv 0 0,aa,pv 1 0,aa,Xx 3 kU8 0 ((Xm m 1)++Ym m.Xy).length,aa,aa,aa,aa,aa,aa,aa,aa,aa,aa,aa,aa,aa,aa,aa,aa,aa,aa,aa,aa,vB (Xg m.X2).Xy],[(Z4p tm m),(Z4s m),.live (Xc 5 kU8 (Xm m 1)),.live (Xc 5 kU8 ((Xm m 1)++Ym m.Xy))]⟩ ?_
   refine Xh (s':=⟨(Z4w m),(Z4x tm m)⟩) (fun _ _ hG=>Ww [0,1,3] (bm 6 42) (t1:=[aa,pv 0 0,aa,pv 1 0,aa,Xx 3 kU8 0 (Xm m 2).length]) (t2:=[aa,pv 0 0,aa,pv 1 0,aa,Xx 3 kU8 0 ((Xm m 1)++Ym m.Xy).length]) (h1:=(Z4x tm m)) (h2:=[(Z4p tm m),(Z4s m),.live (Xc 5 kU8 ((Xm m 1)++Ym m.Xy))]) (by have e1:((Xm m 2).length:Nat)=((Xm m 1)++Ym m.Xy).length:=pp;have hE:=congrArg (fun (q1:Nat)=>([aa,pv 0 0,aa,pv 1 0,aa,Xx 3 kU8 0 q1]:List AV)) e1;exact hE) (by have e1:((Xm m 2):List UInt8)=(Xm m 1)++Ym m.Xy:=pp;have hE:=congrArg (fun (q1:List UInt8)=>([(Z4p tm m),(Z4s m),.live (Xc 5 kU8 q1)]:List HS)) e1;exact hE) hG) ?_
   exact nJ
  have hbt:¬U8 (Xg m.X2) 1=true:=hq3;have hst:Xm m 2=Xm m 1:=Hi (j:=1) hbt
  replace hq3:=Bool.eq_false_iff.2 hq3
  refine cF hq3 (T.skip ?_)
  refine eN ⟨[aa,pv 0 0,aa,pv 1 0,aa,Xx 2 kU8 0 (Xm m 1).length,aa,aa,aa,aa,aa,aa,aa,aa,aa,aa,aa,aa,aa,aa,aa,aa,aa,aa,aa,aa,vB (Xg m.X2).Xy],(Z4t tm m)⟩ ?_
  refine Xh (s':=⟨(Z4w m),(Z4x tm m)⟩) (fun _ _ hG=>Y9 [0,1,2] (bm 6 42) (t2:=(Z4r m)) (h2:=(Z4t tm m)) (by have e1:((Xm m 2).length:Nat)=(Xm m 1).length:=pp;have hE:=congrArg (fun (q1:Nat)=>([aa,pv 0 0,aa,pv 1 0,aa,Xx 2 kU8 0 q1]:List AV)) e1;exact hE) (by have e1:((Xm m 2):List UInt8)=(Xm m 1):=pp;have hE:=congrArg (fun (q1:List UInt8)=>([(Z4p tm m),(Z4s m),.live (Xc 5 kU8 q1)]:List HS)) e1;exact hE) hG) ?_
  exact nJ
 refine Va ⟨(Z4y m),(Z4z tm m)⟩ ?_ ?_
 ·refine sR [] ?_
  by_cases hq4:(Xg m.X2).Xa=true
  ·have hbt:U8 (Xg m.X2) 2=true:=hq4;have hst:Xm m 3=Xm m 2++Ym m.Xa++Ym m.Xw:=(Jk (j:=2) (i:=2) rfl hbt).trans (List.append_assoc ..).symm;have hrm:=Vh (m:=m) (j:=2) (i:=2) rfl hbt (by decide);simp only [Jg,List.length_append,Yl,Wn] at hrm
   refine cT hq4 ?_
   refine xD [[],[],[1],[0,1,2],[],[4],[0,1,2,3,4,5],[0,1,2,3,4,5,6]] [hR 3 rfl rfl (Wk (I5 true false (Xm m 2) m.Xa (by omega)) Tryz.func44 rfl (by decide) [3] [2] (l:=[(.tmp 33,Xx 2 kU8 0 (Xm m 2).length),(.tmp 35,vI m.Xa)]) [(2,.live (Xc 5 kU8 (Xm m 2)))] rfl 0 1 rfl rfl rfl rfl rfl rfl rfl rfl rfl ⟨.inr (.inl ⟨rfl,p1b,rfl,rfl,by simp,5,(Xm m 2).length,Yu kU8 (Xm m 2),List.Mem.head _,pg,fun i j=>by rw [Nat.zero_add]⟩),⟨.inl ⟨rfl,rfl⟩,trivial⟩⟩ rfl pZ4 pe (X4 rfl) trivial),hR 6 rfl rfl (Wk (I5 true false ((Xm m 2)++Ym m.Xa) m.Xw p1z) Tryz.func44 rfl (by decide) [4] [3] (l:=[(.tmp 36,Xx 3 kU8 0 ((Xm m 2)++Ym m.Xa).length),(.tmp 38,vI m.Xw)]) [(3,.live (Xc 5 kU8 ((Xm m 2)++Ym m.Xa)))] rfl 0 1 rfl rfl rfl rfl rfl rfl rfl rfl rfl ⟨.inr (.inl ⟨rfl,p1b,rfl,rfl,by simp,5,((Xm m 2)++Ym m.Xa).length,Yu kU8 ((Xm m 2)++Ym m.Xa),List.Mem.head _,pg,fun i j=>by rw [Nat.zero_add]⟩),⟨.inl ⟨rfl,rfl⟩,trivial⟩⟩ rfl pZ4 pe (X4 rfl) trivial)] pZ2 pZ2 pZ2 pZ2 pZ2 pZ2 ?_
   refine eN ⟨[aa,pv 0 0,aa,pv 1 0,aa,(Z50 m),aa,aa,aa,aa,aa,aa,aa,aa,aa,aa,aa,aa,aa,aa,aa,aa,aa,aa,aa,aa,aa,aa,aa,aa,aa,aa,vB (Xg m.X2).Xa],[(Z4p tm m),(Z4s m),.live (Xc 5 kU8 (Xm m 2)),.live (Xc 5 kU8 ((Xm m 2)++Ym m.Xa)),.live (Xc 5 kU8 ((Xm m 2)++Ym m.Xa++Ym m.Xw))]⟩ ?_
   refine Xh (s':=⟨(Z4y m),(Z4z tm m)⟩) (fun _ _ hG=>Ww [0,1,4] (bm 6 42) (t1:=[aa,pv 0 0,aa,pv 1 0,aa,Xx 4 kU8 0 (Xm m 3).length]) (t2:=[aa,pv 0 0,aa,pv 1 0,aa,(Z50 m)]) (h1:=(Z4z tm m)) (h2:=[(Z4p tm m),(Z4s m),.live (Xc 5 kU8 ((Xm m 2)++Ym m.Xa++Ym m.Xw))]) (by have e1:((Xm m 3).length:Nat)=((Xm m 2)++Ym m.Xa++Ym m.Xw).length:=pp;have hE:=congrArg (fun (q1:Nat)=>([aa,pv 0 0,aa,pv 1 0,aa,Xx 4 kU8 0 q1]:List AV)) e1;exact hE) (by have e1:((Xm m 3):List UInt8)=(Xm m 2)++Ym m.Xa++Ym m.Xw:=pp;have hE:=congrArg (fun (q1:List UInt8)=>([(Z4p tm m),(Z4s m),.live (Xc 5 kU8 q1)]:List HS)) e1;exact hE) hG) ?_
   exact nJ
  have hbt:¬U8 (Xg m.X2) 2=true:=hq4;have hst:Xm m 3=Xm m 2:=Hi (j:=2) hbt
  replace hq4:=Bool.eq_false_iff.2 hq4
  refine cF hq4 (T.skip ?_)
  refine eN ⟨[aa,pv 0 0,aa,pv 1 0,aa,Xx 2 kU8 0 (Xm m 2).length,aa,aa,aa,aa,aa,aa,aa,aa,aa,aa,aa,aa,aa,aa,aa,aa,aa,aa,aa,aa,aa,aa,aa,aa,aa,aa,vB (Xg m.X2).Xa],(Z4x tm m)⟩ ?_
  refine Xh (s':=⟨(Z4y m),(Z4z tm m)⟩) (fun _ _ hG=>Y9 [0,1,2] (bm 6 42) (t2:=(Z4w m)) (h2:=(Z4x tm m)) (by have e1:((Xm m 3).length:Nat)=(Xm m 2).length:=pp;have hE:=congrArg (fun (q1:Nat)=>([aa,pv 0 0,aa,pv 1 0,aa,Xx 2 kU8 0 q1]:List AV)) e1;exact hE) (by have e1:((Xm m 3):List UInt8)=(Xm m 2):=pp;have hE:=congrArg (fun (q1:List UInt8)=>([(Z4p tm m),(Z4s m),.live (Xc 5 kU8 q1)]:List HS)) e1;exact hE) hG) ?_
  exact nJ
 refine Va ⟨(Z51 m),(Z52 tm m)⟩ ?_ ?_
 ·refine sR [] ?_
  by_cases hq5:(Xg m.X2).Xb=true
  ·have hbt:U8 (Xg m.X2) 3=true:=hq5;have hst:Xm m 4=Xm m 3++Wl m.Xb:=(Jk (j:=3) (i:=3) rfl hbt);have hrm:=Vh (m:=m) (j:=3) (i:=3) rfl hbt (by decide);simp only [Jg,List.length_append,Yl,Wn] at hrm
   refine cT hq5 ?_
   refine xR [hR 3 rfl rfl (X88 (l:=m.Xb) Tryz.underlying35 Tryz.underlying34 Tryz.underlying5 (X4 rfl) trivial),hR 4 rfl rfl (Wk (En true false (Xm m 3) false true m.Xb (by omega)) Tryz.func45 rfl (by decide) [3] [2] (l:=[(.tmp 42,Xx 2 kU8 0 (Xm m 3).length),(.tmp 45,slV false true kU8 m.Xb)]) [(2,.live (Xc 5 kU8 (Xm m 3)))] rfl 0 1 rfl rfl rfl rfl rfl rfl rfl rfl rfl ⟨.inr (.inl ⟨rfl,p1b,rfl,rfl,by simp,5,(Xm m 3).length,Yu kU8 (Xm m 3),List.Mem.head _,pg,fun i j=>by rw [Nat.zero_add]⟩),⟨.inl ⟨rfl,rfl⟩,trivial⟩⟩ rfl pZ4 pe (X4 rfl) trivial)] pZ2 pZ2 ?_
   refine eN ⟨[aa,pv 0 0,aa,pv 1 0,aa,Xx 3 kU8 0 ((Xm m 3)++Wl m.Xb).length,aa,aa,aa,aa,aa,aa,aa,aa,aa,aa,aa,aa,aa,aa,aa,aa,aa,aa,aa,aa,aa,aa,aa,aa,aa,aa,aa,aa,aa,aa,aa,aa,aa,aa,aa,vB (Xg m.X2).Xb],[(Z4p tm m),(Z4s m),.live (Xc 5 kU8 (Xm m 3)),.live (Xc 5 kU8 ((Xm m 3)++Wl m.Xb))]⟩ ?_
   refine Xh (s':=⟨(Z51 m),(Z52 tm m)⟩) (fun _ _ hG=>Ww [0,1,3] (bm 6 42) (t1:=[aa,pv 0 0,aa,pv 1 0,aa,Xx 3 kU8 0 (Xm m 4).length]) (t2:=[aa,pv 0 0,aa,pv 1 0,aa,Xx 3 kU8 0 ((Xm m 3)++Wl m.Xb).length]) (h1:=(Z52 tm m)) (h2:=[(Z4p tm m),(Z4s m),.live (Xc 5 kU8 ((Xm m 3)++Wl m.Xb))]) (by have e1:((Xm m 4).length:Nat)=((Xm m 3)++Wl m.Xb).length:=pp;have hE:=congrArg (fun (q1:Nat)=>([aa,pv 0 0,aa,pv 1 0,aa,Xx 3 kU8 0 q1]:List AV)) e1;exact hE) (by have e1:((Xm m 4):List UInt8)=(Xm m 3)++Wl m.Xb:=pp;have hE:=congrArg (fun (q1:List UInt8)=>([(Z4p tm m),(Z4s m),.live (Xc 5 kU8 q1)]:List HS)) e1;exact hE) hG) ?_
   exact nJ
  have hbt:¬U8 (Xg m.X2) 3=true:=hq5;have hst:Xm m 4=Xm m 3:=Hi (j:=3) hbt
  replace hq5:=Bool.eq_false_iff.2 hq5
  refine cF hq5 (T.skip ?_)
  refine eN ⟨[aa,pv 0 0,aa,pv 1 0,aa,Xx 2 kU8 0 (Xm m 3).length,aa,aa,aa,aa,aa,aa,aa,aa,aa,aa,aa,aa,aa,aa,aa,aa,aa,aa,aa,aa,aa,aa,aa,aa,aa,aa,aa,aa,aa,aa,aa,aa,aa,aa,aa,vB (Xg m.X2).Xb],(Z4z tm m)⟩ ?_
  refine Xh (s':=⟨(Z51 m),(Z52 tm m)⟩) (fun _ _ hG=>Y9 [0,1,2] (bm 6 42) (t2:=(Z4y m)) (h2:=(Z4z tm m)) (by have e1:((Xm m 4).length:Nat)=(Xm m 3).length:=pp;have hE:=congrArg (fun (q1:Nat)=>([aa,pv 0 0,aa,pv 1 0,aa,Xx 2 kU8 0 q1]:List AV)) e1;exact hE) (by have e1:((Xm m 4):List UInt8)=(Xm m 3):=pp;have hE:=congrArg (fun (q1:List UInt8)=>([(Z4p tm m),(Z4s m),.live (Xc 5 kU8 q1)]:List HS)) e1;exact hE) hG) ?_
  exact nJ
 refine Va ⟨(Z53 m),(Z54 tm m)⟩ ?_ ?_
 ·refine sR [] ?_
  by_cases hq6:(Xg m.X2).Xi=true
  ·have hbt:U8 (Xg m.X2) 4=true:=hq6;have hst:Xm m 5=Xm m 4++Wl m.Xi:=(Jk (j:=4) (i:=4) rfl hbt);have hrm:=Vh (m:=m) (j:=4) (i:=4) rfl hbt (by decide);simp only [Jg,List.length_append,Yl,Wn] at hrm
   refine cT hq6 (xK [hR 3 rfl rfl (Wk (En true false (Xm m 4) tm false m.Xi (by omega)) Tryz.func45 rfl (by decide) [3] [2] (l:=[(.tmp 49,Xx 2 kU8 0 (Xm m 4).length),(.tmp 51,slV tm false kU8 m.Xi)]) [(2,.live (Xc 5 kU8 (Xm m 4)))] rfl 0 1 rfl rfl rfl rfl rfl rfl rfl rfl rfl ⟨.inr (.inl ⟨rfl,p1b,rfl,rfl,by simp,5,(Xm m 4).length,Yu kU8 (Xm m 4),List.Mem.head _,pg,fun i j=>by rw [Nat.zero_add]⟩),⟨.inl ⟨rfl,rfl⟩,trivial⟩⟩ rfl pZ4 pe (X4 rfl) trivial)] ?_)
   refine eN ⟨[aa,pv 0 0,aa,pv 1 0,aa,Xx 3 kU8 0 ((Xm m 4)++Wl m.Xi).length,aa,aa,aa,aa,aa,aa,aa,aa,aa,aa,aa,aa,aa,aa,aa,aa,aa,aa,aa,aa,aa,aa,aa,aa,aa,aa,aa,aa,aa,aa,aa,aa,aa,aa,aa,aa,aa,aa,aa,aa,aa,aa,vB (Xg m.X2).Xi],[(Z4p tm m),(Z4s m),.live (Xc 5 kU8 (Xm m 4)),.live (Xc 5 kU8 ((Xm m 4)++Wl m.Xi))]⟩ ?_
   refine Xh (s':=⟨(Z53 m),(Z54 tm m)⟩) (fun _ _ hG=>Ww [0,1,3] (bm 6 42) (t1:=[aa,pv 0 0,aa,pv 1 0,aa,Xx 3 kU8 0 (Xm m 5).length]) (t2:=[aa,pv 0 0,aa,pv 1 0,aa,Xx 3 kU8 0 ((Xm m 4)++Wl m.Xi).length]) (h1:=(Z54 tm m)) (h2:=[(Z4p tm m),(Z4s m),.live (Xc 5 kU8 ((Xm m 4)++Wl m.Xi))]) (by have e1:((Xm m 5).length:Nat)=((Xm m 4)++Wl m.Xi).length:=pp;have hE:=congrArg (fun (q1:Nat)=>([aa,pv 0 0,aa,pv 1 0,aa,Xx 3 kU8 0 q1]:List AV)) e1;exact hE) (by have e1:((Xm m 5):List UInt8)=(Xm m 4)++Wl m.Xi:=pp;have hE:=congrArg (fun (q1:List UInt8)=>([(Z4p tm m),(Z4s m),.live (Xc 5 kU8 q1)]:List HS)) e1;exact hE) hG) ?_
   exact nJ
  have hbt:¬U8 (Xg m.X2) 4=true:=hq6;have hst:Xm m 5=Xm m 4:=Hi (j:=4) hbt
  replace hq6:=Bool.eq_false_iff.2 hq6
  refine cF hq6 (T.skip ?_)
  refine eN ⟨[aa,pv 0 0,aa,pv 1 0,aa,Xx 2 kU8 0 (Xm m 4).length,aa,aa,aa,aa,aa,aa,aa,aa,aa,aa,aa,aa,aa,aa,aa,aa,aa,aa,aa,aa,aa,aa,aa,aa,aa,aa,aa,aa,aa,aa,aa,aa,aa,aa,aa,aa,aa,aa,aa,aa,aa,aa,vB (Xg m.X2).Xi],(Z52 tm m)⟩ ?_
  refine Xh (s':=⟨(Z53 m),(Z54 tm m)⟩) (fun _ _ hG=>Y9 [0,1,2] (bm 6 42) (t2:=(Z51 m)) (h2:=(Z52 tm m)) (by have e1:((Xm m 5).length:Nat)=(Xm m 4).length:=pp;have hE:=congrArg (fun (q1:Nat)=>([aa,pv 0 0,aa,pv 1 0,aa,Xx 2 kU8 0 q1]:List AV)) e1;exact hE) (by have e1:((Xm m 5):List UInt8)=(Xm m 4):=pp;have hE:=congrArg (fun (q1:List UInt8)=>([(Z4p tm m),(Z4s m),.live (Xc 5 kU8 q1)]:List HS)) e1;exact hE) hG) ?_
  exact nJ
 refine Va ⟨(Z55 m),(Z56 tm m)⟩ ?_ ?_
 ·refine sR [] ?_
  by_cases hq7:(Xg m.X2).X1=true
  ·have hbt:U8 (Xg m.X2) 5=true:=hq7;have hst:Xm m 6=Xm m 5++Ym m.X1.Xt++Ym m.X1.Xn:=(Jk (j:=5) (i:=5) rfl hbt).trans (List.append_assoc ..).symm;have hrm:=Vh (m:=m) (j:=5) (i:=5) rfl hbt (by decide);simp only [Jg,List.length_append,Yl,Wn] at hrm
   refine cT hq7 ?_
   refine xD [[],[],[1],[1,2],[0,1,2,3],[],[5],[5,6],[0,1,2,3,4,5,6,7],[0,1,2,3,4,5,6,7,8]] [hR 4 rfl rfl (Wk (I5 true false (Xm m 5) m.X1.Xt (by omega)) Tryz.func44 rfl (by decide) [3] [2] (l:=[(.tmp 55,Xx 2 kU8 0 (Xm m 5).length),(.tmp 58,vI m.X1.Xt)]) [(2,.live (Xc 5 kU8 (Xm m 5)))] rfl 0 1 rfl rfl rfl rfl rfl rfl rfl rfl rfl ⟨.inr (.inl ⟨rfl,p1b,rfl,rfl,by simp,5,(Xm m 5).length,Yu kU8 (Xm m 5),List.Mem.head _,pg,fun i j=>by rw [Nat.zero_add]⟩),⟨.inl ⟨rfl,rfl⟩,trivial⟩⟩ rfl pZ4 pe (X4 rfl) trivial),hR 8 rfl rfl (Wk (I5 true false ((Xm m 5)++Ym m.X1.Xt) m.X1.Xn p1z) Tryz.func44 rfl (by decide) [4] [3] (l:=[(.tmp 59,Xx 3 kU8 0 ((Xm m 5)++Ym m.X1.Xt).length),(.tmp 62,vI m.X1.Xn)]) [(3,.live (Xc 5 kU8 ((Xm m 5)++Ym m.X1.Xt)))] rfl 0 1 rfl rfl rfl rfl rfl rfl rfl rfl rfl ⟨.inr (.inl ⟨rfl,p1b,rfl,rfl,by simp,5,((Xm m 5)++Ym m.X1.Xt).length,Yu kU8 ((Xm m 5)++Ym m.X1.Xt),List.Mem.head _,pg,fun i j=>by rw [Nat.zero_add]⟩),⟨.inl ⟨rfl,rfl⟩,trivial⟩⟩ rfl pZ4 pe (X4 rfl) trivial)] pZ2 pZ2 pZ2 pZ2 pZ2 pZ2 ?_
   refine eN ⟨[aa,pv 0 0,aa,pv 1 0,aa,(Z57 m),aa,aa,aa,aa,aa,aa,aa,aa,aa,aa,aa,aa,aa,aa,aa,aa,aa,aa,aa,aa,aa,aa,aa,aa,aa,aa,aa,aa,aa,aa,aa,aa,aa,aa,aa,aa,aa,aa,aa,aa,aa,aa,aa,aa,aa,aa,aa,aa,vB (Xg m.X2).X1],[(Z4p tm m),(Z4s m),.live (Xc 5 kU8 (Xm m 5)),.live (Xc 5 kU8 ((Xm m 5)++Ym m.X1.Xt)),.live (Xc 5 kU8 ((Xm m 5)++Ym m.X1.Xt++Ym m.X1.Xn))]⟩ ?_
   refine Xh (s':=⟨(Z55 m),(Z56 tm m)⟩) (fun _ _ hG=>Ww [0,1,4] (bm 6 42) (t1:=[aa,pv 0 0,aa,pv 1 0,aa,Xx 4 kU8 0 (Xm m 6).length]) (t2:=[aa,pv 0 0,aa,pv 1 0,aa,(Z57 m)]) (h1:=(Z56 tm m)) (h2:=[(Z4p tm m),(Z4s m),.live (Xc 5 kU8 ((Xm m 5)++Ym m.X1.Xt++Ym m.X1.Xn))]) (by have e1:((Xm m 6).length:Nat)=((Xm m 5)++Ym m.X1.Xt++Ym m.X1.Xn).length:=pp;have hE:=congrArg (fun (q1:Nat)=>([aa,pv 0 0,aa,pv 1 0,aa,Xx 4 kU8 0 q1]:List AV)) e1;exact hE) (by have e1:((Xm m 6):List UInt8)=(Xm m 5)++Ym m.X1.Xt++Ym m.X1.Xn:=pp;have hE:=congrArg (fun (q1:List UInt8)=>([(Z4p tm m),(Z4s m),.live (Xc 5 kU8 q1)]:List HS)) e1;exact hE) hG) ?_
   exact nJ
  have hbt:¬U8 (Xg m.X2) 5=true:=hq7;have hst:Xm m 6=Xm m 5:=Hi (j:=5) hbt
  replace hq7:=Bool.eq_false_iff.2 hq7
  refine cF hq7 (T.skip ?_)
  refine eN ⟨[aa,pv 0 0,aa,pv 1 0,aa,Xx 2 kU8 0 (Xm m 5).length,aa,aa,aa,aa,aa,aa,aa,aa,aa,aa,aa,aa,aa,aa,aa,aa,aa,aa,aa,aa,aa,aa,aa,aa,aa,aa,aa,aa,aa,aa,aa,aa,aa,aa,aa,aa,aa,aa,aa,aa,aa,aa,aa,aa,aa,aa,aa,aa,vB (Xg m.X2).X1],(Z54 tm m)⟩ ?_
  refine Xh (s':=⟨(Z55 m),(Z56 tm m)⟩) (fun _ _ hG=>Y9 [0,1,2] (bm 6 42) (t2:=(Z53 m)) (h2:=(Z54 tm m)) (by have e1:((Xm m 6).length:Nat)=(Xm m 5).length:=pp;have hE:=congrArg (fun (q1:Nat)=>([aa,pv 0 0,aa,pv 1 0,aa,Xx 2 kU8 0 q1]:List AV)) e1;exact hE) (by have e1:((Xm m 6):List UInt8)=(Xm m 5):=pp;have hE:=congrArg (fun (q1:List UInt8)=>([(Z4p tm m),(Z4s m),.live (Xc 5 kU8 q1)]:List HS)) e1;exact hE) hG) ?_
  exact nJ
 refine Va ⟨(Z58 m),(Z59 tm m)⟩ ?_ ?_
 ·refine sR [] ?_
  by_cases hq8:(Xg m.X2).Xe=true
  ·have hbt:U8 (Xg m.X2) 6=true:=hq8;have hst:Xm m 7=Xm m 6++Wc m.Xe:=(Jk (j:=6) (i:=6) rfl hbt);have hrm:=Vh (m:=m) (j:=6) (i:=6) rfl hbt (by decide);simp only [Jg,List.length_append,Yl,Wn] at hrm
   refine cT hq8 (xK [hR 3 rfl rfl (Wk (X1i true false (Xm m 6) tm false tm m.Xe (by omega) (by omega)) Tryz.func46 rfl (by decide) [3] [2] (l:=[(.tmp 66,Xx 2 kU8 0 (Xm m 6).length),(.tmp 68,slV tm false (kE tm) m.Xe)]) [(2,.live (Xc 5 kU8 (Xm m 6)))] rfl 0 1 rfl rfl rfl rfl rfl rfl rfl rfl rfl ⟨.inr (.inl ⟨rfl,p1b,rfl,rfl,by simp,5,(Xm m 6).length,Yu kU8 (Xm m 6),List.Mem.head _,pg,fun i j=>by rw [Nat.zero_add]⟩),⟨.inl ⟨rfl,rfl⟩,trivial⟩⟩ rfl pZ4 pe (X4 rfl) trivial)] ?_)
   refine eN ⟨[aa,pv 0 0,aa,pv 1 0,aa,Xx 3 kU8 0 ((Xm m 6)++Wc m.Xe).length,aa,aa,aa,aa,aa,aa,aa,aa,aa,aa,aa,aa,aa,aa,aa,aa,aa,aa,aa,aa,aa,aa,aa,aa,aa,aa,aa,aa,aa,aa,aa,aa,aa,aa,aa,aa,aa,aa,aa,aa,aa,aa,aa,aa,aa,aa,aa,aa,aa,aa,aa,aa,aa,aa,aa,aa,aa,aa,aa,vB (Xg m.X2).Xe],[(Z4p tm m),(Z4s m),.live (Xc 5 kU8 (Xm m 6)),.live (Xc 5 kU8 ((Xm m 6)++Wc m.Xe))]⟩ ?_
   refine Xh (s':=⟨(Z58 m),(Z59 tm m)⟩) (fun _ _ hG=>Ww [0,1,3] (bm 6 42) (t1:=[aa,pv 0 0,aa,pv 1 0,aa,Xx 3 kU8 0 (Xm m 7).length]) (t2:=[aa,pv 0 0,aa,pv 1 0,aa,Xx 3 kU8 0 ((Xm m 6)++Wc m.Xe).length]) (h1:=(Z59 tm m)) (h2:=[(Z4p tm m),(Z4s m),.live (Xc 5 kU8 ((Xm m 6)++Wc m.Xe))]) (by have e1:((Xm m 7).length:Nat)=((Xm m 6)++Wc m.Xe).length:=pp;have hE:=congrArg (fun (q1:Nat)=>([aa,pv 0 0,aa,pv 1 0,aa,Xx 3 kU8 0 q1]:List AV)) e1;exact hE) (by have e1:((Xm m 7):List UInt8)=(Xm m 6)++Wc m.Xe:=pp;have hE:=congrArg (fun (q1:List UInt8)=>([(Z4p tm m),(Z4s m),.live (Xc 5 kU8 q1)]:List HS)) e1;exact hE) hG) ?_
   exact nJ
  have hbt:¬U8 (Xg m.X2) 6=true:=hq8;have hst:Xm m 7=Xm m 6:=Hi (j:=6) hbt
  replace hq8:=Bool.eq_false_iff.2 hq8
  refine cF hq8 (T.skip ?_)
  refine eN ⟨[aa,pv 0 0,aa,pv 1 0,aa,Xx 2 kU8 0 (Xm m 6).length,aa,aa,aa,aa,aa,aa,aa,aa,aa,aa,aa,aa,aa,aa,aa,aa,aa,aa,aa,aa,aa,aa,aa,aa,aa,aa,aa,aa,aa,aa,aa,aa,aa,aa,aa,aa,aa,aa,aa,aa,aa,aa,aa,aa,aa,aa,aa,aa,aa,aa,aa,aa,aa,aa,aa,aa,aa,aa,aa,vB (Xg m.X2).Xe],(Z56 tm m)⟩ ?_
  refine Xh (s':=⟨(Z58 m),(Z59 tm m)⟩) (fun _ _ hG=>Y9 [0,1,2] (bm 6 42) (t2:=(Z55 m)) (h2:=(Z56 tm m)) (by have e1:((Xm m 7).length:Nat)=(Xm m 6).length:=pp;have hE:=congrArg (fun (q1:Nat)=>([aa,pv 0 0,aa,pv 1 0,aa,Xx 2 kU8 0 q1]:List AV)) e1;exact hE) (by have e1:((Xm m 7):List UInt8)=(Xm m 6):=pp;have hE:=congrArg (fun (q1:List UInt8)=>([(Z4p tm m),(Z4s m),.live (Xc 5 kU8 q1)]:List HS)) e1;exact hE) hG) ?_
  exact nJ
 refine Va ⟨(Z5a m),(Z5b tm m)⟩ ?_ ?_
 ·refine sR [] ?_
  by_cases hq9:(Xg m.X2).Xp=true
  ·have hbt:U8 (Xg m.X2) 7=true:=hq9;have hst:Xm m 8=Xm m 7++Wc m.Xp:=(Jk (j:=7) (i:=7) rfl hbt);have hrm:=Vh (m:=m) (j:=7) (i:=7) rfl hbt (by decide);simp only [Jg,List.length_append,Yl,Wn] at hrm
   refine cT hq9 (xK [hR 3 rfl rfl (Wk (X1i true false (Xm m 7) tm false tm m.Xp (by omega) (by omega)) Tryz.func46 rfl (by decide) [3] [2] (l:=[(.tmp 72,Xx 2 kU8 0 (Xm m 7).length),(.tmp 74,slV tm false (kE tm) m.Xp)]) [(2,.live (Xc 5 kU8 (Xm m 7)))] rfl 0 1 rfl rfl rfl rfl rfl rfl rfl rfl rfl ⟨.inr (.inl ⟨rfl,p1b,rfl,rfl,by simp,5,(Xm m 7).length,Yu kU8 (Xm m 7),List.Mem.head _,pg,fun i j=>by rw [Nat.zero_add]⟩),⟨.inl ⟨rfl,rfl⟩,trivial⟩⟩ rfl pZ4 pe (X4 rfl) trivial)] ?_)
   refine eN ⟨[aa,pv 0 0,aa,pv 1 0,aa,Xx 3 kU8 0 ((Xm m 7)++Wc m.Xp).length,aa,aa,aa,aa,aa,aa,aa,aa,aa,aa,aa,aa,aa,aa,aa,aa,aa,aa,aa,aa,aa,aa,aa,aa,aa,aa,aa,aa,aa,aa,aa,aa,aa,aa,aa,aa,aa,aa,aa,aa,aa,aa,aa,aa,aa,aa,aa,aa,aa,aa,aa,aa,aa,aa,aa,aa,aa,aa,aa,aa,aa,aa,aa,aa,aa,vB (Xg m.X2).Xp],[(Z4p tm m),(Z4s m),.live (Xc 5 kU8 (Xm m 7)),.live (Xc 5 kU8 ((Xm m 7)++Wc m.Xp))]⟩ ?_
   refine Xh (s':=⟨(Z5a m),(Z5b tm m)⟩) (fun _ _ hG=>Ww [0,1,3] (bm 6 42) (t1:=[aa,pv 0 0,aa,pv 1 0,aa,Xx 3 kU8 0 (Xm m 8).length]) (t2:=[aa,pv 0 0,aa,pv 1 0,aa,Xx 3 kU8 0 ((Xm m 7)++Wc m.Xp).length]) (h1:=(Z5b tm m)) (h2:=[(Z4p tm m),(Z4s m),.live (Xc 5 kU8 ((Xm m 7)++Wc m.Xp))]) (by have e1:((Xm m 8).length:Nat)=((Xm m 7)++Wc m.Xp).length:=pp;have hE:=congrArg (fun (q1:Nat)=>([aa,pv 0 0,aa,pv 1 0,aa,Xx 3 kU8 0 q1]:List AV)) e1;exact hE) (by have e1:((Xm m 8):List UInt8)=(Xm m 7)++Wc m.Xp:=pp;have hE:=congrArg (fun (q1:List UInt8)=>([(Z4p tm m),(Z4s m),.live (Xc 5 kU8 q1)]:List HS)) e1;exact hE) hG) ?_
   exact nJ
  have hbt:¬U8 (Xg m.X2) 7=true:=hq9;have hst:Xm m 8=Xm m 7:=Hi (j:=7) hbt
  replace hq9:=Bool.eq_false_iff.2 hq9
  refine cF hq9 (T.skip ?_)
  refine eN ⟨[aa,pv 0 0,aa,pv 1 0,aa,Xx 2 kU8 0 (Xm m 7).length,aa,aa,aa,aa,aa,aa,aa,aa,aa,aa,aa,aa,aa,aa,aa,aa,aa,aa,aa,aa,aa,aa,aa,aa,aa,aa,aa,aa,aa,aa,aa,aa,aa,aa,aa,aa,aa,aa,aa,aa,aa,aa,aa,aa,aa,aa,aa,aa,aa,aa,aa,aa,aa,aa,aa,aa,aa,aa,aa,aa,aa,aa,aa,aa,aa,vB (Xg m.X2).Xp],(Z59 tm m)⟩ ?_
  refine Xh (s':=⟨(Z5a m),(Z5b tm m)⟩) (fun _ _ hG=>Y9 [0,1,2] (bm 6 42) (t2:=(Z58 m)) (h2:=(Z59 tm m)) (by have e1:((Xm m 8).length:Nat)=(Xm m 7).length:=pp;have hE:=congrArg (fun (q1:Nat)=>([aa,pv 0 0,aa,pv 1 0,aa,Xx 2 kU8 0 q1]:List AV)) e1;exact hE) (by have e1:((Xm m 8):List UInt8)=(Xm m 7):=pp;have hE:=congrArg (fun (q1:List UInt8)=>([(Z4p tm m),(Z4s m),.live (Xc 5 kU8 q1)]:List HS)) e1;exact hE) hG) ?_
  exact nJ
 refine Va ⟨(Z5c m),(Z5d tm m)⟩ ?_ ?_
 ·refine sR [] ?_
  by_cases hq10:(Xg m.X2).X5=true
  rotate_left
  ·have hbt:¬U8 (Xg m.X2) 8=true:=hq10;have hst:Xm m 9=Xm m 8:=Hi (j:=8) hbt
   replace hq10:=Bool.eq_false_iff.2 hq10
   refine cF hq10 (T.skip ?_)
   refine eN ⟨[aa,pv 0 0,aa,pv 1 0,aa,Xx 2 kU8 0 (Xm m 8).length,aa,aa,aa,aa,aa,aa,aa,aa,aa,aa,aa,aa,aa,aa,aa,aa,aa,aa,aa,aa,aa,aa,aa,aa,aa,aa,aa,aa,aa,aa,aa,aa,aa,aa,aa,aa,aa,aa,aa,aa,aa,aa,aa,aa,aa,aa,aa,aa,aa,aa,aa,aa,aa,aa,aa,aa,aa,aa,aa,aa,aa,aa,aa,aa,aa,aa,aa,aa,aa,aa,aa,vB (Xg m.X2).X5],(Z5b tm m)⟩ ?_
   refine Xh (s':=⟨(Z5c m),(Z5d tm m)⟩) (fun _ _ hG=>Y9 [0,1,2] (bm 6 42) (t2:=(Z5a m)) (h2:=(Z5b tm m)) (by have e1:((Xm m 9).length:Nat)=(Xm m 8).length:=pp;have hE:=congrArg (fun (q1:Nat)=>([aa,pv 0 0,aa,pv 1 0,aa,Xx 2 kU8 0 q1]:List AV)) e1;exact hE) (by have e1:((Xm m 9):List UInt8)=(Xm m 8):=pp;have hE:=congrArg (fun (q1:List UInt8)=>([(Z4p tm m),(Z4s m),.live (Xc 5 kU8 q1)]:List HS)) e1;exact hE) hG) ?_
   exact nJ
  have hbt:U8 (Xg m.X2) 8=true:=hq10;have hst:Xm m 9=Xm m 8++H3 m.X5:=(Jk (j:=8) (i:=8) rfl hbt);have hrm:=Vh (m:=m) (j:=8) (i:=8) rfl hbt (by decide);simp only [Jg,List.length_append,Yl,Wn] at hrm
  refine cT hq10 (sR [hR 4 rfl rfl (Wk (Em true false (Xm m 8) ((m.X5.length:Nat):Int) (by omega)) Tryz.func47 rfl (by decide) [3] [2] (l:=[(.tmp 78,Xx 2 kU8 0 (Xm m 8).length),(.tmp 81,vI ((m.X5.length:Nat):Int))]) [(2,.live (Xc 5 kU8 (Xm m 8)))] rfl 0 1 rfl rfl rfl rfl rfl rfl rfl rfl rfl ⟨.inr (.inl ⟨rfl,p1b,rfl,rfl,by simp,5,(Xm m 8).length,Yu kU8 (Xm m 8),List.Mem.head _,pg,fun i j=>by rw [Nat.zero_add]⟩),⟨.inl ⟨rfl,rfl⟩,trivial⟩⟩ rfl pZ4 pe (X4 rfl) trivial)] (sR [] (T.block ?_)))
  refine T.loop (ι:=Nat) (fun (k:Nat)=>(Z5g tm m k)) (fun (k:Nat)=>(k≤m.X5.length)) (fun (k:Nat)=>m.X5.length-k) (0) (Nat.zero_le _) (fun _ _ hG=>Ww [0,1,3] (bm 7 106) (t1:=[aa,pv 0 0,aa,pv 1 0,aa,Xx 3 kU8 0 ((Xm m 8)++Wh ((m.X5.length:Nat):Int)++Vf m.X5 0).length,vI 0]) (t2:=[aa,pv 0 0,aa,pv 1 0,aa,Xx 3 kU8 0 ((Xm m 8)++Wh ((m.X5.length:Nat):Int)).length,vI 0]) (h1:=(Z5h tm m)) (h2:=[(Z4p tm m),(Z4s m),.live (Xc 5 kU8 ((Xm m 8)++Wh ((m.X5.length:Nat):Int)))]) (by have e1:(((Xm m 8)++Wh ((m.X5.length:Nat):Int)++Vf m.X5 0).length:Nat)=((Xm m 8)++Wh ((m.X5.length:Nat):Int)).length:=p3v;have hE:=congrArg (fun (q1:Nat)=>([aa,pv 0 0,aa,pv 1 0,aa,Xx 3 kU8 0 q1,vI 0]:List AV)) e1;exact hE) (by have e1:(((Xm m 8)++Wh ((m.X5.length:Nat):Int)++Vf m.X5 0):List UInt8)=(Xm m 8)++Wh ((m.X5.length:Nat):Int):=p3v;have hE:=congrArg (fun (q1:List UInt8)=>([(Z4p tm m),(Z4s m),.live (Xc 5 kU8 q1)]:List HS)) e1;exact hE) hG) ?_
  rintro k hk
  show T _ _ (Z5g tm m k) _ _
  replace hk:k≤m.X5.length:=hk
  have hcle:=crt_le m.X5 k
  refine T.seq (sR [] ?_)
  by_cases hq11:((k:Nat):Int)<((m.X5.length:Nat):Int)
  ·have hcr:=Xb6 (l:=m.X5) (k:=k) (by omega);have hvc:=Xan (m.X5.getD k zC).Yi;have hcl:=I0 ((m.X5.length:Nat):Int)
   refine cT (dT hq11) (T.skip (nT (T.seq (T.block ?_))))
   refine xD [[],[],[1],[],[1,2,3],[1,2,3,4],[1,2,3,4,5],[0,1,2,3,4,5,6],[],[8],[],[8,9,10],[8,9,10,11],[8,9,10,11,12],[0,1,2,3,4,5,6,7,8,9,10,11,12,13],[0,1,2,3,4,5,6,7,8,9,10,11,12,13,14]] [hR 4 rfl rfl (Yo tm false (kC tm) m.X5 k (k:=.i64) (i:=((k:Nat):Int)) Tryz.underlying40 Jz rfl rfl (by omega) (X4 rfl) trivial),hR 7 rfl rfl (Wk (El true false ((Xm m 8)++Wh ((m.X5.length:Nat):Int)++Vf m.X5 k) tm (m.X5.getD k zC).Vg p1z) Tryz.func48 rfl (by decide) [3] [2] (l:=[(.tmp 90,(Z5e m k)),(.tmp 96,.tv (.agg [dI (m.X5.getD k zC).Vg.f_Signer,.d (dsl tm false kU8 (m.X5.getD k zC).Vg.X7)]))]) [(2,(Z5f m k))] rfl 0 1 rfl rfl rfl rfl rfl rfl rfl rfl rfl ⟨.inr (.inl ⟨rfl,p1b,rfl,rfl,by simp,5,((Xm m 8)++Wh ((m.X5.length:Nat):Int)++Vf m.X5 k).length,Yu kU8 ((Xm m 8)++Wh ((m.X5.length:Nat):Int)++Vf m.X5 k),List.Mem.head _,pg,fun i j=>by rw [Nat.zero_add]⟩),⟨⟨.inl ⟨rfl,rfl⟩,⟨.inl ⟨rfl,rfl⟩,trivial⟩⟩,trivial⟩⟩ rfl pZ4 pe (X4 rfl) trivial),hR 11 rfl rfl (Yo tm false (kC tm) m.X5 k (k:=.i64) (i:=((k:Nat):Int)) Tryz.underlying40 Jz rfl rfl (by omega) (X4 rfl) trivial),hR 14 rfl rfl (Wk (X1i true false (((Xm m 8)++Wh ((m.X5.length:Nat):Int)++Vf m.X5 k)++Vv (m.X5.getD k zC).Vg) tm false tm (m.X5.getD k zC).Yi p1z (by omega)) Tryz.func46 rfl (by decide) [4] [3] (l:=[(.tmp 97,Xx 3 kU8 0 (((Xm m 8)++Wh ((m.X5.length:Nat):Int)++Vf m.X5 k)++Vv (m.X5.getD k zC).Vg).length),(.tmp 103,slV tm false (kE tm) (m.X5.getD k zC).Yi)]) [(3,.live (Xc 5 kU8 (((Xm m 8)++Wh ((m.X5.length:Nat):Int)++Vf m.X5 k)++Vv (m.X5.getD k zC).Vg)))] rfl 0 1 rfl rfl rfl rfl rfl rfl rfl rfl rfl ⟨.inr (.inl ⟨rfl,p1b,rfl,rfl,by simp,5,(((Xm m 8)++Wh ((m.X5.length:Nat):Int)++Vf m.X5 k)++Vv (m.X5.getD k zC).Vg).length,Yu kU8 (((Xm m 8)++Wh ((m.X5.length:Nat):Int)++Vf m.X5 k)++Vv (m.X5.getD k zC).Vg),List.Mem.head _,pg,fun i j=>by rw [Nat.zero_add]⟩),⟨.inl ⟨rfl,rfl⟩,trivial⟩⟩ rfl pZ4 pe (X4 rfl) trivial)] pZ2 pZ2 pZ2 pZ2 pZ2 pZ2 ?_
   refine nB (nT (xK [hR 1 rfl rfl (Y4 (u1:=.int .i64 ((k:Nat):Int)) (u2:=.int .i64 1) (v:=.int .i64 ((k+1:Nat):Int)) (Yn pZ5) (X4 rfl) ⟨rfl,trivial⟩)] ?_))
   refine nL (k+1) (show (k+1)≤m.X5.length from (by omega)) (show (m.X5.length-(k+1):Nat)<m.X5.length-k from (by omega)) (fun _ _ hG=>Ww [0,1,4] (bm 7 106) (t1:=[aa,pv 0 0,aa,pv 1 0,aa,Xx 4 kU8 0 ((Xm m 8)++Wh ((m.X5.length:Nat):Int)++Vf m.X5 (k+1)).length,(Z5i k)]) (t2:=[aa,pv 0 0,aa,pv 1 0,aa,Xx 4 kU8 0 (((Xm m 8)++Wh ((m.X5.length:Nat):Int)++Vf m.X5 k)++Vv (m.X5.getD k zC).Vg++Wc (m.X5.getD k zC).Yi).length,(Z5i k)]) (h1:=(Z5j tm m k)) (h2:=[(Z4p tm m),(Z4s m),.live (Xc 5 kU8 (((Xm m 8)++Wh ((m.X5.length:Nat):Int)++Vf m.X5 k)++Vv (m.X5.getD k zC).Vg++Wc (m.X5.getD k zC).Yi))]) (by have e1:(((Xm m 8)++Wh ((m.X5.length:Nat):Int)++Vf m.X5 (k+1)).length:Nat)=(((Xm m 8)++Wh ((m.X5.length:Nat):Int)++Vf m.X5 k)++Vv (m.X5.getD k zC).Vg++Wc (m.X5.getD k zC).Yi).length:=p32;have hE:=congrArg (fun (q1:Nat)=>([aa,pv 0 0,aa,pv 1 0,aa,Xx 4 kU8 0 q1,(Z5i k)]:List AV)) e1;exact hE) (by have e1:(((Xm m 8)++Wh ((m.X5.length:Nat):Int)++Vf m.X5 (k+1)):List UInt8)=((Xm m 8)++Wh ((m.X5.length:Nat):Int)++Vf m.X5 k)++Vv (m.X5.getD k zC).Vg++Wc (m.X5.getD k zC).Yi:=p32;have hE:=congrArg (fun (q1:List UInt8)=>([(Z4p tm m),(Z4s m),.live (Xc 5 kU8 q1)]:List HS)) e1;exact hE) hG)
  refine cF (dF hq11) (T.exit (xT (xT (xH ?_))))
  refine eN ⟨[aa,pv 0 0,aa,pv 1 0,aa,(Z5e m k),vI ((k:Nat):Int),aa,aa,aa,aa,aa,aa,aa,aa,aa,aa,aa,aa,aa,aa,aa,aa,aa,aa,aa,aa,aa,aa,aa,aa,aa,aa,aa,aa,aa,aa,aa,aa,aa,aa,aa,aa,aa,aa,aa,aa,aa,aa,aa,aa,aa,aa,aa,aa,aa,aa,aa,aa,aa,aa,aa,aa,aa,aa,aa,aa,aa,aa,aa,aa,aa,aa,aa,aa,aa,aa,aa,aa,aa,aa,aa,aa,aa,aa,aa,aa,vB (decide (((k:Nat):Int)<((m.X5.length:Nat):Int)))],[(Z4p tm m),(Z4s m),(Z5f m k)]⟩ ?_
  refine Xh (s':=⟨(Z5c m),(Z5d tm m)⟩) (fun _ _ hG=>Y9 [0,1,2] (bm 6 42) (t2:=[aa,pv 0 0,aa,pv 1 0,aa,(Z5e m k)]) (h2:=[(Z4p tm m),(Z4s m),(Z5f m k)]) (by have e1:((Xm m 9).length:Nat)=((Xm m 8)++Wh ((m.X5.length:Nat):Int)++Vf m.X5 k).length:=p4n;have hE:=congrArg (fun (q1:Nat)=>([aa,pv 0 0,aa,pv 1 0,aa,Xx 2 kU8 0 q1]:List AV)) e1;exact hE) (by have e1:((Xm m 9):List UInt8)=((Xm m 8)++Wh ((m.X5.length:Nat):Int)++Vf m.X5 k):=p4n;have hE:=congrArg (fun (q1:List UInt8)=>([(Z4p tm m),(Z4s m),.live (Xc 5 kU8 q1)]:List HS)) e1;exact hE) hG) ?_
  exact nJ
 refine sR [] (T.ret ?_)
 refine eN ⟨(Z5k m),(Z5d tm m)⟩ ?_
 refine Xh (s':=⟨[aa,pv 0 0,slV false false kU8 (Xm m 9),pv 1 0,aa,slV false false kU8 (Xm m 9)],[(Z4p tm m),(Z4s m),.dead]⟩) (fun _ _ hG=>Gs.freeze (s:=⟨(Z5k m),(Z5d tm m)⟩) 2 (el:=Yu kU8 (Xm m 9)) (sz:=kU8.sz) (n:=(Xm m 9).length) rfl (kk2 ⟨(.inr pZ6),(kk2 ⟨(.inr pZ6),trivial⟩)⟩) ⟨pd,⟨pd,⟨(.inl ⟨rfl,rfl⟩),trivial⟩⟩⟩ hG) ?_
 exact eRt 2 (.one (dU (Xm m 9))) [] (congrArg (fun (q1:List UInt8)=>(slV false false kU8 q1:AV)) (by exact (if_pos hwl))) trivial
end Go.Proofs.YthnefnknoahbkaaGreat.Q
namespace Go.Proofs.YthnefnknoahbkaaGreat.Q
set_option linter.unusedVariables false
set_option linter.unusedSimpArgs false
theorem rdX_ok {r:List UInt8} {e:Int} (h:rdX r e=0):e=0∧r=[]:=by
  unfold rdX at h
  split at h
  · cases h
  · rename_i h1
    refine ⟨h,?_⟩
    cases r with
    | nil=>rfl
    | cons a r=>exact absurd ⟨h,by simp<;>omega⟩ h1
end Go.Proofs.YthnefnknoahbkaaGreat.Q
namespace Go.Proofs.YthnefnknoahbkaaGreat.Q
set_option linter.unusedVariables false
set_option linter.unusedSimpArgs false
theorem lim_big {rest:List UInt8} {M:Int} (hM:((rest.length:Nat):Int)≤M) (h:Wy (rest.take 4)≤(rest.drop 4).length):Yc M (rest.take 4)=0:=by
  unfold Yc
  rw [List.length_drop] at h
  rw [if_neg (by omega)]
theorem okY_any {rest:List UInt8} {e M M':Int} (hM:((rest.length:Nat):Int)≤M) (hM':((rest.length:Nat):Int)≤M') (h:okY rest e M):okY rest e M':=by
  obtain ⟨h1,h2⟩:=h
  exact ⟨⟨h1.1,h1.2.1,lim_big hM' h2⟩,h2⟩
theorem X93 {rest:List UInt8} {e M:Int}:Jb rest e M=0↔okY rest e M:=by
  unfold Jb okY
  constructor
  · intro h
    split at h
    · rename_i h1
      split at h
      · rename_i h2;exact ⟨h1,h2⟩
      · cases h
    · rename_i h1;exact absurd h (Xc1 h1)
  · rintro ⟨h1,h2⟩
    rw [if_pos h1,if_pos h2]
theorem X92 {rest:List UInt8} {e M M':Int} (hM:((rest.length:Nat):Int)≤M) (hM':((rest.length:Nat):Int)≤M') (h:Jb rest e M=0):Jb rest e M'=0∧rdY rest e M'=rdY rest e M∧Ia rest e M'=Ia rest e M:=by
  have h1:=X93.1 h
  have h2:=okY_any hM hM' h1
  exact ⟨X93.2 h2,by rw [rdY,rdY,if_pos h1,if_pos h2],by rw [Ia,Ia,if_pos h1,if_pos h2]⟩
end Go.Proofs.YthnefnknoahbkaaGreat.Q
namespace Go.Proofs.YthnefnknoahbkaaGreat.Q
set_option linter.unusedVariables false
set_option linter.unusedSimpArgs false
def Wr (B r:List UInt8):Nat:=B.length-r.length
theorem X38 (B r:List UInt8):Wr B r≤B.length:=Nat.sub_le _ _
section
variable {B r:List UInt8}
theorem Fh (h:r <:+ B):B.drop (Wr B r)=r:=(List.suffix_iff_eq_drop.1 h).symm
theorem pos_0:Wr B B=0:=Nat.sub_self _
theorem rdR_suf (r:List UInt8) (e n m:Int):rdR r e n m <:+ r:=by unfold rdR;split<;>first|exact List.drop_suffix _ _|exact List.suffix_refl _
theorem rdYR_suf (r:List UInt8) (e m:Int):Ia r e m <:+ r:=by unfold Ia;split<;>first|exact (List.drop_suffix _ _).trans (List.drop_suffix _ _)|exact List.suffix_refl _
theorem sufR {e n m:Int} (h:r <:+ B):rdR r e n m <:+ B:=(rdR_suf _ _ _ _).trans h
theorem sufY {e m:Int} (h:r <:+ B):Ia r e m <:+ B:=(rdYR_suf _ _ _).trans h
theorem pos_of {a:Nat} (ha:a≤B.length) (h:B.drop a=r):a=Wr B r:=by
  subst h
  unfold Wr
  rw [List.length_drop]
  omega
theorem pos_R {e n m:Int} (h:r <:+ B):rfA B (Wr B r) e n m=Wr B (rdR r e n m):=pos_of (rfA_le (X38 _ _)) (by rw [rfA_drop,Fh h])
theorem pos_Y {e m:Int} (h:r <:+ B):X4i B (Wr B r) e m=Wr B (Ia r e m):=pos_of (rfYA_le (X38 _ _)) (by rw [Xf3,Fh h])
end
end Go.Proofs.YthnefnknoahbkaaGreat.Q
namespace Go.Proofs.YthnefnknoahbkaaGreat.Q
open Go Go.RowKit
set_option linter.unusedVariables false
set_option linter.unusedSimpArgs false
set_option maxRecDepth 100000
set_option maxHeartbeats 4000000
theorem Je (B:List UInt8) (r:List UInt8) (e:Int) (hs:r <:+ B) (hB:B.length≤140737488350000):Holds Tryz.prog 27 ⟨[pv 0 0],[.box 83 [dU B,dI ((Wr B r:Nat):Int),dI e]],vI (rdI r e),[.live (.box 83 [dU B,dI ((Wr B (rdR r e 8 0):Nat):Int),dI (rdE r e 8 0)])]⟩:=by
  have h:=Xby B (Wr B r) e (X38 B r) hB
  simp only [Fh hs,pos_R hs,pos_Y hs] at h
  exact h
theorem X2b (B:List UInt8) (r:List UInt8) (e:Int) (most:Int) (hs:r <:+ B) (hB:B.length≤140737488350000):Holds Tryz.prog 61 ⟨[pv 0 0,vI most],[.box 83 [dU B,dI ((Wr B r:Nat):Int),dI e]],vI ((rdC r e most:Nat):Int),[.live (.box 83 [dU B,dI ((Wr B (rdR r e 4 (Yc most (r.take 4))):Nat):Int),dI (rdE r e 4 (Yc most (r.take 4)))])]⟩:=by
  have h:=X2c B (Wr B r) e most (X38 B r) hB
  simp only [Fh hs,pos_R hs,pos_Y hs] at h
  exact h
theorem Xbx (B:List UInt8) (r:List UInt8) (e:Int) (hs:r <:+ B) (hB:B.length≤140737488350000):Holds Tryz.prog 30 ⟨[pv 0 0],[.box 83 [dU B,dI ((Wr B r:Nat):Int),dI e]],.tup [],[.live (.box 83 [dU B,dI ((Wr B r:Nat):Int),dI (rdX r e)])]⟩:=by
  have h:=Xbz B (Wr B r) e (X38 B r) hB
  simp only [Fh hs,pos_R hs,pos_Y hs] at h
  exact h
theorem Fo (B:List UInt8) (r:List UInt8) (e:Int) (most:Int) (hs:r <:+ B) (hB:B.length≤140737488350000):Holds Tryz.prog 59 ⟨[pv 0 0,vI most],[.box 83 [dU B,dI ((Wr B r:Nat):Int),dI e]],Xx 1 kU8 0 (rdY r e most).length,[.live (.box 83 [dU B,dI ((Wr B (Ia r e most):Nat):Int),dI (Jb r e most)]),.live (Xc 5 kU8 (rdY r e most))]⟩:=by
  have h:=X90 B (Wr B r) e most (X38 B r) hB
  simp only [Fh hs,pos_R hs,pos_Y hs] at h
  exact h
end Go.Proofs.YthnefnknoahbkaaGreat.Q
namespace Go.Proofs.YthnefnknoahbkaaGreat.Q
set_option linter.unusedVariables false
set_option linter.unusedSimpArgs false
set_option maxRecDepth 100000
structure RdL where
  rest:List UInt8
  e:Int
  l:List aE
structure RdC where
  rest:List UInt8
  e:Int
  l:List aC
structure RdM where
  rest:List UInt8
  e:Int
  m:aM
section
variable (M N:Int) (r:List UInt8) (e:Int)
def evR:List UInt8:=Ia (rdR r e 8 0) (rdE r e 8 0) M
def evE:Int:=Jb (rdR r e 8 0) (rdE r e 8 0) M
def evV:aE:=⟨rdI r e,rdY (rdR r e 8 0) (rdE r e 8 0) M⟩
def stepL (s:RdL):RdL:=⟨evR M s.rest s.e,evE M s.rest s.e,s.l++[evV M s.rest s.e]⟩
def Vc:Nat→RdL
  | 0=>⟨rdR r e 4 (Yc 15 (r.take 4)),rdE r e 4 (Yc 15 (r.take 4)),[]⟩
  | k+1=>stepL M (Vc k)
def U3:RdL:=Vc M r e (rdC r e 15)
def stepC (s:RdC):RdC:=⟨(U3 M (evR M s.rest s.e) (evE M s.rest s.e)).rest,(U3 M (evR M s.rest s.e) (evE M s.rest s.e)).e,s.l++[⟨evV M s.rest s.e,(U3 M (evR M s.rest s.e) (evE M s.rest s.e)).l⟩]⟩
def Yk:Nat→RdC
  | 0=>⟨rdR r e 4 (Yc 8 (r.take 4)),rdE r e 4 (Yc 8 (r.take 4)),[]⟩
  | k+1=>stepC M (Yk k)
def Fg:RdC:=Yk M r e (rdC r e 8)
def mk0 (k:Int):aM:=⟨k,0,0,0,0,[],[],⟨0,0⟩,[],[],[]⟩
def Wp (s:RdM):Nat→RdM
  | 0=>⟨rdR s.rest s.e 8 0,rdE s.rest s.e 8 0,⟨s.m.X2,rdI s.rest s.e,s.m.Xy,s.m.Xa,s.m.Xw,s.m.Xb,s.m.Xi,s.m.X1,s.m.Xe,s.m.Xp,s.m.X5⟩⟩
  | 1=>⟨rdR s.rest s.e 8 0,rdE s.rest s.e 8 0,⟨s.m.X2,s.m.Xr,rdI s.rest s.e,s.m.Xa,s.m.Xw,s.m.Xb,s.m.Xi,s.m.X1,s.m.Xe,s.m.Xp,s.m.X5⟩⟩
  | 2=>⟨rdR (rdR s.rest s.e 8 0) (rdE s.rest s.e 8 0) 8 0,rdE (rdR s.rest s.e 8 0) (rdE s.rest s.e 8 0) 8 0,⟨s.m.X2,s.m.Xr,s.m.Xy,rdI s.rest s.e,rdI (rdR s.rest s.e 8 0) (rdE s.rest s.e 8 0),s.m.Xb,s.m.Xi,s.m.X1,s.m.Xe,s.m.Xp,s.m.X5⟩⟩
  | 3=>⟨Ia s.rest s.e M,Jb s.rest s.e M,⟨s.m.X2,s.m.Xr,s.m.Xy,s.m.Xa,s.m.Xw,rdY s.rest s.e M,s.m.Xi,s.m.X1,s.m.Xe,s.m.Xp,s.m.X5⟩⟩
  | 4=>⟨Ia s.rest s.e M,Jb s.rest s.e M,⟨s.m.X2,s.m.Xr,s.m.Xy,s.m.Xa,s.m.Xw,s.m.Xb,rdY s.rest s.e M,s.m.X1,s.m.Xe,s.m.Xp,s.m.X5⟩⟩
  | 5=>⟨rdR (rdR s.rest s.e 8 0) (rdE s.rest s.e 8 0) 8 0,rdE (rdR s.rest s.e 8 0) (rdE s.rest s.e 8 0) 8 0,⟨s.m.X2,s.m.Xr,s.m.Xy,s.m.Xa,s.m.Xw,s.m.Xb,s.m.Xi,⟨rdI s.rest s.e,rdI (rdR s.rest s.e 8 0) (rdE s.rest s.e 8 0)⟩,s.m.Xe,s.m.Xp,s.m.X5⟩⟩
  | 6=>⟨(U3 N s.rest s.e).rest,(U3 N s.rest s.e).e,⟨s.m.X2,s.m.Xr,s.m.Xy,s.m.Xa,s.m.Xw,s.m.Xb,s.m.Xi,s.m.X1,(U3 N s.rest s.e).l,s.m.Xp,s.m.X5⟩⟩
  | 7=>⟨(U3 N s.rest s.e).rest,(U3 N s.rest s.e).e,⟨s.m.X2,s.m.Xr,s.m.Xy,s.m.Xa,s.m.Xw,s.m.Xb,s.m.Xi,s.m.X1,s.m.Xe,(U3 N s.rest s.e).l,s.m.X5⟩⟩
  | 8=>⟨(Fg N s.rest s.e).rest,(Fg N s.rest s.e).e,⟨s.m.X2,s.m.Xr,s.m.Xy,s.m.Xa,s.m.Xw,s.m.Xb,s.m.Xi,s.m.X1,s.m.Xe,s.m.Xp,(Fg N s.rest s.e).l⟩⟩
  | _=>s
def Xs (k:Int):Nat→RdM
  | 0=>⟨r,e,mk0 k⟩
  | j+1=>if U8 (Xg k) j=true then Wp M N (Xs k j) j else Xs k j
end
def X3h (M N:Int) (b:List UInt8):RdM:=Xs M N (rdR b 0 8 0) (rdE b 0 8 0) (rdI b 0) 9
def okD (M N:Int) (b:List UInt8):Prop:=b.length≤16777216∧okK (rdI b 0)∧rdX (X3h M N b).rest (X3h M N b).e=0∧X3r (X3h M N b).m
instance (M N:Int) (b:List UInt8):Decidable (okD M N b):=by unfold okD;infer_instance
def decW (M N:Int) (b:List UInt8):aM:=if okD M N b then (X3h M N b).m else zM
def decX (M N:Int) (b:List UInt8):Int:=if b.length>16777216 then 11 else if okD M N b then 0 else 12
def Y2 (b:List UInt8):aM:=decW ((b.length:Nat):Int) 16777216 b
def X05 (b:List UInt8):Int:=decX ((b.length:Nat):Int) 16777216 b
section
variable {M N:Int} {r B:List UInt8} {e:Int}
theorem X4y (M:Int) (r:List UInt8) (e:Int):(evR M r e).length≤r.length:=Nat.le_trans (X64 _ _ _) (U6 _ _ _ _)
theorem Fa (M:Int) (r:List UInt8) (e:Int):∀ k,(Vc M r e k).rest.length≤r.length∧(Vc M r e k).l.length=k
  | 0=>⟨U6 _ _ _ _,rfl⟩
  | k+1=>by
    obtain ⟨h1,h2⟩:=Fa M r e k
    refine ⟨Nat.le_trans (X4y _ _ _) h1,?_⟩
    show ((Vc M r e k).l++[_]).length=_
    rw [List.length_append,List.length_singleton,h2]
theorem X0m (r:List UInt8) (e:Int) (n:Nat):rdC r e ((n:Nat):Int)≤n:=by
  unfold rdC
  split
  · rename_i h
    have h3:=h.2.2
    unfold Yc at h3
    split at h3
    · cases h3
    · omega
  · exact Nat.zero_le _
theorem X01 (M:Int) (r:List UInt8) (e:Int):(U3 M r e).rest.length≤r.length∧(U3 M r e).l.length≤15:=⟨(Fa _ _ _ _).1,by rw [U3,(Fa _ _ _ _).2];exact X0m r e 15⟩
theorem Iz (M:Int) (r:List UInt8) (e:Int):∀ k,(Yk M r e k).rest.length≤r.length∧(Yk M r e k).l.length=k
  | 0=>⟨U6 _ _ _ _,rfl⟩
  | k+1=>by
    obtain ⟨h1,h2⟩:=Iz M r e k
    refine ⟨Nat.le_trans (X01 _ _ _).1 (Nat.le_trans (X4y _ _ _) h1),?_⟩
    show ((Yk M r e k).l++[_]).length=_
    rw [List.length_append,List.length_singleton,h2]
theorem Xax (M:Int) (r:List UInt8) (e:Int):(Fg M r e).rest.length≤r.length∧(Fg M r e).l.length≤8:=⟨(Iz _ _ _ _).1,by rw [Fg,(Iz _ _ _ _).2];exact X0m r e 8⟩
theorem sufE (h:r <:+ B):evR M r e <:+ B:=sufY (sufR h)
theorem sufL (h:r <:+ B):∀ k,(Vc M r e k).rest <:+ B
  | 0=>sufR h
  | k+1=>sufE (sufL h k)
theorem sufF (h:r <:+ B):(U3 M r e).rest <:+ B:=sufL h _
theorem sufC (h:r <:+ B):∀ k,(Yk M r e k).rest <:+ B
  | 0=>sufR h
  | k+1=>sufF (sufE (sufC h k))
theorem sufG (h:r <:+ B):(Fg M r e).rest <:+ B:=sufC h _
theorem U5 {k:Int} {j i:Nat} (h:j=i) (hb:U8 (Xg k) j=true):Xs M N r e k (j+1)=Wp M N (Xs M N r e k j) i:=by subst h;rw [Xs,if_pos hb]
theorem F3 {k:Int} {j:Nat} (hb:¬U8 (Xg k) j=true):Xs M N r e k (j+1)=Xs M N r e k j:=by rw [Xs,if_neg hb]
theorem Xev (s:RdM) (j:Nat):(Wp M N s j).rest.length≤s.rest.length:=by
  rcases (by omega:j=0∨j=1∨j=2∨j=3∨j=4∨j=5∨j=6∨j=7∨j=8∨9≤j) with h|h|h|h|h|h|h|h|h|h
  · subst h;exact U6 _ _ _ _
  · subst h;exact U6 _ _ _ _
  · subst h;exact Nat.le_trans (U6 _ _ _ _) (U6 _ _ _ _)
  · subst h;exact X64 _ _ _
  · subst h;exact X64 _ _ _
  · subst h;exact Nat.le_trans (U6 _ _ _ _) (U6 _ _ _ _)
  · subst h;exact (X01 _ _ _).1
  · subst h;exact (X01 _ _ _).1
  · subst h;exact (Xax _ _ _).1
  · obtain ⟨i,rfl⟩:∃ i,j=i+9:=⟨j-9,by omega⟩
    exact Nat.le_refl _
theorem Ei (M N:Int) (r:List UInt8) (e k:Int):∀ j,(Xs M N r e k j).rest.length≤r.length
  | 0=>Nat.le_refl _
  | j+1=>by
    rw [Xs]
    split
    · exact Nat.le_trans (Xev _ _) (Ei M N r e k j)
    · exact Ei M N r e k j
theorem Xeu {s:RdM} (h:s.rest <:+ B) (j:Nat):(Wp M N s j).rest <:+ B:=by
  rcases (by omega:j=0∨j=1∨j=2∨j=3∨j=4∨j=5∨j=6∨j=7∨j=8∨9≤j) with q|q|q|q|q|q|q|q|q|q
  · subst q;exact sufR h
  · subst q;exact sufR h
  · subst q;exact sufR (sufR h)
  · subst q;exact sufY h
  · subst q;exact sufY h
  · subst q;exact sufR (sufR h)
  · subst q;exact sufF h
  · subst q;exact sufF h
  · subst q;exact sufG h
  · obtain ⟨i,rfl⟩:∃ i,j=i+9:=⟨j-9,by omega⟩
    exact h
theorem sufM (M N:Int) (e k:Int) (h:r <:+ B):∀ j,(Xs M N r e k j).rest <:+ B
  | 0=>h
  | j+1=>by
    rw [Xs]
    split
    · exact Xeu (sufM M N e k h j) j
    · exact sufM M N e k h j
def fitM (n:Nat) (m:aM):Prop:=m.Xe.length≤15∧m.Xp.length≤15∧m.X5.length≤8∧m.Xi.length≤n∧m.Xb.length≤n
theorem Xew {n:Nat} {s:RdM} (h:fitM n s.m) (hl:s.rest.length≤n) (j:Nat):fitM n (Wp M N s j).m:=by
  obtain ⟨h1,h2,h3,h4,h5⟩:=h
  rcases (by omega:j=0∨j=1∨j=2∨j=3∨j=4∨j=5∨j=6∨j=7∨j=8∨9≤j) with h|h|h|h|h|h|h|h|h|h
  · subst h;exact ⟨h1,h2,h3,h4,h5⟩
  · subst h;exact ⟨h1,h2,h3,h4,h5⟩
  · subst h;exact ⟨h1,h2,h3,h4,h5⟩
  · subst h;exact ⟨h1,h2,h3,h4,Nat.le_trans (X4u _ _ _) hl⟩
  · subst h;exact ⟨h1,h2,h3,Nat.le_trans (X4u _ _ _) hl,h5⟩
  · subst h;exact ⟨h1,h2,h3,h4,h5⟩
  · subst h;exact ⟨(X01 _ _ _).2,h2,h3,h4,h5⟩
  · subst h;exact ⟨h1,(X01 _ _ _).2,h3,h4,h5⟩
  · subst h;exact ⟨h1,h2,(Xax _ _ _).2,h4,h5⟩
  · obtain ⟨i,rfl⟩:∃ i,j=i+9:=⟨j-9,by omega⟩
    exact ⟨h1,h2,h3,h4,h5⟩
theorem X25 (M N:Int) (r:List UInt8) (e k:Int):∀ j,fitM r.length (Xs M N r e k j).m
  | 0=>⟨Nat.zero_le _,Nat.zero_le _,Nat.zero_le _,Nat.zero_le _,Nat.zero_le _⟩
  | j+1=>by
    rw [Xs]
    split
    · exact Xew (X25 M N r e k j) (Ei _ _ _ _ _ _) j
    · exact X25 M N r e k j
end
theorem X3k {M N:Int} {b:List UInt8} (h:¬okD M N b) (hl:¬b.length>16777216):decW M N b=zM∧decX M N b=12:=⟨if_neg h,by rw [decX,if_neg hl,if_neg h]⟩
theorem Xe3 {M N:Int} {b:List UInt8} (h:okD M N b):decW M N b=(X3h M N b).m∧decX M N b=0:=⟨if_pos h,by rw [decX,if_neg (by have:=h.1;omega),if_pos h]⟩
theorem Xb4 {M N:Int} {b:List UInt8} (h:b.length>16777216):decW M N b=zM∧decX M N b=11:=⟨if_neg (fun q=>by have:=q.1;omega),if_pos h⟩
end Go.Proofs.YthnefnknoahbkaaGreat.Q
namespace Go.Proofs.YthnefnknoahbkaaGreat.Q
set_option linter.unusedVariables false
set_option linter.unusedSimpArgs false
set_option maxRecDepth 100000
section
variable {M M':Int} {r:List UInt8} {e:Int}
theorem Ux {n m:Int} (h:rdE r e n m=0):e=0:=(X3b h).1
theorem Ep (h:Jb r e M=0):e=0:=(X93.1 h).1.1
theorem ev_any (hM:((r.length:Nat):Int)≤M) (hM':((r.length:Nat):Int)≤M') (h:evE M r e=0):e=0∧evE M' r e=0∧evR M' r e=evR M r e∧evV M' r e=evV M r e:=by
  have hl:=U6 r e 8 0
  obtain ⟨a1,a2,a3⟩:=X92 (M':=M') (show (((rdR r e 8 0).length:Nat):Int)≤M by omega) (by omega) h
  exact ⟨Ux (Ep h),a1,a3,by unfold evV;rw [a2]⟩
theorem Xa5 (hM:((r.length:Nat):Int)≤M) (hM':((r.length:Nat):Int)≤M'):∀ k,(Vc M r e k).e=0→e=0∧Vc M' r e k=Vc M r e k
  | 0,h=>⟨Ux h,rfl⟩
  | k+1,h=>by
    have hl:=(Fa M r e k).1
    obtain ⟨a1,a2,a3,a4⟩:=ev_any (M':=M') (show (((Vc M r e k).rest.length:Nat):Int)≤M by omega) (by omega) h
    obtain ⟨b1,b2⟩:=Xa5 hM hM' k a1
    refine ⟨b1,?_⟩
    show stepL M' (Vc M' r e k)=stepL M (Vc M r e k)
    rw [b2]
    unfold stepL
    rw [a2,a3,a4,show evE M (Vc M r e k).rest (Vc M r e k).e=0 from h]
theorem X6m (hM:((r.length:Nat):Int)≤M) (hM':((r.length:Nat):Int)≤M') (h:(U3 M r e).e=0):e=0∧U3 M' r e=U3 M r e:=Xa5 hM hM' _ h
theorem Xa6 (hM:((r.length:Nat):Int)≤M) (hM':((r.length:Nat):Int)≤M'):∀ k,(Yk M r e k).e=0→e=0∧Yk M' r e k=Yk M r e k
  | 0,h=>⟨Ux h,rfl⟩
  | k+1,h=>by
    have hl:=(Iz M r e k).1
    have hl2:=X4y M (Yk M r e k).rest (Yk M r e k).e
    obtain ⟨c1,c2⟩:=X6m (M':=M') (show (((evR M (Yk M r e k).rest (Yk M r e k).e).length:Nat):Int)≤M by omega) (by omega) h
    obtain ⟨a1,a2,a3,a4⟩:=ev_any (M':=M') (show (((Yk M r e k).rest.length:Nat):Int)≤M by omega) (by omega) c1
    obtain ⟨b1,b2⟩:=Xa6 hM hM' k a1
    refine ⟨b1,?_⟩
    show stepC M' (Yk M' r e k)=stepC M (Yk M r e k)
    rw [b2]
    unfold stepC
    rw [a2,a3,a4,← c1,c2]
theorem finC_any (hM:((r.length:Nat):Int)≤M) (hM':((r.length:Nat):Int)≤M') (h:(Fg M r e).e=0):e=0∧Fg M' r e=Fg M r e:=Xa6 hM hM' _ h
theorem Xex {N N':Int} {s:RdM} (hM:((s.rest.length:Nat):Int)≤M) (hM':((s.rest.length:Nat):Int)≤M') (hN:((s.rest.length:Nat):Int)≤N) (hN':((s.rest.length:Nat):Int)≤N') (j:Nat) (h:(Wp M N s j).e=0):s.e=0∧Wp M' N' s j=Wp M N s j:=by
  rcases (by omega:j=0∨j=1∨j=2∨j=3∨j=4∨j=5∨j=6∨j=7∨j=8∨9≤j) with q|q|q|q|q|q|q|q|q|q
  · subst q;exact ⟨Ux h,rfl⟩
  · subst q;exact ⟨Ux h,rfl⟩
  · subst q;exact ⟨Ux (Ux h),rfl⟩
  · subst q
    obtain ⟨a1,a2,a3⟩:=X92 (M':=M') hM hM' h
    refine ⟨Ep h,?_⟩
    simp only [Wp]
    rw [a1,a2,a3,show Jb s.rest s.e M=0 from h]
  · subst q
    obtain ⟨a1,a2,a3⟩:=X92 (M':=M') hM hM' h
    refine ⟨Ep h,?_⟩
    simp only [Wp]
    rw [a1,a2,a3,show Jb s.rest s.e M=0 from h]
  · subst q;exact ⟨Ux (Ux h),rfl⟩
  · subst q
    obtain ⟨a1,a2⟩:=X6m hN hN' h
    exact ⟨a1,by simp only [Wp];rw [a2]⟩
  · subst q
    obtain ⟨a1,a2⟩:=X6m hN hN' h
    exact ⟨a1,by simp only [Wp];rw [a2]⟩
  · subst q
    obtain ⟨a1,a2⟩:=finC_any hN hN' h
    exact ⟨a1,by simp only [Wp];rw [a2]⟩
  · obtain ⟨i,rfl⟩:∃ i,j=i+9:=⟨j-9,by omega⟩
    exact ⟨h,rfl⟩
theorem X5q {N N':Int} {k:Int} (hM:((r.length:Nat):Int)≤M) (hM':((r.length:Nat):Int)≤M') (hN:((r.length:Nat):Int)≤N) (hN':((r.length:Nat):Int)≤N'):∀ j,(Xs M N r e k j).e=0→Xs M' N' r e k j=Xs M N r e k j
  | 0,_=>rfl
  | j+1,h=>by
    have hl:=Ei M N r e k j
    rw [Xs] at h ⊢
    rw [Xs]
    split
    · rename_i hb
      rw [if_pos hb] at h
      obtain ⟨a1,a2⟩:=Xex (M':=M') (N':=N') (by omega) (by omega) (by omega) (by omega) j h
      rw [X5q hM hM' hN hN' j a1,a2]
    · rename_i hb
      rw [if_neg hb] at h
      exact X5q hM hM' hN hN' j h
end
theorem Xdo {M N M' N':Int} {b:List UInt8} (hM:((b.length:Nat):Int)≤M) (hM':((b.length:Nat):Int)≤M') (hN:((b.length:Nat):Int)≤N) (hN':((b.length:Nat):Int)≤N') (h:okD M N b):X3h M' N' b=X3h M N b∧okD M' N' b:=by
  have hl:=U6 b 0 8 0
  have e:=X5q (r:=rdR b 0 8 0) (e:=rdE b 0 8 0) (k:=rdI b 0) (M:=M) (M':=M') (N:=N) (N':=N') (by omega) (by omega) (by omega) (by omega) 9 (rdX_ok h.2.2.1).1
  have e':X3h M' N' b=X3h M N b:=e
  exact ⟨e',h.1,h.2.1,by rw [e'];exact h.2.2.1,by rw [e'];exact h.2.2.2⟩
theorem Xb5 {b:List UInt8} (h:okD 1099511627776 1099511627776 b):Y2 b=(X3h 1099511627776 1099511627776 b).m∧X05 b=0:=by
  have hl:=h.1
  obtain ⟨e,h2⟩:=Xdo (M':=((b.length:Nat):Int)) (N':=16777216) (by omega) (by omega) (by omega) (by omega) h
  rw [← e]
  exact Xe3 h2
theorem X6s {b:List UInt8} (h:¬okD 1099511627776 1099511627776 b) (hb:¬b.length>16777216):Y2 b=zM∧X05 b=12 :=
  X3k (fun q=>h (Xdo (by omega) (by omega) (by omega) (by omega) q).2) hb
end Go.Proofs.YthnefnknoahbkaaGreat.Q
namespace Go.Proofs.YthnefnknoahbkaaGreat.Q
set_option linter.unusedVariables false
theorem X5m {M N:Int} {r:List UInt8} {e k:Int}:∀ j,j≤8→(Xs M N r e k j).m.X5=[]
  | 0,_=>rfl
  | j+1,hj=>by
    have ih:=X5m (M:=M) (N:=N) (r:=r) (e:=e) (k:=k) j (by omega)
    rw [Xs]
    split
    · rcases (by omega:j=0∨j=1∨j=2∨j=3∨j=4∨j=5∨j=6∨j=7) with q|q|q|q|q|q|q|q<;>subst q<;>exact ih
    · exact ih
end Go.Proofs.YthnefnknoahbkaaGreat.Q
namespace Go.Proofs.YthnefnknoahbkaaGreat.Q
open Go Go.RowKit
set_option linter.unusedVariables false
set_option linter.unusedSimpArgs false
set_option maxRecDepth 100000
set_option maxHeartbeats 4000000
theorem Jc (rest:List UInt8) (e:Int) (hr:rest.length≤100000000):Holds Tryz.prog 80 ⟨[.tv (.agg [.ptr 0 0])],[.box 162 [dU rest,dI e]],vI (rdI rest e),[.live (.box 162 [dU (rdR rest e 8 0),dI (rdE rest e 8 0)])]⟩:=by
 refine Holds.of Tryz.func80 rfl (N:=6) Tryz.ntmps80 rfl fun w0 B0 S0 U0=>?_
 show T _ (Y0 6 1 w0 S0 U0 B0) ⟨[.tv (.agg [.ptr 0 0])],[.live (.box 162 [dU rest,dI e])]⟩ _ _
 refine sR [] (sR [hR 2 rfl rfl (rCa (rd_Int rest e (by omega)) Tryz.func103 [0] [(.tmp 4,pv 0 0)] 1 1)] (T.ret ?_))
 exact eRt 2 (.one (dI (rdI rest e))) [0] rfl (ix trivial)
section
variable (rest:List UInt8) (e:Int)
abbrev Z5l:List AV:=[.tv (.agg [.ptr 0 0]),pv 1 0,pv 2 0,pv 3 0]
abbrev Z5m:HS:=.live (.box 162 [dU (Ia (rdR rest e 8 0) (rdE rest e 8 0) 16777216),dI (Jb (rdR rest e 8 0) (rdE rest e 8 0) 16777216)])
abbrev Z5n:St:=⟨Z5l,[(Z5m rest e),.live (.box 142 [.ptr 0 0]),.live (.box 53 [dI 0,.d (.val (.slice none 0 0))]),.live (.box 53 [dI (rdI rest e),.own 4 kU8.sz 0 (rdY (rdR rest e 8 0) (rdE rest e 8 0) 16777216).length]),.live (Xc 5 kU8 (rdY (rdR rest e 8 0) (rdE rest e 8 0) 16777216))]⟩
abbrev Z5o:SV:=dU (rdY (rdR rest e 8 0) (rdE rest e 8 0) 16777216)
end
theorem X20 (rest:List UInt8) (e:Int) (hr:rest.length≤100000000):Holds Tryz.prog 107 ⟨[.tv (.agg [.ptr 0 0])],[.box 162 [dU rest,dI e]],.tv (.agg [dI (evV 16777216 rest e).f_Signer,dU (evV 16777216 rest e).X7]),[.live (.box 162 [dU (evR 16777216 rest e),dI (evE 16777216 rest e)])]⟩:=by
 refine Holds.of Tryz.func107 rfl (N:=12) Tryz.ntmps107 rfl fun w0 B0 S0 U0=>?_
 show T _ (Y0 12 1 w0 S0 U0 B0) ⟨[.tv (.agg [.ptr 0 0])],[.live (.box 162 [dU rest,dI e])]⟩ _ _
 have hr1:=U6 rest e 8 0
 have hr2:=X4u (rdR rest e 8 0) (rdE rest e 8 0) 16777216
 refine sR [] (sR [hR 1 rfl rfl (rCa (Jc rest e ‹_›) Tryz.func80 [0] [(.tmp 4,.tv (.agg [.ptr 0 0]))] 1 1)] (sR [hR 2 rfl rfl (rCa (X62 (rdR rest e 8 0) (rdE rest e 8 0) 16777216 (by omega)) Tryz.func81 [0,4] [(.tmp 8,pv 0 0),(.const (.int .i64 16777216),vI 16777216)] 1 2)] ?_))
 refine tN (Z5n rest e) ?_
 refine Wv (s':=⟨Z5l,[(Z5m rest e),.live (.box 142 [.ptr 0 0]),.live (.box 53 [dI 0,.d (.val (.slice none 0 0))]),.live (.box 53 [dI (rdI rest e),(Z5o rest e)]),.dead]⟩) (fun _ _ hG=>Gs.freeze (s:=(Z5n rest e)) 4 (el:=Yu kU8 (rdY (rdR rest e 8 0) (rdE rest e 8 0) 16777216)) (sz:=kU8.sz) (n:=(rdY (rdR rest e 8 0) (rdE rest e 8 0) 16777216).length) rfl (kk4 trivial) ⟨pd,⟨pd,⟨pd,⟨pZ27,⟨(.inl ⟨rfl,rfl⟩),trivial⟩⟩⟩⟩⟩ hG) (sR [] (T.ret ?_))
 exact eX [.c 2 2 53 0 53 [dI (rdI rest e),(Z5o rest e)] (.agg [dI (rdI rest e),(Z5o rest e)])] ⟨⟨rfl,rfl,by kernel_rfl,by kernel_rfl,.inl ⟨2,Ib,rfl,Nat.le_of_ble_eq_true rfl⟩⟩,trivial⟩ [0] (cg2 (fun (q1:Int) (q2:List UInt8)=>(.tv (.agg [dI q1,dU q2]):AV)) (by rfl) (by rfl)) ⟨⟨rfl,(by have e1:((Ia (rdR rest e 8 0) (rdE rest e 8 0) 16777216):List UInt8)=(evR 16777216 rest e):=(by rfl);have e2:((Jb (rdR rest e 8 0) (rdE rest e 8 0) 16777216):Int)=(evE 16777216 rest e):=(by rfl);have hE:=congr pZs e2;exact Eq.trans pZ2 hE)⟩,trivial⟩
section
variable (rest:List UInt8) (e:Int) (k:Nat)
abbrev Z5p:AV:=vI ((rdC rest e 15:Nat):Int)
abbrev Z5q:HS:=.live (.box 162 [dU (rdR rest e 4 (Yc 15 (rest.take 4))),dI (rdE rest e 4 (Yc 15 (rest.take 4)))])
abbrev Z5r:HS:=.live (.box 142 [.ptr 0 0])
abbrev Z5s:=(Vc 16777216 rest e k)
abbrev Z5t:List HS:=[.live (.box 162 [dU (Z5s rest e k).rest,dI (Z5s rest e k).e]),Z5r,.live (Xc 53 (kE false) (Z5s rest e k).l)]
abbrev Z5u:St:=⟨[aa,pv 1 0,Xx 2 (kE false) 0 (Z5s rest e k).l.length,aa,aa,(Z5p rest e),vI ((k:Nat):Int)],(Z5t rest e k)⟩
abbrev Z5x:=(evV 16777216 (Z5s rest e k).rest (Z5s rest e k).e)
abbrev Z5y:AV:=vI ((k+1:Nat):Int)
abbrev Z5z:List HS:=[.live (.box 162 [dU (Vc 16777216 rest e (k+1)).rest,dI (Vc 16777216 rest e (k+1)).e]),Z5r,.live (Xc 53 (kE false) (Vc 16777216 rest e (k+1)).l)]
abbrev Z60:St:=⟨[aa,pv 1 0,Xx 2 (kE false) 0 (Z5s rest e k).l.length,aa,aa,(Z5p rest e),vI ((k:Nat):Int),vB (decide (((k:Nat):Int)<((rdC rest e 15:Nat):Int)))],(Z5t rest e k)⟩
end
theorem X5c (rest:List UInt8) (e:Int) (hr:rest.length≤100000000):Holds Tryz.prog 82 ⟨[.tv (.agg [.ptr 0 0])],[.box 162 [dU rest,dI e]],slV false false (kE false) (U3 16777216 rest e).l,[.live (.box 162 [dU (U3 16777216 rest e).rest,dI (U3 16777216 rest e).e])]⟩:=by
 refine Holds.of Tryz.func82 rfl (N:=15) Tryz.ntmps82 rfl fun w0 B0 S0 U0=>?_
 show T _ (Y0 15 1 w0 S0 U0 B0) ⟨[.tv (.agg [.ptr 0 0])],[.live (.box 162 [dU rest,dI e])]⟩ _ _
 have hr1:=U6 rest e 4 (Yc 15 (rest.take 4))
 refine sR [] (T.seq (sR [hR 2 rfl rfl (rCa (X61 rest e 15 (by omega)) Tryz.func104 [0] [(.tmp 4,pv 0 0),(.const (.int .i64 15),vI 15)] 1 1)] (T.block ?_)))
 refine tN ⟨[.tv (.agg [.ptr 0 0]),pv 1 0,dv (.slice none 0 0),aa,aa,(Z5p rest e),vI 0],[(Z5q rest e),Z5r]⟩ ?_
 refine Wv (s':=⟨[.tv (.agg [.ptr 0 0]),pv 1 0,Xx 2 (kE false) 0 0,aa,aa,(Z5p rest e),vI 0],[(Z5q rest e),Z5r,.live (Xc 53 (kE false) ([]:List aE))]⟩) (fun _ _ hG=>Vw 2 2 53 (kE false) rfl rfl hG) ?_
 refine T.loop (ι:=Nat) (fun (k:Nat)=>(Z5u rest e k)) (fun (k:Nat)=>(k≤rdC rest e 15)) (fun (k:Nat)=>rdC rest e 15-k) (0) (Nat.zero_le _) (fun _ _ hG=>Y9 [0,1,2] (bm 7 102) (t2:=[aa,pv 1 0,Xx 2 (kE false) 0 0,aa,aa,(Z5p rest e),vI 0]) (h2:=[(Z5q rest e),Z5r,.live (Xc 53 (kE false) ([]:List aE))]) (congrArg (fun (q1:Nat)=>([aa,pv 1 0,Xx 2 (kE false) 0 q1,aa,aa,(Z5p rest e),vI 0]:List AV)) (by rfl)) (cg3 (fun (q1:List UInt8) (q2:Int) (q3:List aE)=>([.live (.box 162 [dU q1,dI q2]),Z5r,.live (Xc 53 (kE false) q3)]:List HS)) (by rfl) (by rfl) (by rfl)) hG) ?_
 rintro k hk
 show T _ _ (Z5u rest e k) _ _
 replace hk:k≤rdC rest e 15:=hk
 have hg:=Fa 16777216 rest e k
 have hg1:=hg.1
 have hg2:=hg.2
 have hcm:rdC rest e 15≤15:=X0m rest e 15
 refine sR [] (T.seq ?_)
 by_cases hq1:((k:Nat):Int)<((rdC rest e 15:Nat):Int)
 ·refine cT (dT hq1) (T.skip (nT (T.seq (T.block ?_))))
  refine xR [hR 2 rfl rfl (rCa (X20 (Vc 16777216 rest e k).rest (Vc 16777216 rest e k).e (by omega)) Tryz.func107 [0] [(.tmp 9,.tv (.agg [.ptr 0 0]))] 1 1),hR 3 rfl rfl (Yb 3 53 (kE false) (Vr false) [(evV 16777216 (Vc 16777216 rest e k).rest (Vc 16777216 rest e k).e)] [⟨0,.tmp 10,.agg [dI (Z5x rest e k).f_Signer,dU (Z5x rest e k).X7],0⟩] (cs:=[dI (Z5x rest e k).f_Signer,dU (Z5x rest e k).X7]) Tryz.underlying39 I3 rfl X8t rfl rfl rfl pf (Wi rfl rfl pf Wa) pZ2 (Vk pZ2) (X4 rfl) trivial),hR 4 rfl rfl (Yq 2 4 53 32 (kE false) (Vr false) (Vc 16777216 rest e k).l [(evV 16777216 (Vc 16777216 rest e k).rest (Vc 16777216 rest e k).e)] ((Vc 16777216 rest e k).l++[(evV 16777216 (Vc 16777216 rest e k).rest (Vc 16777216 rest e k).e)]) (Vc 16777216 rest e k).l.length (sy:=(.own 3 (kE false).sz 0 [(Z5x rest e k)].length)) (rhs:=[(3,.live (Xc 53 (kE false) [(Z5x rest e k)]))]) X9n (by omega) (U4 3 53 (kE false) [(evV 16777216 (Vc 16777216 rest e k).rest (Vc 16777216 rest e k).e)]) p1o (by (simp [maxLen,-List.getD_eq_getElem?_getD]<;>omega)) (by (simp [maxLen,-List.getD_eq_getElem?_getD]<;>omega)) (X4 rfl) trivial)] pZ2 pZ2 ?_
  refine nB (nT (xK [hR 0 rfl rfl (Y4 (u1:=.int .i64 ((k:Nat):Int)) (u2:=.int .i64 1) (v:=.int .i64 ((k+1:Nat):Int)) (Yn pZ5) (X4 rfl) ⟨rfl,trivial⟩)] ?_))
  refine nL (k+1) (show (k+1)≤rdC rest e 15 from (by omega)) (show (rdC rest e 15-(k+1):Nat)<rdC rest e 15-k from (by omega)) (fun _ _ hG=>Ww [0,1,4] (bm 7 102) (t1:=[aa,pv 1 0,Xx 4 (kE false) 0 (Vc 16777216 rest e (k+1)).l.length,aa,aa,(Z5p rest e),(Z5y k)]) (t2:=[aa,pv 1 0,Xx 4 (kE false) 0 ((Z5s rest e k).l++[(Z5x rest e k)]).length,aa,aa,(Z5p rest e),(Z5y k)]) (h1:=(Z5z rest e k)) (h2:=[.live (.box 162 [dU (evR 16777216 (Z5s rest e k).rest (Z5s rest e k).e),dI (evE 16777216 (Z5s rest e k).rest (Z5s rest e k).e)]),Z5r,.live (Xc 53 (kE false) ((Z5s rest e k).l++[(Z5x rest e k)]))]) (congrArg (fun (q1:Nat)=>([aa,pv 1 0,Xx 4 (kE false) 0 q1,aa,aa,(Z5p rest e),(Z5y k)]:List AV)) (by rfl)) (cg3 (fun (q1:List UInt8) (q2:Int) (q3:List aE)=>([.live (.box 162 [dU q1,dI q2]),Z5r,.live (Xc 53 (kE false) q3)]:List HS)) (by rfl) (by rfl) (by rfl)) hG)
 refine cF (dF hq1) (T.exit (xT (xT (xH (nT (sR [] (T.ret ?_)))))))
 refine eN (Z60 rest e k) ?_
 refine Xh (s':=⟨[aa,pv 1 0,slV false false (kE false) (Z5s rest e k).l,aa,aa,(Z5p rest e),vI ((k:Nat):Int),vB (decide (((k:Nat):Int)<((rdC rest e 15:Nat):Int)))],[.live (.box 162 [dU (Z5s rest e k).rest,dI (Z5s rest e k).e]),Z5r,.dead]⟩) (fun _ _ hG=>Gs.freeze (s:=(Z60 rest e k)) 2 (el:=Yu (kE false) (Vc 16777216 rest e k).l) (sz:=(kE false).sz) (n:=(Vc 16777216 rest e k).l.length) rfl (kk2 ⟨(.inr pZ6),⟨.inl rfl,(kk4 trivial)⟩⟩) ⟨pd,⟨pd,⟨(.inl ⟨rfl,rfl⟩),trivial⟩⟩⟩ hG) ?_
 exact eRt 2 (.one (.d (dsl false false (kE false) (Z5s rest e k).l))) [0] (by have e1:((U3 16777216 rest e).l:List aE)=(Vc 16777216 rest e k).l:=p43;have hE:=congrArg (fun (q1:List aE)=>(slV false false (kE false) q1:AV)) e1;exact hE) ⟨⟨rfl,(by have e1:((Vc 16777216 rest e k).rest:List UInt8)=(U3 16777216 rest e).rest:=p43;have e2:((Vc 16777216 rest e k).e:Int)=(U3 16777216 rest e).e:=p43;have hE:=congr pZs e2;exact Eq.trans pZ2 hE)⟩,trivial⟩
end Go.Proofs.YthnefnknoahbkaaGreat.Q
