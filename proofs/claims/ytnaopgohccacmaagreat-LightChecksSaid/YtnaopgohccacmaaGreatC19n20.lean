import Derived.Test.YtnaopgohccacmaaGreatC19n19
namespace Go.Proofs.YtnaopgohccacmaaGreat.Q
set_option linter.unusedVariables false
set_option linter.unusedSimpArgs false
set_option maxRecDepth 100000
def Ih (e:aE):List UInt8:=Yx e.X4++W3 e.Xf
def Ec (l:List aE):List UInt8:=l.flatMap Ih
def Hc (l:List aE) (k:Nat):List UInt8:=U7 ((l.length:Nat):Int)++Ec (l.take k)
def Vo (l:List aE):List UInt8:=U7 ((l.length:Nat):Int)++Ec l
def Xfb (c:aC):List UInt8:=Ih c.I1++Vo c.Xv
def X9x (l:List aC):List UInt8:=l.flatMap Xfb
def Ep (l:List aC):List UInt8:=U7 ((l.length:Nat):Int)++X9x l
theorem Xct (e:aE):(Ih e).length=12+e.Xf.length:=by rw [Ih,List.length_append,Wq,Vg];omega
theorem X66 {α:Type} {z:α} (f:α→List UInt8) {l:List α} {k:Nat} (hk:k<l.length):(l.take (k+1)).flatMap f=(l.take k).flatMap f++f (l.getD k z):=by
  rw [Hq (z:=z) hk,List.flatMap_append];simp
theorem Xbg {α:Type} {z:α} (f:α→List UInt8) {l:List α} {k:Nat} (hk:k<l.length):((l.take k).flatMap f).length+(f (l.getD k z)).length≤(l.flatMap f).length:=by
  have h:l.flatMap f=(l.take (k+1)).flatMap f++(l.drop (k+1)).flatMap f:=by rw [← List.flatMap_append,List.take_append_drop]
  rw [h,X66 (z:=z) f hk,List.length_append,List.length_append]
  omega
theorem Xi2 {α:Type} (f:α→List UInt8) (l:List α) (k:Nat):((l.take k).flatMap f).length≤(l.flatMap f).length:=by
  have h:l.flatMap f=(l.take k).flatMap f++(l.drop k).flatMap f:=by rw [← List.flatMap_append,List.take_append_drop]
  rw [h,List.length_append];omega
theorem Xec {l:List aE} {k:Nat} (hk:k<l.length):Hc l (k+1)=Hc l k++Ih (l.getD k zE):=by
  rw [Hc,Ec,X66 (z:=zE) Ih hk,← List.append_assoc];rfl
theorem Xhy {l:List aE} {k:Nat} (hk:l.length≤k):Hc l k=Vo l:=by rw [Hc,List.take_of_length_le hk];rfl
theorem X4w (l:List aE):(Vo l).length=4+(Ec l).length:=by rw [Vo,List.length_append,Ik]
theorem list_cnt (l:List aE):l.length≤(Vo l).length:=by
  rw [X4w]
  have:∀ l:List aE,l.length≤(Ec l).length:=by
    intro l
    induction l with
    | nil=>simp
    | cons e r ih=>rw [show Ec (e::r)=Ih e++Ec r from rfl,List.length_append,Xct,List.length_cons];omega
  have:=this l
  omega
theorem lst_le (l:List aE) (k:Nat):(Hc l k).length≤(Vo l).length:=by
  rw [X4w,Hc,List.length_append,Ik]
  have:=Xi2 Ih l k
  unfold Ec;omega
theorem lst_room {l:List aE} {k:Nat} (hk:k<l.length):(Hc l k).length+(Ih (l.getD k zE)).length≤(Vo l).length:=by
  rw [X4w,Hc,List.length_append,Ik]
  have:=Xbg (z:=zE) Ih hk
  unfold Ec;omega
def Ij (l:List aC) (k:Nat):List UInt8:=X9x (l.take k)
theorem crt_0 (l:List aC):Ij l 0=[]:=by simp [Ij,X9x]
theorem Xf5 {l:List aC} {k:Nat} (hk:k<l.length):Ij l (k+1)=Ij l k++(Ih (l.getD k zC).I1++Vo (l.getD k zC).Xv):=X66 (z:=zC) Xfb hk
theorem crt_end {l:List aC} {k:Nat} (hk:l.length≤k):Ij l k=X9x l:=by rw [Ij,List.take_of_length_le hk]
theorem Xbm (l:List aC):(Ep l).length=4+(X9x l).length:=by rw [Ep,List.length_append,Ik]
theorem crt_le (l:List aC) (k:Nat):4+(Ij l k).length≤(Ep l).length:=by
  rw [Xbm]
  have:=Xi2 Xfb l k
  unfold Ij X9x;omega
theorem crt_room {l:List aC} {k:Nat} (hk:k<l.length):4+((Ij l k).length+((Ih (l.getD k zC).I1).length+(Vo (l.getD k zC).Xv).length))≤(Ep l).length:=by
  rw [Xbm]
  have h:=Xbg (z:=zC) Xfb hk
  have e:(Xfb (l.getD k zC)).length=(Ih (l.getD k zC).I1).length+(Vo (l.getD k zC).Xv).length:=List.length_append
  unfold Ij X9x;omega
def Fa (m:aM):Nat→List UInt8
  | 0=>Yx m.Y1
  | 1=>Yx m.Xo
  | 2=>Yx m.Xi++Yx m.Yj
  | 3=>W3 m.X8
  | 4=>W3 m.Xa
  | 5=>Yx m.X1.Xw++Yx m.X1.Xn
  | 6=>Vo m.Xp
  | 7=>Vo m.Y5
  | 8=>Ep m.X5
  | _=>[]
def Yb (m:aM):Nat→List UInt8
  | 0=>Yx m.X2
  | j+1=>Yb m j++(if Uz (Xj m.X2) j=true then Fa m j else [])
def F5 (m:aM):List UInt8:=if X6h m then Yb m 9 else []
section
variable {m:aM}
theorem Ht {j i:Nat} (h:j=i) (hb:Uz (Xj m.X2) j=true):Yb m (j+1)=Yb m j++Fa m i:=by subst h;rw [Yb,if_pos hb]
theorem X0v {j:Nat} (hb:¬Uz (Xj m.X2) j=true):Yb m (j+1)=Yb m j:=by rw [Yb,if_neg hb,List.append_nil]
theorem Xez (m:aM) (j:Nat):∀ d,(Yb m j).length≤(Yb m (j+d)).length
  | 0=>Nat.le_refl _
  | d+1=>Nat.le_trans (Xez m j d) (by rw [← Nat.add_assoc,Yb,List.length_append];omega)
theorem enc_le {j:Nat} (hj:j≤9):(Yb m j).length≤(Yb m 9).length:=by
  have:=Xez m j (9-j)
  rwa [show j+(9-j)=9 by omega] at this
theorem He {j i:Nat} (h:j=i) (hb:Uz (Xj m.X2) j=true) (hj:j≤8):(Yb m j).length+(Fa m i).length≤(Yb m 9).length:=by
  have:=enc_le (m:=m) (show j+1≤9 by omega)
  rwa [Ht h hb,List.length_append] at this
end
end Go.Proofs.YtnaopgohccacmaaGreat.Q
namespace Go.Proofs.YtnaopgohccacmaaGreat.Q
open Go Go.RowKit
set_option linter.unusedVariables false
set_option linter.unusedSimpArgs false
set_option maxRecDepth 100000
set_option maxHeartbeats 4000000
theorem X1k (tb:Bool) (nb:Bool) (b:List UInt8) (te:Bool) (e:aE) (hb:b.length+(Ih e).length≤10000000000):Holds Tryz.prog 67 ⟨[slV tb nb kU8 b,.tv (.agg [dI e.X4,.d (dsl te false kU8 e.Xf)])],[],Y9 0 kU8 0 (b++Ih e).length,[.live (Xe 5 kU8 (b++Ih e))]⟩:=by
 refine Holds.of Tryz.func67 rfl (N:=12) Tryz.ntmps67 rfl fun w0 B0 S0 U0=>?_
 show T _ (Y2 12 0 w0 S0 U0 B0) ⟨[slV tb nb kU8 b,.tv (.agg [dI e.X4,.d (dsl te false kU8 e.Xf)])],[]⟩ _ _
 have hel:=Xct e
 have hi:=Wq e.X4
 refine sR [] ?_
 refine sD [[],[],[1],[0,1,2],[],[4],[0,1,2,3,4,5],[0,1,2,3,4,5,6]] [hR 3 rfl rfl (rCa (Ui tb nb b e.X4 (by omega)) Tryz.func63 [1] [(.tmp 5,slV tb nb kU8 b),(.tmp 7,vI e.X4)] 0 1),hR 6 rfl rfl (Ww (I9 true false (b++Yx e.X4) te false e.Xf (by (simp [maxLen,-List.getD_eq_getElem?_getD]<;>omega))) Tryz.func64 rfl (by decide) [2] [1] (l:=[(.tmp 8,Y9 1 kU8 0 (b++Yx e.X4).length),(.tmp 10,slV te false kU8 e.Xf)]) [(1,.live (Xe 5 kU8 (b++Yx e.X4)))] rfl 0 1 rfl rfl rfl rfl rfl rfl rfl rfl rfl ⟨.inr (.inl ⟨rfl,px,rfl,rfl,by simp,5,(b++Yx e.X4).length,W6 kU8 (b++Yx e.X4),List.Mem.head _,pm,fun i j=>by rw [Nat.zero_add]⟩),⟨.inl ⟨rfl,rfl⟩,trivial⟩⟩ rfl pZ6 pZl (X3 rfl) trivial)] ?_
 refine T.ret ?_
 exact eRt 4 (.one (.own 2 kU8.sz 0 (b++Yx e.X4++W3 e.Xf).length)) [2] (by have e1:((b++Ih e).length:Nat)=(b++Yx e.X4++W3 e.Xf).length:=(by (rw [Ih,← List.append_assoc]));have hE:=congrArg (fun (q1:Nat)=>(Y9 2 kU8 0 q1:AV)) e1;exact hE) ⟨⟨rfl,(by have e1:(b++Yx e.X4++W3 e.Xf:List UInt8)=b++Ih e:=(by (rw [Ih,← List.append_assoc]));have hE:=congrArg (fun (q1:List UInt8)=>(.live (Xe 5 kU8 q1):HS)) e1;exact Eq.trans pZ7 hE)⟩,trivial⟩
abbrev Z8l (k:Nat):AV:=vI ((k+1:Nat):Int)
theorem X3l (tb:Bool) (nb:Bool) (b:List UInt8) (tl:Bool) (nl:Bool) (sl_:Bool) (l:List aE) (hb:b.length+(Vo l).length≤10000000000) (hl:l.length≤9223372036854775807):Holds Tryz.prog 65 ⟨[slV tb nb kU8 b,slV tl nl (kE sl_) l],[],Y9 0 kU8 0 (b++Vo l).length,[.live (Xe 5 kU8 (b++Vo l))]⟩:=by
 refine Holds.of Tryz.func65 rfl (N:=23) Tryz.ntmps65 rfl fun w0 B0 S0 U0=>?_
 show T _ (Y2 23 0 w0 S0 U0 B0) ⟨[slV tb nb kU8 b,slV tl nl (kE sl_) l],[]⟩ _ _
 have hll:=X4w l
 have hcl:=Ik ((l.length:Nat):Int)
 refine sR [] ?_
 refine sR [hR 3 rfl rfl (rCa (E5 tb nb b ((l.length:Nat):Int) (by omega)) Tryz.func66 [0] [(.tmp 6,slV tb nb kU8 b),(.tmp 8,vI ((l.length:Nat):Int))] 0 1)] ?_
 refine T.seq ?_
 refine sR [] ?_
 refine T.block ?_
 refine T.loop (ι:=Nat) (fun (k:Nat)=>⟨[Y9 0 kU8 0 (b++Hc l k).length,slV tl nl (kE sl_) l,aa,aa,aa,vI ((k:Nat):Int)],[.live (Xe 5 kU8 (b++Hc l k))]⟩) (fun (k:Nat)=>(k≤l.length)) (fun (k:Nat)=>l.length-k) (0) (Nat.zero_le _) (fun _ _ hG=>Yt [0] (bm 6 35) (t2:=[Y9 0 kU8 0 (b++U7 ((l.length:Nat):Int)).length,slV tl nl (kE sl_) l,aa,aa,aa,vI 0]) (h2:=[.live (Xe 5 kU8 (b++U7 ((l.length:Nat):Int)))]) (congrArg (fun (q1:Nat)=>([Y9 0 kU8 0 q1,slV tl nl (kE sl_) l,aa,aa,aa,vI 0]:List AV)) (by rfl)) pZ29 hG) ?_
 rintro k hk
 show T _ _ ⟨[Y9 0 kU8 0 (b++Hc l k).length,slV tl nl (kE sl_) l,aa,aa,aa,vI ((k:Nat):Int)],[.live (Xe 5 kU8 (b++Hc l k))]⟩ _ _
 replace hk:k≤l.length:=hk
 have hle:=lst_le l k
 refine T.seq ?_
 refine sR [] ?_
 by_cases hq1:((k:Nat):Int)<((l.length:Nat):Int)
 ·have hrm:=lst_room (l:=l) (k:=k) (by omega)
  refine cT (dT hq1) ?_
  refine T.skip (nT (T.seq ?_))
  refine T.block ?_
  refine xR [hR 3 rfl rfl (Wd tl nl (kE sl_) l k (k:=.i64) (i:=((k:Nat):Int)) Tryz.underlying37 Vs rfl rfl (by omega) (X3 rfl) trivial),hR 5 rfl rfl (Ww (X1k true false (b++Hc l k) sl_ (l.getD k zE) (by (simp [maxLen,-List.getD_eq_getElem?_getD]<;>omega))) Tryz.func67 rfl (by decide) [1] [0] (l:=[(.tmp 16,Y9 0 kU8 0 (b++Hc l k).length),(.tmp 20,.tv (.agg [dI (l.getD k zE).X4,.d (dsl sl_ false kU8 (l.getD k zE).Xf)]))]) [(0,.live (Xe 5 kU8 (b++Hc l k)))] rfl 0 1 rfl rfl rfl rfl rfl rfl rfl rfl rfl ⟨.inr (.inl ⟨rfl,px,rfl,rfl,by simp,5,(b++Hc l k).length,W6 kU8 (b++Hc l k),List.Mem.head _,pm,fun i j=>by rw [Nat.zero_add]⟩),⟨⟨.inl ⟨rfl,rfl⟩,⟨.inl ⟨rfl,rfl⟩,trivial⟩⟩,trivial⟩⟩ rfl pZ6 pZl (X3 rfl) trivial)] pZ7 pZ7 ?_
  refine nB ?_
  refine nT ?_
  refine xK [hR 1 rfl rfl (Ye (u1:=.int .i64 ((k:Nat):Int)) (u2:=.int .i64 1) (v:=.int .i64 ((k+1:Nat):Int)) (Wa pa) (X3 rfl) ⟨rfl,trivial⟩)] ?_
  refine nL (k+1) (show (k+1)≤l.length from (by omega)) (show (l.length-(k+1):Nat)<l.length-k from (by omega)) (fun _ _ hG=>Vb [1] (bm 6 35) (t1:=[Y9 1 kU8 0 (b++Hc l (k+1)).length,slV tl nl (kE sl_) l,aa,aa,aa,(Z8l k)]) (t2:=[Y9 1 kU8 0 ((b++Hc l k)++Ih (l.getD k zE)).length,slV tl nl (kE sl_) l,aa,aa,aa,(Z8l k)]) (h1:=[.live (Xe 5 kU8 (b++Hc l (k+1)))]) (h2:=[.live (Xe 5 kU8 ((b++Hc l k)++Ih (l.getD k zE)))]) (by have e1:((b++Hc l (k+1)).length:Nat)=((b++Hc l k)++Ih (l.getD k zE)).length:=(by (rw [Xec (by omega),← List.append_assoc]));have hE:=congrArg (fun (q1:Nat)=>([Y9 1 kU8 0 q1,slV tl nl (kE sl_) l,aa,aa,aa,(Z8l k)]:List AV)) e1;exact hE) (by have e1:((b++Hc l (k+1)):List UInt8)=(b++Hc l k)++Ih (l.getD k zE):=(by (rw [Xec (by omega),← List.append_assoc]));have hE:=congrArg (fun (q1:List UInt8)=>([.live (Xe 5 kU8 q1)]:List HS)) e1;exact hE) hG)
 refine cF (dF hq1) ?_
 refine T.exit ?_
 refine xT ?_
 refine xT ?_
 refine xH ?_
 refine nT ?_
 refine sR [] ?_
 refine T.ret ?_
 exact eRt 4 (.one (.own 0 kU8.sz 0 (b++Hc l k).length)) [0] (by have e1:((b++Vo l).length:Nat)=(b++Hc l k).length:=(by (rw [Xhy (by omega)]));have hE:=congrArg (fun (q1:Nat)=>(Y9 0 kU8 0 q1:AV)) e1;exact hE) ⟨⟨rfl,(by have e1:((b++Hc l k):List UInt8)=b++Vo l:=(by (rw [Xhy (by omega)]));have hE:=congrArg (fun (q1:List UInt8)=>(.live (Xe 5 kU8 q1):HS)) e1;exact Eq.trans pZ7 hE)⟩,trivial⟩
end Go.Proofs.YtnaopgohccacmaaGreat.Q
