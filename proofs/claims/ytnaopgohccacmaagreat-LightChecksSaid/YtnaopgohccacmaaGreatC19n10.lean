import Derived.Test.YtnaopgohccacmaaGreatC19n9
namespace Go.Proofs.YtnaopgohccacmaaGreat.Q
open Go Go.RowKit
set_option linter.unusedVariables false
set_option linter.unusedSimpArgs false
set_option maxRecDepth 100000
set_option maxHeartbeats 4000000
abbrev Z3g (j:Nat):AV:=vI ((j:Nat):Int)
theorem X8x:∀ (N:Nat) (tl:Bool) (nl:Bool) (sl_:Bool) (l:List (List UInt8)) (j:Nat) (hf:Jp szL 40 600 l) (hj:j≤1000),l.length=N→Holds Tryz.prog 140 ⟨[slV tl nl (kSl sl_ kU8) l,vI ((j:Nat):Int)],[],Y9 0 (Xb false) 0 (Wh l j).length,[.live (Xe 168 (Xb false) (Wh l j))]⟩:=by
  intro N
  induction N using Nat.strongRecOn with
  | _ N ih =>
    intro tl nl sl_ l j hf hj hN
    refine Holds.of Tryz.func140 rfl (N:=41) Tryz.ntmps140 rfl fun w0 B0 S0 U0=>?_
    show T _ (Y2 41 0 w0 S0 U0 B0) ⟨[slV tl nl (kSl sl_ kU8) l,(Z3g j)],[]⟩ _ _
    have hl40:=hf.1
    refine sR [] ?_
    refine T.seq ?_
    refine sR [] ?_
    by_cases hq1:((l.length:Nat):Int)<2
    ·refine cT (dT hq1) ?_
     refine sR [] ?_
     refine T.ret (rT ?_)
     refine eN ⟨[slV tl nl (kSl sl_ kU8) l,(Z3g j),aa,aa,dv (.slice none 0 0),aa,aa,aa,vB (decide (((l.length:Nat):Int)<2))],[]⟩ ?_
     refine Xc (s':=⟨[slV tl nl (kSl sl_ kU8) l,(Z3g j),aa,aa,Y9 0 (Xb false) 0 0,aa,aa,aa,vB (decide (((l.length:Nat):Int)<2))],[.live (Xe 168 (Xb false) ([]:List Y7))]⟩) (fun _ _ hG=>Vy 0 4 168 (Xb false) rfl rfl hG) ?_
     exact eRt 4 (.one (.own 0 (Xb false).sz 0 0)) [0] (by have e1:((Wh l j).length:Nat)=0:=pk;have hE:=congrArg (fun (q1:Nat)=>(Y9 0 (Xb false) 0 q1:AV)) e1;exact hE) ⟨⟨rfl,(by have e1:(([]:List Y7):List Y7)=(Wh l j):=pk;have hE:=congrArg (fun (q1:List Y7)=>(.live (Xe 168 (Xb false) q1):HS)) e1;exact Eq.trans pZ7 hE)⟩,trivial⟩
    have h2l:2≤l.length:=(by omega);have hhl:=Jo h2l;have hhp:=J4 l.length;have hfa:=Ug (Ig hf (half l.length));have hfb:=Ug (Jy hf (half l.length));have hpa:=X3u _ (l.take (half l.length)) j rfl;have hpb:=X3u _ (l.drop (half l.length)) (j-half l.length) rfl;have htl:(l.take (half l.length)).length≤40:=p1z;have htd:(l.drop (half l.length)).length≤40:=p2d
    refine cF (dF hq1) ?_
    refine T.skip (nT ?_)
    refine sR [hR 2 rfl rfl (rCa (X3n l.length (by first|assumption|omega|(unfold maxLen;omega)|(simp [maxLen,-List.getD_eq_getElem?_getD]<;>omega)|decide) (by first|assumption|omega|(unfold maxLen;omega)|(simp [maxLen,-List.getD_eq_getElem?_getD]<;>omega)|decide)) Tryz.func138 [] [(.tmp 10,vI ((l.length:Nat):Int))] 0 0)] ?_
    refine T.seq ?_
    refine sR [] ?_
    by_cases hq2:((j:Nat):Int)<((half l.length:Nat):Int)
    ·refine cT (dT hq2) ?_
     refine sD [[],[],[0,1],[],[0,1,2,3],[],[],[5,6],[0,1,2,3,4,5,6,7],[0,1,2,3,4,5,6,7,8],[0,1,2,3,4,5,6,7,8,9],[0,1,2,3,4,5,6,7,8,9,10],[0,1,2,3,4,5,6,7,8,9,10,11]] [hR 2 rfl rfl (Ua tl nl (kSl sl_ kU8) l (l.take (half l.length)) 0 (half l.length) (lo:=none) (hi:=some (.tmp 16,((half l.length:Nat):Int))) Tryz.underlying136 U1 rfl rfl rfl rfl rfl (by first|assumption|omega|(unfold maxLen;omega)|(simp [maxLen,-List.getD_eq_getElem?_getD]<;>omega)|decide) (by first|assumption|omega|(unfold maxLen;omega)|(simp [maxLen,-List.getD_eq_getElem?_getD]<;>omega)|decide) rfl (X3 rfl) trivial),hR 4 rfl rfl (rCa (ih ((l.take (half l.length)).length) (show (l.take (half l.length)).length<N from p1x) tl nl sl_ (l.take (half l.length)) j pw (by first|assumption|omega|(unfold maxLen;omega)|(simp [maxLen,-List.getD_eq_getElem?_getD]<;>omega)|decide) rfl) Tryz.func140 [0] [(.tmp 17,slV tl nl (kSl sl_ kU8) (l.take (half l.length))),(.tmp 18,(Z3g j))] 0 1),hR 7 rfl rfl (Ua tl nl (kSl sl_ kU8) l (l.drop (half l.length)) (half l.length) l.length (lo:=some (.tmp 21,((half l.length:Nat):Int))) (hi:=none) Tryz.underlying136 U1 rfl rfl rfl rfl rfl (by first|assumption|omega|(unfold maxLen;omega)|(simp [maxLen,-List.getD_eq_getElem?_getD]<;>omega)|decide) (by first|assumption|omega|(unfold maxLen;omega)|(simp [maxLen,-List.getD_eq_getElem?_getD]<;>omega)|decide) Jn (X3 rfl) trivial),hR 8 rfl rfl (rCa (X3o tl nl sl_ (l.drop (half l.length)) pw) Tryz.func98 [] [(.tmp 22,slV tl nl (kSl sl_ kU8) (l.drop (half l.length)))] 0 0),hR 10 rfl rfl (Yd 1 168 (Xb false) (Uo false) [(Y7.mk false (W7 (l.drop (half l.length))))] [⟨0,.tmp 24,.agg [dB false,dS (W7 (l.drop (half l.length)))],0⟩] (cs:=[dB false,dS (W7 (l.drop (half l.length)))]) Tryz.underlying47 J3 rfl X43 rfl rfl rfl pd (Yp rfl rfl pd W4) pZ7 (V1 pZ7) (X3 rfl) trivial),hR 11 rfl rfl (Yy 0 2 168 24 (Xb false) (Uo false) (Wh (l.take (half l.length)) j) [(Y7.mk false (W7 (l.drop (half l.length))))] ((Wh (l.take (half l.length)) j)++[(Y7.mk false (W7 (l.drop (half l.length))))]) (Wh (l.take (half l.length)) j).length (sy:=(.own 1 (Xb false).sz 0 [(Y7.mk false (W7 (l.drop (half l.length))))].length)) (rhs:=[(1,.live (Xe 168 (Xb false) [(Y7.mk false (W7 (l.drop (half l.length))))]))]) X7x (by first|assumption|omega|(unfold maxLen;omega)|(simp [maxLen,-List.getD_eq_getElem?_getD]<;>omega)|decide) (Wu 1 168 (Xb false) [(Y7.mk false (W7 (l.drop (half l.length))))]) Jn (by first|assumption|omega|(unfold maxLen;omega)|(simp [maxLen,-List.getD_eq_getElem?_getD]<;>omega)|decide) (by first|assumption|omega|(unfold maxLen;omega)|(simp [maxLen,-List.getD_eq_getElem?_getD]<;>omega)|decide) (X3 rfl) trivial)] ?_
     refine T.ret (rT ?_)
     exact eRt 4 (.one (.own 2 (Xb false).sz 0 ((Wh (l.take (half l.length)) j)++[(Y7.mk false (W7 (l.drop (half l.length))))]).length)) [2] (by have e1:((Wh l j).length:Nat)=((Wh (l.take (half l.length)) j)++[(Y7.mk false (W7 (l.drop (half l.length))))]).length:=pk;have hE:=congrArg (fun (q1:Nat)=>(Y9 2 (Xb false) 0 q1:AV)) e1;exact hE) ⟨⟨rfl,(by have e1:((Wh (l.take (half l.length)) j)++[(Y7.mk false (W7 (l.drop (half l.length))))]:List Y7)=(Wh l j):=pk;have hE:=congrArg (fun (q1:List Y7)=>(.live (Xe 168 (Xb false) q1):HS)) e1;exact Eq.trans pZ7 hE)⟩,trivial⟩
    refine cF (dF hq2) ?_
    refine T.skip (nT ?_)
    refine sD [[],[],[0,1],[],[],[3,4],[0,1,2,3,4,5],[],[],[7,8],[0,1,2,3,4,5,6,7,8,9],[0,1,2,3,4,5,6,7,8,9,10],[0,1,2,3,4,5,6,7,8,9,10,11],[0,1,2,3,4,5,6,7,8,9,10,11,12],[0,1,2,3,4,5,6,7,8,9,10,11,12,13]] [hR 2 rfl rfl (Ua tl nl (kSl sl_ kU8) l (l.drop (half l.length)) (half l.length) l.length (lo:=some (.tmp 28,((half l.length:Nat):Int))) (hi:=none) Tryz.underlying136 U1 rfl rfl rfl rfl rfl (by first|assumption|omega|(unfold maxLen;omega)|(simp [maxLen,-List.getD_eq_getElem?_getD]<;>omega)|decide) (by first|assumption|omega|(unfold maxLen;omega)|(simp [maxLen,-List.getD_eq_getElem?_getD]<;>omega)|decide) Jn (X3 rfl) trivial),hR 5 rfl rfl (Ye (u1:=.int .i64 ((j:Nat):Int)) (u2:=.int .i64 ((half l.length:Nat):Int)) (v:=.int .i64 ((j-(half l.length):Nat):Int)) (Ve pa) (X3 rfl) trivial),hR 6 rfl rfl (rCa (ih ((l.drop (half l.length)).length) (show (l.drop (half l.length)).length<N from p1x) tl nl sl_ (l.drop (half l.length)) (j-(half l.length)) pw (by first|assumption|omega|(unfold maxLen;omega)|(simp [maxLen,-List.getD_eq_getElem?_getD]<;>omega)|decide) rfl) Tryz.func140 [0] [(.tmp 29,slV tl nl (kSl sl_ kU8) (l.drop (half l.length))),(.tmp 32,vI ((j-(half l.length):Nat):Int))] 0 1),hR 9 rfl rfl (Ua tl nl (kSl sl_ kU8) l (l.take (half l.length)) 0 (half l.length) (lo:=none) (hi:=some (.tmp 35,((half l.length:Nat):Int))) Tryz.underlying136 U1 rfl rfl rfl rfl rfl (by first|assumption|omega|(unfold maxLen;omega)|(simp [maxLen,-List.getD_eq_getElem?_getD]<;>omega)|decide) (by first|assumption|omega|(unfold maxLen;omega)|(simp [maxLen,-List.getD_eq_getElem?_getD]<;>omega)|decide) rfl (X3 rfl) trivial),hR 10 rfl rfl (rCa (X3o tl nl sl_ (l.take (half l.length)) pw) Tryz.func98 [] [(.tmp 36,slV tl nl (kSl sl_ kU8) (l.take (half l.length)))] 0 0),hR 12 rfl rfl (Yd 1 168 (Xb false) (Uo false) [(Y7.mk true (W7 (l.take (half l.length))))] [⟨0,.tmp 38,.agg [dB true,dS (W7 (l.take (half l.length)))],0⟩] (cs:=[dB true,dS (W7 (l.take (half l.length)))]) Tryz.underlying47 J3 rfl X43 rfl rfl rfl pd (Yp rfl rfl pd W4) pZ7 (V1 pZ7) (X3 rfl) trivial),hR 13 rfl rfl (Yy 0 2 168 24 (Xb false) (Uo false) (Wh (l.drop (half l.length)) (j-(half l.length))) [(Y7.mk true (W7 (l.take (half l.length))))] ((Wh (l.drop (half l.length)) (j-(half l.length)))++[(Y7.mk true (W7 (l.take (half l.length))))]) (Wh (l.drop (half l.length)) (j-(half l.length))).length (sy:=(.own 1 (Xb false).sz 0 [(Y7.mk true (W7 (l.take (half l.length))))].length)) (rhs:=[(1,.live (Xe 168 (Xb false) [(Y7.mk true (W7 (l.take (half l.length))))]))]) X7x (by first|assumption|omega|(unfold maxLen;omega)|(simp [maxLen,-List.getD_eq_getElem?_getD]<;>omega)|decide) (Wu 1 168 (Xb false) [(Y7.mk true (W7 (l.take (half l.length))))]) Jn (by first|assumption|omega|(unfold maxLen;omega)|(simp [maxLen,-List.getD_eq_getElem?_getD]<;>omega)|decide) (by first|assumption|omega|(unfold maxLen;omega)|(simp [maxLen,-List.getD_eq_getElem?_getD]<;>omega)|decide) (X3 rfl) trivial)] ?_
    refine T.ret ?_
    exact eRt 4 (.one (.own 2 (Xb false).sz 0 ((Wh (l.drop (half l.length)) (j-(half l.length)))++[(Y7.mk true (W7 (l.take (half l.length))))]).length)) [2] (by have e1:((Wh l j).length:Nat)=((Wh (l.drop (half l.length)) (j-(half l.length)))++[(Y7.mk true (W7 (l.take (half l.length))))]).length:=pk;have hE:=congrArg (fun (q1:Nat)=>(Y9 2 (Xb false) 0 q1:AV)) e1;exact hE) ⟨⟨rfl,(by have e1:((Wh (l.drop (half l.length)) (j-(half l.length)))++[(Y7.mk true (W7 (l.take (half l.length))))]:List Y7)=(Wh l j):=pk;have hE:=congrArg (fun (q1:List Y7)=>(.live (Xe 168 (Xb false) q1):HS)) e1;exact Eq.trans pZ7 hE)⟩,trivial⟩
theorem Xfy (tl:Bool) (nl:Bool) (sl_:Bool) (l:List (List UInt8)) (j:Nat) (hf:Jp szL 40 600 l) (hj:j≤1000):Holds Tryz.prog 140 ⟨[slV tl nl (kSl sl_ kU8) l,vI ((j:Nat):Int)],[],Y9 0 (Xb false) 0 (Wh l j).length,[.live (Xe 168 (Xb false) (Wh l j))]⟩:=X8x _ tl nl sl_ l j hf hj rfl
section
variable (tl:Bool) (nl:Bool) (sl_:Bool) (l:List (List UInt8)) (i:Int)
abbrev Z3h:St:=⟨[slV tl nl (kSl sl_ kU8) l,vI i,aa,aa,dv (.slice none 0 0),vI 2,aa,aa,aa,aa,aa,aa,aa,vB true],[]⟩
abbrev Z3i:AV:=slV false false (Xb false) ([]:List Y7)
abbrev Z3j:AV:=vB (decide (i≥((l.length:Nat):Int)))
abbrev Z3k:St:=⟨[slV tl nl (kSl sl_ kU8) l,vI i,aa,aa,dv (.slice none 0 0),vI 2,aa,aa,aa,aa,aa,aa,aa,(Z3j l i)],[]⟩
abbrev Z3l:List AV:=[slV tl nl (kSl sl_ kU8) l,vI i,aa,aa,dv (.slice none 0 0),vI 0,aa,aa,aa,aa,aa,aa,aa,(Z3j l i)]
abbrev Z3m:AV:=vI ((i.toNat:Nat):Int)
abbrev Z3n:List AV:=[slV tl nl (kSl sl_ kU8) l,(Z3m i),aa,aa,dv (.slice none 0 0),vI 0,aa,aa,aa,aa,aa,aa,aa,(Z3j l i)]
abbrev Z3o:St:=⟨[slV tl nl (kSl sl_ kU8) l,(Z3m i),aa,aa,Y9 0 (Xb false) 0 (Wh l i.toNat).length,vI 0,aa,aa,aa,aa,aa,aa,aa,(Z3j l i)],[.live (Xe 168 (Xb false) (Wh l i.toNat))]⟩
end
theorem Xfz (tl:Bool) (nl:Bool) (sl_:Bool) (l:List (List UInt8)) (i:Int) (hf:Jp szL 40 600 l):Holds Tryz.prog 99 ⟨[slV tl nl (kSl sl_ kU8) l,vI i],[],.tup [.one (.d (dsl false false (Xb false) (Hx l i))),.one (dI (X14 l i))],[]⟩:=by
 refine Holds.of Tryz.func99 rfl (N:=17) Tryz.ntmps99 rfl fun w0 B0 S0 U0=>?_
 show T _ (Y2 17 0 w0 S0 U0 B0) ⟨[slV tl nl (kSl sl_ kU8) l,vI i],[]⟩ _ _
 have hl40:=hf.1
 refine sR [] ?_
 refine T.seq ?_
 by_cases hq1:i<0
 ·refine sR (Xm (hN · false (dT hq1)) [3,4,5,6] (hP 7 (dT hq1)::[])) ?_
  refine cT (b:=true) rfl ?_
  refine sR [] ?_
  refine T.ret (rT ?_)
  refine eN (Z3h tl nl sl_ l i) ?_
  refine Xc (s':=⟨[slV tl nl (kSl sl_ kU8) l,vI i,aa,aa,Z3i,vI 2,aa,aa,aa,aa,aa,aa,aa,vB true],[]⟩) (fun _ _ hG=>Ys (s:=(Z3h tl nl sl_ l i)) (kk4 ⟨pZ5,⟨.inl rfl,(kk8 trivial)⟩⟩) trivial hG) ?_
  exact eX [.t 4 (.one (.d (dsl false false (Xb false) ([]:List Y7)))),.t 5 (.one (dI 2))] ⟨⟨rfl,by kernel_rfl⟩,⟨⟨rfl,by kernel_rfl⟩,trivial⟩⟩ [] po trivial
 refine sR (Xm (hY · (dF hq1)) [3,4,5,6] (hP 7 (dF hq1)::[])) ?_
 by_cases hq2:i≥((l.length:Nat):Int)
 ·refine cT (dT hq2) ?_
  refine sR [] ?_
  refine T.ret (rT ?_)
  refine eN (Z3k tl nl sl_ l i) ?_
  refine Xc (s':=⟨[slV tl nl (kSl sl_ kU8) l,vI i,aa,aa,Z3i,vI 2,aa,aa,aa,aa,aa,aa,aa,(Z3j l i)],[]⟩) (fun _ _ hG=>Ys (s:=(Z3k tl nl sl_ l i)) (kk4 ⟨pZ5,⟨.inl rfl,(kk8 trivial)⟩⟩) trivial hG) ?_
  exact eX [.t 4 (.one (.d (dsl false false (Xb false) ([]:List Y7)))),.t 5 (.one (dI 2))] ⟨⟨rfl,by kernel_rfl⟩,⟨⟨rfl,by kernel_rfl⟩,trivial⟩⟩ [] po trivial
 refine cF (dF hq2) ?_
 refine T.skip (nT ?_)
 refine tN ⟨(Z3l tl nl sl_ l i),[]⟩ ?_
 refine Wv (s':=⟨(Z3n tl nl sl_ l i),[]⟩) (fun _ _ hG=>Yt [] (bm 14 8243) (t2:=(Z3l tl nl sl_ l i)) (congrArg (fun (q1:Int)=>([slV tl nl (kSl sl_ kU8) l,vI q1,aa,aa,dv (.slice none 0 0),vI 0,aa,aa,aa,aa,aa,aa,aa,(Z3j l i)]:List AV)) (by omega)) rfl hG) ?_
 refine sR [hR 2 rfl rfl (rCa (Xfy tl nl sl_ l i.toNat ‹_› (by omega)) Tryz.func140 [0] [(.tmp 14,slV tl nl (kSl sl_ kU8) l),(.tmp 15,(Z3m i))] 0 1)] ?_
 refine T.ret ?_
 refine eN (Z3o tl nl sl_ l i) ?_
 refine Xc (s':=⟨[slV tl nl (kSl sl_ kU8) l,(Z3m i),aa,aa,slV false false (Xb false) (Wh l i.toNat),vI 0,aa,aa,aa,aa,aa,aa,aa,(Z3j l i)],[.dead]⟩) (fun _ _ hG=>Gs.freeze (s:=(Z3o tl nl sl_ l i)) 0 (el:=W6 (Xb false) (Wh l i.toNat)) (sz:=(Xb false).sz) (n:=(Wh l i.toNat).length) rfl (kk4 ⟨(.inr pZ0),⟨.inl rfl,(kk8 trivial)⟩⟩) ⟨(.inl ⟨rfl,rfl⟩),trivial⟩ hG) ?_
 exact eX [.t 4 (.one (.d (dsl false false (Xb false) (Wh l i.toNat)))),.t 5 (.one (dI 0))] ⟨⟨rfl,by kernel_rfl⟩,⟨⟨rfl,by kernel_rfl⟩,trivial⟩⟩ [] (by have e1:((Hx l i):List Y7)=(Wh l i.toNat):=(by (have ho:okI l i:=(by simp only [okI];omega);(rw [Hx,if_pos ho])));have e2:((X14 l i):Int)=0:=p59;have hE:=congr p1c e2;exact hE) trivial
theorem Xbq:Zero Tryz.prog 4 [.bool false]:=⟨_,_,Fs,rfl,rfl⟩
theorem X53:Elem Tryz.prog 192 4 1 1:=⟨Tryz.underlying192,_,_,Fs,rfl,rfl,rfl,rfl,by decide⟩
section
variable (i:Int) (n:Int) (j:Nat) (m:Nat) (Dn:List Bool)
abbrev Z3q:AV:=vI ((j:Nat):Int)
abbrev Z3r:AV:=vI ((m:Nat):Int)
abbrev Z3s:AV:=vB (decide (((m:Nat):Int)<2))
abbrev Z3t:List AV:=[(Z3q j),(Z3r m),aa,aa,Y9 0 Yc 0 Dn.reverse.length,aa,aa,aa,(Z3s m)]
end
theorem Xcf (i:Int) (n:Int) (hi:0≤i∧i<n) (hn:n≤9223372036854775807):Holds Tryz.prog 141 ⟨[vI i,vI n],[],Y9 0 Yc 0 (Yl i.toNat n.toNat).length,[.live (Xe 4 Yc (Yl i.toNat n.toNat))]⟩:=by
 refine Holds.of Tryz.func141 rfl (N:=31) Tryz.ntmps141 rfl fun w0 B0 S0 U0=>?_
 show T _ (Y2 31 0 w0 S0 U0 B0) ⟨[vI i,vI n],[]⟩ _ _
 refine sR [] ?_
 refine Xfj ?_
 refine T.seq ?_
 refine T.label ?_
 refine nT (T.seq ?_)
 refine T.block ?_
 refine tN ⟨[vI i,vI n,aa,aa,dv (.slice none 0 0)],[]⟩ ?_
 refine Wv (s':=⟨[vI i,vI n,aa,aa,Y9 0 Yc 0 0],[.live (Xe 4 Yc ([]:List Bool))]⟩) (fun _ _ hG=>Vy 0 4 4 Yc rfl rfl hG) ?_
 refine T.loop (ι:=Nat×Nat×(List Bool)) (fun (x_:Nat×Nat×(List Bool))=>⟨[vI ((x_.1:Nat):Int),vI ((x_.2.1:Nat):Int),aa,aa,Y9 0 Yc 0 x_.2.2.length],[.live (Xe 4 Yc x_.2.2)]⟩) (fun (x_:Nat×Nat×(List Bool))=>(x_.2.1≤9223372036854775807)∧(x_.1<x_.2.1)∧(Yl i.toNat n.toNat=Yl x_.1 x_.2.1++x_.2.2.reverse)) (fun (x_:Nat×Nat×(List Bool))=>x_.2.1) (i.toNat,n.toNat,([]:List Bool)) ⟨(show n.toNat≤9223372036854775807 from (by omega)),(show i.toNat<n.toNat from (by omega)),(show Yl i.toNat n.toNat=Yl i.toNat n.toNat++([]:List Bool).reverse from (by simp))⟩ (fun _ _ hG=>Yt [0] (bm 5 19) (t2:=[vI i,vI n,aa,aa,Y9 0 Yc 0 0]) (cg3 (fun (q1:Int) (q2:Int) (q3:Nat)=>([vI q1,vI q2,aa,aa,Y9 0 Yc 0 q3]:List AV)) (show (((i.toNat:Nat):Int):Int)=i from (by omega)) (show (((n.toNat:Nat):Int):Int)=n from (by omega)) (by rfl)) rfl hG) ?_
 rintro ⟨j,m,Dn⟩ ⟨hm,hj,he⟩
 show T _ _ ⟨[(Z3q j),(Z3r m),aa,aa,Y9 0 Yc 0 Dn.length],[.live (Xe 4 Yc Dn)]⟩ _ _
 replace hm:m≤9223372036854775807:=hm
 replace hj:j<m:=hj
 replace he:Yl i.toNat n.toNat=Yl j m++Dn.reverse:=he
 have hDl:=sides_D he
 refine T.block ?_
 refine T.seq ?_
 refine sR [] ?_
 by_cases hq1:((m:Nat):Int)<2
 ·refine cT (dT hq1) ?_
  refine T.exit ?_
  refine xT ?_
  refine xM rfl ?_
  refine xT ?_
  refine xH ?_
  refine nT ?_
  refine sR [hR 1 rfl rfl (rCa (rev_bool Dn (by omega)) Tryz.func169 [0] [(.tmp 28,Y9 0 Yc 0 Dn.length)] 1 1)] ?_
  refine tN ⟨[(Z3q j),(Z3r m),aa,aa,Y9 0 Yc 0 Dn.length,aa,aa,aa,(Z3s m)],[.live (Xe 4 Yc Dn.reverse)]⟩ ?_
  refine Wv (s':=⟨(Z3t j m Dn),[.live (Xe 4 Yc Dn.reverse)]⟩) (fun _ _ hG=>Yt [0] (bm 9 275) (t2:=[(Z3q j),(Z3r m),aa,aa,Y9 0 Yc 0 Dn.length,aa,aa,aa,(Z3s m)]) (by have e1:(Dn.reverse.length:Nat)=Dn.length:=(by simp only [List.length_set,List.length_reverse]);have hE:=congrArg (fun (q1:Nat)=>([(Z3q j),(Z3r m),aa,aa,Y9 0 Yc 0 q1,aa,aa,aa,(Z3s m)]:List AV)) e1;exact hE) rfl hG) ?_
  refine sR [] ?_
  refine T.ret ?_
  refine rS ?_
  exact eRt 4 (.one (.own 0 Yc.sz 0 Dn.reverse.length)) [0] (by have e1:((Yl i.toNat n.toNat).length:Nat)=Dn.reverse.length:=(by (rw [← Xav he (by omega)]));have hE:=congrArg (fun (q1:Nat)=>(Y9 0 Yc 0 q1:AV)) e1;exact hE) ⟨⟨rfl,(by have e1:(Dn.reverse:List Bool)=(Yl i.toNat n.toNat):=(by exact Xav he (by omega));have hE:=congrArg (fun (q1:List Bool)=>(.live (Xe 4 Yc q1):HS)) e1;exact Eq.trans pZ7 hE)⟩,trivial⟩
 have h2m:2≤m:=(by omega);have hhl:=Jo h2m;have hhp:=J4 m
 refine cF (dF hq1) ?_
 refine T.skip (nT ?_)
 refine sR [hR 1 rfl rfl (rCa (X0o m ‹_› ‹_›) Tryz.func148 [] [(.tmp 9,(Z3r m))] 0 0)] ?_
 refine T.seq ?_
 refine sR [] ?_
 refine sR [] ?_
 by_cases hq2:((j:Nat):Int)≥((half m:Nat):Int)
 ·refine cT (dT hq2) ?_
  refine sR [hR 1 rfl rfl (Yd 1 4 Yc Hz [true] [⟨0,.const (.bool true),.one (dB true),0⟩] (cs:=[dB true]) Tryz.underlying192 Fs rfl Xbq rfl rfl rfl pd (Yp rfl rfl pd W4) pZ7 (V1 pZ7) (X3 rfl) ⟨rfl,trivial⟩),hR 2 rfl rfl (Yy 0 2 4 1 Yc Hz Dn [true] (Dn++[true]) Dn.length (sy:=(.own 1 Yc.sz 0 [true].length)) (rhs:=[(1,.live (Xe 4 Yc [true]))]) X53 (by omega) (Wu 1 4 Yc [true]) Jn (by (simp [maxLen,-List.getD_eq_getElem?_getD]<;>omega)) (by (simp [maxLen,-List.getD_eq_getElem?_getD]<;>omega)) (X3 rfl) trivial)] ?_
  refine sR [hR 2 rfl rfl (Ye (u1:=.int .i64 ((j:Nat):Int)) (u2:=.int .i64 ((half m:Nat):Int)) (v:=.int .i64 ((j-(half m):Nat):Int)) (Ve pa) (X3 rfl) trivial),hR 5 rfl rfl (Ye (u1:=.int .i64 ((m:Nat):Int)) (u2:=.int .i64 ((half m:Nat):Int)) (v:=.int .i64 ((m-(half m):Nat):Int)) (Ve pa) (X3 rfl) trivial)] ?_
  refine T.exit ?_
  refine xT ?_
  refine xH ?_
  refine nL (j-(half m),m-(half m),Dn++[true]) ⟨(show (m-(half m))≤9223372036854775807 from (by omega)),(show (j-(half m))<(m-(half m)) from (by omega)),(show Yl i.toNat n.toNat=Yl (j-(half m)) (m-(half m))++(Dn++[true]).reverse from (by exact Xdd he h2m hm (by omega)))⟩ (show ((m-(half m)):Nat)<m from (by omega)) (fun _ _ hG=>Vb [2] (bm 5 19) (t1:=[vI ((j-(half m):Nat):Int),vI ((m-(half m):Nat):Int),aa,aa,Y9 2 Yc 0 (Dn++[true]).length]) (h1:=[.live (Xe 4 Yc (Dn++[true]))]) rfl rfl hG)
 refine cF (dF hq2) ?_
 refine T.skip (nT ?_)
 refine sR [hR 1 rfl rfl (Yd 1 4 Yc Hz [false] [⟨0,.const (.bool false),.one (dB false),0⟩] (cs:=[dB false]) Tryz.underlying192 Fs rfl Xbq rfl rfl rfl pd (Yp rfl rfl pd W4) pZ7 (V1 pZ7) (X3 rfl) ⟨rfl,trivial⟩),hR 2 rfl rfl (Yy 0 2 4 1 Yc Hz Dn [false] (Dn++[false]) Dn.length (sy:=(.own 1 Yc.sz 0 [false].length)) (rhs:=[(1,.live (Xe 4 Yc [false]))]) X53 (by omega) (Wu 1 4 Yc [false]) Jn (by (simp [maxLen,-List.getD_eq_getElem?_getD]<;>omega)) (by (simp [maxLen,-List.getD_eq_getElem?_getD]<;>omega)) (X3 rfl) trivial)] ?_
 refine xK [] ?_
 refine nB ?_
 refine nL (j,half m,Dn++[false]) ⟨(show (half m)≤9223372036854775807 from (by omega)),(show j<(half m) from (by omega)),(show Yl i.toNat n.toNat=Yl j (half m)++(Dn++[false]).reverse from (by exact Xde he h2m hm (by omega)))⟩ (show ((half m):Nat)<m from (by omega)) (fun _ _ hG=>Vb [2] (bm 5 19) (t1:=[(Z3q j),vI ((half m:Nat):Int),aa,aa,Y9 2 Yc 0 (Dn++[false]).length]) (h1:=[.live (Xe 4 Yc (Dn++[false]))]) rfl rfl hG)
abbrev Z3u (j:Nat):AV:=vI ((j:Nat):Int)
abbrev Z3v (m:Nat):AV:=vI ((m:Nat):Int)
theorem X79:∀ (N:Nat) (j:Nat) (m:Nat) (hj:j≤9223372036854775807) (hm:m≤9223372036854775807),m=N→Holds Tryz.prog 143 ⟨[vI ((j:Nat):Int),vI ((m:Nat):Int)],[],Y9 0 Yc 0 (Yl j m).length,[.live (Xe 4 Yc (Yl j m))]⟩:=by
  intro N
  induction N using Nat.strongRecOn with
  | _ N ih =>
    intro j m hj hm hN
    refine Holds.of Tryz.func143 rfl (N:=27) Tryz.ntmps143 rfl fun w0 B0 S0 U0=>?_
    show T _ (Y2 27 0 w0 S0 U0 B0) ⟨[(Z3u j),(Z3v m)],[]⟩ _ _
    refine sR [] ?_
    refine T.seq ?_
    refine sR [] ?_
    by_cases hq1:((m:Nat):Int)<2
    ·refine cT (dT hq1) ?_
     refine sR [] ?_
     refine T.ret (rT ?_)
     refine eN ⟨[(Z3u j),(Z3v m),aa,aa,dv (.slice none 0 0),aa,aa,vB (decide (((m:Nat):Int)<2))],[]⟩ ?_
     refine Xc (s':=⟨[(Z3u j),(Z3v m),aa,aa,Y9 0 Yc 0 0,aa,aa,vB (decide (((m:Nat):Int)<2))],[.live (Xe 4 Yc ([]:List Bool))]⟩) (fun _ _ hG=>Vy 0 4 4 Yc rfl rfl hG) ?_
     exact eRt 4 (.one (.own 0 Yc.sz 0 0)) [0] (by have e1:((Yl j m).length:Nat)=0:=ph;have hE:=congrArg (fun (q1:Nat)=>(Y9 0 Yc 0 q1:AV)) e1;exact hE) ⟨⟨rfl,(by have e1:(([]:List Bool):List Bool)=(Yl j m):=ph;have hE:=congrArg (fun (q1:List Bool)=>(.live (Xe 4 Yc q1):HS)) e1;exact Eq.trans pZ7 hE)⟩,trivial⟩
    have h2m:2≤m:=(by omega);have hhl:=Jo h2m;have hhp:=J4 m;have hsa:=X5m j (half m);have hsb:=X5m (j-half m) (m-half m)
    refine cF (dF hq1) ?_
    refine T.skip (nT ?_)
    refine sR [hR 1 rfl rfl (rCa (X3n m (by first|assumption|omega|(unfold maxLen;omega)|(simp [maxLen,-List.getD_eq_getElem?_getD]<;>omega)|decide) (by first|assumption|omega|(unfold maxLen;omega)|(simp [maxLen,-List.getD_eq_getElem?_getD]<;>omega)|decide)) Tryz.func138 [] [(.tmp 8,(Z3v m))] 0 0)] ?_
    refine T.seq ?_
    refine sR [] ?_
    by_cases hq2:((j:Nat):Int)<((half m:Nat):Int)
    ·refine cT (dT hq2) ?_
     refine sR [hR 2 rfl rfl (rCa (ih ((half m)) (show (half m)<N from (by omega)) j (half m) (by first|assumption|omega|(unfold maxLen;omega)|(simp [maxLen,-List.getD_eq_getElem?_getD]<;>omega)|decide) (by first|assumption|omega|(unfold maxLen;omega)|(simp [maxLen,-List.getD_eq_getElem?_getD]<;>omega)|decide) rfl) Tryz.func143 [0] [(.tmp 13,(Z3u j)),(.tmp 14,vI ((half m:Nat):Int))] 0 1),hR 3 rfl rfl (Yd 1 4 Yc Hz [false] [⟨0,.const (.bool false),.one (dB false),0⟩] (cs:=[dB false]) Tryz.underlying192 Fs rfl Xbq rfl rfl rfl pd (Yp rfl rfl pd W4) pZ7 (V1 pZ7) (X3 rfl) ⟨rfl,trivial⟩),hR 4 rfl rfl (Yy 0 2 4 1 Yc Hz (Yl j (half m)) [false] ((Yl j (half m))++[false]) (Yl j (half m)).length (sy:=(.own 1 Yc.sz 0 [false].length)) (rhs:=[(1,.live (Xe 4 Yc [false]))]) X53 (by first|assumption|omega|(unfold maxLen;omega)|(simp [maxLen,-List.getD_eq_getElem?_getD]<;>omega)|decide) (Wu 1 4 Yc [false]) Jn (by first|assumption|omega|(unfold maxLen;omega)|(simp [maxLen,-List.getD_eq_getElem?_getD]<;>omega)|decide) (by first|assumption|omega|(unfold maxLen;omega)|(simp [maxLen,-List.getD_eq_getElem?_getD]<;>omega)|decide) (X3 rfl) trivial)] ?_
     refine T.ret (rT ?_)
     exact eRt 4 (.one (.own 2 Yc.sz 0 ((Yl j (half m))++[false]).length)) [2] (by have e1:((Yl j m).length:Nat)=((Yl j (half m))++[false]).length:=ph;have hE:=congrArg (fun (q1:Nat)=>(Y9 2 Yc 0 q1:AV)) e1;exact hE) ⟨⟨rfl,(by have e1:((Yl j (half m))++[false]:List Bool)=(Yl j m):=ph;have hE:=congrArg (fun (q1:List Bool)=>(.live (Xe 4 Yc q1):HS)) e1;exact Eq.trans pZ7 hE)⟩,trivial⟩
    refine cF (dF hq2) ?_
    refine T.skip (nT ?_)
    refine sR [hR 2 rfl rfl (Ye (u1:=.int .i64 ((j:Nat):Int)) (u2:=.int .i64 ((half m:Nat):Int)) (v:=.int .i64 ((j-(half m):Nat):Int)) (Ve pa) (X3 rfl) trivial),hR 5 rfl rfl (Ye (u1:=.int .i64 ((m:Nat):Int)) (u2:=.int .i64 ((half m:Nat):Int)) (v:=.int .i64 ((m-(half m):Nat):Int)) (Ve pa) (X3 rfl) trivial),hR 6 rfl rfl (rCa (ih ((m-(half m))) (show (m-(half m))<N from (by omega)) (j-(half m)) (m-(half m)) (by first|assumption|omega|(unfold maxLen;omega)|(simp [maxLen,-List.getD_eq_getElem?_getD]<;>omega)|decide) (by first|assumption|omega|(unfold maxLen;omega)|(simp [maxLen,-List.getD_eq_getElem?_getD]<;>omega)|decide) rfl) Tryz.func143 [0] [(.tmp 20,vI ((j-(half m):Nat):Int)),(.tmp 23,vI ((m-(half m):Nat):Int))] 0 1),hR 7 rfl rfl (Yd 1 4 Yc Hz [true] [⟨0,.const (.bool true),.one (dB true),0⟩] (cs:=[dB true]) Tryz.underlying192 Fs rfl Xbq rfl rfl rfl pd (Yp rfl rfl pd W4) pZ7 (V1 pZ7) (X3 rfl) ⟨rfl,trivial⟩),hR 8 rfl rfl (Yy 0 2 4 1 Yc Hz (Yl (j-(half m)) (m-(half m))) [true] ((Yl (j-(half m)) (m-(half m)))++[true]) (Yl (j-(half m)) (m-(half m))).length (sy:=(.own 1 Yc.sz 0 [true].length)) (rhs:=[(1,.live (Xe 4 Yc [true]))]) X53 (by first|assumption|omega|(unfold maxLen;omega)|(simp [maxLen,-List.getD_eq_getElem?_getD]<;>omega)|decide) (Wu 1 4 Yc [true]) Jn (by first|assumption|omega|(unfold maxLen;omega)|(simp [maxLen,-List.getD_eq_getElem?_getD]<;>omega)|decide) (by first|assumption|omega|(unfold maxLen;omega)|(simp [maxLen,-List.getD_eq_getElem?_getD]<;>omega)|decide) (X3 rfl) trivial)] ?_
    refine T.ret ?_
    exact eRt 4 (.one (.own 2 Yc.sz 0 ((Yl (j-(half m)) (m-(half m)))++[true]).length)) [2] (by have e1:((Yl j m).length:Nat)=((Yl (j-(half m)) (m-(half m)))++[true]).length:=ph;have hE:=congrArg (fun (q1:Nat)=>(Y9 2 Yc 0 q1:AV)) e1;exact hE) ⟨⟨rfl,(by have e1:((Yl (j-(half m)) (m-(half m)))++[true]:List Bool)=(Yl j m):=ph;have hE:=congrArg (fun (q1:List Bool)=>(.live (Xe 4 Yc q1):HS)) e1;exact Eq.trans pZ7 hE)⟩,trivial⟩
theorem Xds (j:Nat) (m:Nat) (hj:j≤9223372036854775807) (hm:m≤9223372036854775807):Holds Tryz.prog 143 ⟨[vI ((j:Nat):Int),vI ((m:Nat):Int)],[],Y9 0 Yc 0 (Yl j m).length,[.live (Xe 4 Yc (Yl j m))]⟩:=X79 _ j m hj hm rfl
end Go.Proofs.YtnaopgohccacmaaGreat.Q
