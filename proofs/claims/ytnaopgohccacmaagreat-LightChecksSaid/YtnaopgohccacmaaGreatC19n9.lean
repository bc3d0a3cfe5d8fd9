import Derived.Test.YtnaopgohccacmaaGreatC19n8
namespace Go.Proofs.YtnaopgohccacmaaGreat.Q
open Go Go.RowKit
set_option linter.unusedVariables false
set_option linter.unusedSimpArgs false
set_option maxRecDepth 100000
set_option maxHeartbeats 4000000
theorem X7b:∀ (N:Nat) (tl:Bool) (nl:Bool) (sl_:Bool) (l:List (List UInt8)) (hf:Jp szL 40 600 l),l.length=N→Holds Tryz.prog 110 ⟨[slV tl nl (kSl sl_ kU8) l],[],dv (Yh (W7 l)),[]⟩:=by
  intro N
  induction N using Nat.strongRecOn with
  | _ N ih =>
    intro tl nl sl_ l hf hN
    refine Holds.of Tryz.func110 rfl (N:=28) Tryz.ntmps110 rfl fun w0 B0 S0 U0=>?_
    show T _ (Y2 28 0 w0 S0 U0 B0) ⟨[slV tl nl (kSl sl_ kU8) l],[]⟩ _ _
    have hl40:=hf.1
    have hg0:(l.getD 0 []).length≤600:=Ie (sz:=szL) hf (by decide) 0
    refine sR [] ?_
    refine sR [] ?_
    refine sR [] ?_
    refine T.block ?_
    refine sR [] ?_
    by_cases hq1:((l.length:Nat):Int)=0
    ·refine cT (dT hq1) ?_
     refine sR [hR 0 rfl rfl (rCn (X46 (4:UInt8) false false false ([]:List (List UInt8)) (by first|assumption|omega|(unfold maxLen;omega)|(simp [maxLen,-List.getD_eq_getElem?_getD]<;>omega)|decide)) Tryz.func84 [] [(.const (.int .u8 4),dv (.int .u8 4)),(.const (.slice none 0 0),dv (.slice none 0 0))] 0 0 ⟨.inl ⟨rfl,rfl⟩,⟨.inr pZ5,trivial⟩⟩ ⟨rfl,⟨rfl,trivial⟩⟩)] ?_
     refine T.ret (rB ?_)
     exact eRt 2 (.one (dS (ofB (4:UInt8) ([]:List (List UInt8))))) [] p3m trivial
    refine cF (dF hq1) ?_
    refine sR [] ?_
    by_cases hq2:((l.length:Nat):Int)=1
    ·refine cT (dT hq2) ?_
     refine sR [hR 1 rfl rfl (Wd tl nl (kSl sl_ kU8) l 0 (k:=.i64) (i:=0) Tryz.underlying136 U1 rfl rfl (by first|assumption|omega|(unfold maxLen;omega)|(simp [maxLen,-List.getD_eq_getElem?_getD]<;>omega)|decide) (X3 rfl) ⟨rfl,trivial⟩),hR 3 rfl rfl (rCa (X5l (2:UInt8) sl_ false (l.getD 0 []) (by first|assumption|omega|(unfold maxLen;omega)|(simp [maxLen,-List.getD_eq_getElem?_getD]<;>omega)|decide)) Tryz.func118 [] [(.const (.int .u8 2),dv (.int .u8 2)),(.tmp 26,slV sl_ false kU8 (l.getD 0 []))] 0 0)] ?_
     refine T.ret (rB ?_)
     exact eRt 2 (.one (dS (ofB (2:UInt8) [(l.getD 0 [])]))) [] p3r trivial
    have h2l:2≤l.length:=(by omega);have hhl:=Jo h2l;have hhp:=J4 l.length;have hfa:=Ug (Ig hf (half l.length));have hfb:=Ug (Jy hf (half l.length))
    refine cF (dF hq2) ?_
    refine sR [hR 1 rfl rfl (rCa (X0o l.length (by first|assumption|omega|(unfold maxLen;omega)|(simp [maxLen,-List.getD_eq_getElem?_getD]<;>omega)|decide) (by first|assumption|omega|(unfold maxLen;omega)|(simp [maxLen,-List.getD_eq_getElem?_getD]<;>omega)|decide)) Tryz.func148 [] [(.tmp 8,vI ((l.length:Nat):Int))] 0 0)] ?_
    refine sD [[],[],[0,1],[0,1,2],[],[],[4,5],[0,1,2,3,4,5,6],[0,1,2,3,4,5,6,7],[0,1,2,3,4,5,6,7,8]] [hR 2 rfl rfl (Ua tl nl (kSl sl_ kU8) l (l.take (half l.length)) 0 (half l.length) (lo:=none) (hi:=some (.tmp 11,((half l.length:Nat):Int))) Tryz.underlying136 U1 rfl rfl rfl rfl rfl (by first|assumption|omega|(unfold maxLen;omega)|(simp [maxLen,-List.getD_eq_getElem?_getD]<;>omega)|decide) (by first|assumption|omega|(unfold maxLen;omega)|(simp [maxLen,-List.getD_eq_getElem?_getD]<;>omega)|decide) rfl (X3 rfl) trivial),hR 3 rfl rfl (rCa (ih ((l.take (half l.length)).length) (show (l.take (half l.length)).length<N from p1x) tl nl sl_ (l.take (half l.length)) pw rfl) Tryz.func110 [] [(.tmp 12,slV tl nl (kSl sl_ kU8) (l.take (half l.length)))] 0 0),hR 6 rfl rfl (Ua tl nl (kSl sl_ kU8) l (l.drop (half l.length)) (half l.length) l.length (lo:=some (.tmp 15,((half l.length:Nat):Int))) (hi:=none) Tryz.underlying136 U1 rfl rfl rfl rfl rfl (by first|assumption|omega|(unfold maxLen;omega)|(simp [maxLen,-List.getD_eq_getElem?_getD]<;>omega)|decide) (by first|assumption|omega|(unfold maxLen;omega)|(simp [maxLen,-List.getD_eq_getElem?_getD]<;>omega)|decide) Jn (X3 rfl) trivial),hR 7 rfl rfl (rCa (ih ((l.drop (half l.length)).length) (show (l.drop (half l.length)).length<N from p1x) tl nl sl_ (l.drop (half l.length)) pw rfl) Tryz.func110 [] [(.tmp 16,slV tl nl (kSl sl_ kU8) (l.drop (half l.length)))] 0 0),hR 8 rfl rfl (rCa (X5k (3:UInt8) (W7 (l.take (half l.length))) (W7 (l.drop (half l.length))) (by first|assumption|omega|(unfold maxLen;omega)|(simp [maxLen,-List.getD_eq_getElem?_getD]<;>omega)|decide)) Tryz.func142 [] [(.const (.int .u8 3),dv (.int .u8 3)),(.tmp 13,dv (Yh (W7 (l.take (half l.length))))),(.tmp 17,dv (Yh (W7 (l.drop (half l.length)))))] 0 0)] ?_
    refine T.ret (rB ?_)
    exact eRt 2 (.one (dS (ofB (3:UInt8) [(W7 (l.take (half l.length))),(W7 (l.drop (half l.length)))]))) [] p34 trivial
theorem X1u (tl:Bool) (nl:Bool) (sl_:Bool) (l:List (List UInt8)) (hf:Jp szL 40 600 l):Holds Tryz.prog 110 ⟨[slV tl nl (kSl sl_ kU8) l],[],dv (Yh (W7 l)),[]⟩:=X7b _ tl nl sl_ l hf rfl
theorem X8y:∀ (N:Nat) (tl:Bool) (nl:Bool) (sl_:Bool) (l:List (List UInt8)) (hf:Jp szL 40 600 l),l.length=N→Holds Tryz.prog 98 ⟨[slV tl nl (kSl sl_ kU8) l],[],dv (Yh (W7 l)),[]⟩:=by
  intro N
  induction N using Nat.strongRecOn with
  | _ N ih =>
    intro tl nl sl_ l hf hN
    refine Holds.of Tryz.func98 rfl (N:=27) Tryz.ntmps98 rfl fun w0 B0 S0 U0=>?_
    show T _ (Y2 27 0 w0 S0 U0 B0) ⟨[slV tl nl (kSl sl_ kU8) l],[]⟩ _ _
    have hl40:=hf.1
    have hg0:(l.getD 0 []).length≤600:=Ie (sz:=szL) hf (by decide) 0
    refine sR [] ?_
    refine T.seq ?_
    refine sR [] ?_
    by_cases hq1:((l.length:Nat):Int)=0
    ·refine cT (dT hq1) ?_
     refine sR [hR 0 rfl rfl (rCn (X1l (4:UInt8) false false false ([]:List (List UInt8)) (by first|assumption|omega|(unfold maxLen;omega)|(simp [maxLen,-List.getD_eq_getElem?_getD]<;>omega)|decide)) Tryz.func71 [] [(.const (.int .u8 4),dv (.int .u8 4)),(.const (.slice none 0 0),dv (.slice none 0 0))] 0 0 ⟨.inl ⟨rfl,rfl⟩,⟨.inr pZ5,trivial⟩⟩ ⟨rfl,⟨rfl,trivial⟩⟩)] ?_
     refine T.ret (rT ?_)
     exact eRt 2 (.one (dS (ofB (4:UInt8) ([]:List (List UInt8))))) [] p3m trivial
    refine cF (dF hq1) ?_
    refine T.skip (nT (T.seq ?_))
    refine sR [] ?_
    by_cases hq2:((l.length:Nat):Int)=1
    ·refine cT (dT hq2) ?_
     refine sR [hR 1 rfl rfl (Wd tl nl (kSl sl_ kU8) l 0 (k:=.i64) (i:=0) Tryz.underlying136 U1 rfl rfl (by first|assumption|omega|(unfold maxLen;omega)|(simp [maxLen,-List.getD_eq_getElem?_getD]<;>omega)|decide) (X3 rfl) ⟨rfl,trivial⟩),hR 3 rfl rfl (rCa (X3q (2:UInt8) sl_ false (l.getD 0 []) (by first|assumption|omega|(unfold maxLen;omega)|(simp [maxLen,-List.getD_eq_getElem?_getD]<;>omega)|decide)) Tryz.func93 [] [(.const (.int .u8 2),dv (.int .u8 2)),(.tmp 13,slV sl_ false kU8 (l.getD 0 []))] 0 0)] ?_
     refine T.ret (rT ?_)
     exact eRt 2 (.one (dS (ofB (2:UInt8) [(l.getD 0 [])]))) [] p3r trivial
    have h2l:2≤l.length:=(by omega);have hhl:=Jo h2l;have hhp:=J4 l.length;have hfa:=Ug (Ig hf (half l.length));have hfb:=Ug (Jy hf (half l.length))
    refine cF (dF hq2) ?_
    refine T.skip (nT ?_)
    refine sR [hR 2 rfl rfl (rCa (X3n l.length (by first|assumption|omega|(unfold maxLen;omega)|(simp [maxLen,-List.getD_eq_getElem?_getD]<;>omega)|decide) (by first|assumption|omega|(unfold maxLen;omega)|(simp [maxLen,-List.getD_eq_getElem?_getD]<;>omega)|decide)) Tryz.func138 [] [(.tmp 16,vI ((l.length:Nat):Int))] 0 0)] ?_
    refine sD [[],[],[0,1],[0,1,2],[],[],[4,5],[0,1,2,3,4,5,6],[0,1,2,3,4,5,6,7],[0,1,2,3,4,5,6,7,8]] [hR 2 rfl rfl (Ua tl nl (kSl sl_ kU8) l (l.take (half l.length)) 0 (half l.length) (lo:=none) (hi:=some (.tmp 19,((half l.length:Nat):Int))) Tryz.underlying136 U1 rfl rfl rfl rfl rfl (by first|assumption|omega|(unfold maxLen;omega)|(simp [maxLen,-List.getD_eq_getElem?_getD]<;>omega)|decide) (by first|assumption|omega|(unfold maxLen;omega)|(simp [maxLen,-List.getD_eq_getElem?_getD]<;>omega)|decide) rfl (X3 rfl) trivial),hR 3 rfl rfl (rCa (ih ((l.take (half l.length)).length) (show (l.take (half l.length)).length<N from p1x) tl nl sl_ (l.take (half l.length)) pw rfl) Tryz.func98 [] [(.tmp 20,slV tl nl (kSl sl_ kU8) (l.take (half l.length)))] 0 0),hR 6 rfl rfl (Ua tl nl (kSl sl_ kU8) l (l.drop (half l.length)) (half l.length) l.length (lo:=some (.tmp 23,((half l.length:Nat):Int))) (hi:=none) Tryz.underlying136 U1 rfl rfl rfl rfl rfl (by first|assumption|omega|(unfold maxLen;omega)|(simp [maxLen,-List.getD_eq_getElem?_getD]<;>omega)|decide) (by first|assumption|omega|(unfold maxLen;omega)|(simp [maxLen,-List.getD_eq_getElem?_getD]<;>omega)|decide) Jn (X3 rfl) trivial),hR 7 rfl rfl (rCa (ih ((l.drop (half l.length)).length) (show (l.drop (half l.length)).length<N from p1x) tl nl sl_ (l.drop (half l.length)) pw rfl) Tryz.func98 [] [(.tmp 24,slV tl nl (kSl sl_ kU8) (l.drop (half l.length)))] 0 0),hR 8 rfl rfl (rCa (X3p (3:UInt8) (W7 (l.take (half l.length))) (W7 (l.drop (half l.length))) (by first|assumption|omega|(unfold maxLen;omega)|(simp [maxLen,-List.getD_eq_getElem?_getD]<;>omega)|decide)) Tryz.func139 [] [(.const (.int .u8 3),dv (.int .u8 3)),(.tmp 21,dv (Yh (W7 (l.take (half l.length))))),(.tmp 25,dv (Yh (W7 (l.drop (half l.length)))))] 0 0)] ?_
    refine T.ret ?_
    exact eRt 2 (.one (dS (ofB (3:UInt8) [(W7 (l.take (half l.length))),(W7 (l.drop (half l.length)))]))) [] p34 trivial
theorem X3o (tl:Bool) (nl:Bool) (sl_:Bool) (l:List (List UInt8)) (hf:Jp szL 40 600 l):Holds Tryz.prog 98 ⟨[slV tl nl (kSl sl_ kU8) l],[],dv (Yh (W7 l)),[]⟩:=X8y _ tl nl sl_ l hf rfl
theorem J3:Tryz.prog.info? 168=some Tryz.t168:=by kernel_rfl
theorem Xd7:Wide Tryz.prog 168 (some 2):=⟨_,_,Tryz.underlying168,.inl ⟨_,rfl⟩,J3,rfl⟩
theorem Xbn:Cells Tryz.prog 168 2:=⟨_,J3,rfl⟩
section
variable (l:List Y7) (i:Nat) (ys:List Y7)
abbrev Z2r:AV:=Y9 0 (Xb false) 0 l.length
abbrev Z2t:DV:=.val (.bool (ys.getD (((l.length:Nat):Int)-1-((i:Nat):Int)).toNat Yi).Vt)
abbrev Z2u:DV:=.val (Yh (ys.getD (((l.length:Nat):Int)-1-((i:Nat):Int)).toNat Yi).X8)
abbrev Z2v:AV:=vI ((i+1:Nat):Int)
end
theorem rev_Step (l:List Y7) (hl:l.length≤3000000):Holds Tryz.prog 149 ⟨[Y9 0 (Xb false) 0 l.length],[Xe 168 (Xb false) l],.tup [],[.live (Xe 168 (Xb false) l.reverse)]⟩:=by
 refine Holds.of Tryz.func149 rfl (N:=28) Tryz.ntmps149 rfl fun w0 B0 S0 U0=>?_
 show T _ (Y2 28 1 w0 S0 U0 B0) ⟨[(Z2r l)],[.live (Xe 168 (Xb false) l)]⟩ _ _
 refine sR [hR 2 rfl rfl (Ye (u1:=.int .i64 ((l.length:Nat):Int)) (u2:=.int .i64 1) (v:=.int .i64 (((l.length:Nat):Int)-1)) (Ve pa) (X3 rfl) ⟨rfl,trivial⟩)] ?_
 refine T.block ?_
 refine T.loop (ι:=Nat×(List Y7)) (fun (x_:Nat×(List Y7))=>⟨[(Z2r l),aa,vI ((x_.1:Nat):Int),vI (((l.length:Nat):Int)-1-((x_.1:Nat):Int))],[.live (Xe 168 (Xb false) x_.2)]⟩) (fun (x_:Nat×(List Y7))=>(2*x_.1≤l.length)∧(revI Yi l x_.1 x_.2)) (fun (x_:Nat×(List Y7))=>l.length-x_.1) (0,l) ⟨(by omega),(rev_0 _ _)⟩ (fun _ _ hG=>Yt [0] (bm 4 13) (t2:=[(Z2r l),aa,vI 0,vI (((l.length:Nat):Int)-1)]) (congrArg (fun (q1:Int)=>([(Z2r l),aa,vI 0,vI q1]:List AV)) (show (((l.length:Nat):Int)-1-((0:Nat):Int):Int)=((l.length:Nat):Int)-1 from (by omega))) rfl hG) ?_
 rintro ⟨i,ys⟩ ⟨hi,hr⟩
 show T _ _ ⟨[(Z2r l),aa,vI ((i:Nat):Int),vI (((l.length:Nat):Int)-1-((i:Nat):Int))],[.live (Xe 168 (Xb false) ys)]⟩ _ _
 replace hi:2*i≤l.length:=hi
 replace hr:revI Yi l i ys:=hr
 have hy1:=hr.1
 refine T.seq ?_
 refine sR [] ?_
 by_cases hq1:((i:Nat):Int)<(((l.length:Nat):Int)-1-((i:Nat):Int))
 ·refine cT (dT hq1) ?_
  refine T.skip (nT (T.seq ?_))
  refine T.block ?_
  refine xD [[],[],[],[],[],[],[4,5],[4,5,6],[],[],[8,9],[8,9,10],[0,1,4,5,6,7,8,9,10,11],[0,1,4,5,6,7,8,9,10,11,12],[0,1,2,3,4,5,6,7,8,9,10,11,12,13],[0,1,2,3,4,5,6,7,8,9,10,11,12,13,14]] [hR 6 rfl rfl (V9 (k:=.i64) (l:=0) (sz:=(Xb false).sz) (off:=0) (n:=l.length) (i:=(((l.length:Nat):Int)-1-((i:Nat):Int))) (m:=(((l.length:Nat):Int)-1-((i:Nat):Int)).toNat) (o':=(((l.length:Nat):Int)-1-((i:Nat):Int)).toNat*(Xb false).sz+0) Tryz.underlying47 J3 rfl (by omega) (by omega) (by simp) (X3 rfl) trivial),hR 7 rfl rfl (X1q (l:=0) (off:=(((l.length:Nat):Int)-1-((i:Nat):Int)).toNat*(Xb false).sz+0) (i:=(((l.length:Nat):Int)-1-((i:Nat):Int)).toNat) (j:=0) (T:=168) (sz:=(Xb false).sz) (n:=ys.length) (el:=W6 (Xb false) ys) (ds:=[.d ((Z2t l i ys)),.d ((Z2u l i ys))]) Xd7 rfl (by omega) (by decide) rfl (X3 rfl) trivial),hR 10 rfl rfl (V9 (k:=.i64) (l:=0) (sz:=(Xb false).sz) (off:=0) (n:=l.length) (i:=((i:Nat):Int)) (m:=i) (o':=i*(Xb false).sz+0) Tryz.underlying47 J3 rfl rfl (by omega) (by simp) (X3 rfl) trivial),hR 11 rfl rfl (X1q (l:=0) (off:=i*(Xb false).sz+0) (i:=i) (j:=0) (T:=168) (sz:=(Xb false).sz) (n:=ys.length) (el:=W6 (Xb false) ys) (ds:=[dB (ys.getD i Yi).Vt,dS (ys.getD i Yi).X8]) Xd7 rfl (by omega) (by decide) rfl (X3 rfl) trivial),hR 12 rfl rfl (V9 (k:=.i64) (l:=0) (sz:=(Xb false).sz) (off:=0) (n:=l.length) (i:=((i:Nat):Int)) (m:=i) (o':=i*(Xb false).sz+0) Tryz.underlying47 J3 rfl rfl (by omega) (by simp) (X3 rfl) trivial),hR 13 rfl rfl (Fj 0 168 (Xb false) ys (ys.getD (((l.length:Nat):Int)-1-((i:Nat):Int)).toNat Yi) i 0 2 [(Z2t l i ys),(Z2u l i ys)] (tv:=.agg [.d ((Z2t l i ys)),.d ((Z2u l i ys))]) (off:=i*(Xb false).sz+0) Xbn (kk2 trivial) rfl rfl (by omega) (by decide) rfl (by intro j hj;replace hj:j<2:=hj;rcases j with _|_|j<;>rfl) trivial),hR 14 rfl rfl (V9 (k:=.i64) (l:=0) (sz:=(Xb false).sz) (off:=0) (n:=l.length) (i:=(((l.length:Nat):Int)-1-((i:Nat):Int))) (m:=(((l.length:Nat):Int)-1-((i:Nat):Int)).toNat) (o':=(((l.length:Nat):Int)-1-((i:Nat):Int)).toNat*(Xb false).sz+0) Tryz.underlying47 J3 rfl (by omega) (by omega) (by simp) (X3 rfl) trivial),hR 15 rfl rfl (Fj 0 168 (Xb false) (ys.set i (ys.getD (((l.length:Nat):Int)-1-((i:Nat):Int)).toNat Yi)) (ys.getD i Yi) (((l.length:Nat):Int)-1-((i:Nat):Int)).toNat 0 2 [.val (.bool (ys.getD i Yi).Vt),.val (Yh (ys.getD i Yi).X8)] (tv:=.agg [dB (ys.getD i Yi).Vt,dS (ys.getD i Yi).X8]) (off:=(((l.length:Nat):Int)-1-((i:Nat):Int)).toNat*(Xb false).sz+0) Xbn (kk2 trivial) rfl rfl (by (simp [maxLen,-List.getD_eq_getElem?_getD]<;>omega)) (by decide) rfl (by intro j hj;replace hj:j<2:=hj;rcases j with _|_|j<;>rfl) trivial)] pZ7 pZ7 pZ7 pZ7 pZ7 pZ7 ?_
  refine nB ?_
  refine nT ?_
  refine xR [hR 1 rfl rfl (Ye (u1:=.int .i64 ((i:Nat):Int)) (u2:=.int .i64 1) (v:=.int .i64 ((i+1:Nat):Int)) (Wa pa) (X3 rfl) ⟨rfl,trivial⟩),hR 3 rfl rfl (Ye (u1:=.int .i64 (((l.length:Nat):Int)-1-((i:Nat):Int))) (u2:=.int .i64 1) (v:=.int .i64 ((((l.length:Nat):Int)-1-((i:Nat):Int))-1)) (Ve pa) (X3 rfl) ⟨rfl,trivial⟩)] pZ7 pZ7 ?_
  refine nL (i+1,((ys.set i (ys.getD (((l.length:Nat):Int)-1-((i:Nat):Int)).toNat Yi)).set (((l.length:Nat):Int)-1-((i:Nat):Int)).toNat (ys.getD i Yi))) ⟨(show 2*(i+1)≤l.length from (by omega)),(show revI Yi l (i+1) ((ys.set i (ys.getD (((l.length:Nat):Int)-1-((i:Nat):Int)).toNat Yi)).set (((l.length:Nat):Int)-1-((i:Nat):Int)).toNat (ys.getD i Yi)) from (Xdl hr (by omega) (by omega)))⟩ (show (l.length-(i+1):Nat)<l.length-i from (by omega)) (fun _ _ hG=>Yt [0] (bm 4 13) (t2:=[(Z2r l),aa,(Z2v i),vI ((((l.length:Nat):Int)-1-((i:Nat):Int))-1)]) (congrArg (fun (q1:Int)=>([(Z2r l),aa,(Z2v i),vI q1]:List AV)) (by omega)) rfl hG)
 refine cF (dF hq1) ?_
 refine T.exit ?_
 refine xT ?_
 refine xT ?_
 refine xH ?_
 exact tE (.inr rfl) [] trivial [0] rfl rfl rfl rfl rfl rfl ⟨⟨rfl,(by have e1:(ys:List Y7)=l.reverse:=(by exact Xhf hr (by omega));have hE:=congrArg (fun (q1:List Y7)=>(.live (Xe 168 (Xb false) q1):HS)) e1;exact Eq.trans pZ7 hE)⟩,trivial⟩
theorem Xid:Cells Tryz.prog 4 1:=⟨_,Fs,rfl⟩
section
variable (l:List Bool) (i:Nat) (ys:List Bool)
abbrev Z2y:DV:=.val (.bool (ys.getD (((l.length:Nat):Int)-1-((i:Nat):Int)).toNat false))
abbrev Z2z:AV:=vI ((i+1:Nat):Int)
end
theorem rev_bool (l:List Bool) (hl:l.length≤3000000):Holds Tryz.prog 169 ⟨[Y9 0 Yc 0 l.length],[Xe 4 Yc l],.tup [],[.live (Xe 4 Yc l.reverse)]⟩:=by
 refine Holds.of Tryz.func169 rfl (N:=28) Tryz.ntmps169 rfl fun w0 B0 S0 U0=>?_
 show T _ (Y2 28 1 w0 S0 U0 B0) ⟨[Y9 0 Yc 0 l.length],[.live (Xe 4 Yc l)]⟩ _ _
 refine sR [hR 2 rfl rfl (Ye (u1:=.int .i64 ((l.length:Nat):Int)) (u2:=.int .i64 1) (v:=.int .i64 (((l.length:Nat):Int)-1)) (Ve pa) (X3 rfl) ⟨rfl,trivial⟩)] ?_
 refine T.block ?_
 refine T.loop (ι:=Nat×(List Bool)) (fun (x_:Nat×(List Bool))=>⟨[Y9 0 Yc 0 l.length,aa,vI ((x_.1:Nat):Int),vI (((l.length:Nat):Int)-1-((x_.1:Nat):Int))],[.live (Xe 4 Yc x_.2)]⟩) (fun (x_:Nat×(List Bool))=>(2*x_.1≤l.length)∧(revI false l x_.1 x_.2)) (fun (x_:Nat×(List Bool))=>l.length-x_.1) (0,l) ⟨(by omega),(rev_0 _ _)⟩ (fun _ _ hG=>Yt [0] (bm 4 13) (t2:=[Y9 0 Yc 0 l.length,aa,vI 0,vI (((l.length:Nat):Int)-1)]) (congrArg (fun (q1:Int)=>([Y9 0 Yc 0 l.length,aa,vI 0,vI q1]:List AV)) (show (((l.length:Nat):Int)-1-((0:Nat):Int):Int)=((l.length:Nat):Int)-1 from (by omega))) rfl hG) ?_
 rintro ⟨i,ys⟩ ⟨hi,hr⟩
 show T _ _ ⟨[Y9 0 Yc 0 l.length,aa,vI ((i:Nat):Int),vI (((l.length:Nat):Int)-1-((i:Nat):Int))],[.live (Xe 4 Yc ys)]⟩ _ _
 replace hi:2*i≤l.length:=hi
 replace hr:revI false l i ys:=hr
 have hy1:=hr.1
 refine T.seq ?_
 refine sR [] ?_
 by_cases hq1:((i:Nat):Int)<(((l.length:Nat):Int)-1-((i:Nat):Int))
 ·refine cT (dT hq1) ?_
  refine T.skip (nT (T.seq ?_))
  refine T.block ?_
  refine xD [[],[],[],[],[],[],[4,5],[4,5,6],[],[],[8,9],[8,9,10],[0,1,4,5,6,7,8,9,10,11],[0,1,4,5,6,7,8,9,10,11,12],[0,1,2,3,4,5,6,7,8,9,10,11,12,13],[0,1,2,3,4,5,6,7,8,9,10,11,12,13,14]] [hR 6 rfl rfl (V9 (k:=.i64) (l:=0) (sz:=Yc.sz) (off:=0) (n:=l.length) (i:=(((l.length:Nat):Int)-1-((i:Nat):Int))) (m:=(((l.length:Nat):Int)-1-((i:Nat):Int)).toNat) (o':=(((l.length:Nat):Int)-1-((i:Nat):Int)).toNat*Yc.sz+0) Tryz.underlying192 Fs rfl (by omega) (by omega) (by simp) (X3 rfl) trivial),hR 7 rfl rfl (Ha (l:=0) (off:=(((l.length:Nat):Int)-1-((i:Nat):Int)).toNat*Yc.sz+0) (i:=(((l.length:Nat):Int)-1-((i:Nat):Int)).toNat) (j:=0) (T:=4) (sz:=Yc.sz) (n:=ys.length) (el:=W6 Yc ys) (c:=(Z2y l i ys)) X85 rfl (by omega) (by decide) rfl (X3 rfl) trivial),hR 10 rfl rfl (V9 (k:=.i64) (l:=0) (sz:=Yc.sz) (off:=0) (n:=l.length) (i:=((i:Nat):Int)) (m:=i) (o':=i*Yc.sz+0) Tryz.underlying192 Fs rfl rfl (by omega) (by simp) (X3 rfl) trivial),hR 11 rfl rfl (Ha (l:=0) (off:=i*Yc.sz+0) (i:=i) (j:=0) (T:=4) (sz:=Yc.sz) (n:=ys.length) (el:=W6 Yc ys) (c:=.val (.bool (ys.getD i false))) X85 rfl (by omega) (by decide) rfl (X3 rfl) trivial),hR 12 rfl rfl (V9 (k:=.i64) (l:=0) (sz:=Yc.sz) (off:=0) (n:=l.length) (i:=((i:Nat):Int)) (m:=i) (o':=i*Yc.sz+0) Tryz.underlying192 Fs rfl rfl (by omega) (by simp) (X3 rfl) trivial),hR 13 rfl rfl (Fj 0 4 Yc ys (ys.getD (((l.length:Nat):Int)-1-((i:Nat):Int)).toNat false) i 0 1 [(Z2y l i ys)] (tv:=.one (.d ((Z2y l i ys)))) (off:=i*Yc.sz+0) Xid ⟨.inl rfl,trivial⟩ rfl rfl (by omega) (by decide) rfl (by intro j hj;replace hj:j<1:=hj;rcases j with _|j<;>first|rfl|omega) trivial),hR 14 rfl rfl (V9 (k:=.i64) (l:=0) (sz:=Yc.sz) (off:=0) (n:=l.length) (i:=(((l.length:Nat):Int)-1-((i:Nat):Int))) (m:=(((l.length:Nat):Int)-1-((i:Nat):Int)).toNat) (o':=(((l.length:Nat):Int)-1-((i:Nat):Int)).toNat*Yc.sz+0) Tryz.underlying192 Fs rfl (by omega) (by omega) (by simp) (X3 rfl) trivial),hR 15 rfl rfl (Fj 0 4 Yc (ys.set i (ys.getD (((l.length:Nat):Int)-1-((i:Nat):Int)).toNat false)) (ys.getD i false) (((l.length:Nat):Int)-1-((i:Nat):Int)).toNat 0 1 [.val (.bool (ys.getD i false))] (tv:=.one (dB (ys.getD i false))) (off:=(((l.length:Nat):Int)-1-((i:Nat):Int)).toNat*Yc.sz+0) Xid ⟨.inl rfl,trivial⟩ rfl rfl (by (simp [maxLen,-List.getD_eq_getElem?_getD]<;>omega)) (by decide) rfl (by intro j hj;replace hj:j<1:=hj;rcases j with _|j<;>first|rfl|omega) trivial)] pZ7 pZ7 pZ7 pZ7 pZ7 pZ7 ?_
  refine nB ?_
  refine nT ?_
  refine xR [hR 1 rfl rfl (Ye (u1:=.int .i64 ((i:Nat):Int)) (u2:=.int .i64 1) (v:=.int .i64 ((i+1:Nat):Int)) (Wa pa) (X3 rfl) ⟨rfl,trivial⟩),hR 3 rfl rfl (Ye (u1:=.int .i64 (((l.length:Nat):Int)-1-((i:Nat):Int))) (u2:=.int .i64 1) (v:=.int .i64 ((((l.length:Nat):Int)-1-((i:Nat):Int))-1)) (Ve pa) (X3 rfl) ⟨rfl,trivial⟩)] pZ7 pZ7 ?_
  refine nL (i+1,((ys.set i (ys.getD (((l.length:Nat):Int)-1-((i:Nat):Int)).toNat false)).set (((l.length:Nat):Int)-1-((i:Nat):Int)).toNat (ys.getD i false))) ⟨(show 2*(i+1)≤l.length from (by omega)),(show revI false l (i+1) ((ys.set i (ys.getD (((l.length:Nat):Int)-1-((i:Nat):Int)).toNat false)).set (((l.length:Nat):Int)-1-((i:Nat):Int)).toNat (ys.getD i false)) from (Xdl hr (by omega) (by omega)))⟩ (show (l.length-(i+1):Nat)<l.length-i from (by omega)) (fun _ _ hG=>Yt [0] (bm 4 13) (t2:=[Y9 0 Yc 0 l.length,aa,(Z2z i),vI ((((l.length:Nat):Int)-1-((i:Nat):Int))-1)]) (congrArg (fun (q1:Int)=>([Y9 0 Yc 0 l.length,aa,(Z2z i),vI q1]:List AV)) (by omega)) rfl hG)
 refine cF (dF hq1) ?_
 refine T.exit ?_
 refine xT ?_
 refine xT ?_
 refine xH ?_
 exact tE (.inr rfl) [] trivial [0] rfl rfl rfl rfl rfl rfl ⟨⟨rfl,(by have e1:(ys:List Bool)=l.reverse:=(by exact Xhf hr (by omega));have hE:=congrArg (fun (q1:List Bool)=>(.live (Xe 4 Yc q1):HS)) e1;exact Eq.trans pZ7 hE)⟩,trivial⟩
theorem X43:Zero Tryz.prog 168 [.bool false,Yh []]:=⟨_,_,J3,rfl,rfl⟩
theorem iat_60:Tryz.prog.info? 60=some Tryz.t60:=by kernel_rfl
theorem X7x:Elem Tryz.prog 47 168 2 24:=⟨Tryz.underlying47,_,_,J3,rfl,rfl,rfl,rfl,by decide⟩
section
variable (tl:Bool) (nl:Bool) (sl_:Bool) (l:List (List UInt8)) (i:Int) (X:List (List UInt8)) (j:Nat) (Dn:List Y7)
abbrev Z32:St:=⟨[slV tl nl (kSl sl_ kU8) l,vI i,aa,aa,dv (.slice none 0 0),vI 2,aa,aa,aa,aa,aa,aa,aa,aa,aa,vB true],[]⟩
abbrev Z33:AV:=slV false false (Xb false) ([]:List Y7)
abbrev Z34:AV:=vB (decide (i≥((l.length:Nat):Int)))
abbrev Z35:St:=⟨[slV tl nl (kSl sl_ kU8) l,vI i,aa,aa,dv (.slice none 0 0),vI 2,aa,aa,aa,aa,aa,aa,aa,aa,aa,(Z34 l i)],[]⟩
abbrev Z36:List HS:=[.live (Xe 168 (Xb false) ([]:List Y7))]
abbrev Z37:AV:=vI ((j:Nat):Int)
abbrev Z38:=(Y7.mk false (W7 (X.drop (half X.length))))
abbrev Z39:=(Y7.mk true (W7 (X.take (half X.length))))
abbrev Z3a:AV:=vB (decide (((X.length:Nat):Int)>1))
abbrev Z3b:List AV:=[slV tl nl (kSl sl_ kU8) X,(Z37 j),aa,aa,aa,aa,Y9 0 (Xb false) 0 Dn.length,aa,aa,aa,aa,aa,aa,aa,aa,aa,aa,aa,(Z3a X)]
abbrev Z3c:List HS:=[.live (Xe 168 (Xb false) Dn.reverse)]
abbrev Z3d:AV:=Y9 0 (Xb false) 0 Dn.reverse.length
abbrev Z3e:List AV:=[slV tl nl (kSl sl_ kU8) X,(Z37 j),aa,aa,aa,aa,(Z3d Dn),aa,aa,aa,aa,aa,aa,aa,aa,aa,aa,aa,(Z3a X)]
abbrev Z3f:List AV:=[slV tl nl (kSl sl_ kU8) X,(Z37 j),aa,aa,(Z3d Dn),vI 0,(Z3d Dn),aa,aa,aa,aa,aa,aa,aa,aa,aa,aa,aa,(Z3a X)]
end
theorem Xea (tl:Bool) (nl:Bool) (sl_:Bool) (l:List (List UInt8)) (i:Int) (hf:Jp szL 40 600 l):Holds Tryz.prog 111 ⟨[slV tl nl (kSl sl_ kU8) l,vI i],[],.tup [.one (.d (dsl false false (Xb false) (Hx l i))),.one (dI (X14 l i))],[]⟩:=by
 refine Holds.of Tryz.func111 rfl (N:=53) Tryz.ntmps111 rfl fun w0 B0 S0 U0=>?_
 show T _ (Y2 53 0 w0 S0 U0 B0) ⟨[slV tl nl (kSl sl_ kU8) l,vI i],[]⟩ _ _
 have hl40:=hf.1
 refine sR [] ?_
 refine T.seq ?_
 by_cases hq1:i<0
 ·refine sR (Xm (hN · false (dT hq1)) [3,4,5,6] (hP 7 (dT hq1)::[])) ?_
  refine cT (b:=true) rfl ?_
  refine sR [] ?_
  refine T.ret (rT ?_)
  refine eN (Z32 tl nl sl_ l i) ?_
  refine Xc (s':=⟨[slV tl nl (kSl sl_ kU8) l,vI i,aa,aa,Z33,vI 2,aa,aa,aa,aa,aa,aa,aa,aa,aa,vB true],[]⟩) (fun _ _ hG=>Ys (s:=(Z32 tl nl sl_ l i)) (kk4 ⟨pZ5,⟨.inl rfl,(kk2 (kk8 trivial))⟩⟩) trivial hG) ?_
  exact eX [.t 4 (.one (.d (dsl false false (Xb false) ([]:List Y7)))),.t 5 (.one (dI 2))] ⟨⟨rfl,by kernel_rfl⟩,⟨⟨rfl,by kernel_rfl⟩,trivial⟩⟩ [] po trivial
 refine sR (Xm (hY · (dF hq1)) [3,4,5,6] (hP 7 (dF hq1)::[])) ?_
 by_cases hq2:i≥((l.length:Nat):Int)
 ·refine cT (dT hq2) ?_
  refine sR [] ?_
  refine T.ret (rT ?_)
  refine eN (Z35 tl nl sl_ l i) ?_
  refine Xc (s':=⟨[slV tl nl (kSl sl_ kU8) l,vI i,aa,aa,Z33,vI 2,aa,aa,aa,aa,aa,aa,aa,aa,aa,(Z34 l i)],[]⟩) (fun _ _ hG=>Ys (s:=(Z35 tl nl sl_ l i)) (kk4 ⟨pZ5,⟨.inl rfl,(kk2 (kk8 trivial))⟩⟩) trivial hG) ?_
  exact eX [.t 4 (.one (.d (dsl false false (Xb false) ([]:List Y7)))),.t 5 (.one (dI 2))] ⟨⟨rfl,by kernel_rfl⟩,⟨⟨rfl,by kernel_rfl⟩,trivial⟩⟩ [] po trivial
 refine cF (dF hq2) ?_
 refine T.skip (nT ?_)
 refine sR [] ?_
 refine T.seq ?_
 refine T.block ?_
 refine tN ⟨[slV tl nl (kSl sl_ kU8) l,vI i,aa,aa,dv (.slice none 0 0),vI 0,dv (.slice none 0 0),aa,aa,aa,aa,aa,aa,aa,aa,(Z34 l i)],[]⟩ ?_
 refine Wv (s':=⟨[slV tl nl (kSl sl_ kU8) l,vI i,aa,aa,dv (.slice none 0 0),vI 0,Y9 0 (Xb false) 0 0,aa,aa,aa,aa,aa,aa,aa,aa,(Z34 l i)],Z36⟩) (fun _ _ hG=>Vy 0 6 168 (Xb false) rfl rfl hG) ?_
 refine T.loop (ι:=(List (List UInt8))×Nat×(List Y7)) (fun (x_:(List (List UInt8))×Nat×(List Y7))=>⟨[slV tl nl (kSl sl_ kU8) x_.1,vI ((x_.2.1:Nat):Int),aa,aa,aa,aa,Y9 0 (Xb false) 0 x_.2.2.length],[.live (Xe 168 (Xb false) x_.2.2)]⟩) (fun (x_:(List (List UInt8))×Nat×(List Y7))=>(Jp szL 40 600 x_.1)∧(x_.2.1<x_.1.length)∧(Wh l i.toNat=Wh x_.1 x_.2.1++x_.2.2.reverse)∧(x_.2.2.length+x_.1.length≤l.length)) (fun (x_:(List (List UInt8))×Nat×(List Y7))=>x_.1.length) (l,i.toNat,([]:List Y7)) ⟨(show Jp szL 40 600 l from hf),(show i.toNat<l.length from (by omega)),(show Wh l i.toNat=Wh l i.toNat++([]:List Y7).reverse from (by simp)),(show ([]:List Y7).length+l.length≤l.length from (by simp))⟩ (fun _ _ hG=>Yt [0] (bm 7 67) (t2:=[slV tl nl (kSl sl_ kU8) l,vI i,aa,aa,aa,aa,Y9 0 (Xb false) 0 0]) (cg2 (fun (q1:Int) (q2:Nat)=>([slV tl nl (kSl sl_ kU8) l,vI q1,aa,aa,aa,aa,Y9 0 (Xb false) 0 q2]:List AV)) (show (((i.toNat:Nat):Int):Int)=i from (by omega)) (by rfl)) rfl hG) ?_
 rintro ⟨X,j,Dn⟩ ⟨hX,hj,he,hD⟩
 show T _ _ ⟨[slV tl nl (kSl sl_ kU8) X,(Z37 j),aa,aa,aa,aa,Y9 0 (Xb false) 0 Dn.length],[.live (Xe 168 (Xb false) Dn)]⟩ _ _
 replace hX:Jp szL 40 600 X:=hX
 replace hj:j<X.length:=hj
 replace he:Wh l i.toNat=Wh X j++Dn.reverse:=he
 replace hD:Dn.length+X.length≤l.length:=hD
 have hl40:=hf.1
 refine T.seq ?_
 refine sR [] ?_
 by_cases hq3:((X.length:Nat):Int)>1
 ·have h2x:2≤X.length:=(by omega);have hhl:=Jo h2x;have hhp:=J4 X.length;have hfa:=Ug (Ig hX (half X.length));have hfb:=Ug (Jy hX (half X.length))
  refine cT (dT hq3) ?_
  refine T.skip (nT ?_)
  refine T.block ?_
  refine sR [hR 2 rfl rfl (rCa (X0o X.length ‹_› (by omega)) Tryz.func148 [] [(.tmp 20,vI ((X.length:Nat):Int))] 0 0)] ?_
  refine sR [] ?_
  by_cases hq4:((j:Nat):Int)<((half X.length:Nat):Int)
  ·refine cT (dT hq4) ?_
   refine sR [hR 3 rfl rfl (Ua tl nl (kSl sl_ kU8) X (X.drop (half X.length)) (half X.length) X.length (lo:=some (.tmp 27,((half X.length:Nat):Int))) (hi:=none) Tryz.underlying136 U1 rfl rfl rfl rfl rfl (by omega) (by omega) Jn (X3 rfl) trivial),hR 4 rfl rfl (rCa (X1u tl nl sl_ (X.drop (half X.length)) (by exact Jy ‹_› _)) Tryz.func110 [] [(.tmp 28,slV tl nl (kSl sl_ kU8) (X.drop (half X.length)))] 0 0),hR 6 rfl rfl (Yd 1 168 (Xb false) (Uo false) [(Y7.mk false (W7 (X.drop (half X.length))))] [⟨0,.tmp 30,.agg [dB false,dS (W7 (X.drop (half X.length)))],0⟩] (cs:=[dB false,dS (W7 (X.drop (half X.length)))]) Tryz.underlying47 J3 rfl X43 rfl rfl rfl pd (Yp rfl rfl pd W4) pZ7 (V1 pZ7) (X3 rfl) trivial),hR 7 rfl rfl (Yy 0 2 168 24 (Xb false) (Uo false) Dn [(Y7.mk false (W7 (X.drop (half X.length))))] (Dn++[(Y7.mk false (W7 (X.drop (half X.length))))]) Dn.length (sy:=(.own 1 (Xb false).sz 0 [(Z38 X)].length)) (rhs:=[(1,.live (Xe 168 (Xb false) [(Z38 X)]))]) X7x (by omega) (Wu 1 168 (Xb false) [(Y7.mk false (W7 (X.drop (half X.length))))]) Jn (by (simp [maxLen,-List.getD_eq_getElem?_getD]<;>omega)) (by (simp [maxLen,-List.getD_eq_getElem?_getD]<;>omega)) (X3 rfl) trivial)] ?_
   refine xK [hR 2 rfl rfl (Ua tl nl (kSl sl_ kU8) X (X.take (half X.length)) 0 (half X.length) (lo:=none) (hi:=some (.tmp 34,((half X.length:Nat):Int))) Tryz.underlying136 U1 rfl rfl rfl rfl rfl (by omega) (by omega) rfl (X3 rfl) trivial)] ?_
   refine nB ?_
   refine nL ((X.take (half X.length)),j,Dn++[(Y7.mk false (W7 (X.drop (half X.length))))]) ⟨(show Jp szL 40 600 (X.take (half X.length)) from (by exact Ig hX _)),(show j<(X.take (half X.length)).length from (by (simp only [List.length_take];omega))),(show Wh l i.toNat=Wh (X.take (half X.length)) j++(Dn++[(Y7.mk false (W7 (X.drop (half X.length))))]).reverse from (by exact Xg8 he h2x (by omega))),(show (Dn++[(Y7.mk false (W7 (X.drop (half X.length))))]).length+(X.take (half X.length)).length≤l.length from p4q)⟩ (show ((X.take (half X.length)).length:Nat)<X.length from (by simp only [List.length_take,List.length_drop];omega)) (fun _ _ hG=>Vb [2] (bm 7 67) (t1:=[slV tl nl (kSl sl_ kU8) (X.take (half X.length)),(Z37 j),aa,aa,aa,aa,Y9 2 (Xb false) 0 (Dn++[(Z38 X)]).length]) (h1:=[.live (Xe 168 (Xb false) (Dn++[(Z38 X)]))]) rfl rfl hG)
  refine cF (dF hq4) ?_
  refine sR [hR 3 rfl rfl (Ua tl nl (kSl sl_ kU8) X (X.take (half X.length)) 0 (half X.length) (lo:=none) (hi:=some (.tmp 38,((half X.length:Nat):Int))) Tryz.underlying136 U1 rfl rfl rfl rfl rfl (by omega) (by omega) rfl (X3 rfl) trivial),hR 4 rfl rfl (rCa (X1u tl nl sl_ (X.take (half X.length)) (by exact Ig ‹_› _)) Tryz.func110 [] [(.tmp 39,slV tl nl (kSl sl_ kU8) (X.take (half X.length)))] 0 0),hR 6 rfl rfl (Yd 1 168 (Xb false) (Uo false) [(Y7.mk true (W7 (X.take (half X.length))))] [⟨0,.tmp 41,.agg [dB true,dS (W7 (X.take (half X.length)))],0⟩] (cs:=[dB true,dS (W7 (X.take (half X.length)))]) Tryz.underlying47 J3 rfl X43 rfl rfl rfl pd (Yp rfl rfl pd W4) pZ7 (V1 pZ7) (X3 rfl) trivial),hR 7 rfl rfl (Yy 0 2 168 24 (Xb false) (Uo false) Dn [(Y7.mk true (W7 (X.take (half X.length))))] (Dn++[(Y7.mk true (W7 (X.take (half X.length))))]) Dn.length (sy:=(.own 1 (Xb false).sz 0 [(Z39 X)].length)) (rhs:=[(1,.live (Xe 168 (Xb false) [(Z39 X)]))]) X7x (by omega) (Wu 1 168 (Xb false) [(Y7.mk true (W7 (X.take (half X.length))))]) Jn (by (simp [maxLen,-List.getD_eq_getElem?_getD]<;>omega)) (by (simp [maxLen,-List.getD_eq_getElem?_getD]<;>omega)) (X3 rfl) trivial)] ?_
  refine xR [hR 2 rfl rfl (Ua tl nl (kSl sl_ kU8) X (X.drop (half X.length)) (half X.length) X.length (lo:=some (.tmp 45,((half X.length:Nat):Int))) (hi:=none) Tryz.underlying136 U1 rfl rfl rfl rfl rfl (by omega) (by omega) Jn (X3 rfl) trivial),hR 5 rfl rfl (Ye (u1:=.int .i64 ((j:Nat):Int)) (u2:=.int .i64 ((half X.length:Nat):Int)) (v:=.int .i64 ((j-(half X.length):Nat):Int)) (Ve pa) (X3 rfl) trivial)] pZ7 pZ7 ?_
  refine nB ?_
  refine nL ((X.drop (half X.length)),j-(half X.length),Dn++[(Y7.mk true (W7 (X.take (half X.length))))]) ⟨(show Jp szL 40 600 (X.drop (half X.length)) from (by exact Jy hX _)),(show (j-(half X.length))<(X.drop (half X.length)).length from (by (simp only [List.length_drop];omega))),(show Wh l i.toNat=Wh (X.drop (half X.length)) (j-(half X.length))++(Dn++[(Y7.mk true (W7 (X.take (half X.length))))]).reverse from (by exact Xg7 he h2x (by omega))),(show (Dn++[(Y7.mk true (W7 (X.take (half X.length))))]).length+(X.drop (half X.length)).length≤l.length from p4q)⟩ (show ((X.drop (half X.length)).length:Nat)<X.length from (by simp only [List.length_take,List.length_drop];omega)) (fun _ _ hG=>Vb [2] (bm 7 67) (t1:=[slV tl nl (kSl sl_ kU8) (X.drop (half X.length)),vI ((j-(half X.length):Nat):Int),aa,aa,aa,aa,Y9 2 (Xb false) 0 (Dn++[(Z39 X)]).length]) (h1:=[.live (Xe 168 (Xb false) (Dn++[(Z39 X)]))]) rfl rfl hG)
 refine cF (dF hq3) ?_
 refine T.exit ?_
 refine xT ?_
 refine xT ?_
 refine xH ?_
 refine nT ?_
 refine sR [hR 1 rfl rfl (rCa (rev_Step Dn (by omega)) Tryz.func149 [0] [(.tmp 50,Y9 0 (Xb false) 0 Dn.length)] 1 1)] ?_
 refine tN ⟨(Z3b tl nl sl_ X j Dn),(Z3c Dn)⟩ ?_
 refine Wv (s':=⟨(Z3e tl nl sl_ X j Dn),(Z3c Dn)⟩) (fun _ _ hG=>Yt [0] (bm 19 262211) (t2:=(Z3b tl nl sl_ X j Dn)) (by have e1:(Dn.reverse.length:Nat)=Dn.length:=(by simp only [List.length_set,List.length_reverse]);have hE:=congrArg (fun (q1:Nat)=>([slV tl nl (kSl sl_ kU8) X,(Z37 j),aa,aa,aa,aa,Y9 0 (Xb false) 0 q1,aa,aa,aa,aa,aa,aa,aa,aa,aa,aa,aa,(Z3a X)]:List AV)) e1;exact hE) rfl hG) ?_
 refine sR [] ?_
 refine T.ret ?_
 refine eN ⟨(Z3f tl nl sl_ X j Dn),(Z3c Dn)⟩ ?_
 refine Xc (s':=⟨[slV tl nl (kSl sl_ kU8) X,(Z37 j),aa,aa,slV false false (Xb false) Dn.reverse,vI 0,slV false false (Xb false) Dn.reverse,aa,aa,aa,aa,aa,aa,aa,aa,aa,aa,aa,(Z3a X)],[.dead]⟩) (fun _ _ hG=>Gs.freeze (s:=⟨(Z3f tl nl sl_ X j Dn),(Z3c Dn)⟩) 0 (el:=W6 (Xb false) Dn.reverse) (sz:=(Xb false).sz) (n:=Dn.reverse.length) rfl (kk4 ⟨(.inr pZ0),⟨.inl rfl,⟨(.inr pZ0),p3w⟩⟩⟩) ⟨(.inl ⟨rfl,rfl⟩),trivial⟩ hG) ?_
 exact eX [.t 4 (.one (.d (dsl false false (Xb false) Dn.reverse))),.t 5 (.one (dI 0))] ⟨⟨rfl,by kernel_rfl⟩,⟨⟨rfl,by kernel_rfl⟩,trivial⟩⟩ [] (by have e1:((Hx l i):List Y7)=Dn.reverse:=(by (have ho:okI l i:=(by simp only [okI];omega);(rw [Hx,if_pos ho,← path_end he (by omega)])));have e2:((X14 l i):Int)=0:=p59;have hE:=congr p1c e2;exact hE) trivial
end Go.Proofs.YtnaopgohccacmaaGreat.Q
