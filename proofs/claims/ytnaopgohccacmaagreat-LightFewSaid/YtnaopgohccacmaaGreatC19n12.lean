import Derived.Test.YtnaopgohccacmaaGreatC19n8
namespace Go.Proofs.YtnaopgohccacmaaGreat.Q
open Go Go.RowKit
set_option linter.unusedVariables false
set_option linter.unusedSimpArgs false
set_option maxRecDepth 100000
set_option maxHeartbeats 4000000
theorem X73:∀ (N:Nat) (tl:Bool) (nl:Bool) (sl_:Bool) (l:List (List UInt8)) (hf:Jj szL 40 600 l),l.length=N→Holds Tryz.prog 110 ⟨[slV tl nl (kSl sl_ kU8) l],[],dv (Yn (W2 l)),[]⟩:=by
  intro N
  induction N using Nat.strongRecOn with
  | _ N ih =>
    intro tl nl sl_ l hf hN
    refine Holds.of Tryz.func110 rfl (N:=28) Tryz.ntmps110 rfl fun w0 B0 S0 U0=>?_
    show T _ (Y2 28 0 w0 S0 U0 B0) ⟨[slV tl nl (kSl sl_ kU8) l],[]⟩ _ _
    have hl40:=hf.1
    have hg0:(l.getD 0 []).length≤600:=Jw (sz:=szL) hf (by decide) 0
    refine sR [] (sR [] (sR [] (T.block (sR [] ?_))))
    by_cases hq1:((l.length:Nat):Int)=0
    ·refine cT (dT hq1) ?_
     refine sR [hR 0 rfl rfl (rCn (X4b (4:UInt8) false false false ([]:List (List UInt8)) (by first|assumption|omega|(unfold maxLen;omega)|(simp [maxLen,-List.getD_eq_getElem?_getD]<;>omega)|decide)) Tryz.func84 [] [(.const (.int .u8 4),dv (.int .u8 4)),(.const (.slice none 0 0),dv (.slice none 0 0))] 0 0 ⟨.inl ⟨rfl,rfl⟩,⟨.inr pZ8,trivial⟩⟩ ⟨rfl,⟨rfl,trivial⟩⟩)] ?_
     refine T.ret (rB ?_)
     exact eRt 2 (.one (dS (ofB (4:UInt8) ([]:List (List UInt8))))) [] p35 trivial
    refine cF (dF hq1) (sR [] ?_)
    by_cases hq2:((l.length:Nat):Int)=1
    ·refine cT (dT hq2) ?_
     refine sR [hR 1 rfl rfl (Wi tl nl (kSl sl_ kU8) l 0 (k:=.i64) (i:=0) Tryz.underlying136 Vw rfl rfl (by first|assumption|omega|(unfold maxLen;omega)|(simp [maxLen,-List.getD_eq_getElem?_getD]<;>omega)|decide) (X2 rfl) ⟨rfl,trivial⟩),hR 3 rfl rfl (rCa (X5q (2:UInt8) sl_ false (l.getD 0 []) (by first|assumption|omega|(unfold maxLen;omega)|(simp [maxLen,-List.getD_eq_getElem?_getD]<;>omega)|decide)) Tryz.func118 [] [(.const (.int .u8 2),dv (.int .u8 2)),(.tmp 26,slV sl_ false kU8 (l.getD 0 []))] 0 0)] ?_
     refine T.ret (rB ?_)
     exact eRt 2 (.one (dS (ofB (2:UInt8) [(l.getD 0 [])]))) [] p38 trivial
    have h2l:2≤l.length:=(by omega);have hhl:=Jp h2l;have hhp:=J3 l.length;have hfa:=Vo (Ji hf (half l.length));have hfb:=Vo (Uy hf (half l.length))
    refine cF (dF hq2) ?_
    refine sR [hR 1 rfl rfl (rCa (X0l l.length (by first|assumption|omega|(unfold maxLen;omega)|(simp [maxLen,-List.getD_eq_getElem?_getD]<;>omega)|decide) (by first|assumption|omega|(unfold maxLen;omega)|(simp [maxLen,-List.getD_eq_getElem?_getD]<;>omega)|decide)) Tryz.func148 [] [(.tmp 8,vI ((l.length:Nat):Int))] 0 0)] ?_
    refine sD [[],[],[0,1],[0,1,2],[],[],[4,5],[0,1,2,3,4,5,6],[0,1,2,3,4,5,6,7],[0,1,2,3,4,5,6,7,8]] [hR 2 rfl rfl (U1 tl nl (kSl sl_ kU8) l (l.take (half l.length)) 0 (half l.length) (lo:=none) (hi:=some (.tmp 11,((half l.length:Nat):Int))) Tryz.underlying136 Vw rfl rfl rfl rfl rfl (by first|assumption|omega|(unfold maxLen;omega)|(simp [maxLen,-List.getD_eq_getElem?_getD]<;>omega)|decide) (by first|assumption|omega|(unfold maxLen;omega)|(simp [maxLen,-List.getD_eq_getElem?_getD]<;>omega)|decide) rfl (X2 rfl) trivial),hR 3 rfl rfl (rCa (ih ((l.take (half l.length)).length) (show (l.take (half l.length)).length<N from p1k) tl nl sl_ (l.take (half l.length)) pm rfl) Tryz.func110 [] [(.tmp 12,slV tl nl (kSl sl_ kU8) (l.take (half l.length)))] 0 0),hR 6 rfl rfl (U1 tl nl (kSl sl_ kU8) l (l.drop (half l.length)) (half l.length) l.length (lo:=some (.tmp 15,((half l.length:Nat):Int))) (hi:=none) Tryz.underlying136 Vw rfl rfl rfl rfl rfl (by first|assumption|omega|(unfold maxLen;omega)|(simp [maxLen,-List.getD_eq_getElem?_getD]<;>omega)|decide) (by first|assumption|omega|(unfold maxLen;omega)|(simp [maxLen,-List.getD_eq_getElem?_getD]<;>omega)|decide) px (X2 rfl) trivial),hR 7 rfl rfl (rCa (ih ((l.drop (half l.length)).length) (show (l.drop (half l.length)).length<N from p1k) tl nl sl_ (l.drop (half l.length)) pm rfl) Tryz.func110 [] [(.tmp 16,slV tl nl (kSl sl_ kU8) (l.drop (half l.length)))] 0 0),hR 8 rfl rfl (rCa (X5p (3:UInt8) (W2 (l.take (half l.length))) (W2 (l.drop (half l.length))) (by first|assumption|omega|(unfold maxLen;omega)|(simp [maxLen,-List.getD_eq_getElem?_getD]<;>omega)|decide)) Tryz.func142 [] [(.const (.int .u8 3),dv (.int .u8 3)),(.tmp 13,dv (Yn (W2 (l.take (half l.length))))),(.tmp 17,dv (Yn (W2 (l.drop (half l.length)))))] 0 0)] ?_
    refine T.ret (rB ?_)
    exact eRt 2 (.one (dS (ofB (3:UInt8) [(W2 (l.take (half l.length))),(W2 (l.drop (half l.length)))]))) [] p2m trivial
theorem X1w (tl:Bool) (nl:Bool) (sl_:Bool) (l:List (List UInt8)) (hf:Jj szL 40 600 l):Holds Tryz.prog 110 ⟨[slV tl nl (kSl sl_ kU8) l],[],dv (Yn (W2 l)),[]⟩:=X73 _ tl nl sl_ l hf rfl
theorem X90:∀ (N:Nat) (tl:Bool) (nl:Bool) (sl_:Bool) (l:List (List UInt8)) (hf:Jj szL 40 600 l),l.length=N→Holds Tryz.prog 98 ⟨[slV tl nl (kSl sl_ kU8) l],[],dv (Yn (W2 l)),[]⟩:=by
  intro N
  induction N using Nat.strongRecOn with
  | _ N ih =>
    intro tl nl sl_ l hf hN
    refine Holds.of Tryz.func98 rfl (N:=27) Tryz.ntmps98 rfl fun w0 B0 S0 U0=>?_
    show T _ (Y2 27 0 w0 S0 U0 B0) ⟨[slV tl nl (kSl sl_ kU8) l],[]⟩ _ _
    have hl40:=hf.1
    have hg0:(l.getD 0 []).length≤600:=Jw (sz:=szL) hf (by decide) 0
    refine sR [] (T.seq (sR [] ?_))
    by_cases hq1:((l.length:Nat):Int)=0
    ·refine cT (dT hq1) ?_
     refine sR [hR 0 rfl rfl (rCn (X1j (4:UInt8) false false false ([]:List (List UInt8)) (by first|assumption|omega|(unfold maxLen;omega)|(simp [maxLen,-List.getD_eq_getElem?_getD]<;>omega)|decide)) Tryz.func71 [] [(.const (.int .u8 4),dv (.int .u8 4)),(.const (.slice none 0 0),dv (.slice none 0 0))] 0 0 ⟨.inl ⟨rfl,rfl⟩,⟨.inr pZ8,trivial⟩⟩ ⟨rfl,⟨rfl,trivial⟩⟩)] ?_
     refine T.ret (rT ?_)
     exact eRt 2 (.one (dS (ofB (4:UInt8) ([]:List (List UInt8))))) [] p35 trivial
    refine cF (dF hq1) (T.skip (nT (T.seq (sR [] ?_))))
    by_cases hq2:((l.length:Nat):Int)=1
    ·refine cT (dT hq2) ?_
     refine sR [hR 1 rfl rfl (Wi tl nl (kSl sl_ kU8) l 0 (k:=.i64) (i:=0) Tryz.underlying136 Vw rfl rfl (by first|assumption|omega|(unfold maxLen;omega)|(simp [maxLen,-List.getD_eq_getElem?_getD]<;>omega)|decide) (X2 rfl) ⟨rfl,trivial⟩),hR 3 rfl rfl (rCa (X91 (2:UInt8) sl_ false (l.getD 0 []) (by first|assumption|omega|(unfold maxLen;omega)|(simp [maxLen,-List.getD_eq_getElem?_getD]<;>omega)|decide)) Tryz.func93 [] [(.const (.int .u8 2),dv (.int .u8 2)),(.tmp 13,slV sl_ false kU8 (l.getD 0 []))] 0 0)] ?_
     refine T.ret (rT ?_)
     exact eRt 2 (.one (dS (ofB (2:UInt8) [(l.getD 0 [])]))) [] p38 trivial
    have h2l:2≤l.length:=(by omega);have hhl:=Jp h2l;have hhp:=J3 l.length;have hfa:=Vo (Ji hf (half l.length));have hfb:=Vo (Uy hf (half l.length))
    refine cF (dF hq2) (T.skip (nT ?_))
    refine sR [hR 2 rfl rfl (rCa (X8z l.length (by first|assumption|omega|(unfold maxLen;omega)|(simp [maxLen,-List.getD_eq_getElem?_getD]<;>omega)|decide) (by first|assumption|omega|(unfold maxLen;omega)|(simp [maxLen,-List.getD_eq_getElem?_getD]<;>omega)|decide)) Tryz.func138 [] [(.tmp 16,vI ((l.length:Nat):Int))] 0 0)] ?_
    refine sD [[],[],[0,1],[0,1,2],[],[],[4,5],[0,1,2,3,4,5,6],[0,1,2,3,4,5,6,7],[0,1,2,3,4,5,6,7,8]] [hR 2 rfl rfl (U1 tl nl (kSl sl_ kU8) l (l.take (half l.length)) 0 (half l.length) (lo:=none) (hi:=some (.tmp 19,((half l.length:Nat):Int))) Tryz.underlying136 Vw rfl rfl rfl rfl rfl (by first|assumption|omega|(unfold maxLen;omega)|(simp [maxLen,-List.getD_eq_getElem?_getD]<;>omega)|decide) (by first|assumption|omega|(unfold maxLen;omega)|(simp [maxLen,-List.getD_eq_getElem?_getD]<;>omega)|decide) rfl (X2 rfl) trivial),hR 3 rfl rfl (rCa (ih ((l.take (half l.length)).length) (show (l.take (half l.length)).length<N from p1k) tl nl sl_ (l.take (half l.length)) pm rfl) Tryz.func98 [] [(.tmp 20,slV tl nl (kSl sl_ kU8) (l.take (half l.length)))] 0 0),hR 6 rfl rfl (U1 tl nl (kSl sl_ kU8) l (l.drop (half l.length)) (half l.length) l.length (lo:=some (.tmp 23,((half l.length:Nat):Int))) (hi:=none) Tryz.underlying136 Vw rfl rfl rfl rfl rfl (by first|assumption|omega|(unfold maxLen;omega)|(simp [maxLen,-List.getD_eq_getElem?_getD]<;>omega)|decide) (by first|assumption|omega|(unfold maxLen;omega)|(simp [maxLen,-List.getD_eq_getElem?_getD]<;>omega)|decide) px (X2 rfl) trivial),hR 7 rfl rfl (rCa (ih ((l.drop (half l.length)).length) (show (l.drop (half l.length)).length<N from p1k) tl nl sl_ (l.drop (half l.length)) pm rfl) Tryz.func98 [] [(.tmp 24,slV tl nl (kSl sl_ kU8) (l.drop (half l.length)))] 0 0),hR 8 rfl rfl (rCa (Xh9 (3:UInt8) (W2 (l.take (half l.length))) (W2 (l.drop (half l.length))) (by first|assumption|omega|(unfold maxLen;omega)|(simp [maxLen,-List.getD_eq_getElem?_getD]<;>omega)|decide)) Tryz.func139 [] [(.const (.int .u8 3),dv (.int .u8 3)),(.tmp 21,dv (Yn (W2 (l.take (half l.length))))),(.tmp 25,dv (Yn (W2 (l.drop (half l.length)))))] 0 0)] ?_
    refine T.ret ?_
    exact eRt 2 (.one (dS (ofB (3:UInt8) [(W2 (l.take (half l.length))),(W2 (l.drop (half l.length)))]))) [] p2m trivial
theorem X3v (tl:Bool) (nl:Bool) (sl_:Bool) (l:List (List UInt8)) (hf:Jj szL 40 600 l):Holds Tryz.prog 98 ⟨[slV tl nl (kSl sl_ kU8) l],[],dv (Yn (W2 l)),[]⟩:=X90 _ tl nl sl_ l hf rfl
theorem I9:Tryz.prog.info? 168=some Tryz.t168:=by kernel_rfl
theorem Xe1:Wide Tryz.prog 168 (some 2):=⟨_,_,Tryz.underlying168,.inl ⟨_,rfl⟩,I9,rfl⟩
theorem Xc6:Cells Tryz.prog 168 2:=⟨_,I9,rfl⟩
section
variable (l:List Y1) (i:Nat) (ys:List Y1)
abbrev Z2r:AV:=Xx 0 (X8 false) 0 l.length
abbrev Z2t:DV:=.val (.bool (ys.getD (((l.length:Nat):Int)-1-((i:Nat):Int)).toNat Yt).Ui)
abbrev Z2u:DV:=.val (Yn (ys.getD (((l.length:Nat):Int)-1-((i:Nat):Int)).toNat Yt).Xe)
abbrev Z2v:AV:=vI ((i+1:Nat):Int)
end
theorem rev_Step (l:List Y1) (hl:l.length≤3000000):Holds Tryz.prog 149 ⟨[Xx 0 (X8 false) 0 l.length],[Xc 168 (X8 false) l],.tup [],[.live (Xc 168 (X8 false) l.reverse)]⟩:=by
 refine Holds.of Tryz.func149 rfl (N:=28) Tryz.ntmps149 rfl fun w0 B0 S0 U0=>?_
 show T _ (Y2 28 1 w0 S0 U0 B0) ⟨[(Z2r l)],[.live (Xc 168 (X8 false) l)]⟩ _ _
 refine sR [hR 2 rfl rfl (Yb (u1:=.int .i64 ((l.length:Nat):Int)) (u2:=.int .i64 1) (v:=.int .i64 (((l.length:Nat):Int)-1)) (Vy pZ9) (X2 rfl) ⟨rfl,trivial⟩)] (T.block ?_)
 refine T.loop (ι:=Nat×(List Y1)) (fun (x_:Nat×(List Y1))=>⟨[(Z2r l),aa,vI ((x_.1:Nat):Int),vI (((l.length:Nat):Int)-1-((x_.1:Nat):Int))],[.live (Xc 168 (X8 false) x_.2)]⟩) (fun (x_:Nat×(List Y1))=>(2*x_.1≤l.length)∧(revI Yt l x_.1 x_.2)) (fun (x_:Nat×(List Y1))=>l.length-x_.1) (0,l) ⟨(by omega),(rev_0 _ _)⟩ (fun _ _ hG=>Yu [0] (bm 4 13) (t2:=[(Z2r l),aa,vI 0,vI (((l.length:Nat):Int)-1)]) (congrArg (fun (q1:Int)=>([(Z2r l),aa,vI 0,vI q1]:List AV)) (show (((l.length:Nat):Int)-1-((0:Nat):Int):Int)=((l.length:Nat):Int)-1 from (by omega))) rfl hG) ?_
 rintro ⟨i,ys⟩ ⟨hi,hr⟩
 show T _ _ ⟨[(Z2r l),aa,vI ((i:Nat):Int),vI (((l.length:Nat):Int)-1-((i:Nat):Int))],[.live (Xc 168 (X8 false) ys)]⟩ _ _
 replace hi:2*i≤l.length:=hi
 replace hr:revI Yt l i ys:=hr
 have hy1:=hr.1
 refine T.seq (sR [] ?_)
 by_cases hq1:((i:Nat):Int)<(((l.length:Nat):Int)-1-((i:Nat):Int))
 ·refine cT (dT hq1) (T.skip (nT (T.seq (T.block ?_))))
  refine xD [[],[],[],[],[],[],[4,5],[4,5,6],[],[],[8,9],[8,9,10],[0,1,4,5,6,7,8,9,10,11],[0,1,4,5,6,7,8,9,10,11,12],[0,1,2,3,4,5,6,7,8,9,10,11,12,13],[0,1,2,3,4,5,6,7,8,9,10,11,12,13,14]] [hR 6 rfl rfl (Ww (k:=.i64) (l:=0) (sz:=(X8 false).sz) (off:=0) (n:=l.length) (i:=(((l.length:Nat):Int)-1-((i:Nat):Int))) (m:=(((l.length:Nat):Int)-1-((i:Nat):Int)).toNat) (o':=(((l.length:Nat):Int)-1-((i:Nat):Int)).toNat*(X8 false).sz+0) Tryz.underlying47 I9 rfl (by omega) (by omega) (by simp) (X2 rfl) trivial),hR 7 rfl rfl (X1n (l:=0) (off:=(((l.length:Nat):Int)-1-((i:Nat):Int)).toNat*(X8 false).sz+0) (i:=(((l.length:Nat):Int)-1-((i:Nat):Int)).toNat) (j:=0) (T:=168) (sz:=(X8 false).sz) (n:=ys.length) (el:=W5 (X8 false) ys) (ds:=[.d ((Z2t l i ys)),.d ((Z2u l i ys))]) Xe1 rfl (by omega) (by decide) rfl (X2 rfl) trivial),hR 10 rfl rfl (Ww (k:=.i64) (l:=0) (sz:=(X8 false).sz) (off:=0) (n:=l.length) (i:=((i:Nat):Int)) (m:=i) (o':=i*(X8 false).sz+0) Tryz.underlying47 I9 rfl rfl (by omega) (by simp) (X2 rfl) trivial),hR 11 rfl rfl (X1n (l:=0) (off:=i*(X8 false).sz+0) (i:=i) (j:=0) (T:=168) (sz:=(X8 false).sz) (n:=ys.length) (el:=W5 (X8 false) ys) (ds:=[dB (ys.getD i Yt).Ui,dS (ys.getD i Yt).Xe]) Xe1 rfl (by omega) (by decide) rfl (X2 rfl) trivial),hR 12 rfl rfl (Ww (k:=.i64) (l:=0) (sz:=(X8 false).sz) (off:=0) (n:=l.length) (i:=((i:Nat):Int)) (m:=i) (o':=i*(X8 false).sz+0) Tryz.underlying47 I9 rfl rfl (by omega) (by simp) (X2 rfl) trivial),hR 13 rfl rfl (Hj 0 168 (X8 false) ys (ys.getD (((l.length:Nat):Int)-1-((i:Nat):Int)).toNat Yt) i 0 2 [(Z2t l i ys),(Z2u l i ys)] (tv:=.agg [.d ((Z2t l i ys)),.d ((Z2u l i ys))]) (off:=i*(X8 false).sz+0) Xc6 (kk2 trivial) rfl rfl (by omega) (by decide) rfl (by intro j hj;replace hj:j<2:=hj;rcases j with _|_|j<;>rfl) trivial),hR 14 rfl rfl (Ww (k:=.i64) (l:=0) (sz:=(X8 false).sz) (off:=0) (n:=l.length) (i:=(((l.length:Nat):Int)-1-((i:Nat):Int))) (m:=(((l.length:Nat):Int)-1-((i:Nat):Int)).toNat) (o':=(((l.length:Nat):Int)-1-((i:Nat):Int)).toNat*(X8 false).sz+0) Tryz.underlying47 I9 rfl (by omega) (by omega) (by simp) (X2 rfl) trivial),hR 15 rfl rfl (Hj 0 168 (X8 false) (ys.set i (ys.getD (((l.length:Nat):Int)-1-((i:Nat):Int)).toNat Yt)) (ys.getD i Yt) (((l.length:Nat):Int)-1-((i:Nat):Int)).toNat 0 2 [.val (.bool (ys.getD i Yt).Ui),.val (Yn (ys.getD i Yt).Xe)] (tv:=.agg [dB (ys.getD i Yt).Ui,dS (ys.getD i Yt).Xe]) (off:=(((l.length:Nat):Int)-1-((i:Nat):Int)).toNat*(X8 false).sz+0) Xc6 (kk2 trivial) rfl rfl (by (simp [maxLen,-List.getD_eq_getElem?_getD]<;>omega)) (by decide) rfl (by intro j hj;replace hj:j<2:=hj;rcases j with _|_|j<;>rfl) trivial)] pZ4 pZ4 pZ4 pZ4 pZ4 pZ4 ?_
  refine nB (nT ?_)
  refine xR [hR 1 rfl rfl (Yb (u1:=.int .i64 ((i:Nat):Int)) (u2:=.int .i64 1) (v:=.int .i64 ((i+1:Nat):Int)) (Wb pZ9) (X2 rfl) ⟨rfl,trivial⟩),hR 3 rfl rfl (Yb (u1:=.int .i64 (((l.length:Nat):Int)-1-((i:Nat):Int))) (u2:=.int .i64 1) (v:=.int .i64 ((((l.length:Nat):Int)-1-((i:Nat):Int))-1)) (Vy pZ9) (X2 rfl) ⟨rfl,trivial⟩)] pZ4 pZ4 ?_
  refine nL (i+1,((ys.set i (ys.getD (((l.length:Nat):Int)-1-((i:Nat):Int)).toNat Yt)).set (((l.length:Nat):Int)-1-((i:Nat):Int)).toNat (ys.getD i Yt))) ⟨(show 2*(i+1)≤l.length from (by omega)),(show revI Yt l (i+1) ((ys.set i (ys.getD (((l.length:Nat):Int)-1-((i:Nat):Int)).toNat Yt)).set (((l.length:Nat):Int)-1-((i:Nat):Int)).toNat (ys.getD i Yt)) from (Xef hr (by omega) (by omega)))⟩ (show (l.length-(i+1):Nat)<l.length-i from (by omega)) (fun _ _ hG=>Yu [0] (bm 4 13) (t2:=[(Z2r l),aa,(Z2v i),vI ((((l.length:Nat):Int)-1-((i:Nat):Int))-1)]) (congrArg (fun (q1:Int)=>([(Z2r l),aa,(Z2v i),vI q1]:List AV)) (by omega)) rfl hG)
 refine cF (dF hq1) (T.exit (xT (xT (xH ?_))))
 exact tE (.inr rfl) [] trivial [0] rfl rfl rfl rfl rfl rfl ⟨⟨rfl,(by have e1:(ys:List Y1)=l.reverse:=(by exact Xiu hr (by omega));have hE:=congrArg (fun (q1:List Y1)=>(.live (Xc 168 (X8 false) q1):HS)) e1;exact Eq.trans pZ4 hE)⟩,trivial⟩
theorem Xju:Cells Tryz.prog 4 1:=⟨_,X24,rfl⟩
section
variable (l:List Bool) (i:Nat) (ys:List Bool)
abbrev Z2y:DV:=.val (.bool (ys.getD (((l.length:Nat):Int)-1-((i:Nat):Int)).toNat false))
abbrev Z2z:AV:=vI ((i+1:Nat):Int)
end
theorem rev_bool (l:List Bool) (hl:l.length≤3000000):Holds Tryz.prog 169 ⟨[Xx 0 Yc 0 l.length],[Xc 4 Yc l],.tup [],[.live (Xc 4 Yc l.reverse)]⟩:=by
 refine Holds.of Tryz.func169 rfl (N:=28) Tryz.ntmps169 rfl fun w0 B0 S0 U0=>?_
 show T _ (Y2 28 1 w0 S0 U0 B0) ⟨[Xx 0 Yc 0 l.length],[.live (Xc 4 Yc l)]⟩ _ _
 refine sR [hR 2 rfl rfl (Yb (u1:=.int .i64 ((l.length:Nat):Int)) (u2:=.int .i64 1) (v:=.int .i64 (((l.length:Nat):Int)-1)) (Vy pZ9) (X2 rfl) ⟨rfl,trivial⟩)] (T.block ?_)
 refine T.loop (ι:=Nat×(List Bool)) (fun (x_:Nat×(List Bool))=>⟨[Xx 0 Yc 0 l.length,aa,vI ((x_.1:Nat):Int),vI (((l.length:Nat):Int)-1-((x_.1:Nat):Int))],[.live (Xc 4 Yc x_.2)]⟩) (fun (x_:Nat×(List Bool))=>(2*x_.1≤l.length)∧(revI false l x_.1 x_.2)) (fun (x_:Nat×(List Bool))=>l.length-x_.1) (0,l) ⟨(by omega),(rev_0 _ _)⟩ (fun _ _ hG=>Yu [0] (bm 4 13) (t2:=[Xx 0 Yc 0 l.length,aa,vI 0,vI (((l.length:Nat):Int)-1)]) (congrArg (fun (q1:Int)=>([Xx 0 Yc 0 l.length,aa,vI 0,vI q1]:List AV)) (show (((l.length:Nat):Int)-1-((0:Nat):Int):Int)=((l.length:Nat):Int)-1 from (by omega))) rfl hG) ?_
 rintro ⟨i,ys⟩ ⟨hi,hr⟩
 show T _ _ ⟨[Xx 0 Yc 0 l.length,aa,vI ((i:Nat):Int),vI (((l.length:Nat):Int)-1-((i:Nat):Int))],[.live (Xc 4 Yc ys)]⟩ _ _
 replace hi:2*i≤l.length:=hi
 replace hr:revI false l i ys:=hr
 have hy1:=hr.1
 refine T.seq (sR [] ?_)
 by_cases hq1:((i:Nat):Int)<(((l.length:Nat):Int)-1-((i:Nat):Int))
 ·refine cT (dT hq1) (T.skip (nT (T.seq (T.block ?_))))
  refine xD [[],[],[],[],[],[],[4,5],[4,5,6],[],[],[8,9],[8,9,10],[0,1,4,5,6,7,8,9,10,11],[0,1,4,5,6,7,8,9,10,11,12],[0,1,2,3,4,5,6,7,8,9,10,11,12,13],[0,1,2,3,4,5,6,7,8,9,10,11,12,13,14]] [hR 6 rfl rfl (Ww (k:=.i64) (l:=0) (sz:=Yc.sz) (off:=0) (n:=l.length) (i:=(((l.length:Nat):Int)-1-((i:Nat):Int))) (m:=(((l.length:Nat):Int)-1-((i:Nat):Int)).toNat) (o':=(((l.length:Nat):Int)-1-((i:Nat):Int)).toNat*Yc.sz+0) Tryz.underlying192 X24 rfl (by omega) (by omega) (by simp) (X2 rfl) trivial),hR 7 rfl rfl (Jo (l:=0) (off:=(((l.length:Nat):Int)-1-((i:Nat):Int)).toNat*Yc.sz+0) (i:=(((l.length:Nat):Int)-1-((i:Nat):Int)).toNat) (j:=0) (T:=4) (sz:=Yc.sz) (n:=ys.length) (el:=W5 Yc ys) (c:=(Z2y l i ys)) Xgq rfl (by omega) (by decide) rfl (X2 rfl) trivial),hR 10 rfl rfl (Ww (k:=.i64) (l:=0) (sz:=Yc.sz) (off:=0) (n:=l.length) (i:=((i:Nat):Int)) (m:=i) (o':=i*Yc.sz+0) Tryz.underlying192 X24 rfl rfl (by omega) (by simp) (X2 rfl) trivial),hR 11 rfl rfl (Jo (l:=0) (off:=i*Yc.sz+0) (i:=i) (j:=0) (T:=4) (sz:=Yc.sz) (n:=ys.length) (el:=W5 Yc ys) (c:=.val (.bool (ys.getD i false))) Xgq rfl (by omega) (by decide) rfl (X2 rfl) trivial),hR 12 rfl rfl (Ww (k:=.i64) (l:=0) (sz:=Yc.sz) (off:=0) (n:=l.length) (i:=((i:Nat):Int)) (m:=i) (o':=i*Yc.sz+0) Tryz.underlying192 X24 rfl rfl (by omega) (by simp) (X2 rfl) trivial),hR 13 rfl rfl (Hj 0 4 Yc ys (ys.getD (((l.length:Nat):Int)-1-((i:Nat):Int)).toNat false) i 0 1 [(Z2y l i ys)] (tv:=.one (.d ((Z2y l i ys)))) (off:=i*Yc.sz+0) Xju ⟨.inl rfl,trivial⟩ rfl rfl (by omega) (by decide) rfl (by intro j hj;replace hj:j<1:=hj;rcases j with _|j<;>first|rfl|omega) trivial),hR 14 rfl rfl (Ww (k:=.i64) (l:=0) (sz:=Yc.sz) (off:=0) (n:=l.length) (i:=(((l.length:Nat):Int)-1-((i:Nat):Int))) (m:=(((l.length:Nat):Int)-1-((i:Nat):Int)).toNat) (o':=(((l.length:Nat):Int)-1-((i:Nat):Int)).toNat*Yc.sz+0) Tryz.underlying192 X24 rfl (by omega) (by omega) (by simp) (X2 rfl) trivial),hR 15 rfl rfl (Hj 0 4 Yc (ys.set i (ys.getD (((l.length:Nat):Int)-1-((i:Nat):Int)).toNat false)) (ys.getD i false) (((l.length:Nat):Int)-1-((i:Nat):Int)).toNat 0 1 [.val (.bool (ys.getD i false))] (tv:=.one (dB (ys.getD i false))) (off:=(((l.length:Nat):Int)-1-((i:Nat):Int)).toNat*Yc.sz+0) Xju ⟨.inl rfl,trivial⟩ rfl rfl (by (simp [maxLen,-List.getD_eq_getElem?_getD]<;>omega)) (by decide) rfl (by intro j hj;replace hj:j<1:=hj;rcases j with _|j<;>first|rfl|omega) trivial)] pZ4 pZ4 pZ4 pZ4 pZ4 pZ4 ?_
  refine nB (nT ?_)
  refine xR [hR 1 rfl rfl (Yb (u1:=.int .i64 ((i:Nat):Int)) (u2:=.int .i64 1) (v:=.int .i64 ((i+1:Nat):Int)) (Wb pZ9) (X2 rfl) ⟨rfl,trivial⟩),hR 3 rfl rfl (Yb (u1:=.int .i64 (((l.length:Nat):Int)-1-((i:Nat):Int))) (u2:=.int .i64 1) (v:=.int .i64 ((((l.length:Nat):Int)-1-((i:Nat):Int))-1)) (Vy pZ9) (X2 rfl) ⟨rfl,trivial⟩)] pZ4 pZ4 ?_
  refine nL (i+1,((ys.set i (ys.getD (((l.length:Nat):Int)-1-((i:Nat):Int)).toNat false)).set (((l.length:Nat):Int)-1-((i:Nat):Int)).toNat (ys.getD i false))) ⟨(show 2*(i+1)≤l.length from (by omega)),(show revI false l (i+1) ((ys.set i (ys.getD (((l.length:Nat):Int)-1-((i:Nat):Int)).toNat false)).set (((l.length:Nat):Int)-1-((i:Nat):Int)).toNat (ys.getD i false)) from (Xef hr (by omega) (by omega)))⟩ (show (l.length-(i+1):Nat)<l.length-i from (by omega)) (fun _ _ hG=>Yu [0] (bm 4 13) (t2:=[Xx 0 Yc 0 l.length,aa,(Z2z i),vI ((((l.length:Nat):Int)-1-((i:Nat):Int))-1)]) (congrArg (fun (q1:Int)=>([Xx 0 Yc 0 l.length,aa,(Z2z i),vI q1]:List AV)) (by omega)) rfl hG)
 refine cF (dF hq1) (T.exit (xT (xT (xH ?_))))
 exact tE (.inr rfl) [] trivial [0] rfl rfl rfl rfl rfl rfl ⟨⟨rfl,(by have e1:(ys:List Bool)=l.reverse:=(by exact Xiu hr (by omega));have hE:=congrArg (fun (q1:List Bool)=>(.live (Xc 4 Yc q1):HS)) e1;exact Eq.trans pZ4 hE)⟩,trivial⟩
theorem X48:Zero Tryz.prog 168 [.bool false,Yn []]:=⟨_,_,I9,rfl,rfl⟩
theorem iat_60:Tryz.prog.info? 60=some Tryz.t60:=by kernel_rfl
theorem X7z:Elem Tryz.prog 47 168 2 24:=⟨Tryz.underlying47,_,_,I9,rfl,rfl,rfl,rfl,by decide⟩
section
variable (tl:Bool) (nl:Bool) (sl_:Bool) (l:List (List UInt8)) (i:Int) (X:List (List UInt8)) (j:Nat) (Dn:List Y1)
abbrev Z32:St:=⟨[slV tl nl (kSl sl_ kU8) l,vI i,aa,aa,dv (.slice none 0 0),vI 2,aa,aa,aa,aa,aa,aa,aa,aa,aa,vB true],[]⟩
abbrev Z33:AV:=slV false false (X8 false) ([]:List Y1)
abbrev Z34:AV:=vB (decide (i≥((l.length:Nat):Int)))
abbrev Z35:St:=⟨[slV tl nl (kSl sl_ kU8) l,vI i,aa,aa,dv (.slice none 0 0),vI 2,aa,aa,aa,aa,aa,aa,aa,aa,aa,(Z34 l i)],[]⟩
abbrev Z36:List HS:=[.live (Xc 168 (X8 false) ([]:List Y1))]
abbrev Z37:AV:=vI ((j:Nat):Int)
abbrev Z38:=(Y1.mk false (W2 (X.drop (half X.length))))
abbrev Z39:=(Y1.mk true (W2 (X.take (half X.length))))
abbrev Z3a:AV:=vB (decide (((X.length:Nat):Int)>1))
abbrev Z3b:List AV:=[slV tl nl (kSl sl_ kU8) X,(Z37 j),aa,aa,aa,aa,Xx 0 (X8 false) 0 Dn.length,aa,aa,aa,aa,aa,aa,aa,aa,aa,aa,aa,(Z3a X)]
abbrev Z3c:List HS:=[.live (Xc 168 (X8 false) Dn.reverse)]
abbrev Z3d:AV:=Xx 0 (X8 false) 0 Dn.reverse.length
abbrev Z3e:List AV:=[slV tl nl (kSl sl_ kU8) X,(Z37 j),aa,aa,aa,aa,(Z3d Dn),aa,aa,aa,aa,aa,aa,aa,aa,aa,aa,aa,(Z3a X)]
abbrev Z3f:List AV:=[slV tl nl (kSl sl_ kU8) X,(Z37 j),aa,aa,(Z3d Dn),vI 0,(Z3d Dn),aa,aa,aa,aa,aa,aa,aa,aa,aa,aa,aa,(Z3a X)]
end
theorem Xf8 (tl:Bool) (nl:Bool) (sl_:Bool) (l:List (List UInt8)) (i:Int) (hf:Jj szL 40 600 l):Holds Tryz.prog 111 ⟨[slV tl nl (kSl sl_ kU8) l,vI i],[],.tup [.one (.d (dsl false false (X8 false) (Hk l i))),.one (dI (Eg l i))],[]⟩:=by
 refine Holds.of Tryz.func111 rfl (N:=53) Tryz.ntmps111 rfl fun w0 B0 S0 U0=>?_
 show T _ (Y2 53 0 w0 S0 U0 B0) ⟨[slV tl nl (kSl sl_ kU8) l,vI i],[]⟩ _ _
 have hl40:=hf.1
 refine sR [] (T.seq ?_)
 by_cases hq1:i<0
 ·refine sR (Xl (hN · false (dT hq1)) [3,4,5,6] (hP 7 (dT hq1)::[])) (cT (b:=true) rfl (sR [] (T.ret (rT ?_))))
  refine eN (Z32 tl nl sl_ l i) ?_
  refine Xa (s':=⟨[slV tl nl (kSl sl_ kU8) l,vI i,aa,aa,Z33,vI 2,aa,aa,aa,aa,aa,aa,aa,aa,aa,vB true],[]⟩) (fun _ _ hG=>W1 (s:=(Z32 tl nl sl_ l i)) (kk4 ⟨pZ8,⟨.inl rfl,(kk2 (kk8 trivial))⟩⟩) trivial hG) ?_
  exact eX [.t 4 (.one (.d (dsl false false (X8 false) ([]:List Y1)))),.t 5 (.one (dI 2))] ⟨⟨rfl,by kernel_rfl⟩,⟨⟨rfl,by kernel_rfl⟩,trivial⟩⟩ [] pi trivial
 refine sR (Xl (hY · (dF hq1)) [3,4,5,6] (hP 7 (dF hq1)::[])) ?_
 by_cases hq2:i≥((l.length:Nat):Int)
 ·refine cT (dT hq2) (sR [] (T.ret (rT ?_)))
  refine eN (Z35 tl nl sl_ l i) ?_
  refine Xa (s':=⟨[slV tl nl (kSl sl_ kU8) l,vI i,aa,aa,Z33,vI 2,aa,aa,aa,aa,aa,aa,aa,aa,aa,(Z34 l i)],[]⟩) (fun _ _ hG=>W1 (s:=(Z35 tl nl sl_ l i)) (kk4 ⟨pZ8,⟨.inl rfl,(kk2 (kk8 trivial))⟩⟩) trivial hG) ?_
  exact eX [.t 4 (.one (.d (dsl false false (X8 false) ([]:List Y1)))),.t 5 (.one (dI 2))] ⟨⟨rfl,by kernel_rfl⟩,⟨⟨rfl,by kernel_rfl⟩,trivial⟩⟩ [] pi trivial
 refine cF (dF hq2) (T.skip (nT (sR [] (T.seq (T.block ?_)))))
 refine tN ⟨[slV tl nl (kSl sl_ kU8) l,vI i,aa,aa,dv (.slice none 0 0),vI 0,dv (.slice none 0 0),aa,aa,aa,aa,aa,aa,aa,aa,(Z34 l i)],[]⟩ ?_
 refine Wy (s':=⟨[slV tl nl (kSl sl_ kU8) l,vI i,aa,aa,dv (.slice none 0 0),vI 0,Xx 0 (X8 false) 0 0,aa,aa,aa,aa,aa,aa,aa,aa,(Z34 l i)],Z36⟩) (fun _ _ hG=>Vs 0 6 168 (X8 false) rfl rfl hG) ?_
 refine T.loop (ι:=(List (List UInt8))×Nat×(List Y1)) (fun (x_:(List (List UInt8))×Nat×(List Y1))=>⟨[slV tl nl (kSl sl_ kU8) x_.1,vI ((x_.2.1:Nat):Int),aa,aa,aa,aa,Xx 0 (X8 false) 0 x_.2.2.length],[.live (Xc 168 (X8 false) x_.2.2)]⟩) (fun (x_:(List (List UInt8))×Nat×(List Y1))=>(Jj szL 40 600 x_.1)∧(x_.2.1<x_.1.length)∧(Wk l i.toNat=Wk x_.1 x_.2.1++x_.2.2.reverse)∧(x_.2.2.length+x_.1.length≤l.length)) (fun (x_:(List (List UInt8))×Nat×(List Y1))=>x_.1.length) (l,i.toNat,([]:List Y1)) ⟨(show Jj szL 40 600 l from hf),(show i.toNat<l.length from (by omega)),(show Wk l i.toNat=Wk l i.toNat++([]:List Y1).reverse from (by simp)),(show ([]:List Y1).length+l.length≤l.length from (by simp))⟩ (fun _ _ hG=>Yu [0] (bm 7 67) (t2:=[slV tl nl (kSl sl_ kU8) l,vI i,aa,aa,aa,aa,Xx 0 (X8 false) 0 0]) (cg2 (fun (q1:Int) (q2:Nat)=>([slV tl nl (kSl sl_ kU8) l,vI q1,aa,aa,aa,aa,Xx 0 (X8 false) 0 q2]:List AV)) (show (((i.toNat:Nat):Int):Int)=i from (by omega)) (by rfl)) rfl hG) ?_
 rintro ⟨X,j,Dn⟩ ⟨hX,hj,he,hD⟩
 show T _ _ ⟨[slV tl nl (kSl sl_ kU8) X,(Z37 j),aa,aa,aa,aa,Xx 0 (X8 false) 0 Dn.length],[.live (Xc 168 (X8 false) Dn)]⟩ _ _
 replace hX:Jj szL 40 600 X:=hX
 replace hj:j<X.length:=hj
 replace he:Wk l i.toNat=Wk X j++Dn.reverse:=he
 replace hD:Dn.length+X.length≤l.length:=hD
 have hl40:=hf.1
 refine T.seq (sR [] ?_)
 by_cases hq3:((X.length:Nat):Int)>1
 ·have h2x:2≤X.length:=(by omega);have hhl:=Jp h2x;have hhp:=J3 X.length;have hfa:=Vo (Ji hX (half X.length));have hfb:=Vo (Uy hX (half X.length))
  refine cT (dT hq3) (T.skip (nT (T.block (sR [hR 2 rfl rfl (rCa (X0l X.length ‹_› (by omega)) Tryz.func148 [] [(.tmp 20,vI ((X.length:Nat):Int))] 0 0)] (sR [] ?_)))))
  by_cases hq4:((j:Nat):Int)<((half X.length:Nat):Int)
  ·refine cT (dT hq4) ?_
   refine sR [hR 3 rfl rfl (U1 tl nl (kSl sl_ kU8) X (X.drop (half X.length)) (half X.length) X.length (lo:=some (.tmp 27,((half X.length:Nat):Int))) (hi:=none) Tryz.underlying136 Vw rfl rfl rfl rfl rfl (by omega) (by omega) px (X2 rfl) trivial),hR 4 rfl rfl (rCa (X1w tl nl sl_ (X.drop (half X.length)) (by exact Uy ‹_› _)) Tryz.func110 [] [(.tmp 28,slV tl nl (kSl sl_ kU8) (X.drop (half X.length)))] 0 0),hR 6 rfl rfl (Y7 1 168 (X8 false) (Uk false) [(Y1.mk false (W2 (X.drop (half X.length))))] [⟨0,.tmp 30,.agg [dB false,dS (W2 (X.drop (half X.length)))],0⟩] (cs:=[dB false,dS (W2 (X.drop (half X.length)))]) Tryz.underlying47 I9 rfl X48 rfl rfl rfl pb (Ym rfl rfl pb W3) pZ4 (V2 pZ4) (X2 rfl) trivial),hR 7 rfl rfl (Yv 0 2 168 24 (X8 false) (Uk false) Dn [(Y1.mk false (W2 (X.drop (half X.length))))] (Dn++[(Y1.mk false (W2 (X.drop (half X.length))))]) Dn.length (sy:=(.own 1 (X8 false).sz 0 [(Z38 X)].length)) (rhs:=[(1,.live (Xc 168 (X8 false) [(Z38 X)]))]) X7z (by omega) (V0 1 168 (X8 false) [(Y1.mk false (W2 (X.drop (half X.length))))]) px (by (simp [maxLen,-List.getD_eq_getElem?_getD]<;>omega)) (by (simp [maxLen,-List.getD_eq_getElem?_getD]<;>omega)) (X2 rfl) trivial)] ?_
   refine xK [hR 2 rfl rfl (U1 tl nl (kSl sl_ kU8) X (X.take (half X.length)) 0 (half X.length) (lo:=none) (hi:=some (.tmp 34,((half X.length:Nat):Int))) Tryz.underlying136 Vw rfl rfl rfl rfl rfl (by omega) (by omega) rfl (X2 rfl) trivial)] (nB ?_)
   refine nL ((X.take (half X.length)),j,Dn++[(Y1.mk false (W2 (X.drop (half X.length))))]) ⟨(show Jj szL 40 600 (X.take (half X.length)) from (by exact Ji hX _)),(show j<(X.take (half X.length)).length from (by (simp only [List.length_take];omega))),(show Wk l i.toNat=Wk (X.take (half X.length)) j++(Dn++[(Y1.mk false (W2 (X.drop (half X.length))))]).reverse from (by exact Xhi he h2x (by omega))),(show (Dn++[(Y1.mk false (W2 (X.drop (half X.length))))]).length+(X.take (half X.length)).length≤l.length from p4e)⟩ (show ((X.take (half X.length)).length:Nat)<X.length from (by simp only [List.length_take,List.length_drop];omega)) (fun _ _ hG=>Wf [2] (bm 7 67) (t1:=[slV tl nl (kSl sl_ kU8) (X.take (half X.length)),(Z37 j),aa,aa,aa,aa,Xx 2 (X8 false) 0 (Dn++[(Z38 X)]).length]) (h1:=[.live (Xc 168 (X8 false) (Dn++[(Z38 X)]))]) rfl rfl hG)
  refine cF (dF hq4) ?_
  refine sR [hR 3 rfl rfl (U1 tl nl (kSl sl_ kU8) X (X.take (half X.length)) 0 (half X.length) (lo:=none) (hi:=some (.tmp 38,((half X.length:Nat):Int))) Tryz.underlying136 Vw rfl rfl rfl rfl rfl (by omega) (by omega) rfl (X2 rfl) trivial),hR 4 rfl rfl (rCa (X1w tl nl sl_ (X.take (half X.length)) (by exact Ji ‹_› _)) Tryz.func110 [] [(.tmp 39,slV tl nl (kSl sl_ kU8) (X.take (half X.length)))] 0 0),hR 6 rfl rfl (Y7 1 168 (X8 false) (Uk false) [(Y1.mk true (W2 (X.take (half X.length))))] [⟨0,.tmp 41,.agg [dB true,dS (W2 (X.take (half X.length)))],0⟩] (cs:=[dB true,dS (W2 (X.take (half X.length)))]) Tryz.underlying47 I9 rfl X48 rfl rfl rfl pb (Ym rfl rfl pb W3) pZ4 (V2 pZ4) (X2 rfl) trivial),hR 7 rfl rfl (Yv 0 2 168 24 (X8 false) (Uk false) Dn [(Y1.mk true (W2 (X.take (half X.length))))] (Dn++[(Y1.mk true (W2 (X.take (half X.length))))]) Dn.length (sy:=(.own 1 (X8 false).sz 0 [(Z39 X)].length)) (rhs:=[(1,.live (Xc 168 (X8 false) [(Z39 X)]))]) X7z (by omega) (V0 1 168 (X8 false) [(Y1.mk true (W2 (X.take (half X.length))))]) px (by (simp [maxLen,-List.getD_eq_getElem?_getD]<;>omega)) (by (simp [maxLen,-List.getD_eq_getElem?_getD]<;>omega)) (X2 rfl) trivial)] ?_
  refine xR [hR 2 rfl rfl (U1 tl nl (kSl sl_ kU8) X (X.drop (half X.length)) (half X.length) X.length (lo:=some (.tmp 45,((half X.length:Nat):Int))) (hi:=none) Tryz.underlying136 Vw rfl rfl rfl rfl rfl (by omega) (by omega) px (X2 rfl) trivial),hR 5 rfl rfl (Yb (u1:=.int .i64 ((j:Nat):Int)) (u2:=.int .i64 ((half X.length:Nat):Int)) (v:=.int .i64 ((j-(half X.length):Nat):Int)) (Vy pZ9) (X2 rfl) trivial)] pZ4 pZ4 (nB ?_)
  refine nL ((X.drop (half X.length)),j-(half X.length),Dn++[(Y1.mk true (W2 (X.take (half X.length))))]) ⟨(show Jj szL 40 600 (X.drop (half X.length)) from (by exact Uy hX _)),(show (j-(half X.length))<(X.drop (half X.length)).length from (by (simp only [List.length_drop];omega))),(show Wk l i.toNat=Wk (X.drop (half X.length)) (j-(half X.length))++(Dn++[(Y1.mk true (W2 (X.take (half X.length))))]).reverse from (by exact Xhh he h2x (by omega))),(show (Dn++[(Y1.mk true (W2 (X.take (half X.length))))]).length+(X.drop (half X.length)).length≤l.length from p4e)⟩ (show ((X.drop (half X.length)).length:Nat)<X.length from (by simp only [List.length_take,List.length_drop];omega)) (fun _ _ hG=>Wf [2] (bm 7 67) (t1:=[slV tl nl (kSl sl_ kU8) (X.drop (half X.length)),vI ((j-(half X.length):Nat):Int),aa,aa,aa,aa,Xx 2 (X8 false) 0 (Dn++[(Z39 X)]).length]) (h1:=[.live (Xc 168 (X8 false) (Dn++[(Z39 X)]))]) rfl rfl hG)
 refine cF (dF hq3) (T.exit (xT (xT (xH (nT (sR [hR 1 rfl rfl (rCa (rev_Step Dn (by omega)) Tryz.func149 [0] [(.tmp 50,Xx 0 (X8 false) 0 Dn.length)] 1 1)] ?_))))))
 refine tN ⟨(Z3b tl nl sl_ X j Dn),(Z3c Dn)⟩ ?_
 refine Wy (s':=⟨(Z3e tl nl sl_ X j Dn),(Z3c Dn)⟩) (fun _ _ hG=>Yu [0] (bm 19 262211) (t2:=(Z3b tl nl sl_ X j Dn)) (by have e1:(Dn.reverse.length:Nat)=Dn.length:=(by simp only [List.length_set,List.length_reverse]);have hE:=congrArg (fun (q1:Nat)=>([slV tl nl (kSl sl_ kU8) X,(Z37 j),aa,aa,aa,aa,Xx 0 (X8 false) 0 q1,aa,aa,aa,aa,aa,aa,aa,aa,aa,aa,aa,(Z3a X)]:List AV)) e1;exact hE) rfl hG) (sR [] (T.ret ?_))
 refine eN ⟨(Z3f tl nl sl_ X j Dn),(Z3c Dn)⟩ ?_
 refine Xa (s':=⟨[slV tl nl (kSl sl_ kU8) X,(Z37 j),aa,aa,slV false false (X8 false) Dn.reverse,vI 0,slV false false (X8 false) Dn.reverse,aa,aa,aa,aa,aa,aa,aa,aa,aa,aa,aa,(Z3a X)],[.dead]⟩) (fun _ _ hG=>Gs.freeze (s:=⟨(Z3f tl nl sl_ X j Dn),(Z3c Dn)⟩) 0 (el:=W5 (X8 false) Dn.reverse) (sz:=(X8 false).sz) (n:=Dn.reverse.length) rfl (kk4 ⟨(.inr pZ0),⟨.inl rfl,⟨(.inr pZ0),p3x⟩⟩⟩) ⟨(.inl ⟨rfl,rfl⟩),trivial⟩ hG) ?_
 exact eX [.t 4 (.one (.d (dsl false false (X8 false) Dn.reverse))),.t 5 (.one (dI 0))] ⟨⟨rfl,by kernel_rfl⟩,⟨⟨rfl,by kernel_rfl⟩,trivial⟩⟩ [] (by have e1:((Hk l i):List Y1)=Dn.reverse:=(by (have ho:okI l i:=(by simp only [okI];omega);(rw [Hk,if_pos ho,← path_end he (by omega)])));have e2:((Eg l i):Int)=0:=p4r;have hE:=congr pZ13 e2;exact hE) trivial
abbrev Z3g (j:Nat):AV:=vI ((j:Nat):Int)
theorem X8y:∀ (N:Nat) (tl:Bool) (nl:Bool) (sl_:Bool) (l:List (List UInt8)) (j:Nat) (hf:Jj szL 40 600 l) (hj:j≤1000),l.length=N→Holds Tryz.prog 140 ⟨[slV tl nl (kSl sl_ kU8) l,vI ((j:Nat):Int)],[],Xx 0 (X8 false) 0 (Wk l j).length,[.live (Xc 168 (X8 false) (Wk l j))]⟩:=by
  intro N
  induction N using Nat.strongRecOn with
  | _ N ih =>
    intro tl nl sl_ l j hf hj hN
    refine Holds.of Tryz.func140 rfl (N:=41) Tryz.ntmps140 rfl fun w0 B0 S0 U0=>?_
    show T _ (Y2 41 0 w0 S0 U0 B0) ⟨[slV tl nl (kSl sl_ kU8) l,(Z3g j)],[]⟩ _ _
    have hl40:=hf.1
    refine sR [] (T.seq (sR [] ?_))
    by_cases hq1:((l.length:Nat):Int)<2
    ·refine cT (dT hq1) (sR [] (T.ret (rT ?_)))
     refine eN ⟨[slV tl nl (kSl sl_ kU8) l,(Z3g j),aa,aa,dv (.slice none 0 0),aa,aa,aa,vB (decide (((l.length:Nat):Int)<2))],[]⟩ ?_
     refine Xa (s':=⟨[slV tl nl (kSl sl_ kU8) l,(Z3g j),aa,aa,Xx 0 (X8 false) 0 0,aa,aa,aa,vB (decide (((l.length:Nat):Int)<2))],[.live (Xc 168 (X8 false) ([]:List Y1))]⟩) (fun _ _ hG=>Vs 0 4 168 (X8 false) rfl rfl hG) ?_
     exact eRt 4 (.one (.own 0 (X8 false).sz 0 0)) [0] (by have e1:((Wk l j).length:Nat)=0:=pg;have hE:=congrArg (fun (q1:Nat)=>(Xx 0 (X8 false) 0 q1:AV)) e1;exact hE) ⟨⟨rfl,(by have e1:(([]:List Y1):List Y1)=(Wk l j):=pg;have hE:=congrArg (fun (q1:List Y1)=>(.live (Xc 168 (X8 false) q1):HS)) e1;exact Eq.trans pZ4 hE)⟩,trivial⟩
    have h2l:2≤l.length:=(by omega);have hhl:=Jp h2l;have hhp:=J3 l.length;have hfa:=Vo (Ji hf (half l.length));have hfb:=Vo (Uy hf (half l.length));have hpa:=X40 _ (l.take (half l.length)) j rfl;have hpb:=X40 _ (l.drop (half l.length)) (j-half l.length) rfl;have htl:(l.take (half l.length)).length≤40:=p1d;have htd:(l.drop (half l.length)).length≤40:=p1z
    refine cF (dF hq1) (T.skip (nT ?_))
    refine sR [hR 2 rfl rfl (rCa (X8z l.length (by first|assumption|omega|(unfold maxLen;omega)|(simp [maxLen,-List.getD_eq_getElem?_getD]<;>omega)|decide) (by first|assumption|omega|(unfold maxLen;omega)|(simp [maxLen,-List.getD_eq_getElem?_getD]<;>omega)|decide)) Tryz.func138 [] [(.tmp 10,vI ((l.length:Nat):Int))] 0 0)] ?_
    refine T.seq (sR [] ?_)
    by_cases hq2:((j:Nat):Int)<((half l.length:Nat):Int)
    ·refine cT (dT hq2) ?_
     refine sD [[],[],[0,1],[],[0,1,2,3],[],[],[5,6],[0,1,2,3,4,5,6,7],[0,1,2,3,4,5,6,7,8],[0,1,2,3,4,5,6,7,8,9],[0,1,2,3,4,5,6,7,8,9,10],[0,1,2,3,4,5,6,7,8,9,10,11]] [hR 2 rfl rfl (U1 tl nl (kSl sl_ kU8) l (l.take (half l.length)) 0 (half l.length) (lo:=none) (hi:=some (.tmp 16,((half l.length:Nat):Int))) Tryz.underlying136 Vw rfl rfl rfl rfl rfl (by first|assumption|omega|(unfold maxLen;omega)|(simp [maxLen,-List.getD_eq_getElem?_getD]<;>omega)|decide) (by first|assumption|omega|(unfold maxLen;omega)|(simp [maxLen,-List.getD_eq_getElem?_getD]<;>omega)|decide) rfl (X2 rfl) trivial),hR 4 rfl rfl (rCa (ih ((l.take (half l.length)).length) (show (l.take (half l.length)).length<N from p1k) tl nl sl_ (l.take (half l.length)) j pm (by first|assumption|omega|(unfold maxLen;omega)|(simp [maxLen,-List.getD_eq_getElem?_getD]<;>omega)|decide) rfl) Tryz.func140 [0] [(.tmp 17,slV tl nl (kSl sl_ kU8) (l.take (half l.length))),(.tmp 18,(Z3g j))] 0 1),hR 7 rfl rfl (U1 tl nl (kSl sl_ kU8) l (l.drop (half l.length)) (half l.length) l.length (lo:=some (.tmp 21,((half l.length:Nat):Int))) (hi:=none) Tryz.underlying136 Vw rfl rfl rfl rfl rfl (by first|assumption|omega|(unfold maxLen;omega)|(simp [maxLen,-List.getD_eq_getElem?_getD]<;>omega)|decide) (by first|assumption|omega|(unfold maxLen;omega)|(simp [maxLen,-List.getD_eq_getElem?_getD]<;>omega)|decide) px (X2 rfl) trivial),hR 8 rfl rfl (rCa (X3v tl nl sl_ (l.drop (half l.length)) pm) Tryz.func98 [] [(.tmp 22,slV tl nl (kSl sl_ kU8) (l.drop (half l.length)))] 0 0),hR 10 rfl rfl (Y7 1 168 (X8 false) (Uk false) [(Y1.mk false (W2 (l.drop (half l.length))))] [⟨0,.tmp 24,.agg [dB false,dS (W2 (l.drop (half l.length)))],0⟩] (cs:=[dB false,dS (W2 (l.drop (half l.length)))]) Tryz.underlying47 I9 rfl X48 rfl rfl rfl pb (Ym rfl rfl pb W3) pZ4 (V2 pZ4) (X2 rfl) trivial),hR 11 rfl rfl (Yv 0 2 168 24 (X8 false) (Uk false) (Wk (l.take (half l.length)) j) [(Y1.mk false (W2 (l.drop (half l.length))))] ((Wk (l.take (half l.length)) j)++[(Y1.mk false (W2 (l.drop (half l.length))))]) (Wk (l.take (half l.length)) j).length (sy:=(.own 1 (X8 false).sz 0 [(Y1.mk false (W2 (l.drop (half l.length))))].length)) (rhs:=[(1,.live (Xc 168 (X8 false) [(Y1.mk false (W2 (l.drop (half l.length))))]))]) X7z (by first|assumption|omega|(unfold maxLen;omega)|(simp [maxLen,-List.getD_eq_getElem?_getD]<;>omega)|decide) (V0 1 168 (X8 false) [(Y1.mk false (W2 (l.drop (half l.length))))]) px (by first|assumption|omega|(unfold maxLen;omega)|(simp [maxLen,-List.getD_eq_getElem?_getD]<;>omega)|decide) (by first|assumption|omega|(unfold maxLen;omega)|(simp [maxLen,-List.getD_eq_getElem?_getD]<;>omega)|decide) (X2 rfl) trivial)] ?_
     refine T.ret (rT ?_)
     exact eRt 4 (.one (.own 2 (X8 false).sz 0 ((Wk (l.take (half l.length)) j)++[(Y1.mk false (W2 (l.drop (half l.length))))]).length)) [2] (by have e1:((Wk l j).length:Nat)=((Wk (l.take (half l.length)) j)++[(Y1.mk false (W2 (l.drop (half l.length))))]).length:=pg;have hE:=congrArg (fun (q1:Nat)=>(Xx 2 (X8 false) 0 q1:AV)) e1;exact hE) ⟨⟨rfl,(by have e1:((Wk (l.take (half l.length)) j)++[(Y1.mk false (W2 (l.drop (half l.length))))]:List Y1)=(Wk l j):=pg;have hE:=congrArg (fun (q1:List Y1)=>(.live (Xc 168 (X8 false) q1):HS)) e1;exact Eq.trans pZ4 hE)⟩,trivial⟩
    refine cF (dF hq2) (T.skip (nT ?_))
    refine sD [[],[],[0,1],[],[],[3,4],[0,1,2,3,4,5],[],[],[7,8],[0,1,2,3,4,5,6,7,8,9],[0,1,2,3,4,5,6,7,8,9,10],[0,1,2,3,4,5,6,7,8,9,10,11],[0,1,2,3,4,5,6,7,8,9,10,11,12],[0,1,2,3,4,5,6,7,8,9,10,11,12,13]] [hR 2 rfl rfl (U1 tl nl (kSl sl_ kU8) l (l.drop (half l.length)) (half l.length) l.length (lo:=some (.tmp 28,((half l.length:Nat):Int))) (hi:=none) Tryz.underlying136 Vw rfl rfl rfl rfl rfl (by first|assumption|omega|(unfold maxLen;omega)|(simp [maxLen,-List.getD_eq_getElem?_getD]<;>omega)|decide) (by first|assumption|omega|(unfold maxLen;omega)|(simp [maxLen,-List.getD_eq_getElem?_getD]<;>omega)|decide) px (X2 rfl) trivial),hR 5 rfl rfl (Yb (u1:=.int .i64 ((j:Nat):Int)) (u2:=.int .i64 ((half l.length:Nat):Int)) (v:=.int .i64 ((j-(half l.length):Nat):Int)) (Vy pZ9) (X2 rfl) trivial),hR 6 rfl rfl (rCa (ih ((l.drop (half l.length)).length) (show (l.drop (half l.length)).length<N from p1k) tl nl sl_ (l.drop (half l.length)) (j-(half l.length)) pm (by first|assumption|omega|(unfold maxLen;omega)|(simp [maxLen,-List.getD_eq_getElem?_getD]<;>omega)|decide) rfl) Tryz.func140 [0] [(.tmp 29,slV tl nl (kSl sl_ kU8) (l.drop (half l.length))),(.tmp 32,vI ((j-(half l.length):Nat):Int))] 0 1),hR 9 rfl rfl (U1 tl nl (kSl sl_ kU8) l (l.take (half l.length)) 0 (half l.length) (lo:=none) (hi:=some (.tmp 35,((half l.length:Nat):Int))) Tryz.underlying136 Vw rfl rfl rfl rfl rfl (by first|assumption|omega|(unfold maxLen;omega)|(simp [maxLen,-List.getD_eq_getElem?_getD]<;>omega)|decide) (by first|assumption|omega|(unfold maxLen;omega)|(simp [maxLen,-List.getD_eq_getElem?_getD]<;>omega)|decide) rfl (X2 rfl) trivial),hR 10 rfl rfl (rCa (X3v tl nl sl_ (l.take (half l.length)) pm) Tryz.func98 [] [(.tmp 36,slV tl nl (kSl sl_ kU8) (l.take (half l.length)))] 0 0),hR 12 rfl rfl (Y7 1 168 (X8 false) (Uk false) [(Y1.mk true (W2 (l.take (half l.length))))] [⟨0,.tmp 38,.agg [dB true,dS (W2 (l.take (half l.length)))],0⟩] (cs:=[dB true,dS (W2 (l.take (half l.length)))]) Tryz.underlying47 I9 rfl X48 rfl rfl rfl pb (Ym rfl rfl pb W3) pZ4 (V2 pZ4) (X2 rfl) trivial),hR 13 rfl rfl (Yv 0 2 168 24 (X8 false) (Uk false) (Wk (l.drop (half l.length)) (j-(half l.length))) [(Y1.mk true (W2 (l.take (half l.length))))] ((Wk (l.drop (half l.length)) (j-(half l.length)))++[(Y1.mk true (W2 (l.take (half l.length))))]) (Wk (l.drop (half l.length)) (j-(half l.length))).length (sy:=(.own 1 (X8 false).sz 0 [(Y1.mk true (W2 (l.take (half l.length))))].length)) (rhs:=[(1,.live (Xc 168 (X8 false) [(Y1.mk true (W2 (l.take (half l.length))))]))]) X7z (by first|assumption|omega|(unfold maxLen;omega)|(simp [maxLen,-List.getD_eq_getElem?_getD]<;>omega)|decide) (V0 1 168 (X8 false) [(Y1.mk true (W2 (l.take (half l.length))))]) px (by first|assumption|omega|(unfold maxLen;omega)|(simp [maxLen,-List.getD_eq_getElem?_getD]<;>omega)|decide) (by first|assumption|omega|(unfold maxLen;omega)|(simp [maxLen,-List.getD_eq_getElem?_getD]<;>omega)|decide) (X2 rfl) trivial)] ?_
    refine T.ret ?_
    exact eRt 4 (.one (.own 2 (X8 false).sz 0 ((Wk (l.drop (half l.length)) (j-(half l.length)))++[(Y1.mk true (W2 (l.take (half l.length))))]).length)) [2] (by have e1:((Wk l j).length:Nat)=((Wk (l.drop (half l.length)) (j-(half l.length)))++[(Y1.mk true (W2 (l.take (half l.length))))]).length:=pg;have hE:=congrArg (fun (q1:Nat)=>(Xx 2 (X8 false) 0 q1:AV)) e1;exact hE) ⟨⟨rfl,(by have e1:((Wk (l.drop (half l.length)) (j-(half l.length)))++[(Y1.mk true (W2 (l.take (half l.length))))]:List Y1)=(Wk l j):=pg;have hE:=congrArg (fun (q1:List Y1)=>(.live (Xc 168 (X8 false) q1):HS)) e1;exact Eq.trans pZ4 hE)⟩,trivial⟩
theorem Xh4 (tl:Bool) (nl:Bool) (sl_:Bool) (l:List (List UInt8)) (j:Nat) (hf:Jj szL 40 600 l) (hj:j≤1000):Holds Tryz.prog 140 ⟨[slV tl nl (kSl sl_ kU8) l,vI ((j:Nat):Int)],[],Xx 0 (X8 false) 0 (Wk l j).length,[.live (Xc 168 (X8 false) (Wk l j))]⟩:=X8y _ tl nl sl_ l j hf hj rfl
section
variable (tl:Bool) (nl:Bool) (sl_:Bool) (l:List (List UInt8)) (i:Int)
abbrev Z3h:St:=⟨[slV tl nl (kSl sl_ kU8) l,vI i,aa,aa,dv (.slice none 0 0),vI 2,aa,aa,aa,aa,aa,aa,aa,vB true],[]⟩
abbrev Z3i:AV:=slV false false (X8 false) ([]:List Y1)
abbrev Z3j:AV:=vB (decide (i≥((l.length:Nat):Int)))
abbrev Z3k:St:=⟨[slV tl nl (kSl sl_ kU8) l,vI i,aa,aa,dv (.slice none 0 0),vI 2,aa,aa,aa,aa,aa,aa,aa,(Z3j l i)],[]⟩
abbrev Z3l:List AV:=[slV tl nl (kSl sl_ kU8) l,vI i,aa,aa,dv (.slice none 0 0),vI 0,aa,aa,aa,aa,aa,aa,aa,(Z3j l i)]
abbrev Z3m:AV:=vI ((i.toNat:Nat):Int)
abbrev Z3n:List AV:=[slV tl nl (kSl sl_ kU8) l,(Z3m i),aa,aa,dv (.slice none 0 0),vI 0,aa,aa,aa,aa,aa,aa,aa,(Z3j l i)]
abbrev Z3o:St:=⟨[slV tl nl (kSl sl_ kU8) l,(Z3m i),aa,aa,Xx 0 (X8 false) 0 (Wk l i.toNat).length,vI 0,aa,aa,aa,aa,aa,aa,aa,(Z3j l i)],[.live (Xc 168 (X8 false) (Wk l i.toNat))]⟩
end
theorem Xh5 (tl:Bool) (nl:Bool) (sl_:Bool) (l:List (List UInt8)) (i:Int) (hf:Jj szL 40 600 l):Holds Tryz.prog 99 ⟨[slV tl nl (kSl sl_ kU8) l,vI i],[],.tup [.one (.d (dsl false false (X8 false) (Hk l i))),.one (dI (Eg l i))],[]⟩:=by
 refine Holds.of Tryz.func99 rfl (N:=17) Tryz.ntmps99 rfl fun w0 B0 S0 U0=>?_
 show T _ (Y2 17 0 w0 S0 U0 B0) ⟨[slV tl nl (kSl sl_ kU8) l,vI i],[]⟩ _ _
 have hl40:=hf.1
 refine sR [] (T.seq ?_)
 by_cases hq1:i<0
 ·refine sR (Xl (hN · false (dT hq1)) [3,4,5,6] (hP 7 (dT hq1)::[])) (cT (b:=true) rfl (sR [] (T.ret (rT ?_))))
  refine eN (Z3h tl nl sl_ l i) ?_
  refine Xa (s':=⟨[slV tl nl (kSl sl_ kU8) l,vI i,aa,aa,Z3i,vI 2,aa,aa,aa,aa,aa,aa,aa,vB true],[]⟩) (fun _ _ hG=>W1 (s:=(Z3h tl nl sl_ l i)) (kk4 ⟨pZ8,⟨.inl rfl,(kk8 trivial)⟩⟩) trivial hG) ?_
  exact eX [.t 4 (.one (.d (dsl false false (X8 false) ([]:List Y1)))),.t 5 (.one (dI 2))] ⟨⟨rfl,by kernel_rfl⟩,⟨⟨rfl,by kernel_rfl⟩,trivial⟩⟩ [] pi trivial
 refine sR (Xl (hY · (dF hq1)) [3,4,5,6] (hP 7 (dF hq1)::[])) ?_
 by_cases hq2:i≥((l.length:Nat):Int)
 ·refine cT (dT hq2) (sR [] (T.ret (rT ?_)))
  refine eN (Z3k tl nl sl_ l i) ?_
  refine Xa (s':=⟨[slV tl nl (kSl sl_ kU8) l,vI i,aa,aa,Z3i,vI 2,aa,aa,aa,aa,aa,aa,aa,(Z3j l i)],[]⟩) (fun _ _ hG=>W1 (s:=(Z3k tl nl sl_ l i)) (kk4 ⟨pZ8,⟨.inl rfl,(kk8 trivial)⟩⟩) trivial hG) ?_
  exact eX [.t 4 (.one (.d (dsl false false (X8 false) ([]:List Y1)))),.t 5 (.one (dI 2))] ⟨⟨rfl,by kernel_rfl⟩,⟨⟨rfl,by kernel_rfl⟩,trivial⟩⟩ [] pi trivial
 refine cF (dF hq2) (T.skip (nT ?_))
 refine tN ⟨(Z3l tl nl sl_ l i),[]⟩ ?_
 refine Wy (s':=⟨(Z3n tl nl sl_ l i),[]⟩) (fun _ _ hG=>Yu [] (bm 14 8243) (t2:=(Z3l tl nl sl_ l i)) (congrArg (fun (q1:Int)=>([slV tl nl (kSl sl_ kU8) l,vI q1,aa,aa,dv (.slice none 0 0),vI 0,aa,aa,aa,aa,aa,aa,aa,(Z3j l i)]:List AV)) (by omega)) rfl hG) (sR [hR 2 rfl rfl (rCa (Xh4 tl nl sl_ l i.toNat ‹_› (by omega)) Tryz.func140 [0] [(.tmp 14,slV tl nl (kSl sl_ kU8) l),(.tmp 15,(Z3m i))] 0 1)] (T.ret ?_))
 refine eN (Z3o tl nl sl_ l i) ?_
 refine Xa (s':=⟨[slV tl nl (kSl sl_ kU8) l,(Z3m i),aa,aa,slV false false (X8 false) (Wk l i.toNat),vI 0,aa,aa,aa,aa,aa,aa,aa,(Z3j l i)],[.dead]⟩) (fun _ _ hG=>Gs.freeze (s:=(Z3o tl nl sl_ l i)) 0 (el:=W5 (X8 false) (Wk l i.toNat)) (sz:=(X8 false).sz) (n:=(Wk l i.toNat).length) rfl (kk4 ⟨(.inr pZ0),⟨.inl rfl,(kk8 trivial)⟩⟩) ⟨(.inl ⟨rfl,rfl⟩),trivial⟩ hG) ?_
 exact eX [.t 4 (.one (.d (dsl false false (X8 false) (Wk l i.toNat)))),.t 5 (.one (dI 0))] ⟨⟨rfl,by kernel_rfl⟩,⟨⟨rfl,by kernel_rfl⟩,trivial⟩⟩ [] (by have e1:((Hk l i):List Y1)=(Wk l i.toNat):=(by (have ho:okI l i:=(by simp only [okI];omega);(rw [Hk,if_pos ho])));have e2:((Eg l i):Int)=0:=p4r;have hE:=congr pZ13 e2;exact hE) trivial
theorem zero_4:Zero Tryz.prog 4 [.bool false]:=⟨_,_,X24,rfl,rfl⟩
theorem Xg2:Elem Tryz.prog 192 4 1 1:=⟨Tryz.underlying192,_,_,X24,rfl,rfl,rfl,rfl,by decide⟩
section
variable (i:Int) (n:Int) (j:Nat) (m:Nat) (Dn:List Bool)
abbrev Z3q:AV:=vI ((j:Nat):Int)
abbrev Z3r:AV:=vI ((m:Nat):Int)
abbrev Z3s:AV:=vB (decide (((m:Nat):Int)<2))
abbrev Z3t:List AV:=[(Z3q j),(Z3r m),aa,aa,Xx 0 Yc 0 Dn.reverse.length,aa,aa,aa,(Z3s m)]
end
theorem Xd2 (i:Int) (n:Int) (hi:0≤i∧i<n) (hn:n≤9223372036854775807):Holds Tryz.prog 141 ⟨[vI i,vI n],[],Xx 0 Yc 0 (W8 i.toNat n.toNat).length,[.live (Xc 4 Yc (W8 i.toNat n.toNat))]⟩:=by
 refine Holds.of Tryz.func141 rfl (N:=31) Tryz.ntmps141 rfl fun w0 B0 S0 U0=>?_
 show T _ (Y2 31 0 w0 S0 U0 B0) ⟨[vI i,vI n],[]⟩ _ _
 refine sR [] (Xgn (T.seq ?_))
 refine T.label (nT (T.seq (T.block ?_)))
 refine tN ⟨[vI i,vI n,aa,aa,dv (.slice none 0 0)],[]⟩ ?_
 refine Wy (s':=⟨[vI i,vI n,aa,aa,Xx 0 Yc 0 0],[.live (Xc 4 Yc ([]:List Bool))]⟩) (fun _ _ hG=>Vs 0 4 4 Yc rfl rfl hG) ?_
 refine T.loop (ι:=Nat×Nat×(List Bool)) (fun (x_:Nat×Nat×(List Bool))=>⟨[vI ((x_.1:Nat):Int),vI ((x_.2.1:Nat):Int),aa,aa,Xx 0 Yc 0 x_.2.2.length],[.live (Xc 4 Yc x_.2.2)]⟩) (fun (x_:Nat×Nat×(List Bool))=>(x_.2.1≤9223372036854775807)∧(x_.1<x_.2.1)∧(W8 i.toNat n.toNat=W8 x_.1 x_.2.1++x_.2.2.reverse)) (fun (x_:Nat×Nat×(List Bool))=>x_.2.1) (i.toNat,n.toNat,([]:List Bool)) ⟨(show n.toNat≤9223372036854775807 from (by omega)),(show i.toNat<n.toNat from (by omega)),(show W8 i.toNat n.toNat=W8 i.toNat n.toNat++([]:List Bool).reverse from (by simp))⟩ (fun _ _ hG=>Yu [0] (bm 5 19) (t2:=[vI i,vI n,aa,aa,Xx 0 Yc 0 0]) (cg3 (fun (q1:Int) (q2:Int) (q3:Nat)=>([vI q1,vI q2,aa,aa,Xx 0 Yc 0 q3]:List AV)) (show (((i.toNat:Nat):Int):Int)=i from (by omega)) (show (((n.toNat:Nat):Int):Int)=n from (by omega)) (by rfl)) rfl hG) ?_
 rintro ⟨j,m,Dn⟩ ⟨hm,hj,he⟩
 show T _ _ ⟨[(Z3q j),(Z3r m),aa,aa,Xx 0 Yc 0 Dn.length],[.live (Xc 4 Yc Dn)]⟩ _ _
 replace hm:m≤9223372036854775807:=hm
 replace hj:j<m:=hj
 replace he:W8 i.toNat n.toNat=W8 j m++Dn.reverse:=he
 have hDl:=sides_D he
 refine T.block (T.seq (sR [] ?_))
 by_cases hq1:((m:Nat):Int)<2
 ·refine cT (dT hq1) (T.exit (xT (xM rfl (xT (xH (nT (sR [hR 1 rfl rfl (rCa (rev_bool Dn (by omega)) Tryz.func169 [0] [(.tmp 28,Xx 0 Yc 0 Dn.length)] 1 1)] ?_)))))))
  refine tN ⟨[(Z3q j),(Z3r m),aa,aa,Xx 0 Yc 0 Dn.length,aa,aa,aa,(Z3s m)],[.live (Xc 4 Yc Dn.reverse)]⟩ ?_
  refine Wy (s':=⟨(Z3t j m Dn),[.live (Xc 4 Yc Dn.reverse)]⟩) (fun _ _ hG=>Yu [0] (bm 9 275) (t2:=[(Z3q j),(Z3r m),aa,aa,Xx 0 Yc 0 Dn.length,aa,aa,aa,(Z3s m)]) (by have e1:(Dn.reverse.length:Nat)=Dn.length:=(by simp only [List.length_set,List.length_reverse]);have hE:=congrArg (fun (q1:Nat)=>([(Z3q j),(Z3r m),aa,aa,Xx 0 Yc 0 q1,aa,aa,aa,(Z3s m)]:List AV)) e1;exact hE) rfl hG) (sR [] (T.ret (rS ?_)))
  exact eRt 4 (.one (.own 0 Yc.sz 0 Dn.reverse.length)) [0] (by have e1:((W8 i.toNat n.toNat).length:Nat)=Dn.reverse.length:=(by (rw [← Xb7 he (by omega)]));have hE:=congrArg (fun (q1:Nat)=>(Xx 0 Yc 0 q1:AV)) e1;exact hE) ⟨⟨rfl,(by have e1:(Dn.reverse:List Bool)=(W8 i.toNat n.toNat):=(by exact Xb7 he (by omega));have hE:=congrArg (fun (q1:List Bool)=>(.live (Xc 4 Yc q1):HS)) e1;exact Eq.trans pZ4 hE)⟩,trivial⟩
 have h2m:2≤m:=(by omega);have hhl:=Jp h2m;have hhp:=J3 m
 refine cF (dF hq1) (T.skip (nT (sR [hR 1 rfl rfl (rCa (X0l m ‹_› ‹_›) Tryz.func148 [] [(.tmp 9,(Z3r m))] 0 0)] (T.seq (sR [] (sR [] ?_))))))
 by_cases hq2:((j:Nat):Int)≥((half m:Nat):Int)
 ·refine cT (dT hq2) ?_
  refine sR [hR 1 rfl rfl (Y7 1 4 Yc X4z [true] [⟨0,.const (.bool true),.one (dB true),0⟩] (cs:=[dB true]) Tryz.underlying192 X24 rfl zero_4 rfl rfl rfl pb (Ym rfl rfl pb W3) pZ4 (V2 pZ4) (X2 rfl) ⟨rfl,trivial⟩),hR 2 rfl rfl (Yv 0 2 4 1 Yc X4z Dn [true] (Dn++[true]) Dn.length (sy:=(.own 1 Yc.sz 0 [true].length)) (rhs:=[(1,.live (Xc 4 Yc [true]))]) Xg2 (by omega) (V0 1 4 Yc [true]) px (by (simp [maxLen,-List.getD_eq_getElem?_getD]<;>omega)) (by (simp [maxLen,-List.getD_eq_getElem?_getD]<;>omega)) (X2 rfl) trivial)] ?_
  refine sR [hR 2 rfl rfl (Yb (u1:=.int .i64 ((j:Nat):Int)) (u2:=.int .i64 ((half m:Nat):Int)) (v:=.int .i64 ((j-(half m):Nat):Int)) (Vy pZ9) (X2 rfl) trivial),hR 5 rfl rfl (Yb (u1:=.int .i64 ((m:Nat):Int)) (u2:=.int .i64 ((half m:Nat):Int)) (v:=.int .i64 ((m-(half m):Nat):Int)) (Vy pZ9) (X2 rfl) trivial)] (T.exit (xT (xH ?_)))
  refine nL (j-(half m),m-(half m),Dn++[true]) ⟨(show (m-(half m))≤9223372036854775807 from (by omega)),(show (j-(half m))<(m-(half m)) from (by omega)),(show W8 i.toNat n.toNat=W8 (j-(half m)) (m-(half m))++(Dn++[true]).reverse from (by exact Xe7 he h2m hm (by omega)))⟩ (show ((m-(half m)):Nat)<m from (by omega)) (fun _ _ hG=>Wf [2] (bm 5 19) (t1:=[vI ((j-(half m):Nat):Int),vI ((m-(half m):Nat):Int),aa,aa,Xx 2 Yc 0 (Dn++[true]).length]) (h1:=[.live (Xc 4 Yc (Dn++[true]))]) rfl rfl hG)
 refine cF (dF hq2) (T.skip (nT ?_))
 refine sR [hR 1 rfl rfl (Y7 1 4 Yc X4z [false] [⟨0,.const (.bool false),.one (dB false),0⟩] (cs:=[dB false]) Tryz.underlying192 X24 rfl zero_4 rfl rfl rfl pb (Ym rfl rfl pb W3) pZ4 (V2 pZ4) (X2 rfl) ⟨rfl,trivial⟩),hR 2 rfl rfl (Yv 0 2 4 1 Yc X4z Dn [false] (Dn++[false]) Dn.length (sy:=(.own 1 Yc.sz 0 [false].length)) (rhs:=[(1,.live (Xc 4 Yc [false]))]) Xg2 (by omega) (V0 1 4 Yc [false]) px (by (simp [maxLen,-List.getD_eq_getElem?_getD]<;>omega)) (by (simp [maxLen,-List.getD_eq_getElem?_getD]<;>omega)) (X2 rfl) trivial)] ?_
 refine xK [] (nB ?_)
 refine nL (j,half m,Dn++[false]) ⟨(show (half m)≤9223372036854775807 from (by omega)),(show j<(half m) from (by omega)),(show W8 i.toNat n.toNat=W8 j (half m)++(Dn++[false]).reverse from (by exact Xe8 he h2m hm (by omega)))⟩ (show ((half m):Nat)<m from (by omega)) (fun _ _ hG=>Wf [2] (bm 5 19) (t1:=[(Z3q j),vI ((half m:Nat):Int),aa,aa,Xx 2 Yc 0 (Dn++[false]).length]) (h1:=[.live (Xc 4 Yc (Dn++[false]))]) rfl rfl hG)
theorem X2l:Wide Tryz.prog 60 none:=⟨_,Tryz.underlying60,(fun _ h=>by cases h),(fun _ _ h=>by cases h)⟩
section
variable (root:List UInt8) (tleaf:Bool) (nleaf:Bool) (leaf:List UInt8) (i:Int) (n:Int) (tp:Bool) (np:Bool) (p:List Y1) (k:Nat)
abbrev Z3w:AV:=slV tp np (X8 false) p
abbrev Z3x:AV:=Xx 0 Yc 0 (W8 i.toNat n.toNat).length
abbrev Z3y:AV:=vI ((p.length:Nat):Int)
abbrev Z3z:List HS:=[.live (Xc 4 Yc (W8 i.toNat n.toNat))]
abbrev Z40:St:=⟨[dv (Yn root),slV tleaf nleaf kU8 leaf,vI i,vI n,(Z3w tp np p),aa,aa,aa,aa,aa,aa,(Z3x i n),dv (Yn (climb (ofB 2 [leaf]) (p.take k))),aa,aa,aa,aa,aa,aa,aa,aa,aa,aa,aa,aa,aa,aa,aa,aa,aa,aa,aa,(Z3w tp np p),(Z3y p),vI ((k:Nat):Int)],(Z3z i n)⟩
abbrev Z42:AV:=vI ((k+1:Nat):Int)
end
theorem Xd3 (root:List UInt8) (tleaf:Bool) (nleaf:Bool) (leaf:List UInt8) (i:Int) (n:Int) (tp:Bool) (np:Bool) (p:List Y1) (hp:Jj szS 70 30000 p) (hl:leaf.length≤600) (hn:n≤9223372036854775807):Holds Tryz.prog 100 ⟨[dv (Yn root),slV tleaf nleaf kU8 leaf,vI i,vI n,slV tp np (X8 false) p],[],vI (Jk root leaf i n p),[]⟩:=by
 refine Holds.of Tryz.func100 rfl (N:=62) Tryz.ntmps100 rfl fun w0 B0 S0 U0=>?_
 show T _ (Y2 62 0 w0 S0 U0 B0) ⟨[dv (Yn root),slV tleaf nleaf kU8 leaf,vI i,vI n,(Z3w tp np p)],[]⟩ _ _
 have hp70:=hp.1
 refine sR [] (T.seq ?_)
 by_cases hq1:i<0
 ·refine sR (Xl (hN · false (dT hq1)) [3,4,5] (hP 6 (dT hq1)::[])) (cT (b:=true) rfl (sR [] (T.ret (rT ?_))))
  exact eRt 10 (.one (dI 2)) [] (cI (by exact Xc4 (by omega))) trivial
 refine sR (Xl (hY · (dF hq1)) [3,4,5] (hP 6 (dF hq1)::[])) ?_
 by_cases hq2:i≥n
 ·refine cT (dT hq2) (sR [] (T.ret (rT ?_)))
  exact eRt 10 (.one (dI 2)) [] (cI (by exact Xc4 (by omega))) trivial
 refine cF (dF hq2) (T.skip (nT (sR [hR 2 rfl rfl (rCa (Xd2 i n (by omega) ‹_›) Tryz.func141 [0] [(.tmp 22,vI i),(.tmp 23,vI n)] 0 1)] (T.seq (sR [] ?_)))))
 by_cases hq3:(((W8 i.toNat n.toNat).length:Nat):Int)≠((p.length:Nat):Int)
 ·refine cT (dT hq3) (sR [] (T.ret (rT ?_)))
  exact eRt 10 (.one (dI 90)) [] (cI (by exact chk_len (by omega) (by omega))) trivial
 refine cF (dF hq3) (T.skip (nT (sR [hR 1 rfl rfl (rCa (X5q (2:UInt8) tleaf nleaf leaf (by omega)) Tryz.func118 [] [(.const (.int .u8 2),dv (.int .u8 2)),(.tmp 30,slV tleaf nleaf kU8 leaf)] 0 0)] (T.seq (sR [] (T.block ?_))))))
 refine T.loop (ι:=Nat) (fun (k:Nat)=>(Z40 root tleaf nleaf leaf i n tp np p k)) (fun (k:Nat)=>(k≤p.length)∧((W8 i.toNat n.toNat).length=p.length)∧(∀ t,t<k→(p.getD t Yt).Ui=(W8 i.toNat n.toNat).getD t false)) (fun (k:Nat)=>p.length-k) (0) ⟨(Nat.zero_le _),(by omega),(fun j hj=>absurd hj (Nat.not_lt_zero _))⟩ (fun _ _ hG=>Yu [0] (bm 35 30064777247) (t2:=[dv (Yn root),slV tleaf nleaf kU8 leaf,vI i,vI n,(Z3w tp np p),aa,aa,aa,aa,aa,aa,(Z3x i n),dv (Yn (ofB (2:UInt8) [leaf])),aa,aa,aa,aa,aa,aa,aa,aa,aa,aa,aa,aa,aa,aa,aa,aa,aa,aa,aa,(Z3w tp np p),(Z3y p),vI 0]) (congrArg (fun (q1:List UInt8)=>([dv (Yn root),slV tleaf nleaf kU8 leaf,vI i,vI n,(Z3w tp np p),aa,aa,aa,aa,aa,aa,(Z3x i n),dv (Yn q1),aa,aa,aa,aa,aa,aa,aa,aa,aa,aa,aa,aa,aa,aa,aa,aa,aa,aa,aa,(Z3w tp np p),(Z3y p),vI 0]:List AV)) (by rfl)) rfl hG) ?_
 rintro k ⟨hk,hsl,hb⟩
 show T _ _ (Z40 root tleaf nleaf leaf i n tp np p k) _ _
 replace hk:k≤p.length:=hk
 replace hsl:(W8 i.toNat n.toNat).length=p.length:=hsl
 replace hb:∀ t,t<k→(p.getD t Yt).Ui=(W8 i.toNat n.toNat).getD t false:=hb
 have hk70:(p.take k).length≤70:=by rw [List.length_take];have:=hp.1;omega
 have hcl:=Xc3 (p:=p.take k) (m:=30000) (fun s hs=>hp.2 s (List.mem_of_mem_take hs)) (ofB 2 [leaf])
 have hlf:=X9n 2 leaf
 have hgd:((p.getD k Yt).Xe).length≤30000:=Jw (sz:=szS) hp (by decide) k
 refine sR [] (T.seq ?_)
 by_cases hq4:((k:Nat):Int)<((p.length:Nat):Int)
 ·refine cT (dT hq4) (T.skip (nT (T.seq (T.block (sR [hR 1 rfl rfl (Wi tp np (X8 false) p k (k:=.i64) (i:=((k:Nat):Int)) Tryz.underlying47 I9 rfl rfl (by omega) (X2 rfl) trivial)] (T.block ?_))))))
  refine sD [[],[0],[],[],[2,3],[2,3,4],[0,1,2,3,4,5],[0,1,2,3,4,5,6]] [hR 4 rfl rfl (Ww (k:=.i64) (l:=0) (sz:=Yc.sz) (off:=0) (n:=(W8 i.toNat n.toNat).length) (i:=((k:Nat):Int)) (m:=k) (o':=k*Yc.sz+0) Tryz.underlying192 X24 rfl rfl (by omega) (by simp) (X2 rfl) trivial),hR 5 rfl rfl (Jo (l:=0) (off:=k*Yc.sz+0) (i:=k) (j:=0) (T:=4) (sz:=Yc.sz) (n:=(W8 i.toNat n.toNat).length) (el:=W5 Yc (W8 i.toNat n.toNat)) (c:=.val (.bool ((W8 i.toNat n.toNat).getD k false))) Xgq rfl (by omega) (by decide) rfl (X2 rfl) trivial)] ?_
  by_cases hq5:(p.getD k Yt).Ui≠((W8 i.toNat n.toNat).getD k false)
  ·refine cT (dT hq5) (sR [] (T.ret (rB (rB (rT (rT (rB (rT ?_))))))))
   exact eRt 10 (.one (dI 90)) [] (cI (by exact chk_at (p:=p) (k:=k) (by omega) (by omega) ‹_›)) trivial
  refine cF (dF hq5) (sR [] ?_)
  by_cases hq6:(p.getD k Yt).Ui=true
  ·refine cT hq6 (xK [hR 3 rfl rfl (rCa (X5p (3:UInt8) (p.getD k Yt).Xe (climb (ofB 2 [leaf]) (p.take k)) (by omega)) Tryz.func142 [] [(.const (.int .u8 3),dv (.int .u8 3)),(.tmp 55,dv (Yn (p.getD k Yt).Xe)),(.tmp 56,dv (Yn (climb (ofB 2 [leaf]) (p.take k))))] 0 0)] (nB (nB (nT (xK [hR 0 rfl rfl (Yb (u1:=.int .i64 ((k:Nat):Int)) (u2:=.int .i64 1) (v:=.int .i64 ((k+1:Nat):Int)) (Wb pZ9) (X2 rfl) ⟨rfl,trivial⟩)] ?_)))))
   refine nL (k+1) ⟨(show (k+1)≤p.length from (by omega)),(show (W8 i.toNat n.toNat).length=p.length from hsl),(show ∀ t,t<(k+1)→(p.getD t Yt).Ui=(W8 i.toNat n.toNat).getD t false from (Im hb p1w))⟩ (show (p.length-(k+1):Nat)<p.length-k from (by omega)) (fun _ _ hG=>Yu [0] (bm 35 30064777247) (t2:=[dv (Yn root),slV tleaf nleaf kU8 leaf,vI i,vI n,(Z3w tp np p),aa,aa,aa,aa,aa,aa,(Z3x i n),dv (Yn (ofB (3:UInt8) [(p.getD k Yt).Xe,(climb (ofB 2 [leaf]) (p.take k))])),aa,aa,aa,aa,aa,aa,aa,aa,aa,aa,aa,aa,aa,aa,aa,aa,aa,aa,aa,(Z3w tp np p),(Z3y p),(Z42 k)]) (by have e1:((climb (ofB 2 [leaf]) (p.take (k+1))):List UInt8)=(ofB (3:UInt8) [(p.getD k Yt).Xe,(climb (ofB 2 [leaf]) (p.take k))]):=(by (have h8:(p.getD k Yt).Ui=(W8 i.toNat n.toNat).getD k false:=Classical.not_not.1 ‹_›;rw [Xa2 (p:=p) (k:=k) _ (by omega),Ew];(have h7:(p.getD k Yt).Ui=true:=‹_›;rw [if_pos h7])));have hE:=congrArg (fun (q1:List UInt8)=>([dv (Yn root),slV tleaf nleaf kU8 leaf,vI i,vI n,(Z3w tp np p),aa,aa,aa,aa,aa,aa,(Z3x i n),dv (Yn q1),aa,aa,aa,aa,aa,aa,aa,aa,aa,aa,aa,aa,aa,aa,aa,aa,aa,aa,aa,(Z3w tp np p),(Z3y p),(Z42 k)]:List AV)) e1;exact hE) rfl hG)
  replace hq6:=Bool.eq_false_iff.2 hq6
  refine cF hq6 (xK [hR 3 rfl rfl (rCa (X5p (3:UInt8) (climb (ofB 2 [leaf]) (p.take k)) (p.getD k Yt).Xe (by omega)) Tryz.func142 [] [(.const (.int .u8 3),dv (.int .u8 3)),(.tmp 39,dv (Yn (climb (ofB 2 [leaf]) (p.take k)))),(.tmp 41,dv (Yn (p.getD k Yt).Xe))] 0 0)] (nB (nB (nT (xK [hR 0 rfl rfl (Yb (u1:=.int .i64 ((k:Nat):Int)) (u2:=.int .i64 1) (v:=.int .i64 ((k+1:Nat):Int)) (Wb pZ9) (X2 rfl) ⟨rfl,trivial⟩)] ?_)))))
  refine nL (k+1) ⟨(show (k+1)≤p.length from (by omega)),(show (W8 i.toNat n.toNat).length=p.length from hsl),(show ∀ t,t<(k+1)→(p.getD t Yt).Ui=(W8 i.toNat n.toNat).getD t false from (Im hb p1w))⟩ (show (p.length-(k+1):Nat)<p.length-k from (by omega)) (fun _ _ hG=>Yu [0] (bm 35 30064777247) (t2:=[dv (Yn root),slV tleaf nleaf kU8 leaf,vI i,vI n,(Z3w tp np p),aa,aa,aa,aa,aa,aa,(Z3x i n),dv (Yn (ofB (3:UInt8) [(climb (ofB 2 [leaf]) (p.take k)),(p.getD k Yt).Xe])),aa,aa,aa,aa,aa,aa,aa,aa,aa,aa,aa,aa,aa,aa,aa,aa,aa,aa,aa,(Z3w tp np p),(Z3y p),(Z42 k)]) (by have e1:((climb (ofB 2 [leaf]) (p.take (k+1))):List UInt8)=(ofB (3:UInt8) [(climb (ofB 2 [leaf]) (p.take k)),(p.getD k Yt).Xe]):=(by (have h8:(p.getD k Yt).Ui=(W8 i.toNat n.toNat).getD k false:=Classical.not_not.1 ‹_›;rw [Xa2 (p:=p) (k:=k) _ (by omega),Ew];(have h7:(p.getD k Yt).Ui=false:=‹_›;rw [if_neg (by rw [h7];decide)])));have hE:=congrArg (fun (q1:List UInt8)=>([dv (Yn root),slV tleaf nleaf kU8 leaf,vI i,vI n,(Z3w tp np p),aa,aa,aa,aa,aa,aa,(Z3x i n),dv (Yn q1),aa,aa,aa,aa,aa,aa,aa,aa,aa,aa,aa,aa,aa,aa,aa,aa,aa,aa,aa,(Z3w tp np p),(Z3y p),(Z42 k)]:List AV)) e1;exact hE) rfl hG)
 refine cF (dF hq4) (T.exit (xT (xT (xH (nT (T.seq (sR [] ?_)))))))
 by_cases hq7:(climb (ofB 2 [leaf]) (p.take k))≠root
 ·refine cT (dT hq7) (sR [] (T.ret (rT ?_)))
  exact eRt 10 (.one (dI 90)) [] (by have e1:((Jk root leaf i n p):Int)=90:=p4d;have hE:=cI e1;exact hE) trivial
 refine cF (dF hq7) (T.skip (nT (sR [] (T.ret ?_))))
 exact eRt 10 (.one (dI 0)) [] (by have e1:((Jk root leaf i n p):Int)=0:=p4d;have hE:=cI e1;exact hE) trivial
section
variable (root:List UInt8) (tleaf:Bool) (nleaf:Bool) (leaf:List UInt8) (i:Int) (n:Int) (tp:Bool) (np:Bool) (p:List Y1) (k:Nat)
end
section
variable (b:List UInt8) (tl:Bool) (nl:Bool) (l:List Int) (k:Nat)
abbrev Z4d:AV:=vI ((l.length:Nat):Int)
abbrev Z4e:St:=⟨[Xx 0 kU8 0 (b++W7 (l.take k)).length,slV tl nl (Yf .i64) l,aa,aa,aa,aa,aa,slV tl nl (Yf .i64) l,(Z4d l),vI ((k:Nat):Int)],[.live (Xc 5 kU8 (b++W7 (l.take k)))]⟩
abbrev Z4g:AV:=vI ((k+1:Nat):Int)
end
theorem X0s (tb:Bool) (nb:Bool) (b:List UInt8) (tl:Bool) (nl:Bool) (l:List Int) (hb:b.length≤140737488350000) (hl:1≤l.length∧l.length≤100):Holds Tryz.prog 135 ⟨[slV tb nb kU8 b,slV tl nl (Yf .i64) l],[],Xx 0 kU8 0 (b++W7 l).length,[.live (Xc 5 kU8 (b++W7 l))]⟩:=by
 refine Holds.of Tryz.func135 rfl (N:=18) Tryz.ntmps135 rfl fun w0 B0 S0 U0=>?_
 show T _ (Y2 18 0 w0 S0 U0 B0) ⟨[slV tb nb kU8 b,slV tl nl (Yf .i64) l],[]⟩ _ _
 refine sR [] (T.seq (sR [] (T.block ?_)))
 refine Xpr ?_
 refine Xk1 (sR [] (T.seq ?_))
 by_cases hq1:0<((l.length:Nat):Int)
 rotate_left
 ·exact absurd (by omega) hq1
 refine cT (dT hq1) (T.skip (nT (T.seq (T.block (sR [hR 0 rfl rfl (Wi tl nl (Yf .i64) l 0 (k:=.i64) (i:=0) Tryz.underlying24 Ut rfl rfl (by omega) (X2 rfl) trivial)] (xK [hR 2 rfl rfl (rCa (X6e tb nb b (l.getD 0 0) (by omega)) Tryz.func168 [0] [(.tmp 13,slV tb nb kU8 b),(.tmp 14,vI (l.getD 0 0))] 0 1)] (nB (nT (xK [hR 0 rfl rfl (Yb (u1:=.int .i64 0) (u2:=.int .i64 1) (v:=.int .i64 1) (Wb pZ9) (X2 rfl) ⟨rfl,trivial⟩)] ?_)))))))))
 refine nP ?_
 refine TL.loop (ι:=Nat) (fun (k:Nat)=>(Z4e b tl nl l k)) (fun (k:Nat)=>(1≤k∧k≤l.length)) (fun (k:Nat)=>l.length-k) (1) (by omega) (fun _ _ hG=>Yu [0] (bm 10 899) (t2:=[Xx 0 kU8 0 (b++Yp (l.getD 0 0)).length,slV tl nl (Yf .i64) l,aa,aa,aa,aa,aa,slV tl nl (Yf .i64) l,(Z4d l),vI 1]) (h2:=[.live (Xc 5 kU8 (b++Yp (l.getD 0 0)))]) (by have e1:((b++W7 (l.take 1)).length:Nat)=(b++Yp (l.getD 0 0)).length:=(by (rw [Xfj (by omega)]));have hE:=congrArg (fun (q1:Nat)=>([Xx 0 kU8 0 q1,slV tl nl (Yf .i64) l,aa,aa,aa,aa,aa,slV tl nl (Yf .i64) l,(Z4d l),vI 1]:List AV)) e1;exact hE) (by have e1:((b++W7 (l.take 1)):List UInt8)=b++Yp (l.getD 0 0):=(by (rw [Xfj (by omega)]));have hE:=congrArg (fun (q1:List UInt8)=>([.live (Xc 5 kU8 q1)]:List HS)) e1;exact hE) hG) ?_
 rintro k hk
 show T _ _ (Z4e b tl nl l k) _ _
 replace hk:1≤k∧k≤l.length:=hk
 have hil:=Ij (l.take k)
 have htk:(l.take k).length=k:=p1d
 refine sR [] (T.seq ?_)
 by_cases hq2:((k:Nat):Int)<((l.length:Nat):Int)
 ·refine cT (dT hq2) (T.skip (nT (T.seq (T.block (sR [hR 0 rfl rfl (Wi tl nl (Yf .i64) l k (k:=.i64) (i:=((k:Nat):Int)) Tryz.underlying24 Ut rfl rfl (by omega) (X2 rfl) trivial)] ?_)))))
  refine xK [hR 2 rfl rfl (Wt (X6e true false (b++W7 (l.take k)) (l.getD k 0) (by (simp [maxLen,-List.getD_eq_getElem?_getD]<;>omega))) Tryz.func168 rfl (by decide) [1] [0] (l:=[(.tmp 13,Xx 0 kU8 0 (b++W7 (l.take k)).length),(.tmp 14,vI (l.getD k 0))]) [(0,.live (Xc 5 kU8 (b++W7 (l.take k))))] rfl 0 1 rfl rfl rfl rfl rfl rfl rfl rfl rfl ⟨.inr (.inl ⟨rfl,pZs,rfl,rfl,by simp,5,(b++W7 (l.take k)).length,W5 kU8 (b++W7 (l.take k)),List.Mem.head _,pf,fun i j=>by rw [Nat.zero_add]⟩),⟨.inl ⟨rfl,rfl⟩,trivial⟩⟩ rfl pZ3 ph (X2 rfl) trivial)] ?_
  refine nB (nT (xK [hR 0 rfl rfl (Yb (u1:=.int .i64 ((k:Nat):Int)) (u2:=.int .i64 1) (v:=.int .i64 ((k+1:Nat):Int)) (Wb pZ9) (X2 rfl) ⟨rfl,trivial⟩)] ?_))
  refine nL (k+1) (show 1≤(k+1)∧(k+1)≤l.length from (by omega)) (show (l.length-(k+1):Nat)<l.length-k from (by omega)) (fun _ _ hG=>Wf [1] (bm 10 899) (t1:=[Xx 1 kU8 0 (b++W7 (l.take (k+1))).length,slV tl nl (Yf .i64) l,aa,aa,aa,aa,aa,slV tl nl (Yf .i64) l,(Z4d l),(Z4g k)]) (t2:=[Xx 1 kU8 0 ((b++W7 (l.take k))++Yp (l.getD k 0)).length,slV tl nl (Yf .i64) l,aa,aa,aa,aa,aa,slV tl nl (Yf .i64) l,(Z4d l),(Z4g k)]) (h1:=[.live (Xc 5 kU8 (b++W7 (l.take (k+1))))]) (h2:=[.live (Xc 5 kU8 ((b++W7 (l.take k))++Yp (l.getD k 0)))]) (by have e1:((b++W7 (l.take (k+1))).length:Nat)=((b++W7 (l.take k))++Yp (l.getD k 0)).length:=(by (rw [X61 (by omega),List.append_assoc]));have hE:=congrArg (fun (q1:Nat)=>([Xx 1 kU8 0 q1,slV tl nl (Yf .i64) l,aa,aa,aa,aa,aa,slV tl nl (Yf .i64) l,(Z4d l),(Z4g k)]:List AV)) e1;exact hE) (by have e1:((b++W7 (l.take (k+1))):List UInt8)=(b++W7 (l.take k))++Yp (l.getD k 0):=(by (rw [X61 (by omega),List.append_assoc]));have hE:=congrArg (fun (q1:List UInt8)=>([.live (Xc 5 kU8 q1)]:List HS)) e1;exact hE) hG)
 refine cF (dF hq2) (T.exit (xT (xT (xH (nT (sR [] (T.ret ?_)))))))
 exact eRt 4 (.one (.own 0 kU8.sz 0 (b++W7 (l.take k)).length)) [0] (by have e1:((b++W7 l).length:Nat)=(b++W7 (l.take k)).length:=p4x;have hE:=congrArg (fun (q1:Nat)=>(Xx 0 kU8 0 q1:AV)) e1;exact hE) ⟨⟨rfl,(by have e1:((b++W7 (l.take k)):List UInt8)=b++W7 l:=p4x;have hE:=congrArg (fun (q1:List UInt8)=>(.live (Xc 5 kU8 q1):HS)) e1;exact Eq.trans pZ4 hE)⟩,trivial⟩
theorem Xa5 (te:Bool) (e:aE) (r:Xw) (hb:e.Xh.length≤100000000):Holds Tryz.prog 101 ⟨[.tv (.agg [dI e.f_Signer,.d (dsl te false kU8 e.Xh)]),.tv (.agg [dI r.Y0,dI r.Xq])],[],Xx 0 kU8 0 (V9 e r).length,[.live (Xc 5 kU8 (V9 e r))]⟩:=by
 refine Holds.of Tryz.func101 rfl (N:=18) Tryz.ntmps101 rfl fun w0 B0 S0 U0=>?_
 show T _ (Y2 18 0 w0 S0 U0 B0) ⟨[.tv (.agg [dI e.f_Signer,.d (dsl te false kU8 e.Xh)]),.tv (.agg [dI r.Y0,dI r.Xq])],[]⟩ _ _
 have hi1:=Wd e.f_Signer
 have hi2:(W7 [e.f_Signer]).length=8:=Ij [e.f_Signer]
 have hi2n:(([]:List UInt8)++W7 [e.f_Signer]).length=8:=Ij [e.f_Signer]
 have hy:=V7 e.Xh
 refine sR [] ?_
 refine sD [[],[0],[0,1],[0,1,2],[],[4],[0,1,2,3,4,5],[],[7],[],[9],[7,8,9,10],[0,1,2,3,4,5,6,7,8,9,10,11],[0,1,2,3,4,5,6,7,8,9,10,11,12]] [hR 2 rfl rfl (Y7 2 3 (Yf .i64) (H2 .i64) [e.f_Signer] [⟨0,.tmp 6,.one (dI e.f_Signer),0⟩] (cs:=[dI e.f_Signer]) Tryz.underlying24 Ut rfl Fs rfl rfl rfl pb (Ym rfl rfl pb W3) pZ4 (V2 pZ4) (X2 rfl) trivial),hR 3 rfl rfl (Wt (X0s false false ([]:List UInt8) true false [e.f_Signer] (by (simp [maxLen,-List.getD_eq_getElem?_getD]<;>omega)) (by (simp [maxLen,-List.getD_eq_getElem?_getD]<;>omega))) Tryz.func135 rfl (by decide) [3] [2] (l:=[(.const (.slice none 0 0),dv (.slice none 0 0)),(.tmp 7,Xx 2 (Yf .i64) 0 [e.f_Signer].length)]) [(2,.live (Xc 3 (Yf .i64) [e.f_Signer]))] rfl 0 1 rfl rfl rfl rfl rfl rfl rfl rfl rfl ⟨.inr pZ8,⟨.inr (.inl ⟨rfl,pZs,rfl,rfl,by simp,3,[e.f_Signer].length,W5 (Yf .i64) [e.f_Signer],List.Mem.head _,pf,fun i j=>by rw [Nat.zero_add]⟩),trivial⟩⟩ rfl pZ3 ph (X2 rfl) ⟨rfl,trivial⟩),hR 6 rfl rfl (Wt (X3b true false (([]:List UInt8)++W7 [e.f_Signer]) te false e.Xh (by omega)) Tryz.func132 rfl (by decide) [4] [3] (l:=[(.tmp 8,Xx 3 kU8 0 (([]:List UInt8)++W7 [e.f_Signer]).length),(.tmp 10,slV te false kU8 e.Xh)]) [(3,.live (Xc 5 kU8 (([]:List UInt8)++W7 [e.f_Signer])))] rfl 0 1 rfl rfl rfl rfl rfl rfl rfl rfl rfl ⟨.inr (.inl ⟨rfl,pZs,rfl,rfl,by simp,5,(([]:List UInt8)++W7 [e.f_Signer]).length,W5 kU8 (([]:List UInt8)++W7 [e.f_Signer]),List.Mem.head _,pf,fun i j=>by rw [Nat.zero_add]⟩),⟨.inl ⟨rfl,rfl⟩,trivial⟩⟩ rfl pZ3 ph (X2 rfl) trivial),hR 11 rfl rfl (Y7 5 3 (Yf .i64) (H2 .i64) [r.Y0,r.Xq] [⟨0,.tmp 13,.one (dI r.Y0),0⟩,⟨1,.tmp 15,.one (dI r.Xq),1⟩] (cs:=[dI r.Y0,dI r.Xq]) Tryz.underlying24 Ut rfl Fs rfl rfl rfl pb (Ym rfl rfl pb (Ym rfl rfl pb W3)) pZ4 (V2 pZ4) (X2 rfl) trivial),hR 12 rfl rfl (Wt (X0s true false (([]:List UInt8)++W7 [e.f_Signer]++Yo e.Xh) true false [r.Y0,r.Xq] (by (simp [maxLen,-List.getD_eq_getElem?_getD]<;>omega)) (by (simp [maxLen,-List.getD_eq_getElem?_getD]<;>omega))) Tryz.func135 rfl (by decide) [6] [4,5] (l:=[(.tmp 11,Xx 4 kU8 0 (([]:List UInt8)++W7 [e.f_Signer]++Yo e.Xh).length),(.tmp 16,Xx 5 (Yf .i64) 0 [r.Y0,r.Xq].length)]) [(4,.live (Xc 5 kU8 (([]:List UInt8)++W7 [e.f_Signer]++Yo e.Xh))),(5,.live (Xc 3 (Yf .i64) [r.Y0,r.Xq]))] rfl 0 1 rfl rfl rfl rfl rfl rfl rfl rfl rfl ⟨.inr (.inl ⟨rfl,pZs,rfl,rfl,by simp,5,(([]:List UInt8)++W7 [e.f_Signer]++Yo e.Xh).length,W5 kU8 (([]:List UInt8)++W7 [e.f_Signer]++Yo e.Xh),List.Mem.head _,pf,fun i j=>by rw [Nat.zero_add]⟩),⟨.inr (.inl ⟨rfl,pZs,rfl,rfl,by simp,3,[r.Y0,r.Xq].length,W5 (Yf .i64) [r.Y0,r.Xq],List.Mem.tail _ (List.Mem.head _),pf,fun i j=>by rw [Nat.zero_add]⟩),trivial⟩⟩ rfl (by intro b hb;simp only [List.mem_cons,List.not_mem_nil,or_false] at hb;rcases hb with rfl|rfl;exact ⟨_,List.Mem.head _⟩;exact ⟨_,List.Mem.tail _ (List.Mem.head _)⟩) ph (X2 rfl) trivial)] ?_
 refine T.ret ?_
 exact eRt 4 (.one (.own 6 kU8.sz 0 (([]:List UInt8)++W7 [e.f_Signer]++Yo e.Xh++W7 [r.Y0,r.Xq]).length)) [6] (by have e1:((V9 e r).length:Nat)=(([]:List UInt8)++W7 [e.f_Signer]++Yo e.Xh++W7 [r.Y0,r.Xq]).length:=(by (simp [V9,W7];done));have hE:=congrArg (fun (q1:Nat)=>(Xx 6 kU8 0 q1:AV)) e1;exact hE) ⟨⟨rfl,(by have e1:(([]:List UInt8)++W7 [e.f_Signer]++Yo e.Xh++W7 [r.Y0,r.Xq]:List UInt8)=V9 e r:=(by (simp [V9,W7];done));have hE:=congrArg (fun (q1:List UInt8)=>(.live (Xc 5 kU8 q1):HS)) e1;exact Eq.trans pZ4 hE)⟩,trivial⟩
theorem Xh3 (te:Bool) (e:aE) (r:Xw) (hb:e.Xh.length≤100000000):Holds Tryz.prog 103 ⟨[.tv (.agg [dI e.f_Signer,.d (dsl te false kU8 e.Xh)]),.tv (.agg [dI r.Y0,dI r.Xq])],[],Xx 0 kU8 0 (V9 e r).length,[.live (Xc 5 kU8 (V9 e r))]⟩:=by
 refine Holds.of Tryz.func103 rfl (N:=19) Tryz.ntmps103 rfl fun w0 B0 S0 U0=>?_
 show T _ (Y2 19 0 w0 S0 U0 B0) ⟨[.tv (.agg [dI e.f_Signer,.d (dsl te false kU8 e.Xh)]),.tv (.agg [dI r.Y0,dI r.Xq])],[]⟩ _ _
 have hi1:=Wd e.f_Signer
 have hi2:=Wd r.Y0
 have hy:=V7 e.Xh
 refine sR [] ?_
 refine sD [[],[0],[0,1],[],[3],[0,1,2,3,4],[0,1,2,3,4,5]] [hR 2 rfl rfl (rCn (U7 false false ([]:List UInt8) e.f_Signer (by (simp [maxLen,-List.getD_eq_getElem?_getD]<;>omega))) Tryz.func63 [2] [(.const (.slice none 0 0),dv (.slice none 0 0)),(.tmp 7,vI e.f_Signer)] 0 1 ⟨.inr pZ8,⟨.inl ⟨rfl,rfl⟩,trivial⟩⟩ ⟨rfl,trivial⟩),hR 5 rfl rfl (Wt (Ie true false (([]:List UInt8)++Yp e.f_Signer) te false e.Xh (by (simp [maxLen,-List.getD_eq_getElem?_getD]<;>omega))) Tryz.func64 rfl (by decide) [3] [2] (l:=[(.tmp 8,Xx 2 kU8 0 (([]:List UInt8)++Yp e.f_Signer).length),(.tmp 10,slV te false kU8 e.Xh)]) [(2,.live (Xc 5 kU8 (([]:List UInt8)++Yp e.f_Signer)))] rfl 0 1 rfl rfl rfl rfl rfl rfl rfl rfl rfl ⟨.inr (.inl ⟨rfl,pZs,rfl,rfl,by simp,5,(([]:List UInt8)++Yp e.f_Signer).length,W5 kU8 (([]:List UInt8)++Yp e.f_Signer),List.Mem.head _,pf,fun i j=>by rw [Nat.zero_add]⟩),⟨.inl ⟨rfl,rfl⟩,trivial⟩⟩ rfl pZ3 ph (X2 rfl) trivial)] ?_
 refine sD [[],[],[1],[0,1,2],[],[4],[0,1,2,3,4,5],[0,1,2,3,4,5,6]] [hR 3 rfl rfl (Wt (U7 true false (([]:List UInt8)++Yp e.f_Signer++Yo e.Xh) r.Y0 (by (simp [maxLen,-List.getD_eq_getElem?_getD]<;>omega))) Tryz.func63 rfl (by decide) [4] [3] (l:=[(.tmp 12,Xx 3 kU8 0 (([]:List UInt8)++Yp e.f_Signer++Yo e.Xh).length),(.tmp 14,vI r.Y0)]) [(3,.live (Xc 5 kU8 (([]:List UInt8)++Yp e.f_Signer++Yo e.Xh)))] rfl 0 1 rfl rfl rfl rfl rfl rfl rfl rfl rfl ⟨.inr (.inl ⟨rfl,pZs,rfl,rfl,by simp,5,(([]:List UInt8)++Yp e.f_Signer++Yo e.Xh).length,W5 kU8 (([]:List UInt8)++Yp e.f_Signer++Yo e.Xh),List.Mem.head _,pf,fun i j=>by rw [Nat.zero_add]⟩),⟨.inl ⟨rfl,rfl⟩,trivial⟩⟩ rfl pZ3 ph (X2 rfl) trivial),hR 6 rfl rfl (Wt (U7 true false (([]:List UInt8)++Yp e.f_Signer++Yo e.Xh++Yp r.Y0) r.Xq (by (simp [maxLen,-List.getD_eq_getElem?_getD]<;>omega))) Tryz.func63 rfl (by decide) [5] [4] (l:=[(.tmp 15,Xx 4 kU8 0 (([]:List UInt8)++Yp e.f_Signer++Yo e.Xh++Yp r.Y0).length),(.tmp 17,vI r.Xq)]) [(4,.live (Xc 5 kU8 (([]:List UInt8)++Yp e.f_Signer++Yo e.Xh++Yp r.Y0)))] rfl 0 1 rfl rfl rfl rfl rfl rfl rfl rfl rfl ⟨.inr (.inl ⟨rfl,pZs,rfl,rfl,by simp,5,(([]:List UInt8)++Yp e.f_Signer++Yo e.Xh++Yp r.Y0).length,W5 kU8 (([]:List UInt8)++Yp e.f_Signer++Yo e.Xh++Yp r.Y0),List.Mem.head _,pf,fun i j=>by rw [Nat.zero_add]⟩),⟨.inl ⟨rfl,rfl⟩,trivial⟩⟩ rfl pZ3 ph (X2 rfl) trivial)] ?_
 refine T.ret ?_
 exact eRt 4 (.one (.own 5 kU8.sz 0 (([]:List UInt8)++Yp e.f_Signer++Yo e.Xh++Yp r.Y0++Yp r.Xq).length)) [5] (congrArg (fun (q1:Nat)=>(Xx 5 kU8 0 q1:AV)) (by rfl)) ⟨⟨rfl,(by have e1:(([]:List UInt8)++Yp e.f_Signer++Yo e.Xh++Yp r.Y0++Yp r.Xq:List UInt8)=V9 e r:=(by rfl);have hE:=congrArg (fun (q1:List UInt8)=>(.live (Xc 5 kU8 q1):HS)) e1;exact Eq.trans pZ4 hE)⟩,trivial⟩
theorem X6w (tb_:Bool) (b:Xn) (hq:b.X7.length≤9223372036854775807) (hr:b.Xf.length≤9223372036854775807):Holds Tryz.prog 87 ⟨[.tv (.agg [dI b.X9,dS b.Xy,.d (dsl tb_ false (kE tb_) b.X7),.d (dsl tb_ false (Xb tb_) b.Xf)])],[],vI (Vd b),[]⟩:=by
 refine Holds.of Tryz.func87 rfl (N:=26) Tryz.ntmps87 rfl fun w0 B0 S0 U0=>?_
 show T _ (Y2 26 0 w0 S0 U0 B0) ⟨[.tv (.agg [dI b.X9,dS b.Xy,.d (dsl tb_ false (kE tb_) b.X7),.d (dsl tb_ false (Xb tb_) b.Xf)])],[]⟩ _ _
 refine sR [] (T.seq (T.block ?_))
 by_cases hq1:b.X9<1
 ·refine sR (Xl (hN · false (dT hq1)) [4,5,6] (hP 7 (dT hq1)::[])) (cT (b:=true) rfl (sR [] (T.ret (rB (rT ?_)))))
  exact eRt 2 (.one (dI 100)) [] p1r trivial
 refine sR (Xl (hY · (dF hq1)) [4,5,6] (hP 7 (dF hq1)::[])) ?_
 by_cases hq2:b.X9>1099511627776
 ·refine cT (dT hq2) (sR [] (T.ret (rB (rT ?_))))
  exact eRt 2 (.one (dI 100)) [] p1r trivial
 refine cF (dF hq2) ?_
 by_cases hq3:((b.X7.length:Nat):Int)≠((b.Xf.length:Nat):Int)
 ·refine sR (Xl (hN · false (dT hq3)) [8,9,10,11] (hP 12 (dT hq3)::[])) (cT (b:=true) rfl (sR [] (T.ret (rB (rT ?_)))))
  exact eRt 2 (.one (dI 102)) [] p1g trivial
 refine sR (Xl (hY · (dF hq3)) [8,9,10,11] (hP 12 (dF hq3)::[])) ?_
 by_cases hq4:((b.Xf.length:Nat):Int)>4
 ·refine cT (dT hq4) (sR [] (T.ret (rB (rT ?_))))
  exact eRt 2 (.one (dI 102)) [] p1g trivial
 refine cF (dF hq4) (T.skip (nB (nT (sR [] (T.ret ?_)))))
 exact eRt 2 (.one (dI 0)) [] p3l trivial
theorem X6q (tb_:Bool) (b:Xn) (hq:b.X7.length≤9223372036854775807) (hr:b.Xf.length≤9223372036854775807):Holds Tryz.prog 92 ⟨[.tv (.agg [dI b.X9,dS b.Xy,.d (dsl tb_ false (kE tb_) b.X7),.d (dsl tb_ false (Xb tb_) b.Xf)])],[],vI (Vd b),[]⟩:=by
 refine Holds.of Tryz.func92 rfl (N:=24) Tryz.ntmps92 rfl fun w0 B0 S0 U0=>?_
 show T _ (Y2 24 0 w0 S0 U0 B0) ⟨[.tv (.agg [dI b.X9,dS b.Xy,.d (dsl tb_ false (kE tb_) b.X7),.d (dsl tb_ false (Xb tb_) b.Xf)])],[]⟩ _ _
 refine sR [] (T.seq ?_)
 by_cases hq1:b.X9<1
 ·refine sR (Xl (hN · false (dT hq1)) [4,5,6] (hP 7 (dT hq1)::[])) (cT (b:=true) rfl (sR [] (T.ret (rT ?_))))
  exact eRt 2 (.one (dI 100)) [] p1r trivial
 refine sR (Xl (hY · (dF hq1)) [4,5,6] (hP 7 (dF hq1)::[])) ?_
 by_cases hq2:b.X9>1099511627776
 ·refine cT (dT hq2) (sR [] (T.ret (rT ?_)))
  exact eRt 2 (.one (dI 100)) [] p1r trivial
 refine cF (dF hq2) (T.skip (nT (T.seq ?_)))
 by_cases hq3:((b.X7.length:Nat):Int)≠((b.Xf.length:Nat):Int)
 ·refine sR (Xl (hN · false (dT hq3)) [8,9,10,11] (hP 12 (dT hq3)::[])) (cT (b:=true) rfl (sR [] (T.ret (rT ?_))))
  exact eRt 2 (.one (dI 102)) [] p1g trivial
 refine sR (Xl (hY · (dF hq3)) [8,9,10,11] (hP 12 (dF hq3)::[])) ?_
 by_cases hq4:((b.X7.length:Nat):Int)>4
 ·refine cT (dT hq4) (sR [] (T.ret (rT ?_)))
  exact eRt 2 (.one (dI 102)) [] p1g trivial
 refine cF (dF hq4) (T.skip (nT (sR [] (T.ret ?_))))
 exact eRt 2 (.one (dI 0)) [] p3l trivial
theorem Xg3:Elem Tryz.prog 136 25 1 24:=⟨Tryz.underlying136,_,_,Vw,rfl,rfl,rfl,rfl,by decide⟩
theorem E0:Tryz.prog.info? 46=some Tryz.t46:=by kernel_rfl
section
variable (tb_:Bool) (b:Xn) (k:Nat)
abbrev Z4h:List SV:=[dI b.X9,dS b.Xy,.d (dsl tb_ false (kE tb_) b.X7),.d (dsl tb_ false (Xb tb_) b.Xf)]
abbrev Z4i:AV:=vI (((Y5 b).length:Nat):Int)
abbrev Z4j:HS:=.live (.box 65 (Z4h tb_ b))
abbrev Z4k:St:=⟨[aa,pv 0 0,aa,Xx 1 (kSl false kU8) 0 (U8 [] (Y5 b) k).length,aa,aa,aa,aa,aa,aa,aa,aa,aa,aa,(Z4i b),vI ((k:Nat):Int)],[(Z4j tb_ b),.live (Xc 25 (kSl false kU8) (U8 [] (Y5 b) k))]⟩
abbrev Z4l:AV:=Xx 1 (kSl false kU8) 0 (U8 [] (Y5 b) 0).length
abbrev Z4n:=(V9 (b.X7.getD k zE) (b.Xf.getD k Ya))
abbrev Z4o:AV:=vI ((k+1:Nat):Int)
abbrev Z4p:List AV:=[aa,pv 0 0,aa,Xx 1 (kSl false kU8) 0 (U8 [] (Y5 b) k).length,vI ((k:Nat):Int),aa,aa,aa,aa,aa,aa,aa,aa,aa,(Z4i b),(Z4o k),vB (decide (((k:Nat):Int)<(((Y5 b).length:Nat):Int)))]
abbrev Z4q:HS:=.live (Xc 25 (kSl false kU8) (((U8 [] (Y5 b) k).set k (Z4n b k)).take (U8 [] (Y5 b) k).length))
end
theorem X5f (tb_:Bool) (b:Xn) (hf:fewW b):Holds Tryz.prog 109 ⟨[.tv (.agg [dI b.X9,dS b.Xy,.d (dsl tb_ false (kE tb_) b.X7),.d (dsl tb_ false (Xb tb_) b.Xf)])],[],Xx 0 (kSl false kU8) 0 (Y5 b).length,[.live (Xc 25 (kSl false kU8) (Y5 b))]⟩:=by
 refine Holds.of Tryz.func109 rfl (N:=34) Tryz.ntmps109 rfl fun w0 B0 S0 U0=>?_
 show T _ (Y2 34 0 w0 S0 U0 B0) ⟨[.tv (.agg (Z4h tb_ b))],[]⟩ _ _
 have hf1:=hf.1.1
 have hf2:=hf.2.1
 have hf3:=hf.2.2
 have hll:=Vn b
 have hfl:=Em hf
 refine sR [] (sR [hR 6 rfl rfl (r_minN (k:=.i64) (a:=b.X7.length) (b:=b.Xf.length) (X2 rfl) trivial),hR 7 rfl rfl (q_makeW 1 25 24 (kSl false kU8) (U8 [] (Y5 b) 0) (min b.X7.length b.Xf.length) (min b.X7.length b.Xf.length) (p:=((min b.X7.length b.Xf.length:Nat):Int)) (q:=((min b.X7.length b.Xf.length:Nat):Int)) Xg3 E8 rfl rfl (by omega) (by omega) (by (unfold maxLen;omega)) (by intro j hj;replace hj:j<1:=hj;rcases j with _|j<;>first|exact .inl rfl|exact .inr ⟨rfl,rfl,rfl⟩|omega) (by (rw [fill_0,hll];rfl)) (X2 rfl) trivial)] ?_)
 refine T.seq (sR [] (T.block ?_))
 refine T.loop (ι:=Nat) (fun (k:Nat)=>(Z4k tb_ b k)) (fun (k:Nat)=>(k≤(Y5 b).length)) (fun (k:Nat)=>(Y5 b).length-k) (0) (Nat.zero_le _) (fun _ _ hG=>Yu [0,1] (bm 16 49162) (t2:=[aa,pv 0 0,aa,(Z4l b),aa,aa,aa,aa,aa,aa,aa,aa,aa,aa,vI (((U8 [] (Y5 b) 0).length:Nat):Int),vI 0]) (by have e1:((((Y5 b).length:Nat):Int):Int)=(((U8 [] (Y5 b) 0).length:Nat):Int):=(by (simp only [X53];done));have hE:=congrArg (fun (q1:Int)=>([aa,pv 0 0,aa,(Z4l b),aa,aa,aa,aa,aa,aa,aa,aa,aa,aa,vI q1,vI 0]:List AV)) e1;exact hE) rfl hG) ?_
 rintro k hk
 show T _ _ (Z4k tb_ b k) _ _
 replace hk:k≤(Y5 b).length:=hk
 have hf1:=hf.1.1
 have hf2:=hf.2.1
 have hf3:=hf.2.2
 have hll:=Vn b
 have hfl:=Em hf
 have hbk:(b.X7.getD k zE).Xh.length≤20000:=Jw (sz:=szE) hf.1 (by decide) k
 have hfk:=X53 ([]:List UInt8) (Y5 b) k
 refine sR [] (T.seq ?_)
 by_cases hq1:((k:Nat):Int)<(((Y5 b).length:Nat):Int)
 ·refine cT (dT hq1) (T.skip (nT (T.seq (T.block (sR [] ?_)))))
  refine xD [[],[],[],[2],[],[2,3,4],[2,3,4,5],[],[7],[],[7,8,9],[7,8,9,10],[2,3,4,5,6,7,8,9,10,11],[0,1,2,3,4,5,6,7,8,9,10,11,12],[0,1,2,3,4,5,6,7,8,9,10,11,12,13]] [hR 5 rfl rfl (Wi tb_ false (kE tb_) b.X7 k (k:=.i64) (i:=((k:Nat):Int)) Tryz.underlying37 Vv rfl rfl (by omega) (X2 rfl) trivial),hR 10 rfl rfl (Wi tb_ false (Xb tb_) b.Xf k (k:=.i64) (i:=((k:Nat):Int)) Tryz.underlying63 E0 rfl rfl (by omega) (X2 rfl) trivial),hR 12 rfl rfl (rCa (Xa5 tb_ (b.X7.getD k zE) (b.Xf.getD k Ya) (by omega)) Tryz.func101 [2] [(.tmp 24,.tv (.agg [dI (b.X7.getD k zE).f_Signer,.d (dsl tb_ false kU8 (b.X7.getD k zE).Xh)])),(.tmp 29,.tv (.agg [dI (b.Xf.getD k Ya).Y0,dI (b.Xf.getD k Ya).Xq]))] 0 1),hR 13 rfl rfl (Ww (k:=.i64) (l:=1) (sz:=(kSl false kU8).sz) (off:=0) (n:=(U8 [] (Y5 b) k).length) (i:=((k:Nat):Int)) (m:=k) (o':=k*(kSl false kU8).sz+0) Tryz.underlying136 Vw rfl rfl (by omega) (by simp) (X2 rfl) trivial),hR 14 rfl rfl (Uz 1 30 2 5 kU8 (V9 (b.X7.getD k zE) (b.Xf.getD k Ya)) (av:=Xx 2 kU8 0 (Z4n b k).length) (Hj 1 25 (kSl false kU8) (U8 [] (Y5 b) k) (V9 (b.X7.getD k zE) (b.Xf.getD k Ya)) k 0 1 [dsl false false kU8 (Z4n b k)] (tv:=.one (dU (Z4n b k))) (off:=k*(kSl false kU8).sz+0) Xgd ⟨.inl rfl,trivial⟩ rfl rfl (by omega) (by decide) rfl (by intro j hj;replace hj:j<1:=hj;rcases j with _|j<;>first|rfl|omega) trivial) rfl (.inr pZ0) p2t rfl rfl)] pZ4 pZ4 pZ4 pZ4 pZ4 pZ4 ?_
  refine nB (nT (xK [hR 0 rfl rfl (Yb (u1:=.int .i64 ((k:Nat):Int)) (u2:=.int .i64 1) (v:=.int .i64 ((k+1:Nat):Int)) (Wb pZ9) (X2 rfl) ⟨rfl,trivial⟩)] ?_))
  refine eN ⟨(Z4p b k),[(Z4j tb_ b),.live (Xc 25 (kSl false kU8) ((U8 [] (Y5 b) k).set k (Z4n b k))),.dead]⟩ ?_
  refine Xa (s':=⟨(Z4p b k),[(Z4j tb_ b),(Z4q b k),.dead]⟩) (fun _ _ hG=>Xah 1 25 (kSl false kU8) ((U8 [] (Y5 b) k).set k (V9 (b.X7.getD k zE) (b.Xf.getD k Ya))) (((U8 [] (Y5 b) k).set k (V9 (b.X7.getD k zE) (b.Xf.getD k Ya))).take (U8 [] (Y5 b) k).length) (U8 [] (Y5 b) k).length rfl rfl hG) ?_
  refine nL (k+1) (show (k+1)≤(Y5 b).length from (by omega)) (show ((Y5 b).length-(k+1):Nat)<(Y5 b).length-k from (by omega)) (fun _ _ hG=>Yu [0,1] (bm 16 49162) (t2:=[aa,pv 0 0,aa,Xx 1 (kSl false kU8) 0 (U8 [] (Y5 b) k).length,aa,aa,aa,aa,aa,aa,aa,aa,aa,aa,(Z4i b),(Z4o k)]) (h2:=[(Z4j tb_ b),(Z4q b k)]) (by have e1:((U8 [] (Y5 b) (k+1)).length:Nat)=(U8 [] (Y5 b) k).length:=(by (simp only [X53,List.length_set]));have hE:=congrArg (fun (q1:Nat)=>([aa,pv 0 0,aa,Xx 1 (kSl false kU8) 0 q1,aa,aa,aa,aa,aa,aa,aa,aa,aa,aa,(Z4i b),(Z4o k)]:List AV)) e1;exact hE) (by have e1:((U8 [] (Y5 b) (k+1)):List (List UInt8))=(((U8 [] (Y5 b) k).set k (V9 (b.X7.getD k zE) (b.Xf.getD k Ya))).take (U8 [] (Y5 b) k).length):=(by (rw [← F4 (by omega) (by omega),fill_set (by omega),List.take_of_length_le (by simp only [X53];omega)]));have hE:=congrArg (fun (q1:List (List UInt8))=>([(Z4j tb_ b),.live (Xc 25 (kSl false kU8) q1)]:List HS)) e1;exact hE) hG)
 refine cF (dF hq1) (T.exit (xT (xT (xH (nT (sR [] (T.ret ?_)))))))
 exact eRt 2 (.one (.own 1 (kSl false kU8).sz 0 (U8 [] (Y5 b) k).length)) [1] (by have e1:((Y5 b).length:Nat)=(U8 [] (Y5 b) k).length:=(by (rw [Xfu (by omega)]));have hE:=congrArg (fun (q1:Nat)=>(Xx 1 (kSl false kU8) 0 q1:AV)) e1;exact hE) ⟨⟨rfl,(by have e1:((U8 [] (Y5 b) k):List (List UInt8))=(Y5 b):=(by (rw [Xfu (by omega)]));have hE:=congrArg (fun (q1:List (List UInt8))=>(.live (Xc 25 (kSl false kU8) q1):HS)) e1;exact Eq.trans pZ4 hE)⟩,trivial⟩
section
variable (tb_:Bool) (b:Xn) (k:Nat)
abbrev Z4s:List SV:=[dI b.X9,dS b.Xy,.d (dsl tb_ false (kE tb_) b.X7),.d (dsl tb_ false (Xb tb_) b.Xf)]
abbrev Z4t:HS:=.live (.box 65 (Z4s tb_ b))
abbrev Z4u:List AV:=[aa,pv 0 0,aa,Xx 1 (kSl false kU8) 0 ((Y5 b).take k).length,vI ((k:Nat):Int)]
abbrev Z4w:=(V9 (b.X7.getD k zE) (b.Xf.getD k Ya))
abbrev Z4x:AV:=vI ((k+1:Nat):Int)
end
theorem X4n (tb_:Bool) (b:Xn) (hf:fewW b):Holds Tryz.prog 97 ⟨[.tv (.agg [dI b.X9,dS b.Xy,.d (dsl tb_ false (kE tb_) b.X7),.d (dsl tb_ false (Xb tb_) b.Xf)])],[],Xx 0 (kSl false kU8) 0 (Y5 b).length,[.live (Xc 25 (kSl false kU8) (Y5 b))]⟩:=by
 refine Holds.of Tryz.func97 rfl (N:=34) Tryz.ntmps97 rfl fun w0 B0 S0 U0=>?_
 show T _ (Y2 34 0 w0 S0 U0 B0) ⟨[.tv (.agg (Z4s tb_ b))],[]⟩ _ _
 have hf1:=hf.1.1
 have hf2:=hf.2.1
 have hf3:=hf.2.2
 have hll:=Vn b
 have hfl:=Em hf
 refine sR [] (sR [] (T.seq (sR [] (T.block ?_))))
 refine tN ⟨[.tv (.agg (Z4s tb_ b)),pv 0 0,dv (.slice none 0 0),dv (.slice none 0 0),vI 0],[(Z4t tb_ b)]⟩ ?_
 refine Wy (s':=⟨[.tv (.agg (Z4s tb_ b)),pv 0 0,dv (.slice none 0 0),Xx 1 (kSl false kU8) 0 0,vI 0],[(Z4t tb_ b),.live (Xc 25 (kSl false kU8) ([]:List (List UInt8)))]⟩) (fun _ _ hG=>Vs 1 3 25 (kSl false kU8) rfl rfl hG) ?_
 refine T.loop (ι:=Nat) (fun (k:Nat)=>⟨(Z4u b k),[(Z4t tb_ b),.live (Xc 25 (kSl false kU8) ((Y5 b).take k))]⟩) (fun (k:Nat)=>(k≤(Y5 b).length)) (fun (k:Nat)=>(Y5 b).length-k) (0) (Nat.zero_le _) (fun _ _ hG=>Yu [0,1] (bm 5 26) (t2:=[aa,pv 0 0,aa,Xx 1 (kSl false kU8) 0 0,vI 0]) (h2:=[(Z4t tb_ b),.live (Xc 25 (kSl false kU8) ([]:List (List UInt8)))]) (congrArg (fun (q1:Nat)=>([aa,pv 0 0,aa,Xx 1 (kSl false kU8) 0 q1,vI 0]:List AV)) (by rfl)) (congrArg (fun (q1:List (List UInt8))=>([(Z4t tb_ b),.live (Xc 25 (kSl false kU8) q1)]:List HS)) (by rfl)) hG) ?_
 rintro k hk
 show T _ _ ⟨(Z4u b k),[(Z4t tb_ b),.live (Xc 25 (kSl false kU8) ((Y5 b).take k))]⟩ _ _
 replace hk:k≤(Y5 b).length:=hk
 have hf1:=hf.1.1
 have hf2:=hf.2.1
 have hf3:=hf.2.2
 have hll:=Vn b
 have hfl:=Em hf
 have hbk:(b.X7.getD k zE).Xh.length≤20000:=Jw (sz:=szE) hf.1 (by decide) k
 refine T.seq ?_
 by_cases hq1:((k:Nat):Int)<((b.X7.length:Nat):Int)
 ·refine sR (Xl (hY · (dT hq1)) [6,7,8,9,10] (hP 11 (dT hq1)::[])) ?_
  by_cases hq2:((k:Nat):Int)<((b.Xf.length:Nat):Int)
  ·refine cT (dT hq2) (T.skip (nT (T.seq (T.block ?_))))
   refine xD [[],[],[1],[],[1,2,3],[1,2,3,4],[],[6],[],[6,7,8],[6,7,8,9],[1,2,3,4,5,6,7,8,9,10],[1,2,3,4,5,6,7,8,9,10,11],[0,1,2,3,4,5,6,7,8,9,10,11,12],[0,1,2,3,4,5,6,7,8,9,10,11,12,13]] [hR 4 rfl rfl (Wi tb_ false (kE tb_) b.X7 k (k:=.i64) (i:=((k:Nat):Int)) Tryz.underlying37 Vv rfl rfl (by omega) (X2 rfl) trivial),hR 9 rfl rfl (Wi tb_ false (Xb tb_) b.Xf k (k:=.i64) (i:=((k:Nat):Int)) Tryz.underlying63 E0 rfl rfl (by omega) (X2 rfl) trivial),hR 11 rfl rfl (rCa (Xh3 tb_ (b.X7.getD k zE) (b.Xf.getD k Ya) (by omega)) Tryz.func103 [2] [(.tmp 24,.tv (.agg [dI (b.X7.getD k zE).f_Signer,.d (dsl tb_ false kU8 (b.X7.getD k zE).Xh)])),(.tmp 29,.tv (.agg [dI (b.Xf.getD k Ya).Y0,dI (b.Xf.getD k Ya).Xq]))] 0 1),hR 12 rfl rfl (Uz 0 30 2 5 kU8 (V9 (b.X7.getD k zE) (b.Xf.getD k Ya)) (av:=Xx 2 kU8 0 (Z4w b k).length) (Y7 3 25 (kSl false kU8) (X23 false kU8) [V9 (b.X7.getD k zE) (b.Xf.getD k Ya)] [⟨0,.tmp 30,.one (dU (Z4w b k)),0⟩] (cs:=[dU (Z4w b k)]) Tryz.underlying136 Vw rfl E8 rfl rfl rfl pb (Ym rfl rfl pb W3) pZ4 (V2 pZ4) (X2 rfl) trivial) rfl (.inr pZ0) p2t rfl rfl),hR 13 rfl rfl (Yv 1 4 25 24 (kSl false kU8) (X23 false kU8) ((Y5 b).take k) [V9 (b.X7.getD k zE) (b.Xf.getD k Ya)] (((Y5 b).take k)++[V9 (b.X7.getD k zE) (b.Xf.getD k Ya)]) ((Y5 b).take k).length (sy:=(.own 3 (kSl false kU8).sz 0 [V9 (b.X7.getD k zE) (b.Xf.getD k Ya)].length)) (rhs:=[(3,.live (Xc 25 (kSl false kU8) [V9 (b.X7.getD k zE) (b.Xf.getD k Ya)]))]) Xg3 (by omega) (V0 3 25 (kSl false kU8) [V9 (b.X7.getD k zE) (b.Xf.getD k Ya)]) px (by (simp [maxLen,-List.getD_eq_getElem?_getD]<;>omega)) (by (simp [maxLen,-List.getD_eq_getElem?_getD]<;>omega)) (X2 rfl) trivial)] pZ4 pZ4 pZ4 pZ4 pZ4 pZ4 ?_
   refine nB (nT (xK [hR 1 rfl rfl (Yb (u1:=.int .i64 ((k:Nat):Int)) (u2:=.int .i64 1) (v:=.int .i64 ((k+1:Nat):Int)) (Wb pZ9) (X2 rfl) ⟨rfl,trivial⟩)] ?_))
   refine nL (k+1) (show (k+1)≤(Y5 b).length from (by omega)) (show ((Y5 b).length-(k+1):Nat)<(Y5 b).length-k from (by omega)) (fun _ _ hG=>Wf [0,4] (bm 5 26) (t1:=[aa,pv 0 0,aa,Xx 4 (kSl false kU8) 0 ((Y5 b).take (k+1)).length,(Z4x k)]) (t2:=[aa,pv 0 0,aa,Xx 4 (kSl false kU8) 0 (((Y5 b).take k)++[V9 (b.X7.getD k zE) (b.Xf.getD k Ya)]).length,(Z4x k)]) (h1:=[(Z4t tb_ b),.live (Xc 25 (kSl false kU8) ((Y5 b).take (k+1)))]) (h2:=[(Z4t tb_ b),.live (Xc 25 (kSl false kU8) (((Y5 b).take k)++[V9 (b.X7.getD k zE) (b.Xf.getD k Ya)]))]) (by have e1:(((Y5 b).take (k+1)).length:Nat)=(((Y5 b).take k)++[V9 (b.X7.getD k zE) (b.Xf.getD k Ya)]).length:=p4w;have hE:=congrArg (fun (q1:Nat)=>([aa,pv 0 0,aa,Xx 4 (kSl false kU8) 0 q1,(Z4x k)]:List AV)) e1;exact hE) (by have e1:(((Y5 b).take (k+1)):List (List UInt8))=((Y5 b).take k)++[V9 (b.X7.getD k zE) (b.Xf.getD k Ya)]:=p4w;have hE:=congrArg (fun (q1:List (List UInt8))=>([(Z4t tb_ b),.live (Xc 25 (kSl false kU8) q1)]:List HS)) e1;exact hE) hG)
  refine cF (dF hq2) (T.exit (xT (xT (xH (nT (sR [] (T.ret ?_)))))))
  exact eRt 2 (.one (.own 1 (kSl false kU8).sz 0 ((Y5 b).take k).length)) [1] p36 ⟨⟨rfl,pZ30⟩,trivial⟩
 refine sR (Xl (hN · true (dF hq1)) [6,7,8,9,10] (hP 11 (dF hq1)::[])) (cF (b:=false) rfl (T.exit (xT (xT (xH (nT (sR [] (T.ret ?_))))))))
 exact eRt 2 (.one (.own 1 (kSl false kU8).sz 0 ((Y5 b).take k).length)) [1] p36 ⟨⟨rfl,pZ30⟩,trivial⟩
theorem Ik:Tryz.prog.info? 69=some Tryz.t69:=by kernel_rfl
theorem X7k:Zero Tryz.prog 69 [.int .i64 0,Yn [],.int .i64 0,Yn []]:=⟨_,_,Ik,rfl,rfl⟩
theorem X62:Tryz.prog.info? 65=some Tryz.t65:=by kernel_rfl
theorem Hc:Wide Tryz.prog 65 (some 4):=⟨_,_,Tryz.underlying65,.inl ⟨_,rfl⟩,X62,rfl⟩
theorem Xih:Wide Tryz.prog 69 (some 4):=⟨_,_,Tryz.underlying69,.inl ⟨_,rfl⟩,Ik,rfl⟩
abbrev Z4y (tb_:Bool) (b:Xn):AV:=.tv (.agg [dI b.X9,dS b.Xy,.d (dsl tb_ false (kE tb_) b.X7),.d (dsl tb_ false (Xb tb_) b.Xf)])
theorem X0t (tb_:Bool) (b:Xn) (hf:Hv b):Holds Tryz.prog 53 ⟨[.tv (.agg [dI b.X9,dS b.Xy,.d (dsl tb_ false (kE tb_) b.X7),.d (dsl tb_ false (Xb tb_) b.Xf)])],[],.tv (.agg [dI (Wn b).X9,dS (Wn b).Xy,dI (Wn b).Ye,dS (Wn b).W4]),[]⟩:=by
 refine Holds.of Tryz.func53 rfl (N:=15) Tryz.ntmps53 rfl fun w0 B0 S0 U0=>?_
 show T _ (Y2 15 0 w0 S0 U0 B0) ⟨[(Z4y tb_ b)],[]⟩ _ _
 have hf1:=hf.1.1
 have hf2:=hf.2.1
 have hf3:=hf.2.2
 have hll:=Vn b
 have hfl:=Uo hf
 have hrl:=Vo hfl
 refine sR [] (sR [hR 1 rfl rfl (rCa (X5f tb_ b p4z) Tryz.func109 [2] [(.tmp 4,(Z4y tb_ b))] 0 1)] ?_)
 refine sD [[],[0],[],[2],[],[4],[],[6],[0,1,2,3,4,5,6,7],[0,1,2,3,4,5,6,7,8]] [hR 7 rfl rfl (Wt (X1w true false false (Y5 b) ‹_›) Tryz.func110 rfl (by decide) [] [2] (l:=[(.tmp 12,Xx 2 (kSl false kU8) 0 (Y5 b).length)]) [(2,.live (Xc 25 (kSl false kU8) (Y5 b)))] rfl 0 0 rfl rfl rfl rfl rfl rfl rfl rfl rfl ⟨.inr (.inl ⟨rfl,pZs,rfl,rfl,by simp,25,(Y5 b).length,W5 (kSl false kU8) (Y5 b),List.Mem.head _,pf,fun i j=>by rw [Nat.zero_add]⟩),trivial⟩ rfl pZ3 p2o (X2 rfl) trivial)] (T.ret ?_)
 exact eX [.c 2 1 69 0 69 [dI b.X9,dS b.Xy,dI (((Y5 b).length:Nat):Int),dS (W2 (Y5 b))] (.agg [dI b.X9,dS b.Xy,dI (((Y5 b).length:Nat):Int),dS (W2 (Y5 b))])] ⟨⟨rfl,rfl,by kernel_rfl,by kernel_rfl,.inl ⟨4,Xih,rfl,Nat.le_of_ble_eq_true rfl⟩⟩,trivial⟩ [] (cg4 (fun (q1:Int) (q2:List UInt8) (q3:Int) (q4:List UInt8)=>(.tv (.agg [dI q1,dS q2,dI q3,dS q4]):AV)) (by rfl) (by rfl) (by rfl) (by rfl)) trivial
abbrev Z4z (tb_:Bool) (b:Xn):AV:=.tv (.agg [dI b.X9,dS b.Xy,.d (dsl tb_ false (kE tb_) b.X7),.d (dsl tb_ false (Xb tb_) b.Xf)])
theorem X4o (tb_:Bool) (b:Xn) (hf:Hv b):Holds Tryz.prog 44 ⟨[.tv (.agg [dI b.X9,dS b.Xy,.d (dsl tb_ false (kE tb_) b.X7),.d (dsl tb_ false (Xb tb_) b.Xf)])],[],.tv (.agg [dI (Wn b).X9,dS (Wn b).Xy,dI (Wn b).Ye,dS (Wn b).W4]),[]⟩:=by
 refine Holds.of Tryz.func44 rfl (N:=15) Tryz.ntmps44 rfl fun w0 B0 S0 U0=>?_
 show T _ (Y2 15 0 w0 S0 U0 B0) ⟨[(Z4z tb_ b)],[]⟩ _ _
 have hf1:=hf.1.1
 have hf2:=hf.2.1
 have hf3:=hf.2.2
 have hll:=Vn b
 have hfl:=Uo hf
 have hrl:=Vo hfl
 refine sR [] (sR [hR 1 rfl rfl (rCa (X4n tb_ b p4z) Tryz.func97 [2] [(.tmp 4,(Z4z tb_ b))] 0 1)] ?_)
 refine sD [[],[0],[],[2],[],[4],[],[6],[0,1,2,3,4,5,6,7],[0,1,2,3,4,5,6,7,8]] [hR 7 rfl rfl (Wt (X3v true false false (Y5 b) ‹_›) Tryz.func98 rfl (by decide) [] [2] (l:=[(.tmp 12,Xx 2 (kSl false kU8) 0 (Y5 b).length)]) [(2,.live (Xc 25 (kSl false kU8) (Y5 b)))] rfl 0 0 rfl rfl rfl rfl rfl rfl rfl rfl rfl ⟨.inr (.inl ⟨rfl,pZs,rfl,rfl,by simp,25,(Y5 b).length,W5 (kSl false kU8) (Y5 b),List.Mem.head _,pf,fun i j=>by rw [Nat.zero_add]⟩),trivial⟩ rfl pZ3 p2o (X2 rfl) trivial)] (T.ret ?_)
 exact eX [.c 2 1 69 0 69 [dI b.X9,dS b.Xy,dI (((Y5 b).length:Nat):Int),dS (W2 (Y5 b))] (.agg [dI b.X9,dS b.Xy,dI (((Y5 b).length:Nat):Int),dS (W2 (Y5 b))])] ⟨⟨rfl,rfl,by kernel_rfl,by kernel_rfl,.inl ⟨4,Xih,rfl,Nat.le_of_ble_eq_true rfl⟩⟩,trivial⟩ [] (cg4 (fun (q1:Int) (q2:List UInt8) (q3:Int) (q4:List UInt8)=>(.tv (.agg [dI q1,dS q2,dI q3,dS q4]):AV)) (by rfl) (by rfl) (by rfl) (by rfl)) trivial
theorem X5g (h:Y6) (hp:h.Xy.length≤10000000) (hr:h.W4.length≤10000000):Holds Tryz.prog 91 ⟨[.tv (.agg [dI h.X9,dS h.Xy,dI h.Ye,dS h.W4])],[],dv (Yn (Hw h)),[]⟩:=by
 refine Holds.of Tryz.func91 rfl (N:=19) Tryz.ntmps91 rfl fun w0 B0 S0 U0=>?_
 show T _ (Y2 19 0 w0 S0 U0 B0) ⟨[.tv (.agg [dI h.X9,dS h.Xy,dI h.Ye,dS h.W4])],[]⟩ _ _
 have hz1:=sz4 (([]:List UInt8)++W7 [h.X9]) h.Xy (([]:List UInt8)++W7 [h.Ye]) h.W4
 have hz2:=sz4 (([]:List UInt8)++Yp h.X9) h.Xy (([]:List UInt8)++Yp h.Ye) h.W4
 have hi1n:(([]:List UInt8)++Yp h.X9).length=8:=Wd _
 have hi2n:(([]:List UInt8)++Yp h.Ye).length=8:=Wd _
 have hi1:=Wd h.X9
 have hi2:=Wd h.Ye
 have hi3:(W7 [h.X9]).length=8:=Ij [h.X9]
 have hi3n:(([]:List UInt8)++W7 [h.X9]).length=8:=Ij [h.X9]
 have hi4:(W7 [h.Ye]).length=8:=Ij [h.Ye]
 have hi4n:(([]:List UInt8)++W7 [h.Ye]).length=8:=Ij [h.Ye]
 refine sR [] ?_
 refine sD [[],[0],[0,1],[0,1,2],[],[4],[4,5],[],[7],[7,8],[0,1,2,3,7,8,9],[],[11],[11,12],[0,1,2,3,4,5,6,7,8,9,10,11,12,13],[0,1,2,3,4,5,6,7,8,9,10,11,12,13,14],[0,1,2,3,4,5,6,7,8,9,10,11,12,13,14,15]] [hR 2 rfl rfl (Y7 1 3 (Yf .i64) (H2 .i64) [h.X9] [⟨0,.tmp 4,.one (dI h.X9),0⟩] (cs:=[dI h.X9]) Tryz.underlying24 Ut rfl Fs rfl rfl rfl pb (Ym rfl rfl pb W3) pZ4 (V2 pZ4) (X2 rfl) trivial),hR 3 rfl rfl (Wt (X0s false false ([]:List UInt8) true false [h.X9] (by (simp [maxLen,-List.getD_eq_getElem?_getD]<;>omega)) (by (simp [maxLen,-List.getD_eq_getElem?_getD]<;>omega))) Tryz.func135 rfl (by decide) [2] [1] (l:=[(.const (.slice none 0 0),dv (.slice none 0 0)),(.tmp 5,Xx 1 (Yf .i64) 0 [h.X9].length)]) [(1,.live (Xc 3 (Yf .i64) [h.X9]))] rfl 0 1 rfl rfl rfl rfl rfl rfl rfl rfl rfl ⟨.inr pZ8,⟨.inr (.inl ⟨rfl,pZs,rfl,rfl,by simp,3,[h.X9].length,W5 (Yf .i64) [h.X9],List.Mem.head _,pf,fun i j=>by rw [Nat.zero_add]⟩),trivial⟩⟩ rfl pZ3 ph (X2 rfl) ⟨rfl,trivial⟩),hR 6 rfl rfl (I4 (l:=h.Xy) Tryz.underlying60 Tryz.underlying25 Tryz.underlying5 (X2 rfl) trivial),hR 9 rfl rfl (Y7 3 3 (Yf .i64) (H2 .i64) [h.Ye] [⟨0,.tmp 11,.one (dI h.Ye),0⟩] (cs:=[dI h.Ye]) Tryz.underlying24 Ut rfl Fs rfl rfl rfl pb (Ym rfl rfl pb W3) pZ4 (V2 pZ4) (X2 rfl) trivial),hR 10 rfl rfl (Wt (X0s false false ([]:List UInt8) true false [h.Ye] (by (simp [maxLen,-List.getD_eq_getElem?_getD]<;>omega)) (by (simp [maxLen,-List.getD_eq_getElem?_getD]<;>omega))) Tryz.func135 rfl (by decide) [4] [3] (l:=[(.const (.slice none 0 0),dv (.slice none 0 0)),(.tmp 12,Xx 3 (Yf .i64) 0 [h.Ye].length)]) [(3,.live (Xc 3 (Yf .i64) [h.Ye]))] rfl 0 1 rfl rfl rfl rfl rfl rfl rfl rfl rfl ⟨.inr pZ8,⟨.inr (.inl ⟨rfl,pZs,rfl,rfl,by simp,3,[h.Ye].length,W5 (Yf .i64) [h.Ye],List.Mem.head _,pf,fun i j=>by rw [Nat.zero_add]⟩),trivial⟩⟩ rfl pZ3 ph (X2 rfl) ⟨rfl,trivial⟩),hR 13 rfl rfl (I4 (l:=h.W4) Tryz.underlying60 Tryz.underlying25 Tryz.underlying5 (X2 rfl) trivial),hR 14 rfl rfl (Uz 0 6 2 5 kU8 (([]:List UInt8)++W7 [h.X9]) (av:=Xx 2 kU8 0 (([]:List UInt8)++W7 [h.X9]).length) (Uz 2 13 4 5 kU8 (([]:List UInt8)++W7 [h.Ye]) (av:=Xx 4 kU8 0 (([]:List UInt8)++W7 [h.Ye]).length) (Y7 5 25 (kSl false kU8) (X23 false kU8) [([]:List UInt8)++W7 [h.X9],h.Xy,([]:List UInt8)++W7 [h.Ye],h.W4] [⟨0,.tmp 6,.one (dU (([]:List UInt8)++W7 [h.X9])),0⟩,⟨1,.tmp 9,.one (.d (dsl false true kU8 h.Xy)),1⟩,⟨2,.tmp 13,.one (dU (([]:List UInt8)++W7 [h.Ye])),2⟩,⟨3,.tmp 16,.one (.d (dsl false true kU8 h.W4)),3⟩] (cs:=[dU (([]:List UInt8)++W7 [h.X9]),.d (dsl false true kU8 h.Xy),dU (([]:List UInt8)++W7 [h.Ye]),.d (dsl false true kU8 h.W4)]) Tryz.underlying136 Vw rfl E8 rfl rfl rfl pb (Ym rfl rfl pb (Ym rfl rfl pb (Ym rfl rfl pb (Ym rfl rfl pb W3)))) pZ4 ⟨.inl rfl,⟨pZ20,⟨.inl rfl,⟨pZ20,trivial⟩⟩⟩⟩ (X2 rfl) trivial) rfl (.inr pZ0) p2t rfl rfl) rfl (.inr pZ0) p2t rfl rfl),hR 15 rfl rfl (Wt (X4b (5:UInt8) true false false [([]:List UInt8)++W7 [h.X9],h.Xy,([]:List UInt8)++W7 [h.Ye],h.W4] (by omega)) Tryz.func84 rfl (by decide) [] [5] (l:=[(.const (.int .u8 5),dv (.int .u8 5)),(.tmp 17,Xx 5 (kSl false kU8) 0 [([]:List UInt8)++W7 [h.X9],h.Xy,([]:List UInt8)++W7 [h.Ye],h.W4].length)]) [(5,.live (Xc 25 (kSl false kU8) [([]:List UInt8)++W7 [h.X9],h.Xy,([]:List UInt8)++W7 [h.Ye],h.W4]))] rfl 0 0 rfl rfl rfl rfl rfl rfl rfl rfl rfl ⟨.inl ⟨rfl,rfl⟩,⟨.inr (.inl ⟨rfl,pZs,rfl,rfl,by simp,25,[([]:List UInt8)++W7 [h.X9],h.Xy,([]:List UInt8)++W7 [h.Ye],h.W4].length,W5 (kSl false kU8) [([]:List UInt8)++W7 [h.X9],h.Xy,([]:List UInt8)++W7 [h.Ye],h.W4],List.Mem.head _,pf,fun i j=>by rw [Nat.zero_add]⟩),trivial⟩⟩ rfl pZ3 p2o (X2 rfl) ⟨rfl,trivial⟩)] ?_
 refine T.ret ?_
 exact eRt 2 (.one (dS (ofB (5:UInt8) [([]:List UInt8)++W7 [h.X9],h.Xy,([]:List UInt8)++W7 [h.Ye],h.W4]))) [] pZ28 trivial
theorem Xcl (h:Y6) (hp:h.Xy.length≤10000000) (hr:h.W4.length≤10000000):Holds Tryz.prog 48 ⟨[.tv (.agg [dI h.X9,dS h.Xy,dI h.Ye,dS h.W4])],[],dv (Yn (Hw h)),[]⟩:=by
 refine Holds.of Tryz.func48 rfl (N:=17) Tryz.ntmps48 rfl fun w0 B0 S0 U0=>?_
 show T _ (Y2 17 0 w0 S0 U0 B0) ⟨[.tv (.agg [dI h.X9,dS h.Xy,dI h.Ye,dS h.W4])],[]⟩ _ _
 have hz1:=sz4 (([]:List UInt8)++W7 [h.X9]) h.Xy (([]:List UInt8)++W7 [h.Ye]) h.W4
 have hz2:=sz4 (([]:List UInt8)++Yp h.X9) h.Xy (([]:List UInt8)++Yp h.Ye) h.W4
 have hi1n:(([]:List UInt8)++Yp h.X9).length=8:=Wd _
 have hi2n:(([]:List UInt8)++Yp h.Ye).length=8:=Wd _
 have hi1:=Wd h.X9
 have hi2:=Wd h.Ye
 have hi3:(W7 [h.X9]).length=8:=Ij [h.X9]
 have hi3n:(([]:List UInt8)++W7 [h.X9]).length=8:=Ij [h.X9]
 have hi4:(W7 [h.Ye]).length=8:=Ij [h.Ye]
 have hi4n:(([]:List UInt8)++W7 [h.Ye]).length=8:=Ij [h.Ye]
 refine sR [] ?_
 refine sD [[],[0],[0,1],[],[3],[3,4],[],[6],[0,1,2,6,7],[],[9],[9,10],[0,1,2,3,4,5,6,7,8,9,10,11],[0,1,2,3,4,5,6,7,8,9,10,11,12],[0,1,2,3,4,5,6,7,8,9,10,11,12,13]] [hR 2 rfl rfl (rCn (U7 false false ([]:List UInt8) h.X9 (by (simp [maxLen,-List.getD_eq_getElem?_getD]<;>omega))) Tryz.func63 [1] [(.const (.slice none 0 0),dv (.slice none 0 0)),(.tmp 4,vI h.X9)] 0 1 ⟨.inr pZ8,⟨.inl ⟨rfl,rfl⟩,trivial⟩⟩ ⟨rfl,trivial⟩),hR 5 rfl rfl (I4 (l:=h.Xy) Tryz.underlying60 Tryz.underlying25 Tryz.underlying5 (X2 rfl) trivial),hR 8 rfl rfl (rCn (U7 false false ([]:List UInt8) h.Ye (by (simp [maxLen,-List.getD_eq_getElem?_getD]<;>omega))) Tryz.func63 [2] [(.const (.slice none 0 0),dv (.slice none 0 0)),(.tmp 10,vI h.Ye)] 0 1 ⟨.inr pZ8,⟨.inl ⟨rfl,rfl⟩,trivial⟩⟩ ⟨rfl,trivial⟩),hR 11 rfl rfl (I4 (l:=h.W4) Tryz.underlying60 Tryz.underlying25 Tryz.underlying5 (X2 rfl) trivial),hR 12 rfl rfl (Uz 0 5 1 5 kU8 (([]:List UInt8)++Yp h.X9) (av:=Xx 1 kU8 0 (([]:List UInt8)++Yp h.X9).length) (Uz 2 11 2 5 kU8 (([]:List UInt8)++Yp h.Ye) (av:=Xx 2 kU8 0 (([]:List UInt8)++Yp h.Ye).length) (Y7 3 25 (kSl false kU8) (X23 false kU8) [([]:List UInt8)++Yp h.X9,h.Xy,([]:List UInt8)++Yp h.Ye,h.W4] [⟨0,.tmp 5,.one (dU (([]:List UInt8)++Yp h.X9)),0⟩,⟨1,.tmp 8,.one (.d (dsl false true kU8 h.Xy)),1⟩,⟨2,.tmp 11,.one (dU (([]:List UInt8)++Yp h.Ye)),2⟩,⟨3,.tmp 14,.one (.d (dsl false true kU8 h.W4)),3⟩] (cs:=[dU (([]:List UInt8)++Yp h.X9),.d (dsl false true kU8 h.Xy),dU (([]:List UInt8)++Yp h.Ye),.d (dsl false true kU8 h.W4)]) Tryz.underlying136 Vw rfl E8 rfl rfl rfl pb (Ym rfl rfl pb (Ym rfl rfl pb (Ym rfl rfl pb (Ym rfl rfl pb W3)))) pZ4 ⟨.inl rfl,⟨pZ20,⟨.inl rfl,⟨pZ20,trivial⟩⟩⟩⟩ (X2 rfl) trivial) rfl (.inr pZ0) p2t rfl rfl) rfl (.inr pZ0) p2t rfl rfl),hR 13 rfl rfl (Wt (X1j (5:UInt8) true false false [([]:List UInt8)++Yp h.X9,h.Xy,([]:List UInt8)++Yp h.Ye,h.W4] (by omega)) Tryz.func71 rfl (by decide) [] [3] (l:=[(.const (.int .u8 5),dv (.int .u8 5)),(.tmp 15,Xx 3 (kSl false kU8) 0 [([]:List UInt8)++Yp h.X9,h.Xy,([]:List UInt8)++Yp h.Ye,h.W4].length)]) [(3,.live (Xc 25 (kSl false kU8) [([]:List UInt8)++Yp h.X9,h.Xy,([]:List UInt8)++Yp h.Ye,h.W4]))] rfl 0 0 rfl rfl rfl rfl rfl rfl rfl rfl rfl ⟨.inl ⟨rfl,rfl⟩,⟨.inr (.inl ⟨rfl,pZs,rfl,rfl,by simp,25,[([]:List UInt8)++Yp h.X9,h.Xy,([]:List UInt8)++Yp h.Ye,h.W4].length,W5 (kSl false kU8) [([]:List UInt8)++Yp h.X9,h.Xy,([]:List UInt8)++Yp h.Ye,h.W4],List.Mem.head _,pf,fun i j=>by rw [Nat.zero_add]⟩),trivial⟩⟩ rfl pZ3 p2o (X2 rfl) ⟨rfl,trivial⟩)] ?_
 refine T.ret ?_
 exact eRt 2 (.one (dS (ofB (5:UInt8) [([]:List UInt8)++Yp h.X9,h.Xy,([]:List UInt8)++Yp h.Ye,h.W4]))) [] pZ28 trivial
end Go.Proofs.YtnaopgohccacmaaGreat.Q
