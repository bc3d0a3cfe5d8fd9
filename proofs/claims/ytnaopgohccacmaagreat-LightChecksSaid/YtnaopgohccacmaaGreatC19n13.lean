import Derived.Test.YtnaopgohccacmaaGreatC19n12
namespace Go.Proofs.YtnaopgohccacmaaGreat.Q
open Go Go.RowKit
set_option linter.unusedVariables false
set_option linter.unusedSimpArgs false
set_option maxRecDepth 100000
set_option maxHeartbeats 4000000
abbrev Z50 (tb_:Bool) (b:Xq):List SV:=[dI b.Xg,dS b.Y4,.d (dsl tb_ false (kE tb_) b.X9),.d (dsl tb_ false (Xd tb_) b.Xl)]
abbrev Z51 (tb_:Bool) (b:Xq) (i:Int):St:=⟨[.tv (.agg (Z50 tb_ b)),vI i,pv 0 0,aa,dv (.slice none 0 0),vI (Vf b),vI (Vf b),aa,aa,aa,vB (decide ((Vf b)≠0))],[.live (.box 65 (Z50 tb_ b))]⟩
theorem Xfg (tb_:Bool) (b:Xq) (i:Int) (hf:Hm b):Holds Tryz.prog 54 ⟨[.tv (.agg [dI b.Xg,dS b.Y4,.d (dsl tb_ false (kE tb_) b.X9),.d (dsl tb_ false (Xd tb_) b.Xl)]),vI i],[],.tup [.one (.d (dsl false false (Xb false) (Iz b i))),.one (dI (Je b i))],[]⟩:=by
 refine Holds.of Tryz.func54 rfl (N:=18) Tryz.ntmps54 rfl fun w0 B0 S0 U0=>?_
 show T _ (Y2 18 0 w0 S0 U0 B0) ⟨[.tv (.agg (Z50 tb_ b)),vI i],[]⟩ _ _
 have hf1:=hf.1.1
 have hf2:=hf.2.1
 have hf3:=hf.2.2
 have hll:=U6 b
 have hfl:=Jb hf
 have hrl:=Ug hfl
 refine sR [] ?_
 refine T.seq ?_
 refine sR [hR 1 rfl rfl (rCa (X73 tb_ b (by omega) (by omega)) Tryz.func87 [] [(.tmp 7,.tv (.agg (Z50 tb_ b)))] 0 0)] ?_
 refine sR [] ?_
 by_cases hq1:(Vf b)≠0
 ·refine cT (dT hq1) ?_
  refine sR [] ?_
  refine T.ret (rT ?_)
  refine eN (Z51 tb_ b i) ?_
  refine Xc (s':=⟨[.tv (.agg (Z50 tb_ b)),vI i,pv 0 0,aa,slV false false (Xb false) ([]:List Y7),vI (Vf b),vI (Vf b),aa,aa,aa,vB (decide ((Vf b)≠0))],[.live (.box 65 (Z50 tb_ b))]⟩) (fun _ _ hG=>Ys (s:=(Z51 tb_ b i)) (kk4 ⟨pZ5,p4s⟩) ⟨.inl rfl,trivial⟩ hG) ?_
  exact eX [.t 4 (.one (.d (dsl false false (Xb false) ([]:List Y7)))),.t 5 (.one (dI (Vf b)))] ⟨⟨rfl,by kernel_rfl⟩,⟨⟨rfl,by kernel_rfl⟩,trivial⟩⟩ [] p32 trivial
 refine cF (dF hq1) ?_
 refine T.skip (nT ?_)
 refine sR [hR 1 rfl rfl (rCa (X59 tb_ b p5g) Tryz.func109 [1] [(.tmp 12,.tv (.agg (Z50 tb_ b)))] 0 1),hR 3 rfl rfl (Ww (Xea true false false (Ya b) i ‹_›) Tryz.func111 rfl (by decide) [] [1] (l:=[(.tmp 13,Y9 1 (kSl false kU8) 0 (Ya b).length),(.tmp 14,vI i)]) [(1,.live (Xe 25 (kSl false kU8) (Ya b)))] rfl 0 0 rfl rfl rfl rfl rfl rfl rfl rfl rfl ⟨.inr (.inl ⟨rfl,px,rfl,rfl,by simp,25,(Ya b).length,W6 (kSl false kU8) (Ya b),List.Mem.head _,pm,fun i j=>by rw [Nat.zero_add]⟩),⟨.inl ⟨rfl,rfl⟩,trivial⟩⟩ rfl pZ6 p4v (X3 rfl) trivial)] ?_
 refine T.ret ?_
 exact eX [.t 4 (.one (.d (dsl false false (Xb false) (Hx (Ya b) i)))),.t 5 (.one (dI (X14 (Ya b) i)))] ⟨⟨rfl,by kernel_rfl⟩,⟨⟨rfl,by kernel_rfl⟩,trivial⟩⟩ [] p2j trivial
abbrev Z52 (tb_:Bool) (b:Xq):List SV:=[dI b.Xg,dS b.Y4,.d (dsl tb_ false (kE tb_) b.X9),.d (dsl tb_ false (Xd tb_) b.Xl)]
abbrev Z53 (tb_:Bool) (b:Xq) (i:Int):St:=⟨[.tv (.agg (Z52 tb_ b)),vI i,pv 0 0,aa,dv (.slice none 0 0),vI (Vf b),vI (Vf b),aa,aa,aa,vB (decide ((Vf b)≠0))],[.live (.box 65 (Z52 tb_ b))]⟩
theorem Xdr (tb_:Bool) (b:Xq) (i:Int) (hf:Hm b):Holds Tryz.prog 45 ⟨[.tv (.agg [dI b.Xg,dS b.Y4,.d (dsl tb_ false (kE tb_) b.X9),.d (dsl tb_ false (Xd tb_) b.Xl)]),vI i],[],.tup [.one (.d (dsl false false (Xb false) (Iz b i))),.one (dI (Je b i))],[]⟩:=by
 refine Holds.of Tryz.func45 rfl (N:=18) Tryz.ntmps45 rfl fun w0 B0 S0 U0=>?_
 show T _ (Y2 18 0 w0 S0 U0 B0) ⟨[.tv (.agg (Z52 tb_ b)),vI i],[]⟩ _ _
 have hf1:=hf.1.1
 have hf2:=hf.2.1
 have hf3:=hf.2.2
 have hll:=U6 b
 have hfl:=Jb hf
 have hrl:=Ug hfl
 refine sR [] ?_
 refine sR [hR 1 rfl rfl (rCa (X6w tb_ b (by omega) (by omega)) Tryz.func92 [] [(.tmp 7,.tv (.agg (Z52 tb_ b)))] 0 0)] ?_
 refine T.seq ?_
 refine sR [] ?_
 by_cases hq1:(Vf b)≠0
 ·refine cT (dT hq1) ?_
  refine sR [] ?_
  refine T.ret (rT ?_)
  refine eN (Z53 tb_ b i) ?_
  refine Xc (s':=⟨[.tv (.agg (Z52 tb_ b)),vI i,pv 0 0,aa,slV false false (Xb false) ([]:List Y7),vI (Vf b),vI (Vf b),aa,aa,aa,vB (decide ((Vf b)≠0))],[.live (.box 65 (Z52 tb_ b))]⟩) (fun _ _ hG=>Ys (s:=(Z53 tb_ b i)) (kk4 ⟨pZ5,p4s⟩) ⟨.inl rfl,trivial⟩ hG) ?_
  exact eX [.t 4 (.one (.d (dsl false false (Xb false) ([]:List Y7)))),.t 5 (.one (dI (Vf b)))] ⟨⟨rfl,by kernel_rfl⟩,⟨⟨rfl,by kernel_rfl⟩,trivial⟩⟩ [] p32 trivial
 refine cF (dF hq1) ?_
 refine T.skip (nT ?_)
 refine sR [hR 1 rfl rfl (rCa (X4j tb_ b p5g) Tryz.func97 [1] [(.tmp 12,.tv (.agg (Z52 tb_ b)))] 0 1),hR 3 rfl rfl (Ww (Xfz true false false (Ya b) i ‹_›) Tryz.func99 rfl (by decide) [] [1] (l:=[(.tmp 13,Y9 1 (kSl false kU8) 0 (Ya b).length),(.tmp 14,vI i)]) [(1,.live (Xe 25 (kSl false kU8) (Ya b)))] rfl 0 0 rfl rfl rfl rfl rfl rfl rfl rfl rfl ⟨.inr (.inl ⟨rfl,px,rfl,rfl,by simp,25,(Ya b).length,W6 (kSl false kU8) (Ya b),List.Mem.head _,pm,fun i j=>by rw [Nat.zero_add]⟩),⟨.inl ⟨rfl,rfl⟩,trivial⟩⟩ rfl pZ6 p4v (X3 rfl) trivial)] ?_
 refine T.ret ?_
 exact eX [.t 4 (.one (.d (dsl false false (Xb false) (Hx (Ya b) i)))),.t 5 (.one (dI (X14 (Ya b) i)))] ⟨⟨rfl,by kernel_rfl⟩,⟨⟨rfl,by kernel_rfl⟩,trivial⟩⟩ [] p2j trivial
theorem Xa0 (h:Yf) (i:Int) (te:Bool) (e:aE) (r:Y6) (tp:Bool) (np:Bool) (p:List Y7) (hp:Jp szS 70 30000 p) (hb:e.Xf.length≤500) (hn:h.Yg≤9223372036854775807):Holds Tryz.prog 47 ⟨[.tv (.agg [dI h.Xg,dS h.Y4,dI h.Yg,dS h.W2]),vI i,.tv (.agg [dI e.X4,.d (dsl te false kU8 e.Xf)]),.tv (.agg [dI r.Xw,dI r.Xn]),slV tp np (Xb false) p],[],vI (Jc h.W2 (V6 e r) i h.Yg p),[]⟩:=by
 refine Holds.of Tryz.func47 rfl (N:=21) Tryz.ntmps47 rfl fun w0 B0 S0 U0=>?_
 show T _ (Y2 21 0 w0 S0 U0 B0) ⟨[.tv (.agg [dI h.Xg,dS h.Y4,dI h.Yg,dS h.W2]),vI i,.tv (.agg [dI e.X4,.d (dsl te false kU8 e.Xf)]),.tv (.agg [dI r.Xw,dI r.Xn]),slV tp np (Xb false) p],[]⟩ _ _
 have hlf:=X2s e r
 refine sR [] ?_
 refine sD [[],[0],[],[],[2,3],[],[],[6],[],[0,1,2,3,4,5,6,7,8],[0,1,2,3,4,5,6,7,8,9]] [hR 4 rfl rfl (rCa (X9z te e r (by omega)) Tryz.func101 [3] [(.tmp 13,.tv (.agg [dI e.X4,.d (dsl te false kU8 e.Xf)])),(.tmp 14,.tv (.agg [dI r.Xw,dI r.Xn]))] 0 1),hR 9 rfl rfl (Ww (Xcg h.W2 true false (V6 e r) i h.Yg tp np p ‹_› (by omega) ‹_›) Tryz.func100 rfl (by decide) [] [3] (l:=[(.tmp 12,dv (Yh h.W2)),(.tmp 15,Y9 3 kU8 0 (V6 e r).length),(.tmp 16,vI i),(.tmp 18,vI h.Yg),(.tmp 19,slV tp np (Xb false) p)]) [(3,.live (Xe 5 kU8 (V6 e r)))] rfl 0 0 rfl rfl rfl rfl rfl rfl rfl rfl rfl ⟨.inl ⟨rfl,rfl⟩,⟨.inr (.inl ⟨rfl,px,rfl,rfl,by simp,5,(V6 e r).length,W6 kU8 (V6 e r),List.Mem.head _,pm,fun i j=>by rw [Nat.zero_add]⟩),⟨.inl ⟨rfl,rfl⟩,⟨.inl ⟨rfl,rfl⟩,⟨.inl ⟨rfl,rfl⟩,trivial⟩⟩⟩⟩⟩ rfl pZ6 p2t (X3 rfl) trivial)] ?_
 refine T.ret ?_
 exact eRt 10 (.one (dI (Jc h.W2 (V6 e r) i h.Yg p))) [] rfl trivial
theorem X8w (h:Yf) (i:Int) (te:Bool) (e:aE) (r:Y6) (tp:Bool) (np:Bool) (p:List Y7) (hp:Jp szS 70 30000 p) (hb:e.Xf.length≤500) (hn:h.Yg≤9223372036854775807):Holds Tryz.prog 49 ⟨[.tv (.agg [dI h.Xg,dS h.Y4,dI h.Yg,dS h.W2]),vI i,.tv (.agg [dI e.X4,.d (dsl te false kU8 e.Xf)]),.tv (.agg [dI r.Xw,dI r.Xn]),slV tp np (Xb false) p],[],vI (Jc h.W2 (V6 e r) i h.Yg p),[]⟩:=by
 refine Holds.of Tryz.func49 rfl (N:=21) Tryz.ntmps49 rfl fun w0 B0 S0 U0=>?_
 show T _ (Y2 21 0 w0 S0 U0 B0) ⟨[.tv (.agg [dI h.Xg,dS h.Y4,dI h.Yg,dS h.W2]),vI i,.tv (.agg [dI e.X4,.d (dsl te false kU8 e.Xf)]),.tv (.agg [dI r.Xw,dI r.Xn]),slV tp np (Xb false) p],[]⟩ _ _
 have hlf:=X2s e r
 refine sR [] ?_
 refine sD [[],[0],[],[],[2,3],[],[],[6],[],[0,1,2,3,4,5,6,7,8],[0,1,2,3,4,5,6,7,8,9]] [hR 4 rfl rfl (rCa (X8v te e r (by omega)) Tryz.func103 [3] [(.tmp 13,.tv (.agg [dI e.X4,.d (dsl te false kU8 e.Xf)])),(.tmp 14,.tv (.agg [dI r.Xw,dI r.Xn]))] 0 1),hR 9 rfl rfl (Ww (Xdt h.W2 true false (V6 e r) i h.Yg tp np p ‹_› (by omega) ‹_›) Tryz.func102 rfl (by decide) [] [3] (l:=[(.tmp 12,dv (Yh h.W2)),(.tmp 15,Y9 3 kU8 0 (V6 e r).length),(.tmp 16,vI i),(.tmp 18,vI h.Yg),(.tmp 19,slV tp np (Xb false) p)]) [(3,.live (Xe 5 kU8 (V6 e r)))] rfl 0 0 rfl rfl rfl rfl rfl rfl rfl rfl rfl ⟨.inl ⟨rfl,rfl⟩,⟨.inr (.inl ⟨rfl,px,rfl,rfl,by simp,5,(V6 e r).length,W6 kU8 (V6 e r),List.Mem.head _,pm,fun i j=>by rw [Nat.zero_add]⟩),⟨.inl ⟨rfl,rfl⟩,⟨.inl ⟨rfl,rfl⟩,⟨.inl ⟨rfl,rfl⟩,trivial⟩⟩⟩⟩⟩ rfl pZ6 p2t (X3 rfl) trivial)] ?_
 refine T.ret ?_
 exact eRt 10 (.one (dI (Jc h.W2 (V6 e r) i h.Yg p))) [] rfl trivial
theorem Xjt (ta:Bool) (na:Bool) (a:List aE) (hp:a.length≤1000000):Holds Tryz.prog 134 ⟨[slV ta na (kE false) a],[],Y9 0 (kE false) 0 a.length,[.live (Xe 43 (kE false) a)]⟩:=by
 refine Holds.of Tryz.func134 rfl (N:=8) Tryz.ntmps134 rfl fun w0 B0 S0 U0=>?_
 show T _ (Y2 8 0 w0 S0 U0 B0) ⟨[slV ta na (kE false) a],[]⟩ _ _
 cases na
 ·refine Xd2 (k:=0) rfl (fun h0=>?_) ?_
  ·have h0:=List.eq_nil_of_length_eq_zero h0
   subst h0
   show T _ _ ⟨[dv (.slice none 0 0)],[]⟩ _ _
   refine sR [] ?_
   refine T.seq ?_
   refine sR [hR 1 rfl rfl (Ye (u1:=.slice none 0 0) (u2:=.slice none 0 0) (v:=.bool true) (X6d Tryz.underlying37) (X3 rfl) ⟨rfl,trivial⟩)] ?_
   refine cT (b:=true) rfl ?_
   refine sR [] ?_
   refine T.ret (rT ?_)
   refine eN ⟨[dv (.slice none 0 0),aa,dv (.slice none 0 0),aa,vB true],[]⟩ ?_
   refine Xc (s':=⟨[dv (.slice none 0 0),aa,Y9 0 (kE false) 0 0,aa,vB true],[.live (Xe 43 (kE false) ([]:List aE))]⟩) (fun _ _ hG=>Vy 0 2 43 (kE false) rfl rfl hG) ?_
   exact eRt 2 (.one (.own 0 (kE false).sz 0 0)) [0] (congrArg (fun (q1:Nat)=>(Y9 0 (kE false) 0 q1:AV)) (by rfl)) (ix trivial)
  show T _ _ ⟨[slV ta true (kE false) a],[]⟩ _ _
  refine sR [] ?_
  refine T.seq ?_
  refine sR [hR 1 rfl rfl (X2n (s:=.d (dsl ta true (kE false) a)) Tryz.underlying37 (.inl rfl) (X3 rfl) ⟨rfl,trivial⟩)] ?_
  refine cF (b:=false) rfl ?_
  refine T.skip (nT ?_)
  refine sR [hR 0 rfl rfl (Yd 0 43 (kE false) (W5 false) ([]:List aE) [] (cs:=[]) Tryz.underlying37 Vs rfl F7 rfl rfl rfl pd W4 pZ7 (V1 pZ7) (X3 rfl) trivial),hR 2 rfl rfl (Yy 0 1 43 32 (kE false) (W5 false) ([]:List aE) a a ([]:List aE).length (sy:=(.d (dsl ta true (kE false) a))) (rhs:=[]) Fb (by omega) (Ji ta true (kE false) a) (by simp) (by (simp [maxLen,-List.getD_eq_getElem?_getD]<;>omega)) (by (simp [maxLen,-List.getD_eq_getElem?_getD]<;>omega)) (X3 rfl) trivial)] ?_
  refine T.ret ?_
  exact eRt 2 (.one (.own 1 (kE false).sz 0 a.length)) [1] rfl (ix trivial)
 refine sR [] ?_
 refine T.seq ?_
 refine sR [hR 1 rfl rfl (X2n (s:=.d (dsl ta true (kE false) a)) Tryz.underlying37 (.inl rfl) (X3 rfl) ⟨rfl,trivial⟩)] ?_
 refine cF (b:=false) rfl ?_
 refine T.skip (nT ?_)
 refine sR [hR 0 rfl rfl (Yd 0 43 (kE false) (W5 false) ([]:List aE) [] (cs:=[]) Tryz.underlying37 Vs rfl F7 rfl rfl rfl pd W4 pZ7 (V1 pZ7) (X3 rfl) trivial),hR 2 rfl rfl (Yy 0 1 43 32 (kE false) (W5 false) ([]:List aE) a a ([]:List aE).length (sy:=(.d (dsl ta true (kE false) a))) (rhs:=[]) Fb (by omega) (Ji ta true (kE false) a) (by simp) (by (simp [maxLen,-List.getD_eq_getElem?_getD]<;>omega)) (by (simp [maxLen,-List.getD_eq_getElem?_getD]<;>omega)) (X3 rfl) trivial)] ?_
 refine T.ret ?_
 exact eRt 2 (.one (.own 1 (kE false).sz 0 a.length)) [1] rfl (ix trivial)
theorem X7j:Zero Tryz.prog 46 [.int .i64 0,.int .i64 0]:=⟨_,_,Em,rfl,rfl⟩
theorem X7w:Elem Tryz.prog 63 46 2 16:=⟨Tryz.underlying63,_,_,Em,rfl,rfl,rfl,rfl,by decide⟩
theorem Xjs (ta:Bool) (na:Bool) (a:List Y6) (hp:a.length≤1000000):Holds Tryz.prog 133 ⟨[slV ta na (Xd false) a],[],Y9 0 (Xd false) 0 a.length,[.live (Xe 46 (Xd false) a)]⟩:=by
 refine Holds.of Tryz.func133 rfl (N:=8) Tryz.ntmps133 rfl fun w0 B0 S0 U0=>?_
 show T _ (Y2 8 0 w0 S0 U0 B0) ⟨[slV ta na (Xd false) a],[]⟩ _ _
 cases na
 ·refine Xd2 (k:=0) rfl (fun h0=>?_) ?_
  ·have h0:=List.eq_nil_of_length_eq_zero h0
   subst h0
   show T _ _ ⟨[dv (.slice none 0 0)],[]⟩ _ _
   refine sR [] ?_
   refine T.seq ?_
   refine sR [hR 1 rfl rfl (Ye (u1:=.slice none 0 0) (u2:=.slice none 0 0) (v:=.bool true) (X6d Tryz.underlying63) (X3 rfl) ⟨rfl,trivial⟩)] ?_
   refine cT (b:=true) rfl ?_
   refine sR [] ?_
   refine T.ret (rT ?_)
   refine eN ⟨[dv (.slice none 0 0),aa,dv (.slice none 0 0),aa,vB true],[]⟩ ?_
   refine Xc (s':=⟨[dv (.slice none 0 0),aa,Y9 0 (Xd false) 0 0,aa,vB true],[.live (Xe 46 (Xd false) ([]:List Y6))]⟩) (fun _ _ hG=>Vy 0 2 46 (Xd false) rfl rfl hG) ?_
   exact eRt 2 (.one (.own 0 (Xd false).sz 0 0)) [0] (congrArg (fun (q1:Nat)=>(Y9 0 (Xd false) 0 q1:AV)) (by rfl)) (ix trivial)
  show T _ _ ⟨[slV ta true (Xd false) a],[]⟩ _ _
  refine sR [] ?_
  refine T.seq ?_
  refine sR [hR 1 rfl rfl (X2n (s:=.d (dsl ta true (Xd false) a)) Tryz.underlying63 (.inl rfl) (X3 rfl) ⟨rfl,trivial⟩)] ?_
  refine cF (b:=false) rfl ?_
  refine T.skip (nT ?_)
  refine sR [hR 0 rfl rfl (Yd 0 46 (Xd false) (Vz false) ([]:List Y6) [] (cs:=[]) Tryz.underlying63 Em rfl X7j rfl rfl rfl pd W4 pZ7 (V1 pZ7) (X3 rfl) trivial),hR 2 rfl rfl (Yy 0 1 46 16 (Xd false) (Vz false) ([]:List Y6) a a ([]:List Y6).length (sy:=(.d (dsl ta true (Xd false) a))) (rhs:=[]) X7w (by omega) (Ji ta true (Xd false) a) (by simp) (by (simp [maxLen,-List.getD_eq_getElem?_getD]<;>omega)) (by (simp [maxLen,-List.getD_eq_getElem?_getD]<;>omega)) (X3 rfl) trivial)] ?_
  refine T.ret ?_
  exact eRt 2 (.one (.own 1 (Xd false).sz 0 a.length)) [1] rfl (ix trivial)
 refine sR [] ?_
 refine T.seq ?_
 refine sR [hR 1 rfl rfl (X2n (s:=.d (dsl ta true (Xd false) a)) Tryz.underlying63 (.inl rfl) (X3 rfl) ⟨rfl,trivial⟩)] ?_
 refine cF (b:=false) rfl ?_
 refine T.skip (nT ?_)
 refine sR [hR 0 rfl rfl (Yd 0 46 (Xd false) (Vz false) ([]:List Y6) [] (cs:=[]) Tryz.underlying63 Em rfl X7j rfl rfl rfl pd W4 pZ7 (V1 pZ7) (X3 rfl) trivial),hR 2 rfl rfl (Yy 0 1 46 16 (Xd false) (Vz false) ([]:List Y6) a a ([]:List Y6).length (sy:=(.d (dsl ta true (Xd false) a))) (rhs:=[]) X7w (by omega) (Ji ta true (Xd false) a) (by simp) (by (simp [maxLen,-List.getD_eq_getElem?_getD]<;>omega)) (by (simp [maxLen,-List.getD_eq_getElem?_getD]<;>omega)) (X3 rfl) trivial)] ?_
 refine T.ret ?_
 exact eRt 2 (.one (.own 1 (Xd false).sz 0 a.length)) [1] rfl (ix trivial)
theorem zero_65:Zero Tryz.prog 65 [.int .i64 0,Yh [],.slice none 0 0,.slice none 0 0]:=⟨_,_,X65,rfl,rfl⟩
section
variable (b:Xq) (k:Nat)
abbrev Z54:SV:=dI b.Xg
abbrev Z55:SV:=dS b.Y4
abbrev Z56:SV:=.d (dsl false false (kE false) b.X9)
abbrev Z57:List SV:=[(Z54 b),(Z55 b),(Z56 b),.d (dsl false false (Xd false) b.Xl)]
abbrev Z58:AV:=vI ((b.X9.length:Nat):Int)
abbrev Z59:List AV:=[aa,pv 0 0,pv 3 0,aa,aa,aa,aa,aa,aa,aa,aa,aa,aa,aa,(Z58 b),vI ((k:Nat):Int)]
abbrev Z5a:SV:=.own 2 (Xd false).sz 0 b.Xl.length
abbrev Z5b:HS:=.live (.box 65 [(Z54 b),(Z55 b),.own 1 (kE false).sz 0 b.X9.length,(Z5a b)])
abbrev Z5c:HS:=.live (Xe 43 (kE false) b.X9)
abbrev Z5d:HS:=.live (Xe 46 (Xd false) b.Xl)
abbrev Z5e:HS:=.live (.box 65 [dI 0,dS [],.d (.val (.slice none 0 0)),.d (.val (.slice none 0 0))])
abbrev Z5f:List HS:=[(Z5b b),(Z5c b),(Z5d b),Z5e]
abbrev Z5g:DV:=dsl false false kU8 (b.X9.getD k zE).Xf
abbrev Z5i:List AV:=[aa,pv 0 0,pv 3 0,aa,aa,aa,aa,aa,aa,aa,aa,aa,aa,aa,(Z58 b),vI ((k:Nat):Int),vB (decide (((k:Nat):Int)<((b.X9.length:Nat):Int)))]
abbrev Z5j:St:=⟨(Z5i b k),[.live (.box 65 [(Z54 b),(Z55 b),(Z56 b),(Z5a b)]),.dead,(Z5d b),.live (.box 65 [(Z54 b),(Z55 b),(Z56 b),(Z5a b)])]⟩
end
theorem X72 (b:Xq) (hf:Hm b):Holds Tryz.prog 90 ⟨[.tv (.agg [dI b.Xg,dS b.Y4,.d (dsl false false (kE false) b.X9),.d (dsl false false (Xd false) b.Xl)])],[],.tv (.agg [dI b.Xg,dS b.Y4,.d (dsl false false (kE false) b.X9),.d (dsl false false (Xd false) b.Xl)]),[]⟩:=by
 refine Holds.of Tryz.func90 rfl (N:=32) Tryz.ntmps90 rfl fun w0 B0 S0 U0=>?_
 show T _ (Y2 32 0 w0 S0 U0 B0) ⟨[.tv (.agg (Z57 b))],[]⟩ _ _
 have hf1:=hf.1.1
 have hf2:=hf.2.1
 have hf3:=hf.2.2
 refine sR [] ?_
 refine sR [hR 2 rfl rfl (rCa (Xjs false false b.Xl (by omega)) Tryz.func133 [2] [(.tmp 5,slV false false (Xd false) b.Xl)] 0 1)] ?_
 refine sR [hR 2 rfl rfl (rCa (Xjt false false b.X9 (by omega)) Tryz.func134 [3] [(.tmp 9,slV false false (kE false) b.X9)] 0 1)] ?_
 refine T.seq ?_
 refine sR [] ?_
 refine T.block ?_
 refine T.loop (ι:=Nat) (fun (k:Nat)=>⟨(Z59 b k),(Z5f b)⟩) (fun (k:Nat)=>(k≤b.X9.length)) (fun (k:Nat)=>b.X9.length-k) (0) (Nat.zero_le _) (fun _ _ hG=>Vb [0,3,2,1] (bm 16 49158) (t1:=[aa,pv 0 0,pv 1 0,aa,aa,aa,aa,aa,aa,aa,aa,aa,aa,aa,(Z58 b),vI 0]) (h1:=[.live (.box 65 [(Z54 b),(Z55 b),.own 3 (kE false).sz 0 b.X9.length,(Z5a b)]),(Z5c b),(Z5d b),Z5e]) rfl rfl hG) ?_
 rintro k hk
 show T _ _ ⟨(Z59 b k),(Z5f b)⟩ _ _
 replace hk:k≤b.X9.length:=hk
 have hf1:=hf.1.1
 have hf2:=hf.2.1
 have hf3:=hf.2.2
 have hbk:(b.X9.getD k zE).Xf.length≤500:=Ie (sz:=szE) hf.1 (by decide) k
 refine sR [] ?_
 refine T.seq ?_
 by_cases hq1:((k:Nat):Int)<((b.X9.length:Nat):Int)
 ·refine cT (dT hq1) ?_
  refine T.skip (nT (T.seq ?_))
  refine T.block ?_
  refine sR [] ?_
  refine xD [[],[0],[],[],[3],[],[3,4,5],[3,4,5,6],[3,4,5,6,7],[3,4,5,6,7,8],[0,1,2,3,4,5,6,7,8,9],[0,1,2,3,4,5,6,7,8,9,10],[0,1,2,3,4,5,6,7,8,9,10,11]] [hR 6 rfl rfl (V9 (k:=.i64) (l:=1) (sz:=(kE false).sz) (off:=0) (n:=b.X9.length) (i:=((k:Nat):Int)) (m:=k) (o':=k*(kE false).sz+0) Tryz.underlying37 Vs rfl rfl (by omega) (by simp) (X3 rfl) trivial),hR 8 rfl rfl (Ha (l:=1) (off:=k*(kE false).sz+1) (i:=k) (j:=1) (T:=43) (sz:=(kE false).sz) (n:=b.X9.length) (el:=W6 (kE false) b.X9) (c:=(Z5g b k)) Xh8 rfl (by omega) (by decide) rfl (X3 rfl) trivial),hR 9 rfl rfl (rCa (Fu false false (b.X9.getD k zE).Xf (by omega)) Tryz.func51 [4] [(.tmp 26,slV false false kU8 (b.X9.getD k zE).Xf)] 0 1),hR 10 rfl rfl (V9 (k:=.i64) (l:=1) (sz:=(kE false).sz) (off:=0) (n:=b.X9.length) (i:=((k:Nat):Int)) (m:=k) (o':=k*(kE false).sz+0) Tryz.underlying37 Vs rfl rfl (by omega) (by simp) (X3 rfl) trivial),hR 12 rfl rfl (J0 1 27 4 5 kU8 (b.X9.getD k zE).Xf (av:=Y9 4 kU8 0 (b.X9.getD k zE).Xf.length) (Fj 1 43 (kE false) b.X9 (b.X9.getD k zE) k 1 1 [(Z5g b k)] (tv:=.one (.d ((Z5g b k)))) (off:=k*(kE false).sz+1) Xfc ⟨.inl rfl,trivial⟩ rfl rfl (by omega) (by decide) rfl (by intro j hj;replace hj:j<2:=hj;rcases j with _|_|j<;>rfl) trivial) rfl (.inr pZ0) p3c rfl rfl)] pZ7 pZ7 pZ7 pZ7 pZ7 pZ7 ?_
  refine nB ?_
  refine nT ?_
  refine xK [hR 0 rfl rfl (Ye (u1:=.int .i64 ((k:Nat):Int)) (u2:=.int .i64 1) (v:=.int .i64 ((k+1:Nat):Int)) (Wa pa) (X3 rfl) ⟨rfl,trivial⟩)] ?_
  refine nL (k+1) (show (k+1)≤b.X9.length from (by omega)) (show (b.X9.length-(k+1):Nat)<b.X9.length-k from (by omega)) (fun _ _ hG=>Yt [0,1,2,3] (bm 16 49158) (h2:=[(Z5b b),.live (Xe 43 (kE false) (b.X9.set k (b.X9.getD k zE))),(Z5d b),Z5e]) rfl (by have e1:(b.X9:List aE)=(b.X9.set k (b.X9.getD k zE)):=(by (rw [set_same (by omega)];done));have hE:=congrArg (fun (q1:List aE)=>([(Z5b b),.live (Xe 43 (kE false) q1),(Z5d b),Z5e]:List HS)) e1;exact hE) hG)
 refine cF (dF hq1) ?_
 refine T.exit ?_
 refine xT ?_
 refine xT ?_
 refine xH ?_
 refine nT ?_
 refine sR [] ?_
 refine T.ret ?_
 refine eN ⟨(Z5i b k),[(Z5b b),(Z5c b),(Z5d b),(Z5b b)]⟩ ?_
 refine Xc (s':=(Z5j b k)) (fun _ _ hG=>Gs.freeze (s:=⟨(Z5i b k),[(Z5b b),(Z5c b),(Z5d b),(Z5b b)]⟩) 1 (el:=W6 (kE false) b.X9) (sz:=(kE false).sz) (n:=b.X9.length) rfl ⟨.inl rfl,(Fq trivial)⟩ ⟨p2c,⟨(.inl ⟨rfl,rfl⟩),⟨pc,⟨p2c,trivial⟩⟩⟩⟩ hG) ?_
 refine eN (Z5j b k) ?_
 refine Xc (s':=⟨(Z5i b k),[.live (.box 65 (Z57 b)),.dead,.dead,.live (.box 65 (Z57 b))]⟩) (fun _ _ hG=>Gs.freeze (s:=(Z5j b k)) 2 (el:=W6 (Xd false) b.Xl) (sz:=(Xd false).sz) (n:=b.Xl.length) rfl ⟨.inl rfl,(Fq trivial)⟩ ⟨p2b,⟨pc,⟨(.inl ⟨rfl,rfl⟩),⟨p2b,trivial⟩⟩⟩⟩ hG) ?_
 exact eX [.c 2 3 65 0 65 [(Z54 b),(Z55 b),(Z56 b),.d (dsl false false (Xd false) b.Xl)] (.agg (Z57 b))] ⟨⟨rfl,rfl,by kernel_rfl,by kernel_rfl,.inl ⟨4,H3,rfl,Nat.le_of_ble_eq_true rfl⟩⟩,trivial⟩ [] rfl trivial
abbrev Z5k:SV:=dS (ofB (6:UInt8) ([]:List (List UInt8)))
theorem Xgm:Holds Tryz.prog 36 ⟨[],[],pv 0 0,[.live (.box 149 [dI 0,dS (ofB 6 ([]:List (List UInt8))),dB true,.own 1 (Xk false).sz 0 ([]:List Yq).length]),.live (Xe 152 (Xk false) ([]:List Yq))]⟩:=by
 refine Holds.of Tryz.func36 rfl (N:=5) Tryz.ntmps36 rfl fun w0 B0 S0 U0=>?_
 show T _ (Y2 5 0 w0 S0 U0 B0) ⟨[],[]⟩ _ _
 refine sR [] ?_
 refine sR [hR 0 rfl rfl (rCn (X46 (6:UInt8) false false false ([]:List (List UInt8)) (by decide)) Tryz.func84 [] [(.const (.int .u8 6),dv (.int .u8 6)),(.const (.slice none 0 0),dv (.slice none 0 0))] 0 0 ⟨.inl ⟨rfl,rfl⟩,⟨.inr pZ5,trivial⟩⟩ ⟨rfl,⟨rfl,trivial⟩⟩)] ?_
 refine T.ret ?_
 refine eN ⟨[pv 0 0],[.live (.box 149 [dI 0,Z5k,dB true,.d (.val (.slice none 0 0))])]⟩ ?_
 refine Xc (s':=⟨[pv 0 0],[.live (.box 149 [dI 0,Z5k,dB true,.own 1 (Xk false).sz 0 0]),.live (Xe 152 (Xk false) ([]:List Yq))]⟩) (fun _ _ hG=>Jd 1 0 3 152 (Xk false) (Tb:=149) (cs:=[dI 0,Z5k,dB true,.d (.val (.slice none 0 0))]) rfl rfl rfl hG) ?_
 exact eRt 0 (.one (.ptr 0 0)) [0,1] rfl ⟨⟨rfl,(by have e1:((ofB (6:UInt8) ([]:List (List UInt8))):List UInt8)=(ofB 6 ([]:List (List UInt8))):=(by rfl);have e2:(0:Nat)=([]:List Yq).length:=(by rfl);have hE:=congr (congrArg (fun (q1:List UInt8) (q2:Nat)=>(.live (.box 149 [dI 0,dS q1,dB true,.own 1 (Xk false).sz 0 q2]):HS)) e1) e2;exact Eq.trans pZ7 hE)⟩,(ix trivial)⟩
theorem X3d (h:Int) (d:List UInt8) (l:List Yq) (hh:0≤h∧h≤1099511627776) (hl:l.length≤100):Holds Tryz.prog 88 ⟨[pv 0 0],[.box 149 [dI h,dS d,dB true,.own 1 (Xk false).sz 0 l.length],Xe 152 (Xk false) l],vI (h+((l.length:Nat):Int)),[.live (.box 149 [dI h,dS d,dB true,.own 1 (Xk false).sz 0 l.length]),.live (Xe 152 (Xk false) l)]⟩:=by
 refine Holds.of Tryz.func88 rfl (N:=16) Tryz.ntmps88 rfl fun w0 B0 S0 U0=>?_
 show T _ (Y2 16 2 w0 S0 U0 B0) ⟨[pv 0 0],[.live (.box 149 [dI h,dS d,dB true,.own 1 (Xk false).sz 0 l.length]),.live (Xe 152 (Xk false) l)]⟩ _ _
 refine sR [] ?_
 refine T.seq ?_
 refine sR [] ?_
 refine cF (b:=false) rfl ?_
 refine T.skip (nT ?_)
 refine sD [[],[0],[0,1],[0,1,2],[0,1,2,3],[],[5],[5,6],[5,6,7],[5,6,7,8],[0,1,2,3,4,5,6,7,8,9],[0,1,2,3,4,5,6,7,8,9,10]] [hR 10 rfl rfl (Ye (u1:=.int .i64 h) (u2:=.int .i64 ((l.length:Nat):Int)) (v:=.int .i64 (h+((l.length:Nat):Int))) (Wa pa) (X3 rfl) trivial)] ?_
 refine T.ret ?_
 exact eRt 2 (.one (dI (h+((l.length:Nat):Int)))) [0,1] rfl (ix (ix trivial))
theorem X4y:Tryz.prog.info? 152=some Tryz.t152:=by kernel_rfl
theorem Xeh (h:Int) (d:List UInt8) (l:List Yq) (hh:0≤h∧h≤1099511627776) (hl:l.length≤100):Holds Tryz.prog 89 ⟨[pv 0 0],[.box 149 [dI h,dS d,dB true,.own 1 (Xk false).sz 0 l.length],Xe 152 (Xk false) l],dv (Yh (hdL d l)),[.live (.box 149 [dI h,dS d,dB true,.own 1 (Xk false).sz 0 l.length]),.live (Xe 152 (Xk false) l)]⟩:=by
 refine Holds.of Tryz.func89 rfl (N:=27) Tryz.ntmps89 rfl fun w0 B0 S0 U0=>?_
 show T _ (Y2 27 2 w0 S0 U0 B0) ⟨[pv 0 0],[.live (.box 149 [dI h,dS d,dB true,.own 1 (Xk false).sz 0 l.length]),.live (Xe 152 (Xk false) l)]⟩ _ _
 refine sR [] ?_
 refine T.seq ?_
 refine sR [] ?_
 refine cF (b:=false) rfl ?_
 refine T.skip (nT (T.seq ?_))
 refine sR [] ?_
 refine sR [] ?_
 by_cases hq1:((l.length:Nat):Int)>0
 ·refine cT (dT hq1) ?_
  refine sR [hR 5 rfl rfl (Ye (u1:=.int .i64 ((l.length:Nat):Int)) (u2:=.int .i64 1) (v:=.int .i64 ((l.length-1:Nat):Int)) (Ve pa) (X3 rfl) ⟨rfl,trivial⟩),hR 6 rfl rfl (V9 (k:=.i64) (l:=1) (sz:=(Xk false).sz) (off:=0) (n:=l.length) (i:=((l.length-1:Nat):Int)) (m:=(l.length-1)) (o':=(l.length-1)*(Xk false).sz+0) Tryz.underlying147 X4y rfl rfl (by omega) (by simp) (X3 rfl) trivial),hR 8 rfl rfl (Ha (l:=1) (off:=(l.length-1)*(Xk false).sz+4) (i:=l.length-1) (j:=4) (T:=152) (sz:=(Xk false).sz) (n:=l.length) (el:=W6 (Xk false) l) (c:=.val (Yh (l.getD (l.length-1) Wk).X29)) X2h rfl (by omega) (by decide) rfl (X3 rfl) trivial)] ?_
  refine T.ret (rT ?_)
  exact eRt 2 (.one (dS (l.getD (l.length-1) Wk).X29)) [0,1] (by have e1:((hdL d l):List UInt8)=(l.getD (l.length-1) Wk).X29:=(by (unfold hdL;rw [if_neg (by omega)]));have hE:=congrArg (fun (q1:List UInt8)=>(dv (Yh q1):AV)) e1;exact hE) (ix (ix trivial))
 refine cF (dF hq1) ?_
 refine T.skip (nT ?_)
 refine sR [] ?_
 refine T.ret ?_
 exact eRt 2 (.one (dS d)) [0,1] (by have e1:((hdL d l):List UInt8)=d:=(by (unfold hdL;rw [if_pos (by omega)]));have hE:=congrArg (fun (q1:List UInt8)=>(dv (Yh q1):AV)) e1;exact hE) (ix (ix trivial))
theorem zero_152:Zero Tryz.prog 152 [.int .i64 0,Yh [],.slice none 0 0,.slice none 0 0,Yh []]:=⟨_,_,X4y,rfl,rfl⟩
theorem elem_147:Elem Tryz.prog 147 152 5 88:=⟨Tryz.underlying147,_,_,X4y,rfl,rfl,rfl,rfl,by decide⟩
section
variable (h:Int) (d:List UInt8) (l:List Yq) (b:Xq)
abbrev Z5l:SV:=.d (dsl false false (kE false) b.X9)
abbrev Z5m:SV:=.d (dsl false false (Xd false) b.Xl)
abbrev Z5n:List SV:=[dI b.Xg,dS b.Y4,(Z5l b),(Z5m b)]
abbrev Z5o:HS:=.live (.box 149 [dI h,dS d,dB true,.own 1 (Xk false).sz 0 l.length])
abbrev Z5p:HObj:=Xe 152 (Xk false) l
abbrev Z5q:List AV:=[pv 0 0,.tv (.agg (Z5n b)),aa,pv 2 0,vI (Vf b),vI (Vf b),aa,aa,aa,aa,aa,aa,aa,aa,vB (!true),aa,aa,vB (decide ((Vf b)≠0))]
abbrev Z5r:List HS:=[(Z5o h d l),.live ((Z5p l)),.live (.box 65 (Z5n b))]
abbrev Z5s:List HS:=[.live (.box 149 [dI h,dS d,dB true,.own 3 (Xk false).sz 0 l.length]),.dead,.live (.box 65 (Z5n b)),.live ((Z5p l))]
abbrev Z5t:List AV:=[pv 0 0,.tv (.agg (Z5n b)),aa,pv 2 0,vI 100,vI (Vf b),aa,aa,aa,aa,aa,aa,aa,aa,vB (!true),aa,aa,vB (decide ((Vf b)≠0)),aa,aa,aa,vB (decide ((b.Xg-1)≠(h+((l.length:Nat):Int))))]
abbrev Z5u:List AV:=[pv 0 0,.tv (.agg (Z5n b)),aa,pv 2 0,vI 101,vI (Vf b),aa,aa,aa,aa,aa,aa,aa,aa,vB (!true),aa,aa,vB (decide ((Vf b)≠0)),aa,aa,aa,vB (decide ((b.Xg-1)≠(h+((l.length:Nat):Int)))),aa,aa,aa,aa,aa,aa,vB (decide (b.Y4≠(hdL d l)))]
end
theorem Xai (h:Int) (d:List UInt8) (l:List Yq) (b:Xq) (hh:0≤h∧h≤1099511627776) (hl:l.length≤100) (hf:Hm b):Holds Tryz.prog 39 ⟨[pv 0 0,.tv (.agg [dI b.Xg,dS b.Y4,.d (dsl false false (kE false) b.X9),.d (dsl false false (Xd false) b.Xl)])],[.box 149 [dI h,dS d,dB true,.own 1 (Xk false).sz 0 l.length],Xe 152 (Xk false) l],vI (X5d h d l b),[.live (.box 149 [dI h,dS d,dB true,.own 2 (Xk false).sz 0 (X12 h d l b).length]),.dead,.live (Xe 152 (Xk false) (X12 h d l b))]⟩:=by
 refine Holds.of Tryz.func39 rfl (N:=49) Tryz.ntmps39 rfl fun w0 B0 S0 U0=>?_
 show T _ (Y2 49 2 w0 S0 U0 B0) ⟨[pv 0 0,.tv (.agg (Z5n b))],[(Z5o h d l),.live ((Z5p l))]⟩ _ _
 have hf1:=hf.1.1
 have hf2:=hf.2.1
 have hf3:=hf.2.2
 have hdf:=Xel hf
 have hg1:=hdf.1
 have hg2:=hdf.2.1
 refine sR [] ?_
 refine T.seq ?_
 refine sR (Xm hY0 [3,4,5,6,7] (hP0 8::[])) ?_
 refine cF (b:=(!true)) rfl ?_
 refine T.skip (nT (T.seq ?_))
 refine sR [hR 1 rfl rfl (rCa (X73 false b (by omega) (by omega)) Tryz.func87 [] [(.tmp 15,.tv (.agg (Z5n b)))] 0 0)] ?_
 refine T.block ?_
 refine sR [] ?_
 by_cases hq1:(Vf b)≠0
 ·refine cT (dT hq1) ?_
  refine sR [] ?_
  refine T.ret (rB (rT ?_))
  refine eN ⟨(Z5q b),(Z5r h d l b)⟩ ?_
  refine Xc (s':=⟨(Z5q b),(Z5s h d l b)⟩) (fun _ _ hG=>Gs.move (s:=⟨(Z5q b),(Z5r h d l b)⟩) 1 3 (o:=(Z5p l)) rfl rfl rfl p5i ⟨(.inr pZ16),⟨(.inl ⟨rfl,rfl⟩),⟨(.inr p1l),⟨(.inr (.inl ⟨rfl,rfl⟩)),trivial⟩⟩⟩⟩ hG) ?_
  exact eRt 4 (.one (dI (Vf b))) [0,1,3] (cI (by (have hx:=X81 (h:=h) (d:=d) (l:=l) (b:=b) ‹_› ;exact hx.1))) ⟨⟨rfl,(by have e1:(l.length:Nat)=(X12 h d l b).length:=(by (have hx:=X81 (h:=h) (d:=d) (l:=l) (b:=b) ‹_› ;(rw [hx.2];done)));have hE:=congrArg (fun (q1:Nat)=>(.live (.box 149 [dI h,dS d,dB true,.own 3 (Xk false).sz 0 q1]):HS)) e1;exact Eq.trans pZ7 hE)⟩,⟨⟨rfl,(by have e1:(l:List Yq)=(X12 h d l b):=(by (have hx:=X81 (h:=h) (d:=d) (l:=l) (b:=b) ‹_› ;exact hx.2.symm));have hE:=congrArg (fun (q1:List Yq)=>(.live (Xe 152 (Xk false) q1):HS)) e1;exact Eq.trans pZ7 hE)⟩,trivial⟩⟩
 have hca:=Xic (Classical.not_not.1 hq1)
 refine cF (dF hq1) ?_
 refine sD [[],[0],[0,1],[],[3],[0,1,2,3,4],[0,1,2,3,4,5]] [hR 2 rfl rfl (Ye (u1:=.int .i64 b.Xg) (u2:=.int .i64 1) (v:=.int .i64 (b.Xg-1)) (Ve pa) (X3 rfl) ⟨rfl,trivial⟩),hR 4 rfl rfl (rCa (X3d h d l ‹_› ‹_›) Tryz.func88 [0,1] [(.tmp 25,pv 0 0)] 2 2)] ?_
 by_cases hq2:(b.Xg-1)≠(h+((l.length:Nat):Int))
 ·refine cT (dT hq2) ?_
  refine sR [] ?_
  refine T.ret (rB (rT ?_))
  refine eN ⟨(Z5t h l b),(Z5r h d l b)⟩ ?_
  refine Xc (s':=⟨(Z5t h l b),(Z5s h d l b)⟩) (fun _ _ hG=>Gs.move (s:=⟨(Z5t h l b),(Z5r h d l b)⟩) 1 3 (o:=(Z5p l)) rfl rfl rfl p3q ⟨(.inr pZ16),⟨(.inl ⟨rfl,rfl⟩),⟨(.inr p1l),⟨(.inr (.inl ⟨rfl,rfl⟩)),trivial⟩⟩⟩⟩ hG) ?_
  exact eRt 4 (.one (dI 100)) [0,1,3] (cI (by (have hx:=X80 (h:=h) (d:=d) (l:=l) (b:=b) ‹_› ‹_› ;exact hx.1))) ⟨⟨rfl,(by have e1:(l.length:Nat)=(X12 h d l b).length:=(by (have hx:=X80 (h:=h) (d:=d) (l:=l) (b:=b) ‹_› ‹_› ;(rw [hx.2];done)));have hE:=congrArg (fun (q1:Nat)=>(.live (.box 149 [dI h,dS d,dB true,.own 3 (Xk false).sz 0 q1]):HS)) e1;exact Eq.trans pZ7 hE)⟩,⟨⟨rfl,(by have e1:(l:List Yq)=(X12 h d l b):=(by (have hx:=X80 (h:=h) (d:=d) (l:=l) (b:=b) ‹_› ‹_› ;exact hx.2.symm));have hE:=congrArg (fun (q1:List Yq)=>(.live (Xe 152 (Xk false) q1):HS)) e1;exact Eq.trans pZ7 hE)⟩,trivial⟩⟩
 refine cF (dF hq2) ?_
 refine sD [[],[0],[],[2],[0,1,2,3],[0,1,2,3,4]] [hR 3 rfl rfl (rCa (Xeh h d l ‹_› ‹_›) Tryz.func89 [0,1] [(.tmp 31,pv 0 0)] 2 2)] ?_
 by_cases hq3:b.Y4≠(hdL d l)
 ·refine cT (dT hq3) ?_
  refine sR [] ?_
  refine T.ret (rB (rT ?_))
  refine eN ⟨(Z5u h d l b),(Z5r h d l b)⟩ ?_
  refine Xc (s':=⟨(Z5u h d l b),(Z5s h d l b)⟩) (fun _ _ hG=>Gs.move (s:=⟨(Z5u h d l b),(Z5r h d l b)⟩) 1 3 (o:=(Z5p l)) rfl rfl rfl ⟨.inl rfl,(kk4 p2w)⟩ ⟨(.inr pZ16),⟨(.inl ⟨rfl,rfl⟩),⟨(.inr p1l),⟨(.inr (.inl ⟨rfl,rfl⟩)),trivial⟩⟩⟩⟩ hG) ?_
  exact eRt 4 (.one (dI 101)) [0,1,3] (cI (by (have hx:=X7z (h:=h) (d:=d) (l:=l) (b:=b) ‹_› ‹_› ‹_› ;exact hx.1))) ⟨⟨rfl,(by have e1:(l.length:Nat)=(X12 h d l b).length:=(by (have hx:=X7z (h:=h) (d:=d) (l:=l) (b:=b) ‹_› ‹_› ‹_› ;(rw [hx.2];done)));have hE:=congrArg (fun (q1:Nat)=>(.live (.box 149 [dI h,dS d,dB true,.own 3 (Xk false).sz 0 q1]):HS)) e1;exact Eq.trans pZ7 hE)⟩,⟨⟨rfl,(by have e1:(l:List Yq)=(X12 h d l b):=(by (have hx:=X7z (h:=h) (d:=d) (l:=l) (b:=b) ‹_› ‹_› ‹_› ;exact hx.2.symm));have hE:=congrArg (fun (q1:List Yq)=>(.live (Xe 152 (Xk false) q1):HS)) e1;exact Eq.trans pZ7 hE)⟩,trivial⟩⟩
 refine cF (dF hq3) ?_
 refine T.skip ?_
 refine nB ?_
 refine nT ?_
 refine sD [[],[],[1],[1,2],[1,2,3],[],[5],[],[5,6,7],[5,6,7,8],[5,6,7,8,9],[5,6,7,8,9,10],[1,2,3,4,5,6,7,8,9,10,11],[0,1,2,3,4,5,6,7,8,9,10,11,12],[0,1,2,3,4,5,6,7,8,9,10,11,12,13],[0,1,2,3,4,5,6,7,8,9,10,11,12,13,14]] [hR 6 rfl rfl (rCa (X72 b ‹_›) Tryz.func90 [] [(.tmp 39,.tv (.agg (Z5n b)))] 0 0),hR 8 rfl rfl (rCa (X0z false b ‹_›) Tryz.func53 [] [(.tmp 41,.tv (.agg (Z5n b)))] 0 0),hR 9 rfl rfl (rCa (X5a (Ws b) ‹_› ‹_›) Tryz.func91 [] [(.tmp 42,.tv (.agg [dI (Ws b).Xg,dS (Ws b).Y4,dI (Ws b).Yg,dS (Ws b).W2]))] 0 0),hR 11 rfl rfl (Yd 3 152 (Xk false) (Ez false) [(Yq.mk b (Ii (Ws b)))] [⟨0,.tmp 44,.agg [dI b.Xg,dS b.Y4,(Z5l b),(Z5m b),dS (Ii (Ws b))],0⟩] (cs:=[dI b.Xg,dS b.Y4,(Z5l b),(Z5m b),dS (Ii (Ws b))]) Tryz.underlying147 X4y rfl zero_152 rfl rfl rfl pd (Yp rfl rfl pd W4) pZ7 (V1 pZ7) (X3 rfl) trivial),hR 12 rfl rfl (Yy 1 4 152 88 (Xk false) (Ez false) l [(Yq.mk b (Ii (Ws b)))] (l++[(Yq.mk b (Ii (Ws b)))]) l.length (sy:=(.own 3 (Xk false).sz 0 [(Yq.mk b (Ii (Ws b)))].length)) (rhs:=[(3,.live (Xe 152 (Xk false) [(Yq.mk b (Ii (Ws b)))]))]) elem_147 (by omega) (Wu 3 152 (Xk false) [(Yq.mk b (Ii (Ws b)))]) Jn (by (simp [maxLen,-List.getD_eq_getElem?_getD]<;>omega)) (by (simp [maxLen,-List.getD_eq_getElem?_getD]<;>omega)) (X3 rfl) trivial)] ?_
 refine sR [] ?_
 refine T.ret ?_
 exact eRt 4 (.one (dI 0)) [0,1,4] (cI (by (have hx:=Xa6 (h:=h) (d:=d) (l:=l) (b:=b) ‹_› ‹_› ‹_› ;exact hx.1))) ⟨⟨rfl,(by have e1:((l++[(Yq.mk b (Ii (Ws b)))]).length:Nat)=(X12 h d l b).length:=(by (have hx:=Xa6 (h:=h) (d:=d) (l:=l) (b:=b) ‹_› ‹_› ‹_› ;(rw [hx.2];rfl)));have hE:=congrArg (fun (q1:Nat)=>(.live (.box 149 [dI h,dS d,dB true,.own 4 (Xk false).sz 0 q1]):HS)) e1;exact Eq.trans pZ7 hE)⟩,⟨⟨rfl,(by have e1:(l++[(Yq.mk b (Ii (Ws b)))]:List Yq)=(X12 h d l b):=(by (have hx:=Xa6 (h:=h) (d:=d) (l:=l) (b:=b) ‹_› ‹_› ‹_› ;exact hx.2.symm));have hE:=congrArg (fun (q1:List Yq)=>(.live (Xe 152 (Xk false) q1):HS)) e1;exact Eq.trans pZ7 hE)⟩,trivial⟩⟩
end Go.Proofs.YtnaopgohccacmaaGreat.Q
