import Derived.Test.YtnaopgohccacmaaGreatC19n12
namespace Go.Proofs.YtnaopgohccacmaaGreat.Q
open Go Go.RowKit
set_option linter.unusedVariables false
set_option linter.unusedSimpArgs false
set_option maxRecDepth 100000
set_option maxHeartbeats 4000000
abbrev Z50 (tb_:Bool) (b:Xn):List SV:=[dI b.X9,dS b.Xy,.d (dsl tb_ false (kE tb_) b.X7),.d (dsl tb_ false (Xb tb_) b.Xf)]
abbrev Z51 (tb_:Bool) (b:Xn) (i:Int):St:=⟨[.tv (.agg (Z50 tb_ b)),vI i,pv 0 0,aa,dv (.slice none 0 0),vI (Vd b),vI (Vd b),aa,aa,aa,vB (decide ((Vd b)≠0))],[.live (.box 65 (Z50 tb_ b))]⟩
theorem Xgh (tb_:Bool) (b:Xn) (i:Int) (hf:Hv b):Holds Tryz.prog 54 ⟨[.tv (.agg [dI b.X9,dS b.Xy,.d (dsl tb_ false (kE tb_) b.X7),.d (dsl tb_ false (Xb tb_) b.Xf)]),vI i],[],.tup [.one (.d (dsl false false (X8 false) (H7 b i))),.one (dI (J7 b i))],[]⟩:=by
 refine Holds.of Tryz.func54 rfl (N:=18) Tryz.ntmps54 rfl fun w0 B0 S0 U0=>?_
 show T _ (Y2 18 0 w0 S0 U0 B0) ⟨[.tv (.agg (Z50 tb_ b)),vI i],[]⟩ _ _
 have hf1:=hf.1.1
 have hf2:=hf.2.1
 have hf3:=hf.2.2
 have hll:=Vn b
 have hfl:=Uo hf
 have hrl:=Vo hfl
 refine sR [] (T.seq (sR [hR 1 rfl rfl (rCa (X6w tb_ b (by omega) (by omega)) Tryz.func87 [] [(.tmp 7,.tv (.agg (Z50 tb_ b)))] 0 0)] (sR [] ?_)))
 by_cases hq1:(Vd b)≠0
 ·refine cT (dT hq1) (sR [] (T.ret (rT ?_)))
  refine eN (Z51 tb_ b i) ?_
  refine Xa (s':=⟨[.tv (.agg (Z50 tb_ b)),vI i,pv 0 0,aa,slV false false (X8 false) ([]:List Y1),vI (Vd b),vI (Vd b),aa,aa,aa,vB (decide ((Vd b)≠0))],[.live (.box 65 (Z50 tb_ b))]⟩) (fun _ _ hG=>W1 (s:=(Z51 tb_ b i)) (kk4 ⟨pZ8,(kk2 (kk4 trivial))⟩) ⟨.inl rfl,trivial⟩ hG) ?_
  exact eX [.t 4 (.one (.d (dsl false false (X8 false) ([]:List Y1)))),.t 5 (.one (dI (Vd b)))] ⟨⟨rfl,by kernel_rfl⟩,⟨⟨rfl,by kernel_rfl⟩,trivial⟩⟩ [] p2j trivial
 refine cF (dF hq1) (T.skip (nT ?_))
 refine sR [hR 1 rfl rfl (rCa (X5f tb_ b p4z) Tryz.func109 [1] [(.tmp 12,.tv (.agg (Z50 tb_ b)))] 0 1),hR 3 rfl rfl (Wt (Xf8 true false false (Y5 b) i ‹_›) Tryz.func111 rfl (by decide) [] [1] (l:=[(.tmp 13,Xx 1 (kSl false kU8) 0 (Y5 b).length),(.tmp 14,vI i)]) [(1,.live (Xc 25 (kSl false kU8) (Y5 b)))] rfl 0 0 rfl rfl rfl rfl rfl rfl rfl rfl rfl ⟨.inr (.inl ⟨rfl,pZs,rfl,rfl,by simp,25,(Y5 b).length,W5 (kSl false kU8) (Y5 b),List.Mem.head _,pf,fun i j=>by rw [Nat.zero_add]⟩),⟨.inl ⟨rfl,rfl⟩,trivial⟩⟩ rfl pZ3 p4h (X2 rfl) trivial)] ?_
 refine T.ret ?_
 exact eX [.t 4 (.one (.d (dsl false false (X8 false) (Hk (Y5 b) i)))),.t 5 (.one (dI (Eg (Y5 b) i)))] ⟨⟨rfl,by kernel_rfl⟩,⟨⟨rfl,by kernel_rfl⟩,trivial⟩⟩ [] pZ23 trivial
abbrev Z52 (tb_:Bool) (b:Xn):List SV:=[dI b.X9,dS b.Xy,.d (dsl tb_ false (kE tb_) b.X7),.d (dsl tb_ false (Xb tb_) b.Xf)]
abbrev Z53 (tb_:Bool) (b:Xn) (i:Int):St:=⟨[.tv (.agg (Z52 tb_ b)),vI i,pv 0 0,aa,dv (.slice none 0 0),vI (Vd b),vI (Vd b),aa,aa,aa,vB (decide ((Vd b)≠0))],[.live (.box 65 (Z52 tb_ b))]⟩
theorem Xek (tb_:Bool) (b:Xn) (i:Int) (hf:Hv b):Holds Tryz.prog 45 ⟨[.tv (.agg [dI b.X9,dS b.Xy,.d (dsl tb_ false (kE tb_) b.X7),.d (dsl tb_ false (Xb tb_) b.Xf)]),vI i],[],.tup [.one (.d (dsl false false (X8 false) (H7 b i))),.one (dI (J7 b i))],[]⟩:=by
 refine Holds.of Tryz.func45 rfl (N:=18) Tryz.ntmps45 rfl fun w0 B0 S0 U0=>?_
 show T _ (Y2 18 0 w0 S0 U0 B0) ⟨[.tv (.agg (Z52 tb_ b)),vI i],[]⟩ _ _
 have hf1:=hf.1.1
 have hf2:=hf.2.1
 have hf3:=hf.2.2
 have hll:=Vn b
 have hfl:=Uo hf
 have hrl:=Vo hfl
 refine sR [] (sR [hR 1 rfl rfl (rCa (X6q tb_ b (by omega) (by omega)) Tryz.func92 [] [(.tmp 7,.tv (.agg (Z52 tb_ b)))] 0 0)] (T.seq (sR [] ?_)))
 by_cases hq1:(Vd b)≠0
 ·refine cT (dT hq1) (sR [] (T.ret (rT ?_)))
  refine eN (Z53 tb_ b i) ?_
  refine Xa (s':=⟨[.tv (.agg (Z52 tb_ b)),vI i,pv 0 0,aa,slV false false (X8 false) ([]:List Y1),vI (Vd b),vI (Vd b),aa,aa,aa,vB (decide ((Vd b)≠0))],[.live (.box 65 (Z52 tb_ b))]⟩) (fun _ _ hG=>W1 (s:=(Z53 tb_ b i)) (kk4 ⟨pZ8,(kk2 (kk4 trivial))⟩) ⟨.inl rfl,trivial⟩ hG) ?_
  exact eX [.t 4 (.one (.d (dsl false false (X8 false) ([]:List Y1)))),.t 5 (.one (dI (Vd b)))] ⟨⟨rfl,by kernel_rfl⟩,⟨⟨rfl,by kernel_rfl⟩,trivial⟩⟩ [] p2j trivial
 refine cF (dF hq1) (T.skip (nT ?_))
 refine sR [hR 1 rfl rfl (rCa (X4n tb_ b p4z) Tryz.func97 [1] [(.tmp 12,.tv (.agg (Z52 tb_ b)))] 0 1),hR 3 rfl rfl (Wt (Xh5 true false false (Y5 b) i ‹_›) Tryz.func99 rfl (by decide) [] [1] (l:=[(.tmp 13,Xx 1 (kSl false kU8) 0 (Y5 b).length),(.tmp 14,vI i)]) [(1,.live (Xc 25 (kSl false kU8) (Y5 b)))] rfl 0 0 rfl rfl rfl rfl rfl rfl rfl rfl rfl ⟨.inr (.inl ⟨rfl,pZs,rfl,rfl,by simp,25,(Y5 b).length,W5 (kSl false kU8) (Y5 b),List.Mem.head _,pf,fun i j=>by rw [Nat.zero_add]⟩),⟨.inl ⟨rfl,rfl⟩,trivial⟩⟩ rfl pZ3 p4h (X2 rfl) trivial)] ?_
 refine T.ret ?_
 exact eX [.t 4 (.one (.d (dsl false false (X8 false) (Hk (Y5 b) i)))),.t 5 (.one (dI (Eg (Y5 b) i)))] ⟨⟨rfl,by kernel_rfl⟩,⟨⟨rfl,by kernel_rfl⟩,trivial⟩⟩ [] pZ23 trivial
theorem Xa6 (h:Y6) (i:Int) (te:Bool) (e:aE) (r:Xw) (tp:Bool) (np:Bool) (p:List Y1) (hp:Jj szS 70 30000 p) (hb:e.Xh.length≤500) (hn:h.Ye≤9223372036854775807):Holds Tryz.prog 47 ⟨[.tv (.agg [dI h.X9,dS h.Xy,dI h.Ye,dS h.W4]),vI i,.tv (.agg [dI e.f_Signer,.d (dsl te false kU8 e.Xh)]),.tv (.agg [dI r.Y0,dI r.Xq]),slV tp np (X8 false) p],[],vI (Jk h.W4 (V9 e r) i h.Ye p),[]⟩:=by
 refine Holds.of Tryz.func47 rfl (N:=21) Tryz.ntmps47 rfl fun w0 B0 S0 U0=>?_
 show T _ (Y2 21 0 w0 S0 U0 B0) ⟨[.tv (.agg [dI h.X9,dS h.Xy,dI h.Ye,dS h.W4]),vI i,.tv (.agg [dI e.f_Signer,.d (dsl te false kU8 e.Xh)]),.tv (.agg [dI r.Y0,dI r.Xq]),slV tp np (X8 false) p],[]⟩ _ _
 have hlf:=X2v e r
 refine sR [] ?_
 refine sD [[],[0],[],[],[2,3],[],[],[6],[],[0,1,2,3,4,5,6,7,8],[0,1,2,3,4,5,6,7,8,9]] [hR 4 rfl rfl (rCa (Xa5 te e r (by omega)) Tryz.func101 [3] [(.tmp 13,.tv (.agg [dI e.f_Signer,.d (dsl te false kU8 e.Xh)])),(.tmp 14,.tv (.agg [dI r.Y0,dI r.Xq]))] 0 1),hR 9 rfl rfl (Wt (Xd3 h.W4 true false (V9 e r) i h.Ye tp np p ‹_› (by omega) ‹_›) Tryz.func100 rfl (by decide) [] [3] (l:=[(.tmp 12,dv (Yn h.W4)),(.tmp 15,Xx 3 kU8 0 (V9 e r).length),(.tmp 16,vI i),(.tmp 18,vI h.Ye),(.tmp 19,slV tp np (X8 false) p)]) [(3,.live (Xc 5 kU8 (V9 e r)))] rfl 0 0 rfl rfl rfl rfl rfl rfl rfl rfl rfl ⟨.inl ⟨rfl,rfl⟩,⟨.inr (.inl ⟨rfl,pZs,rfl,rfl,by simp,5,(V9 e r).length,W5 kU8 (V9 e r),List.Mem.head _,pf,fun i j=>by rw [Nat.zero_add]⟩),⟨.inl ⟨rfl,rfl⟩,⟨.inl ⟨rfl,rfl⟩,⟨.inl ⟨rfl,rfl⟩,trivial⟩⟩⟩⟩⟩ rfl pZ3 p2o (X2 rfl) trivial)] ?_
 refine T.ret ?_
 exact eRt 10 (.one (dI (Jk h.W4 (V9 e r) i h.Ye p))) [] rfl trivial
theorem Xle (ta:Bool) (na:Bool) (a:List aE) (hp:a.length≤1000000):Holds Tryz.prog 134 ⟨[slV ta na (kE false) a],[],Xx 0 (kE false) 0 a.length,[.live (Xc 43 (kE false) a)]⟩:=by
 refine Holds.of Tryz.func134 rfl (N:=8) Tryz.ntmps134 rfl fun w0 B0 S0 U0=>?_
 show T _ (Y2 8 0 w0 S0 U0 B0) ⟨[slV ta na (kE false) a],[]⟩ _ _
 cases na
 ·refine X86 (k:=0) rfl (fun h0=>?_) ?_
  ·have h0:=List.eq_nil_of_length_eq_zero h0
   subst h0
   show T _ _ ⟨[dv (.slice none 0 0)],[]⟩ _ _
   refine sR [] (T.seq (sR [hR 1 rfl rfl (Yb (u1:=.slice none 0 0) (u2:=.slice none 0 0) (v:=.bool true) (X30 Tryz.underlying37) (X2 rfl) ⟨rfl,trivial⟩)] (cT (b:=true) rfl (sR [] (T.ret (rT ?_))))))
   refine eN ⟨[dv (.slice none 0 0),aa,dv (.slice none 0 0),aa,vB true],[]⟩ ?_
   refine Xa (s':=⟨[dv (.slice none 0 0),aa,Xx 0 (kE false) 0 0,aa,vB true],[.live (Xc 43 (kE false) ([]:List aE))]⟩) (fun _ _ hG=>Vs 0 2 43 (kE false) rfl rfl hG) ?_
   exact eRt 2 (.one (.own 0 (kE false).sz 0 0)) [0] (congrArg (fun (q1:Nat)=>(Xx 0 (kE false) 0 q1:AV)) (by rfl)) (ix trivial)
  show T _ _ ⟨[slV ta true (kE false) a],[]⟩ _ _
  refine sR [] (T.seq (sR [hR 1 rfl rfl (Ef (s:=.d (dsl ta true (kE false) a)) Tryz.underlying37 (.inl rfl) (X2 rfl) ⟨rfl,trivial⟩)] (cF (b:=false) rfl (T.skip (nT ?_)))))
  refine sR [hR 0 rfl rfl (Y7 0 43 (kE false) (W9 false) ([]:List aE) [] (cs:=[]) Tryz.underlying37 Vv rfl E7 rfl rfl rfl pb W3 pZ4 (V2 pZ4) (X2 rfl) trivial),hR 2 rfl rfl (Yv 0 1 43 32 (kE false) (W9 false) ([]:List aE) a a ([]:List aE).length (sy:=(.d (dsl ta true (kE false) a))) (rhs:=[]) En (by omega) (Uv ta true (kE false) a) (by simp) (by (simp [maxLen,-List.getD_eq_getElem?_getD]<;>omega)) (by (simp [maxLen,-List.getD_eq_getElem?_getD]<;>omega)) (X2 rfl) trivial)] ?_
  refine T.ret ?_
  exact eRt 2 (.one (.own 1 (kE false).sz 0 a.length)) [1] rfl (ix trivial)
 refine sR [] (T.seq (sR [hR 1 rfl rfl (Ef (s:=.d (dsl ta true (kE false) a)) Tryz.underlying37 (.inl rfl) (X2 rfl) ⟨rfl,trivial⟩)] (cF (b:=false) rfl (T.skip (nT ?_)))))
 refine sR [hR 0 rfl rfl (Y7 0 43 (kE false) (W9 false) ([]:List aE) [] (cs:=[]) Tryz.underlying37 Vv rfl E7 rfl rfl rfl pb W3 pZ4 (V2 pZ4) (X2 rfl) trivial),hR 2 rfl rfl (Yv 0 1 43 32 (kE false) (W9 false) ([]:List aE) a a ([]:List aE).length (sy:=(.d (dsl ta true (kE false) a))) (rhs:=[]) En (by omega) (Uv ta true (kE false) a) (by simp) (by (simp [maxLen,-List.getD_eq_getElem?_getD]<;>omega)) (by (simp [maxLen,-List.getD_eq_getElem?_getD]<;>omega)) (X2 rfl) trivial)] ?_
 refine T.ret ?_
 exact eRt 2 (.one (.own 1 (kE false).sz 0 a.length)) [1] rfl (ix trivial)
theorem X7l:Zero Tryz.prog 46 [.int .i64 0,.int .i64 0]:=⟨_,_,E0,rfl,rfl⟩
theorem X7y:Elem Tryz.prog 63 46 2 16:=⟨Tryz.underlying63,_,_,E0,rfl,rfl,rfl,rfl,by decide⟩
theorem Xld (ta:Bool) (na:Bool) (a:List Xw) (hp:a.length≤1000000):Holds Tryz.prog 133 ⟨[slV ta na (Xb false) a],[],Xx 0 (Xb false) 0 a.length,[.live (Xc 46 (Xb false) a)]⟩:=by
 refine Holds.of Tryz.func133 rfl (N:=8) Tryz.ntmps133 rfl fun w0 B0 S0 U0=>?_
 show T _ (Y2 8 0 w0 S0 U0 B0) ⟨[slV ta na (Xb false) a],[]⟩ _ _
 cases na
 ·refine X86 (k:=0) rfl (fun h0=>?_) ?_
  ·have h0:=List.eq_nil_of_length_eq_zero h0
   subst h0
   show T _ _ ⟨[dv (.slice none 0 0)],[]⟩ _ _
   refine sR [] (T.seq (sR [hR 1 rfl rfl (Yb (u1:=.slice none 0 0) (u2:=.slice none 0 0) (v:=.bool true) (X30 Tryz.underlying63) (X2 rfl) ⟨rfl,trivial⟩)] (cT (b:=true) rfl (sR [] (T.ret (rT ?_))))))
   refine eN ⟨[dv (.slice none 0 0),aa,dv (.slice none 0 0),aa,vB true],[]⟩ ?_
   refine Xa (s':=⟨[dv (.slice none 0 0),aa,Xx 0 (Xb false) 0 0,aa,vB true],[.live (Xc 46 (Xb false) ([]:List Xw))]⟩) (fun _ _ hG=>Vs 0 2 46 (Xb false) rfl rfl hG) ?_
   exact eRt 2 (.one (.own 0 (Xb false).sz 0 0)) [0] (congrArg (fun (q1:Nat)=>(Xx 0 (Xb false) 0 q1:AV)) (by rfl)) (ix trivial)
  show T _ _ ⟨[slV ta true (Xb false) a],[]⟩ _ _
  refine sR [] (T.seq (sR [hR 1 rfl rfl (Ef (s:=.d (dsl ta true (Xb false) a)) Tryz.underlying63 (.inl rfl) (X2 rfl) ⟨rfl,trivial⟩)] (cF (b:=false) rfl (T.skip (nT ?_)))))
  refine sR [hR 0 rfl rfl (Y7 0 46 (Xb false) (Vu false) ([]:List Xw) [] (cs:=[]) Tryz.underlying63 E0 rfl X7l rfl rfl rfl pb W3 pZ4 (V2 pZ4) (X2 rfl) trivial),hR 2 rfl rfl (Yv 0 1 46 16 (Xb false) (Vu false) ([]:List Xw) a a ([]:List Xw).length (sy:=(.d (dsl ta true (Xb false) a))) (rhs:=[]) X7y (by omega) (Uv ta true (Xb false) a) (by simp) (by (simp [maxLen,-List.getD_eq_getElem?_getD]<;>omega)) (by (simp [maxLen,-List.getD_eq_getElem?_getD]<;>omega)) (X2 rfl) trivial)] ?_
  refine T.ret ?_
  exact eRt 2 (.one (.own 1 (Xb false).sz 0 a.length)) [1] rfl (ix trivial)
 refine sR [] (T.seq (sR [hR 1 rfl rfl (Ef (s:=.d (dsl ta true (Xb false) a)) Tryz.underlying63 (.inl rfl) (X2 rfl) ⟨rfl,trivial⟩)] (cF (b:=false) rfl (T.skip (nT ?_)))))
 refine sR [hR 0 rfl rfl (Y7 0 46 (Xb false) (Vu false) ([]:List Xw) [] (cs:=[]) Tryz.underlying63 E0 rfl X7l rfl rfl rfl pb W3 pZ4 (V2 pZ4) (X2 rfl) trivial),hR 2 rfl rfl (Yv 0 1 46 16 (Xb false) (Vu false) ([]:List Xw) a a ([]:List Xw).length (sy:=(.d (dsl ta true (Xb false) a))) (rhs:=[]) X7y (by omega) (Uv ta true (Xb false) a) (by simp) (by (simp [maxLen,-List.getD_eq_getElem?_getD]<;>omega)) (by (simp [maxLen,-List.getD_eq_getElem?_getD]<;>omega)) (X2 rfl) trivial)] ?_
 refine T.ret ?_
 exact eRt 2 (.one (.own 1 (Xb false).sz 0 a.length)) [1] rfl (ix trivial)
theorem zero_65:Zero Tryz.prog 65 [.int .i64 0,Yn [],.slice none 0 0,.slice none 0 0]:=⟨_,_,X62,rfl,rfl⟩
section
variable (b:Xn) (k:Nat)
abbrev Z54:SV:=dI b.X9
abbrev Z55:SV:=dS b.Xy
abbrev Z56:SV:=.d (dsl false false (kE false) b.X7)
abbrev Z57:List SV:=[(Z54 b),(Z55 b),(Z56 b),.d (dsl false false (Xb false) b.Xf)]
abbrev Z58:AV:=vI ((b.X7.length:Nat):Int)
abbrev Z59:List AV:=[aa,pv 0 0,pv 3 0,aa,aa,aa,aa,aa,aa,aa,aa,aa,aa,aa,(Z58 b),vI ((k:Nat):Int)]
abbrev Z5a:SV:=.own 2 (Xb false).sz 0 b.Xf.length
abbrev Z5b:HS:=.live (.box 65 [(Z54 b),(Z55 b),.own 1 (kE false).sz 0 b.X7.length,(Z5a b)])
abbrev Z5c:HS:=.live (Xc 43 (kE false) b.X7)
abbrev Z5d:HS:=.live (Xc 46 (Xb false) b.Xf)
abbrev Z5e:HS:=.live (.box 65 [dI 0,dS [],.d (.val (.slice none 0 0)),.d (.val (.slice none 0 0))])
abbrev Z5f:List HS:=[(Z5b b),(Z5c b),(Z5d b),Z5e]
abbrev Z5g:DV:=dsl false false kU8 (b.X7.getD k zE).Xh
abbrev Z5i:List AV:=[aa,pv 0 0,pv 3 0,aa,aa,aa,aa,aa,aa,aa,aa,aa,aa,aa,(Z58 b),vI ((k:Nat):Int),vB (decide (((k:Nat):Int)<((b.X7.length:Nat):Int)))]
abbrev Z5j:St:=⟨(Z5i b k),[.live (.box 65 [(Z54 b),(Z55 b),(Z56 b),(Z5a b)]),.dead,(Z5d b),.live (.box 65 [(Z54 b),(Z55 b),(Z56 b),(Z5a b)])]⟩
end
theorem X6v (b:Xn) (hf:Hv b):Holds Tryz.prog 90 ⟨[.tv (.agg [dI b.X9,dS b.Xy,.d (dsl false false (kE false) b.X7),.d (dsl false false (Xb false) b.Xf)])],[],.tv (.agg [dI b.X9,dS b.Xy,.d (dsl false false (kE false) b.X7),.d (dsl false false (Xb false) b.Xf)]),[]⟩:=by
 refine Holds.of Tryz.func90 rfl (N:=32) Tryz.ntmps90 rfl fun w0 B0 S0 U0=>?_
 show T _ (Y2 32 0 w0 S0 U0 B0) ⟨[.tv (.agg (Z57 b))],[]⟩ _ _
 have hf1:=hf.1.1
 have hf2:=hf.2.1
 have hf3:=hf.2.2
 refine sR [] (sR [hR 2 rfl rfl (rCa (Xld false false b.Xf (by omega)) Tryz.func133 [2] [(.tmp 5,slV false false (Xb false) b.Xf)] 0 1)] (sR [hR 2 rfl rfl (rCa (Xle false false b.X7 (by omega)) Tryz.func134 [3] [(.tmp 9,slV false false (kE false) b.X7)] 0 1)] (T.seq (sR [] (T.block ?_)))))
 refine T.loop (ι:=Nat) (fun (k:Nat)=>⟨(Z59 b k),(Z5f b)⟩) (fun (k:Nat)=>(k≤b.X7.length)) (fun (k:Nat)=>b.X7.length-k) (0) (Nat.zero_le _) (fun _ _ hG=>Wf [0,3,2,1] (bm 16 49158) (t1:=[aa,pv 0 0,pv 1 0,aa,aa,aa,aa,aa,aa,aa,aa,aa,aa,aa,(Z58 b),vI 0]) (h1:=[.live (.box 65 [(Z54 b),(Z55 b),.own 3 (kE false).sz 0 b.X7.length,(Z5a b)]),(Z5c b),(Z5d b),Z5e]) rfl rfl hG) ?_
 rintro k hk
 show T _ _ ⟨(Z59 b k),(Z5f b)⟩ _ _
 replace hk:k≤b.X7.length:=hk
 have hf1:=hf.1.1
 have hf2:=hf.2.1
 have hf3:=hf.2.2
 have hbk:(b.X7.getD k zE).Xh.length≤500:=Jw (sz:=szE) hf.1 (by decide) k
 refine sR [] (T.seq ?_)
 by_cases hq1:((k:Nat):Int)<((b.X7.length:Nat):Int)
 ·refine cT (dT hq1) (T.skip (nT (T.seq (T.block (sR [] ?_)))))
  refine xD [[],[0],[],[],[3],[],[3,4,5],[3,4,5,6],[3,4,5,6,7],[3,4,5,6,7,8],[0,1,2,3,4,5,6,7,8,9],[0,1,2,3,4,5,6,7,8,9,10],[0,1,2,3,4,5,6,7,8,9,10,11]] [hR 6 rfl rfl (Ww (k:=.i64) (l:=1) (sz:=(kE false).sz) (off:=0) (n:=b.X7.length) (i:=((k:Nat):Int)) (m:=k) (o':=k*(kE false).sz+0) Tryz.underlying37 Vv rfl rfl (by omega) (by simp) (X2 rfl) trivial),hR 8 rfl rfl (Jo (l:=1) (off:=k*(kE false).sz+1) (i:=k) (j:=1) (T:=43) (sz:=(kE false).sz) (n:=b.X7.length) (el:=W5 (kE false) b.X7) (c:=(Z5g b k)) Xii rfl (by omega) (by decide) rfl (X2 rfl) trivial),hR 9 rfl rfl (rCa (E4 false false (b.X7.getD k zE).Xh (by omega)) Tryz.func51 [4] [(.tmp 26,slV false false kU8 (b.X7.getD k zE).Xh)] 0 1),hR 10 rfl rfl (Ww (k:=.i64) (l:=1) (sz:=(kE false).sz) (off:=0) (n:=b.X7.length) (i:=((k:Nat):Int)) (m:=k) (o':=k*(kE false).sz+0) Tryz.underlying37 Vv rfl rfl (by omega) (by simp) (X2 rfl) trivial),hR 12 rfl rfl (Uz 1 27 4 5 kU8 (b.X7.getD k zE).Xh (av:=Xx 4 kU8 0 (b.X7.getD k zE).Xh.length) (Hj 1 43 (kE false) b.X7 (b.X7.getD k zE) k 1 1 [(Z5g b k)] (tv:=.one (.d ((Z5g b k)))) (off:=k*(kE false).sz+1) Xgd ⟨.inl rfl,trivial⟩ rfl rfl (by omega) (by decide) rfl (by intro j hj;replace hj:j<2:=hj;rcases j with _|_|j<;>rfl) trivial) rfl (.inr pZ0) p2t rfl rfl)] pZ4 pZ4 pZ4 pZ4 pZ4 pZ4 ?_
  refine nB (nT (xK [hR 0 rfl rfl (Yb (u1:=.int .i64 ((k:Nat):Int)) (u2:=.int .i64 1) (v:=.int .i64 ((k+1:Nat):Int)) (Wb pZ9) (X2 rfl) ⟨rfl,trivial⟩)] ?_))
  refine nL (k+1) (show (k+1)≤b.X7.length from (by omega)) (show (b.X7.length-(k+1):Nat)<b.X7.length-k from (by omega)) (fun _ _ hG=>Yu [0,1,2,3] (bm 16 49158) (h2:=[(Z5b b),.live (Xc 43 (kE false) (b.X7.set k (b.X7.getD k zE))),(Z5d b),Z5e]) rfl (by have e1:(b.X7:List aE)=(b.X7.set k (b.X7.getD k zE)):=(by (rw [set_same (by omega)];done));have hE:=congrArg (fun (q1:List aE)=>([(Z5b b),.live (Xc 43 (kE false) q1),(Z5d b),Z5e]:List HS)) e1;exact hE) hG)
 refine cF (dF hq1) (T.exit (xT (xT (xH (nT (sR [] (T.ret ?_)))))))
 refine eN ⟨(Z5i b k),[(Z5b b),(Z5c b),(Z5d b),(Z5b b)]⟩ ?_
 refine Xa (s':=(Z5j b k)) (fun _ _ hG=>Gs.freeze (s:=⟨(Z5i b k),[(Z5b b),(Z5c b),(Z5d b),(Z5b b)]⟩) 1 (el:=W5 (kE false) b.X7) (sz:=(kE false).sz) (n:=b.X7.length) rfl ⟨.inl rfl,(X1z trivial)⟩ ⟨p1y,⟨(.inl ⟨rfl,rfl⟩),⟨pZ7,⟨p1y,trivial⟩⟩⟩⟩ hG) ?_
 refine eN (Z5j b k) ?_
 refine Xa (s':=⟨(Z5i b k),[.live (.box 65 (Z57 b)),.dead,.dead,.live (.box 65 (Z57 b))]⟩) (fun _ _ hG=>Gs.freeze (s:=(Z5j b k)) 2 (el:=W5 (Xb false) b.Xf) (sz:=(Xb false).sz) (n:=b.Xf.length) rfl ⟨.inl rfl,(X1z trivial)⟩ ⟨p1x,⟨pZ7,⟨(.inl ⟨rfl,rfl⟩),⟨p1x,trivial⟩⟩⟩⟩ hG) ?_
 exact eX [.c 2 3 65 0 65 [(Z54 b),(Z55 b),(Z56 b),.d (dsl false false (Xb false) b.Xf)] (.agg (Z57 b))] ⟨⟨rfl,rfl,by kernel_rfl,by kernel_rfl,.inl ⟨4,Hc,rfl,Nat.le_of_ble_eq_true rfl⟩⟩,trivial⟩ [] rfl trivial
abbrev Z5k:SV:=dS (ofB (6:UInt8) ([]:List (List UInt8)))
theorem Xht:Holds Tryz.prog 36 ⟨[],[],pv 0 0,[.live (.box 149 [dI 0,dS (ofB 6 ([]:List (List UInt8))),dB true,.own 1 (Xj false).sz 0 ([]:List Yj).length]),.live (Xc 152 (Xj false) ([]:List Yj))]⟩:=by
 refine Holds.of Tryz.func36 rfl (N:=5) Tryz.ntmps36 rfl fun w0 B0 S0 U0=>?_
 show T _ (Y2 5 0 w0 S0 U0 B0) ⟨[],[]⟩ _ _
 refine sR [] (sR [hR 0 rfl rfl (rCn (X4b (6:UInt8) false false false ([]:List (List UInt8)) (by decide)) Tryz.func84 [] [(.const (.int .u8 6),dv (.int .u8 6)),(.const (.slice none 0 0),dv (.slice none 0 0))] 0 0 ⟨.inl ⟨rfl,rfl⟩,⟨.inr pZ8,trivial⟩⟩ ⟨rfl,⟨rfl,trivial⟩⟩)] (T.ret ?_))
 refine eN ⟨[pv 0 0],[.live (.box 149 [dI 0,Z5k,dB true,.d (.val (.slice none 0 0))])]⟩ ?_
 refine Xa (s':=⟨[pv 0 0],[.live (.box 149 [dI 0,Z5k,dB true,.own 1 (Xj false).sz 0 0]),.live (Xc 152 (Xj false) ([]:List Yj))]⟩) (fun _ _ hG=>Jr 1 0 3 152 (Xj false) (Tb:=149) (cs:=[dI 0,Z5k,dB true,.d (.val (.slice none 0 0))]) rfl rfl rfl hG) ?_
 exact eRt 0 (.one (.ptr 0 0)) [0,1] rfl ⟨⟨rfl,(by have e1:((ofB (6:UInt8) ([]:List (List UInt8))):List UInt8)=(ofB 6 ([]:List (List UInt8))):=(by rfl);have e2:(0:Nat)=([]:List Yj).length:=(by rfl);have hE:=congr (congrArg (fun (q1:List UInt8) (q2:Nat)=>(.live (.box 149 [dI 0,dS q1,dB true,.own 1 (Xj false).sz 0 q2]):HS)) e1) e2;exact Eq.trans pZ4 hE)⟩,(ix trivial)⟩
theorem X3k (h:Int) (d:List UInt8) (l:List Yj) (hh:0≤h∧h≤1099511627776) (hl:l.length≤100):Holds Tryz.prog 88 ⟨[pv 0 0],[.box 149 [dI h,dS d,dB true,.own 1 (Xj false).sz 0 l.length],Xc 152 (Xj false) l],vI (h+((l.length:Nat):Int)),[.live (.box 149 [dI h,dS d,dB true,.own 1 (Xj false).sz 0 l.length]),.live (Xc 152 (Xj false) l)]⟩:=by
 refine Holds.of Tryz.func88 rfl (N:=16) Tryz.ntmps88 rfl fun w0 B0 S0 U0=>?_
 show T _ (Y2 16 2 w0 S0 U0 B0) ⟨[pv 0 0],[.live (.box 149 [dI h,dS d,dB true,.own 1 (Xj false).sz 0 l.length]),.live (Xc 152 (Xj false) l)]⟩ _ _
 refine sR [] (T.seq (sR [] (cF (b:=false) rfl (T.skip (nT ?_)))))
 refine sD [[],[0],[0,1],[0,1,2],[0,1,2,3],[],[5],[5,6],[5,6,7],[5,6,7,8],[0,1,2,3,4,5,6,7,8,9],[0,1,2,3,4,5,6,7,8,9,10]] [hR 10 rfl rfl (Yb (u1:=.int .i64 h) (u2:=.int .i64 ((l.length:Nat):Int)) (v:=.int .i64 (h+((l.length:Nat):Int))) (Wb pZ9) (X2 rfl) trivial)] (T.ret ?_)
 exact eRt 2 (.one (dI (h+((l.length:Nat):Int)))) [0,1] rfl (ix (ix trivial))
theorem X52:Tryz.prog.info? 152=some Tryz.t152:=by kernel_rfl
theorem Xfg (h:Int) (d:List UInt8) (l:List Yj) (hh:0≤h∧h≤1099511627776) (hl:l.length≤100):Holds Tryz.prog 89 ⟨[pv 0 0],[.box 149 [dI h,dS d,dB true,.own 1 (Xj false).sz 0 l.length],Xc 152 (Xj false) l],dv (Yn (hdL d l)),[.live (.box 149 [dI h,dS d,dB true,.own 1 (Xj false).sz 0 l.length]),.live (Xc 152 (Xj false) l)]⟩:=by
 refine Holds.of Tryz.func89 rfl (N:=27) Tryz.ntmps89 rfl fun w0 B0 S0 U0=>?_
 show T _ (Y2 27 2 w0 S0 U0 B0) ⟨[pv 0 0],[.live (.box 149 [dI h,dS d,dB true,.own 1 (Xj false).sz 0 l.length]),.live (Xc 152 (Xj false) l)]⟩ _ _
 refine sR [] (T.seq (sR [] (cF (b:=false) rfl (T.skip (nT (T.seq (sR [] (sR [] ?_))))))))
 by_cases hq1:((l.length:Nat):Int)>0
 ·refine cT (dT hq1) (sR [hR 5 rfl rfl (Yb (u1:=.int .i64 ((l.length:Nat):Int)) (u2:=.int .i64 1) (v:=.int .i64 ((l.length-1:Nat):Int)) (Vy pZ9) (X2 rfl) ⟨rfl,trivial⟩),hR 6 rfl rfl (Ww (k:=.i64) (l:=1) (sz:=(Xj false).sz) (off:=0) (n:=l.length) (i:=((l.length-1:Nat):Int)) (m:=(l.length-1)) (o':=(l.length-1)*(Xj false).sz+0) Tryz.underlying147 X52 rfl rfl (by omega) (by simp) (X2 rfl) trivial),hR 8 rfl rfl (Jo (l:=1) (off:=(l.length-1)*(Xj false).sz+4) (i:=l.length-1) (j:=4) (T:=152) (sz:=(Xj false).sz) (n:=l.length) (el:=W5 (Xj false) l) (c:=.val (Yn (l.getD (l.length-1) Wp).X2a)) X2l rfl (by omega) (by decide) rfl (X2 rfl) trivial)] (T.ret (rT ?_)))
  exact eRt 2 (.one (dS (l.getD (l.length-1) Wp).X2a)) [0,1] (by have e1:((hdL d l):List UInt8)=(l.getD (l.length-1) Wp).X2a:=(by (unfold hdL;rw [if_neg (by omega)]));have hE:=congrArg (fun (q1:List UInt8)=>(dv (Yn q1):AV)) e1;exact hE) (ix (ix trivial))
 refine cF (dF hq1) (T.skip (nT (sR [] (T.ret ?_))))
 exact eRt 2 (.one (dS d)) [0,1] (by have e1:((hdL d l):List UInt8)=d:=(by (unfold hdL;rw [if_pos (by omega)]));have hE:=congrArg (fun (q1:List UInt8)=>(dv (Yn q1):AV)) e1;exact hE) (ix (ix trivial))
theorem zero_152:Zero Tryz.prog 152 [.int .i64 0,Yn [],.slice none 0 0,.slice none 0 0,Yn []]:=⟨_,_,X52,rfl,rfl⟩
theorem elem_147:Elem Tryz.prog 147 152 5 88:=⟨Tryz.underlying147,_,_,X52,rfl,rfl,rfl,rfl,by decide⟩
section
variable (h:Int) (d:List UInt8) (l:List Yj) (b:Xn)
abbrev Z5l:SV:=.d (dsl false false (kE false) b.X7)
abbrev Z5m:SV:=.d (dsl false false (Xb false) b.Xf)
abbrev Z5n:List SV:=[dI b.X9,dS b.Xy,(Z5l b),(Z5m b)]
abbrev Z5o:HS:=.live (.box 149 [dI h,dS d,dB true,.own 1 (Xj false).sz 0 l.length])
abbrev Z5p:HObj:=Xc 152 (Xj false) l
abbrev Z5q:List AV:=[pv 0 0,.tv (.agg (Z5n b)),aa,pv 2 0,vI (Vd b),vI (Vd b),aa,aa,aa,aa,aa,aa,aa,aa,vB (!true),aa,aa,vB (decide ((Vd b)≠0))]
abbrev Z5r:List HS:=[(Z5o h d l),.live ((Z5p l)),.live (.box 65 (Z5n b))]
abbrev Z5s:List HS:=[.live (.box 149 [dI h,dS d,dB true,.own 3 (Xj false).sz 0 l.length]),.dead,.live (.box 65 (Z5n b)),.live ((Z5p l))]
abbrev Z5t:List AV:=[pv 0 0,.tv (.agg (Z5n b)),aa,pv 2 0,vI 100,vI (Vd b),aa,aa,aa,aa,aa,aa,aa,aa,vB (!true),aa,aa,vB (decide ((Vd b)≠0)),aa,aa,aa,vB (decide ((b.X9-1)≠(h+((l.length:Nat):Int))))]
abbrev Z5u:List AV:=[pv 0 0,.tv (.agg (Z5n b)),aa,pv 2 0,vI 101,vI (Vd b),aa,aa,aa,aa,aa,aa,aa,aa,vB (!true),aa,aa,vB (decide ((Vd b)≠0)),aa,aa,aa,vB (decide ((b.X9-1)≠(h+((l.length:Nat):Int)))),aa,aa,aa,aa,aa,aa,vB (decide (b.Xy≠(hdL d l)))]
end
theorem Xaq (h:Int) (d:List UInt8) (l:List Yj) (b:Xn) (hh:0≤h∧h≤1099511627776) (hl:l.length≤100) (hf:Hv b):Holds Tryz.prog 39 ⟨[pv 0 0,.tv (.agg [dI b.X9,dS b.Xy,.d (dsl false false (kE false) b.X7),.d (dsl false false (Xb false) b.Xf)])],[.box 149 [dI h,dS d,dB true,.own 1 (Xj false).sz 0 l.length],Xc 152 (Xj false) l],vI (X5j h d l b),[.live (.box 149 [dI h,dS d,dB true,.own 2 (Xj false).sz 0 (X0v h d l b).length]),.dead,.live (Xc 152 (Xj false) (X0v h d l b))]⟩:=by
 refine Holds.of Tryz.func39 rfl (N:=49) Tryz.ntmps39 rfl fun w0 B0 S0 U0=>?_
 show T _ (Y2 49 2 w0 S0 U0 B0) ⟨[pv 0 0,.tv (.agg (Z5n b))],[(Z5o h d l),.live ((Z5p l))]⟩ _ _
 have hf1:=hf.1.1
 have hf2:=hf.2.1
 have hf3:=hf.2.2
 have hdf:=Xfm hf
 have hg1:=hdf.1
 have hg2:=hdf.2.1
 refine sR [] (T.seq (sR (Xl hY0 [3,4,5,6,7] (hP0 8::[])) (cF (b:=(!true)) rfl (T.skip (nT (T.seq (sR [hR 1 rfl rfl (rCa (X6w false b (by omega) (by omega)) Tryz.func87 [] [(.tmp 15,.tv (.agg (Z5n b)))] 0 0)] (T.block (sR [] ?_)))))))))
 by_cases hq1:(Vd b)≠0
 ·refine cT (dT hq1) (sR [] (T.ret (rB (rT ?_))))
  refine eN ⟨(Z5q b),(Z5r h d l b)⟩ ?_
  refine Xa (s':=⟨(Z5q b),(Z5s h d l b)⟩) (fun _ _ hG=>Gs.move (s:=⟨(Z5q b),(Z5r h d l b)⟩) 1 3 (o:=(Z5p l)) rfl rfl rfl (kk2 (X1z trivial)) ⟨(.inr py),⟨(.inl ⟨rfl,rfl⟩),⟨(.inr p1a),⟨(.inr (.inl ⟨rfl,rfl⟩)),trivial⟩⟩⟩⟩ hG) ?_
  exact eRt 4 (.one (dI (Vd b))) [0,1,3] (cI (by (have hx:=X84 (h:=h) (d:=d) (l:=l) (b:=b) ‹_› ;exact hx.1))) ⟨⟨rfl,(by have e1:(l.length:Nat)=(X0v h d l b).length:=(by (have hx:=X84 (h:=h) (d:=d) (l:=l) (b:=b) ‹_› ;(rw [hx.2];done)));have hE:=congrArg (fun (q1:Nat)=>(.live (.box 149 [dI h,dS d,dB true,.own 3 (Xj false).sz 0 q1]):HS)) e1;exact Eq.trans pZ4 hE)⟩,⟨⟨rfl,(by have e1:(l:List Yj)=(X0v h d l b):=(by (have hx:=X84 (h:=h) (d:=d) (l:=l) (b:=b) ‹_› ;exact hx.2.symm));have hE:=congrArg (fun (q1:List Yj)=>(.live (Xc 152 (Xj false) q1):HS)) e1;exact Eq.trans pZ4 hE)⟩,trivial⟩⟩
 have hca:=Xjt (Classical.not_not.1 hq1)
 refine cF (dF hq1) ?_
 refine sD [[],[0],[0,1],[],[3],[0,1,2,3,4],[0,1,2,3,4,5]] [hR 2 rfl rfl (Yb (u1:=.int .i64 b.X9) (u2:=.int .i64 1) (v:=.int .i64 (b.X9-1)) (Vy pZ9) (X2 rfl) ⟨rfl,trivial⟩),hR 4 rfl rfl (rCa (X3k h d l ‹_› ‹_›) Tryz.func88 [0,1] [(.tmp 25,pv 0 0)] 2 2)] ?_
 by_cases hq2:(b.X9-1)≠(h+((l.length:Nat):Int))
 ·refine cT (dT hq2) (sR [] (T.ret (rB (rT ?_))))
  refine eN ⟨(Z5t h l b),(Z5r h d l b)⟩ ?_
  refine Xa (s':=⟨(Z5t h l b),(Z5s h d l b)⟩) (fun _ _ hG=>Gs.move (s:=⟨(Z5t h l b),(Z5r h d l b)⟩) 1 3 (o:=(Z5p l)) rfl rfl rfl p3v ⟨(.inr py),⟨(.inl ⟨rfl,rfl⟩),⟨(.inr p1a),⟨(.inr (.inl ⟨rfl,rfl⟩)),trivial⟩⟩⟩⟩ hG) ?_
  exact eRt 4 (.one (dI 100)) [0,1,3] (cI (by (have hx:=X83 (h:=h) (d:=d) (l:=l) (b:=b) ‹_› ‹_› ;exact hx.1))) ⟨⟨rfl,(by have e1:(l.length:Nat)=(X0v h d l b).length:=(by (have hx:=X83 (h:=h) (d:=d) (l:=l) (b:=b) ‹_› ‹_› ;(rw [hx.2];done)));have hE:=congrArg (fun (q1:Nat)=>(.live (.box 149 [dI h,dS d,dB true,.own 3 (Xj false).sz 0 q1]):HS)) e1;exact Eq.trans pZ4 hE)⟩,⟨⟨rfl,(by have e1:(l:List Yj)=(X0v h d l b):=(by (have hx:=X83 (h:=h) (d:=d) (l:=l) (b:=b) ‹_› ‹_› ;exact hx.2.symm));have hE:=congrArg (fun (q1:List Yj)=>(.live (Xc 152 (Xj false) q1):HS)) e1;exact Eq.trans pZ4 hE)⟩,trivial⟩⟩
 refine cF (dF hq2) ?_
 refine sD [[],[0],[],[2],[0,1,2,3],[0,1,2,3,4]] [hR 3 rfl rfl (rCa (Xfg h d l ‹_› ‹_›) Tryz.func89 [0,1] [(.tmp 31,pv 0 0)] 2 2)] ?_
 by_cases hq3:b.Xy≠(hdL d l)
 ·refine cT (dT hq3) (sR [] (T.ret (rB (rT ?_))))
  refine eN ⟨(Z5u h d l b),(Z5r h d l b)⟩ ?_
  refine Xa (s':=⟨(Z5u h d l b),(Z5s h d l b)⟩) (fun _ _ hG=>Gs.move (s:=⟨(Z5u h d l b),(Z5r h d l b)⟩) 1 3 (o:=(Z5p l)) rfl rfl rfl ⟨.inl rfl,(kk4 p2r)⟩ ⟨(.inr py),⟨(.inl ⟨rfl,rfl⟩),⟨(.inr p1a),⟨(.inr (.inl ⟨rfl,rfl⟩)),trivial⟩⟩⟩⟩ hG) ?_
  exact eRt 4 (.one (dI 101)) [0,1,3] (cI (by (have hx:=X82 (h:=h) (d:=d) (l:=l) (b:=b) ‹_› ‹_› ‹_› ;exact hx.1))) ⟨⟨rfl,(by have e1:(l.length:Nat)=(X0v h d l b).length:=(by (have hx:=X82 (h:=h) (d:=d) (l:=l) (b:=b) ‹_› ‹_› ‹_› ;(rw [hx.2];done)));have hE:=congrArg (fun (q1:Nat)=>(.live (.box 149 [dI h,dS d,dB true,.own 3 (Xj false).sz 0 q1]):HS)) e1;exact Eq.trans pZ4 hE)⟩,⟨⟨rfl,(by have e1:(l:List Yj)=(X0v h d l b):=(by (have hx:=X82 (h:=h) (d:=d) (l:=l) (b:=b) ‹_› ‹_› ‹_› ;exact hx.2.symm));have hE:=congrArg (fun (q1:List Yj)=>(.live (Xc 152 (Xj false) q1):HS)) e1;exact Eq.trans pZ4 hE)⟩,trivial⟩⟩
 refine cF (dF hq3) (T.skip (nB (nT ?_)))
 refine sD [[],[],[1],[1,2],[1,2,3],[],[5],[],[5,6,7],[5,6,7,8],[5,6,7,8,9],[5,6,7,8,9,10],[1,2,3,4,5,6,7,8,9,10,11],[0,1,2,3,4,5,6,7,8,9,10,11,12],[0,1,2,3,4,5,6,7,8,9,10,11,12,13],[0,1,2,3,4,5,6,7,8,9,10,11,12,13,14]] [hR 6 rfl rfl (rCa (X6v b ‹_›) Tryz.func90 [] [(.tmp 39,.tv (.agg (Z5n b)))] 0 0),hR 8 rfl rfl (rCa (X0t false b ‹_›) Tryz.func53 [] [(.tmp 41,.tv (.agg (Z5n b)))] 0 0),hR 9 rfl rfl (rCa (X5g (Wn b) ‹_› ‹_›) Tryz.func91 [] [(.tmp 42,.tv (.agg [dI (Wn b).X9,dS (Wn b).Xy,dI (Wn b).Ye,dS (Wn b).W4]))] 0 0),hR 11 rfl rfl (Y7 3 152 (Xj false) (X05 false) [(Yj.mk b (Hw (Wn b)))] [⟨0,.tmp 44,.agg [dI b.X9,dS b.Xy,(Z5l b),(Z5m b),dS (Hw (Wn b))],0⟩] (cs:=[dI b.X9,dS b.Xy,(Z5l b),(Z5m b),dS (Hw (Wn b))]) Tryz.underlying147 X52 rfl zero_152 rfl rfl rfl pb (Ym rfl rfl pb W3) pZ4 (V2 pZ4) (X2 rfl) trivial),hR 12 rfl rfl (Yv 1 4 152 88 (Xj false) (X05 false) l [(Yj.mk b (Hw (Wn b)))] (l++[(Yj.mk b (Hw (Wn b)))]) l.length (sy:=(.own 3 (Xj false).sz 0 [(Yj.mk b (Hw (Wn b)))].length)) (rhs:=[(3,.live (Xc 152 (Xj false) [(Yj.mk b (Hw (Wn b)))]))]) elem_147 (by omega) (V0 3 152 (Xj false) [(Yj.mk b (Hw (Wn b)))]) px (by (simp [maxLen,-List.getD_eq_getElem?_getD]<;>omega)) (by (simp [maxLen,-List.getD_eq_getElem?_getD]<;>omega)) (X2 rfl) trivial)] ?_
 refine sR [] (T.ret ?_)
 exact eRt 4 (.one (dI 0)) [0,1,4] (cI (by (have hx:=Xab (h:=h) (d:=d) (l:=l) (b:=b) ‹_› ‹_› ‹_› ;exact hx.1))) ⟨⟨rfl,(by have e1:((l++[(Yj.mk b (Hw (Wn b)))]).length:Nat)=(X0v h d l b).length:=(by (have hx:=Xab (h:=h) (d:=d) (l:=l) (b:=b) ‹_› ‹_› ‹_› ;(rw [hx.2];rfl)));have hE:=congrArg (fun (q1:Nat)=>(.live (.box 149 [dI h,dS d,dB true,.own 4 (Xj false).sz 0 q1]):HS)) e1;exact Eq.trans pZ4 hE)⟩,⟨⟨rfl,(by have e1:(l++[(Yj.mk b (Hw (Wn b)))]:List Yj)=(X0v h d l b):=(by (have hx:=Xab (h:=h) (d:=d) (l:=l) (b:=b) ‹_› ‹_› ‹_› ;exact hx.2.symm));have hE:=congrArg (fun (q1:List Yj)=>(.live (Xc 152 (Xj false) q1):HS)) e1;exact Eq.trans pZ4 hE)⟩,trivial⟩⟩
section
variable (h:Int) (d:List UInt8) (l:List Yj) (x:Int)
abbrev Z5v:HS:=.live (.box 149 [dI h,dS d,dB true,.own 1 (Xj false).sz 0 l.length])
abbrev Z5w:HS:=.live (Xc 152 (Xj false) l)
abbrev Z5x:List AV:=[pv 0 0,vI x,aa,aa,pv 2 0,vI 4,aa,aa,aa,aa,aa,aa,aa,aa,aa,aa,aa,aa,aa,aa,aa,aa,vB true]
abbrev Z5y:List HS:=[(Z5v h d l),(Z5w l),.live (.box 65 [dI 0,dS [],.d (.val (.slice none 0 0)),.d (.val (.slice none 0 0))])]
abbrev Z5z:SV:=.d (dsl false false (kE false) ([]:List aE))
abbrev Z60:SV:=.d (dsl false false (Xb false) ([]:List Xw))
abbrev Z61:List SV:=[dI 0,dS [],Z5z,Z60]
abbrev Z62:List AV:=[pv 0 0,vI x,aa,aa,pv 2 0,vI 4,aa,aa,aa,aa,aa,aa,aa,aa,aa,aa,aa,aa,aa,aa,aa,aa,vB (decide (x>(h+((l.length:Nat):Int))))]
abbrev Z63:SV:=dI (l.getD ((x-h)-1).toNat Wp).Ur.X9
abbrev Z64:SV:=dS (l.getD ((x-h)-1).toNat Wp).Ur.Xy
abbrev Z65:SV:=.d (dsl false false (kE false) (l.getD ((x-h)-1).toNat Wp).Ur.X7)
abbrev Z66:SV:=.d (dsl false false (Xb false) (l.getD ((x-h)-1).toNat Wp).Ur.Xf)
end
theorem Xd7 (h:Int) (d:List UInt8) (l:List Yj) (x:Int) (hh:0≤h∧h≤1099511627776) (hl:l.length≤100) (hw:Xc0 l):Holds Tryz.prog 52 ⟨[pv 0 0,vI x],[.box 149 [dI h,dS d,dB true,.own 1 (Xj false).sz 0 l.length],Xc 152 (Xj false) l],.tup [.agg [dI (Yw h l x).X9,dS (Yw h l x).Xy,.d (dsl false false (kE false) (Yw h l x).X7),.d (dsl false false (Xb false) (Yw h l x).Xf)],.one (dI (Ey h l.length x))],[.live (.box 149 [dI h,dS d,dB true,.own 1 (Xj false).sz 0 l.length]),.live (Xc 152 (Xj false) l)]⟩:=by
 refine Holds.of Tryz.func52 rfl (N:=40) Tryz.ntmps52 rfl fun w0 B0 S0 U0=>?_
 show T _ (Y2 40 2 w0 S0 U0 B0) ⟨[pv 0 0,vI x],[(Z5v h d l),(Z5w l)]⟩ _ _
 refine sR [] (T.seq ?_)
 by_cases hq1:x≤h
 ·refine sR (Xl hY0 [3,4,5,6,7,8,9] (hP0 10::(Xl (hN · false (dT hq1)) [12,13,14,15] (hP 16 (dT hq1)::[])))) (cT (b:=true) rfl (sR [] (T.ret (rT ?_))))
  refine eN ⟨(Z5x x),(Z5y h d l)⟩ ?_
  refine Xa (s':=⟨(Z5x x),[(Z5v h d l),(Z5w l),.live (.box 65 Z61)]⟩) (fun _ _ hG=>W1 (s:=⟨(Z5x x),(Z5y h d l)⟩) ⟨.inl rfl,p3v⟩ p2l hG) ?_
  exact eX [.c 4 2 65 0 65 [dI 0,dS [],Z5z,Z60] (.agg Z61),.t 5 (.one (dI 4))] ⟨⟨rfl,rfl,by kernel_rfl,by kernel_rfl,.inl ⟨4,Hc,rfl,Nat.le_of_ble_eq_true rfl⟩⟩,⟨⟨rfl,by kernel_rfl⟩,trivial⟩⟩ [0,1] pu (ix (ix trivial))
 refine sR (Xl hY0 [3,4,5,6,7,8,9] (hP0 10::(hY 12 (dF hq1)::(hY 13 (dF hq1)::(hS 14 (oY rfl rfl rfl rfl (X2 rfl) (dF hq1) (rCa (X3k h d l ‹_› ‹_›) Tryz.func88 [0,1] [(.tmp 19,pv 0 0)] 2 2))::(hY 15 (dF hq1)::(hP 16 (dF hq1)::[]))))))) ?_
 by_cases hq2:x>(h+((l.length:Nat):Int))
 ·refine cT (dT hq2) (sR [] (T.ret (rT ?_)))
  refine eN ⟨(Z62 h l x),(Z5y h d l)⟩ ?_
  refine Xa (s':=⟨(Z62 h l x),[(Z5v h d l),(Z5w l),.live (.box 65 Z61)]⟩) (fun _ _ hG=>W1 (s:=⟨(Z62 h l x),(Z5y h d l)⟩) ⟨.inl rfl,p3v⟩ p2l hG) ?_
  exact eX [.c 4 2 65 0 65 [dI 0,dS [],Z5z,Z60] (.agg Z61),.t 5 (.one (dI 4))] ⟨⟨rfl,rfl,by kernel_rfl,by kernel_rfl,.inl ⟨4,Hc,rfl,Nat.le_of_ble_eq_true rfl⟩⟩,⟨⟨rfl,by kernel_rfl⟩,trivial⟩⟩ [0,1] pu (ix (ix trivial))
 refine cF (dF hq2) (T.skip (nT ?_))
 refine sD [[],[0],[0,1],[0,1,2],[],[],[5],[5,6],[5,6,7],[5,6,7,8],[4,5,6,7,8,9],[4,5,6,7,8,9,10],[0,1,2,3,4,5,6,7,8,9,10,11],[0,1,2,3,4,5,6,7,8,9,10,11,12],[0,1,2,3,4,5,6,7,8,9,10,11,12,13],[0,1,2,3,4,5,6,7,8,9,10,11,12,13,14],[0,1,2,3,4,5,6,7,8,9,10,11,12,13,14,15],[0,1,2,3,4,5,6,7,8,9,10,11,12,13,14,15,16]] [hR 10 rfl rfl (Yb (u1:=.int .i64 x) (u2:=.int .i64 h) (v:=.int .i64 (x-h)) (Vy pZ9) (X2 rfl) trivial),hR 11 rfl rfl (Yb (u1:=.int .i64 (x-h)) (u2:=.int .i64 1) (v:=.int .i64 ((x-h)-1)) (Vy pZ9) (X2 rfl) ⟨rfl,trivial⟩),hR 12 rfl rfl (Ww (k:=.i64) (l:=1) (sz:=(Xj false).sz) (off:=0) (n:=l.length) (i:=((x-h)-1)) (m:=((x-h)-1).toNat) (o':=((x-h)-1).toNat*(Xj false).sz+0) Tryz.underlying147 X52 rfl (by omega) (by omega) (by simp) (X2 rfl) trivial),hR 14 rfl rfl (X1n (l:=1) (off:=((x-h)-1).toNat*(Xj false).sz+0) (i:=((x-h)-1).toNat) (j:=0) (T:=152) (sz:=(Xj false).sz) (n:=l.length) (el:=W5 (Xj false) l) (ds:=[(Z63 h l x),(Z64 h l x),(Z65 h l x),(Z66 h l x)]) Hc rfl (by omega) (by decide) rfl (X2 rfl) trivial),hR 15 rfl rfl (rCa (X6v (l.getD ((x-h)-1).toNat Wp).Ur (by exact Xbz ‹_› _)) Tryz.func90 [] [(.tmp 38,.tv (.agg [(Z63 h l x),(Z64 h l x),(Z65 h l x),(Z66 h l x)]))] 0 0)] ?_
 refine T.ret ?_
 exact eX [.c 4 2 65 0 65 [(Z63 h l x),(Z64 h l x),(Z65 h l x),(Z66 h l x)] (.agg [(Z63 h l x),(Z64 h l x),(Z65 h l x),(Z66 h l x)]),.t 5 (.one (dI 0))] ⟨⟨rfl,rfl,by kernel_rfl,by kernel_rfl,.inl ⟨4,Hc,rfl,Nat.le_of_ble_eq_true rfl⟩⟩,⟨⟨rfl,by kernel_rfl⟩,trivial⟩⟩ [0,1] (by have e1:((Yw h l x).X9:Int)=(l.getD ((x-h)-1).toNat Wp).Ur.X9:=p2a;have e2:((Yw h l x).Xy:List UInt8)=(l.getD ((x-h)-1).toNat Wp).Ur.Xy:=p2a;have e3:((Yw h l x).X7:List aE)=(l.getD ((x-h)-1).toNat Wp).Ur.X7:=p2a;have e4:((Yw h l x).Xf:List Xw)=(l.getD ((x-h)-1).toNat Wp).Ur.Xf:=p2a;have e5:((Ey h l.length x):Int)=0:=(by (have hi:inL h l.length x:=⟨by omega,by omega⟩;(rw [Ey,if_pos hi])));have hE:=congr pj e5;exact hE) (ix (ix trivial))
abbrev Z67 (ta:Bool) (na:Bool) (a:List aE):AV:=slV ta na (kE false) a
abbrev Z68 (ta:Bool) (na:Bool) (a:List aE) (k:Nat):St:=⟨[(Z67 ta na a),aa,aa,Xx 0 (kE false) 0 (a.take k).length,vI ((k:Nat):Int)],[.live (Xc 43 (kE false) (a.take k))]⟩
abbrev Z69 (k:Nat):AV:=vI ((k+1:Nat):Int)
theorem Xh6 (ta:Bool) (na:Bool) (a:List aE) (hf:Jj szE 20 500 a):Holds Tryz.prog 115 ⟨[slV ta na (kE false) a],[],Xx 0 (kE false) 0 a.length,[.live (Xc 43 (kE false) a)]⟩:=by
 refine Holds.of Tryz.func115 rfl (N:=28) Tryz.ntmps115 rfl fun w0 B0 S0 U0=>?_
 show T _ (Y2 28 0 w0 S0 U0 B0) ⟨[(Z67 ta na a)],[]⟩ _ _
 refine sR [] (sR [] (T.seq (sR [] (T.block ?_))))
 refine tN ⟨[(Z67 ta na a),aa,dv (.slice none 0 0),dv (.slice none 0 0),vI 0],[]⟩ ?_
 refine Wy (s':=⟨[(Z67 ta na a),aa,dv (.slice none 0 0),Xx 0 (kE false) 0 0,vI 0],[.live (Xc 43 (kE false) ([]:List aE))]⟩) (fun _ _ hG=>Vs 0 3 43 (kE false) rfl rfl hG) ?_
 refine T.loop (ι:=Nat) (fun (k:Nat)=>(Z68 ta na a k)) (fun (k:Nat)=>(k≤a.length)) (fun (k:Nat)=>a.length-k) (0) (Nat.zero_le _) (fun _ _ hG=>Yu [0] (bm 5 25) (t2:=[(Z67 ta na a),aa,aa,Xx 0 (kE false) 0 0,vI 0]) (h2:=[.live (Xc 43 (kE false) ([]:List aE))]) (congrArg (fun (q1:Nat)=>([(Z67 ta na a),aa,aa,Xx 0 (kE false) 0 q1,vI 0]:List AV)) (by rfl)) (congrArg (fun (q1:List aE)=>([.live (Xc 43 (kE false) q1)]:List HS)) (by rfl)) hG) ?_
 rintro k hk
 show T _ _ (Z68 ta na a k) _ _
 replace hk:k≤a.length:=hk
 have ha1:=hf.1
 have hbk:(a.getD k zE).Xh.length≤500:=Jw (sz:=szE) hf (by decide) k
 refine T.seq (sR [] ?_)
 by_cases hq1:((k:Nat):Int)<((a.length:Nat):Int)
 ·refine cT (dT hq1) (T.skip (nT (T.seq (T.block ?_))))
  refine xD [[],[],[],[1,2],[1,2,3],[1,2,3,4],[],[],[],[7,8],[7,8,9],[7,8,9,10],[6,7,8,9,10,11],[1,2,3,4,5,6,7,8,9,10,11,12],[1,2,3,4,5,6,7,8,9,10,11,12,13],[0,1,2,3,4,5,6,7,8,9,10,11,12,13,14],[0,1,2,3,4,5,6,7,8,9,10,11,12,13,14,15]] [hR 3 rfl rfl (Wi ta na (kE false) a k (k:=.i64) (i:=((k:Nat):Int)) Tryz.underlying37 Vv rfl rfl (by omega) (X2 rfl) trivial),hR 6 rfl rfl (Y7 1 5 kU8 Vk ([]:List UInt8) [] (cs:=[]) Tryz.underlying25 Jh rfl Iu rfl rfl rfl pb W3 pZ4 (V2 pZ4) (X2 rfl) trivial),hR 9 rfl rfl (Wi ta na (kE false) a k (k:=.i64) (i:=((k:Nat):Int)) Tryz.underlying37 Vv rfl rfl (by omega) (X2 rfl) trivial),hR 12 rfl rfl (Yv 1 2 5 1 kU8 Vk ([]:List UInt8) (a.getD k zE).Xh (a.getD k zE).Xh ([]:List UInt8).length (sy:=(dU (a.getD k zE).Xh)) (rhs:=[]) Jb (by omega) (Uv false false kU8 (a.getD k zE).Xh) (by simp) (by (simp [maxLen,-List.getD_eq_getElem?_getD]<;>omega)) (by (simp [maxLen,-List.getD_eq_getElem?_getD]<;>omega)) (X2 rfl) trivial),hR 14 rfl rfl (Uz 0 24 2 5 kU8 (a.getD k zE).Xh (av:=.tv (.agg [dI (a.getD k zE).f_Signer,.own 2 kU8.sz 0 (a.getD k zE).Xh.length])) (Y7 3 43 (kE false) (W9 false) [(a.getD k zE)] [⟨0,.tmp 24,.agg [dI (a.getD k zE).f_Signer,dU (a.getD k zE).Xh],0⟩] (cs:=[dI (a.getD k zE).f_Signer,dU (a.getD k zE).Xh]) Tryz.underlying37 Vv rfl E7 rfl rfl rfl pb (Ym rfl rfl pb W3) pZ4 (V2 pZ4) (X2 rfl) trivial) rfl p4u p2t rfl rfl),hR 15 rfl rfl (Yv 0 4 43 32 (kE false) (W9 false) (a.take k) [(a.getD k zE)] ((a.take k)++[(a.getD k zE)]) (a.take k).length (sy:=(.own 3 (kE false).sz 0 [(a.getD k zE)].length)) (rhs:=[(3,.live (Xc 43 (kE false) [(a.getD k zE)]))]) En (by omega) (V0 3 43 (kE false) [(a.getD k zE)]) px (by (simp [maxLen,-List.getD_eq_getElem?_getD]<;>omega)) (by (simp [maxLen,-List.getD_eq_getElem?_getD]<;>omega)) (X2 rfl) trivial)] pZ4 pZ4 pZ4 pZ4 pZ4 pZ4 ?_
  refine nB (nT (xK [hR 1 rfl rfl (Yb (u1:=.int .i64 ((k:Nat):Int)) (u2:=.int .i64 1) (v:=.int .i64 ((k+1:Nat):Int)) (Wb pZ9) (X2 rfl) ⟨rfl,trivial⟩)] ?_))
  refine nL (k+1) (show (k+1)≤a.length from (by omega)) (show (a.length-(k+1):Nat)<a.length-k from (by omega)) (fun _ _ hG=>Wf [4] (bm 5 25) (t1:=[(Z67 ta na a),aa,aa,Xx 4 (kE false) 0 (a.take (k+1)).length,(Z69 k)]) (t2:=[(Z67 ta na a),aa,aa,Xx 4 (kE false) 0 ((a.take k)++[(a.getD k zE)]).length,(Z69 k)]) (h1:=[.live (Xc 43 (kE false) (a.take (k+1)))]) (h2:=[.live (Xc 43 (kE false) ((a.take k)++[(a.getD k zE)]))]) (by have e1:((a.take (k+1)).length:Nat)=((a.take k)++[(a.getD k zE)]).length:=p40;have hE:=congrArg (fun (q1:Nat)=>([(Z67 ta na a),aa,aa,Xx 4 (kE false) 0 q1,(Z69 k)]:List AV)) e1;exact hE) (by have e1:((a.take (k+1)):List aE)=(a.take k)++[(a.getD k zE)]:=p40;have hE:=congrArg (fun (q1:List aE)=>([.live (Xc 43 (kE false) q1)]:List HS)) e1;exact hE) hG)
 refine cF (dF hq1) (T.exit (xT (xT (xH (nT (sR [] (T.ret ?_)))))))
 exact eRt 2 (.one (.own 0 (kE false).sz 0 (a.take k).length)) [0] (by have e1:(a.length:Nat)=(a.take k).length:=p1q;have hE:=congrArg (fun (q1:Nat)=>(Xx 0 (kE false) 0 q1:AV)) e1;exact hE) ⟨⟨rfl,(by have e1:((a.take k):List aE)=a:=p1q;have hE:=congrArg (fun (q1:List aE)=>(.live (Xc 43 (kE false) q1):HS)) e1;exact Eq.trans pZ4 hE)⟩,trivial⟩
section
variable (b:Xn)
abbrev Z6a:SV:=.d (dsl false false (kE false) b.X7)
abbrev Z6b:SV:=.d (dsl false false (Xb false) b.Xf)
abbrev Z6c:List SV:=[dI b.X9,dS b.Xy,(Z6a b),(Z6b b)]
abbrev Z6d:HS:=.live (.box 65 [dI b.X9,dS b.Xy,.own 2 (kE false).sz 0 b.X7.length,.own 4 (Xb false).sz 0 b.Xf.length])
abbrev Z6e:St:=⟨[.tv (.agg (Z6c b)),pv 0 0,pv 1 0],[(Z6d b),(Z6d b),.live (Xc 43 (kE false) b.X7),.dead,.live (Xc 46 (Xb false) b.Xf)]⟩
abbrev Z6f:HS:=.live (.box 65 [dI b.X9,dS b.Xy,(Z6a b),.own 4 (Xb false).sz 0 b.Xf.length])
abbrev Z6g:St:=⟨[.tv (.agg (Z6c b)),pv 0 0,pv 1 0],[(Z6f b),(Z6f b),.dead,.dead,.live (Xc 46 (Xb false) b.Xf)]⟩
end
theorem X8x (b:Xn) (hf:Hv b):Holds Tryz.prog 58 ⟨[.tv (.agg [dI b.X9,dS b.Xy,.d (dsl false false (kE false) b.X7),.d (dsl false false (Xb false) b.Xf)])],[],.tv (.agg [dI b.X9,dS b.Xy,.d (dsl false false (kE false) b.X7),.d (dsl false false (Xb false) b.Xf)]),[]⟩:=by
 refine Holds.of Tryz.func58 rfl (N:=13) Tryz.ntmps58 rfl fun w0 B0 S0 U0=>?_
 show T _ (Y2 13 0 w0 S0 U0 B0) ⟨[.tv (.agg (Z6c b))],[]⟩ _ _
 have hf1:=hf.1.1
 have hf2:=hf.2.1
 have hf3:=hf.2.2
 refine sR [] (sR [hR 2 rfl rfl (rCa (Xh6 false false b.X7 (by exact hf.1)) Tryz.func115 [2] [(.tmp 4,slV false false (kE false) b.X7)] 0 1)] ?_)
 refine sR [hR 0 rfl rfl (Y7 3 46 (Xb false) (Vu false) ([]:List Xw) [] (cs:=[]) Tryz.underlying63 E0 rfl X7l rfl rfl rfl pb W3 pZ4 (V2 pZ4) (X2 rfl) trivial),hR 3 rfl rfl (Yv 3 4 46 16 (Xb false) (Vu false) ([]:List Xw) b.Xf b.Xf ([]:List Xw).length (sy:=((Z6b b))) (rhs:=[]) X7y (by omega) (Uv false false (Xb false) b.Xf) (by simp) (by (simp [maxLen,-List.getD_eq_getElem?_getD]<;>omega)) (by (simp [maxLen,-List.getD_eq_getElem?_getD]<;>omega)) (X2 rfl) trivial)] ?_
 refine sR [] (T.ret ?_)
 refine eN (Z6e b) ?_
 refine Xa (s':=(Z6g b)) (fun _ _ hG=>Gs.freeze (s:=(Z6e b)) 2 (el:=W5 (kE false) b.X7) (sz:=(kE false).sz) (n:=b.X7.length) rfl ⟨.inl rfl,(kk2 trivial)⟩ ⟨p1y,⟨p1y,⟨(.inl ⟨rfl,rfl⟩),⟨pZ7,⟨pZ7,trivial⟩⟩⟩⟩⟩ hG) ?_
 refine eN (Z6g b) ?_
 refine Xa (s':=⟨[.tv (.agg (Z6c b)),pv 0 0,pv 1 0],[.live (.box 65 (Z6c b)),.live (.box 65 (Z6c b)),.dead,.dead,.dead]⟩) (fun _ _ hG=>Gs.freeze (s:=(Z6g b)) 4 (el:=W5 (Xb false) b.Xf) (sz:=(Xb false).sz) (n:=b.Xf.length) rfl ⟨.inl rfl,(kk2 trivial)⟩ ⟨p1x,⟨p1x,⟨pZ7,⟨pZ7,⟨(.inl ⟨rfl,rfl⟩),trivial⟩⟩⟩⟩⟩ hG) ?_
 exact eX [.c 2 1 65 0 65 [dI b.X9,dS b.Xy,(Z6a b),(Z6b b)] (.agg (Z6c b))] ⟨⟨rfl,rfl,by kernel_rfl,by kernel_rfl,.inl ⟨4,Hc,rfl,Nat.le_of_ble_eq_true rfl⟩⟩,trivial⟩ [] rfl trivial
theorem Xej:Holds Tryz.prog 85 ⟨[],[],dv (Yn (ofB 6 ([]:List (List UInt8)))),[]⟩:=by
 refine Holds.of Tryz.func85 rfl (N:=2) Tryz.ntmps85 rfl fun w0 B0 S0 U0=>?_
 show T _ (Y2 2 0 w0 S0 U0 B0) ⟨[],[]⟩ _ _
 refine sR [] (sR [hR 0 rfl rfl (rCn (X1j (6:UInt8) false false false ([]:List (List UInt8)) (by decide)) Tryz.func71 [] [(.const (.int .u8 6),dv (.int .u8 6)),(.const (.slice none 0 0),dv (.slice none 0 0))] 0 0 ⟨.inl ⟨rfl,rfl⟩,⟨.inr pZ8,trivial⟩⟩ ⟨rfl,⟨rfl,trivial⟩⟩)] (T.ret ?_))
 exact eRt 0 (.one (dS (ofB (6:UInt8) ([]:List (List UInt8))))) [] pZ28 trivial
abbrev Z6h:SV:=dS (ofB 6 ([]:List (List UInt8)))
theorem Xki:Holds Tryz.prog 37 ⟨[],[],pv 0 0,[.live (.box 106 [dB true,dI 0,dS (ofB 6 ([]:List (List UInt8))),.own 1 (Xo false).sz 0 ([]:List Xn).length]),.live (Xc 65 (Xo false) ([]:List Xn))]⟩:=by
 refine Holds.of Tryz.func37 rfl (N:=4) Tryz.ntmps37 rfl fun w0 B0 S0 U0=>?_
 show T _ (Y2 4 0 w0 S0 U0 B0) ⟨[],[]⟩ _ _
 refine sR [] (sR [hR 0 rfl rfl (rCa (Xej  ) Tryz.func85 [] [] 0 0)] (T.ret ?_))
 refine eN ⟨[pv 0 0],[.live (.box 106 [dB true,dI 0,Z6h,.d (.val (.slice none 0 0))])]⟩ ?_
 refine Xa (s':=⟨[pv 0 0],[.live (.box 106 [dB true,dI 0,Z6h,.own 1 (Xo false).sz 0 0]),.live (Xc 65 (Xo false) ([]:List Xn))]⟩) (fun _ _ hG=>Jr 1 0 3 65 (Xo false) (Tb:=106) (cs:=[dB true,dI 0,Z6h,.d (.val (.slice none 0 0))]) rfl rfl rfl hG) ?_
 exact eRt 0 (.one (.ptr 0 0)) [0,1] rfl ⟨⟨rfl,(by have e1:(0:Nat)=([]:List Xn).length:=(by rfl);have hE:=congrArg (fun (q1:Nat)=>(.live (.box 106 [dB true,dI 0,Z6h,.own 1 (Xo false).sz 0 q1]):HS)) e1;exact Eq.trans pZ4 hE)⟩,(ix trivial)⟩
theorem Hg (h:Int) (d:List UInt8) (L:List Xn) (hh:0≤h∧h≤1099511627776) (hl:L.length≤100):Holds Tryz.prog 12 ⟨[pv 0 0],[.box 106 [dB true,dI h,dS d,.own 1 (Xo false).sz 0 L.length],Xc 65 (Xo false) L],vI (h+((L.length:Nat):Int)),[.live (.box 106 [dB true,dI h,dS d,.own 1 (Xo false).sz 0 L.length]),.live (Xc 65 (Xo false) L)]⟩:=by
 refine Holds.of Tryz.func12 rfl (N:=13) Tryz.ntmps12 rfl fun w0 B0 S0 U0=>?_
 show T _ (Y2 13 2 w0 S0 U0 B0) ⟨[pv 0 0],[.live (.box 106 [dB true,dI h,dS d,.own 1 (Xo false).sz 0 L.length]),.live (Xc 65 (Xo false) L)]⟩ _ _
 refine sR [] ?_
 refine sD [[],[0],[0,1],[0,1,2],[],[4],[4,5],[4,5,6],[4,5,6,7],[0,1,2,3,4,5,6,7,8],[0,1,2,3,4,5,6,7,8,9]] [hR 9 rfl rfl (Yb (u1:=.int .i64 h) (u2:=.int .i64 ((L.length:Nat):Int)) (v:=.int .i64 (h+((L.length:Nat):Int))) (Wb pZ9) (X2 rfl) trivial)] (T.ret ?_)
 exact eRt 2 (.one (dI (h+((L.length:Nat):Int)))) [0,1] rfl (ix (ix trivial))
abbrev Z6i (L:List Xn) (n:Nat):=(Wn (L.getD (n-1) Ys))
theorem ref11_at (h:Int) (d:List UInt8) (L:List Xn) (n:Nat) (hh:0≤h∧h≤1099511627776) (hl:L.length≤100) (hw:X0a L) (hn:n≤L.length):Holds Tryz.prog 86 ⟨[pv 0 0,vI ((n:Nat):Int)],[.box 106 [dB true,dI h,dS d,.own 1 (Xo false).sz 0 L.length],Xc 65 (Xo false) L],dv (Yn (atB d L n)),[.live (.box 106 [dB true,dI h,dS d,.own 1 (Xo false).sz 0 L.length]),.live (Xc 65 (Xo false) L)]⟩:=by
 refine Holds.of Tryz.func86 rfl (N:=21) Tryz.ntmps86 rfl fun w0 B0 S0 U0=>?_
 show T _ (Y2 21 2 w0 S0 U0 B0) ⟨[pv 0 0,vI ((n:Nat):Int)],[.live (.box 106 [dB true,dI h,dS d,.own 1 (Xo false).sz 0 L.length]),.live (Xc 65 (Xo false) L)]⟩ _ _
 have hwn:=X66 hw (n-1)
 have hhn:=Xfm hwn
 have hg1:=hhn.1
 have hg2:=hhn.2.1
 refine sR [] (T.seq (sR [] ?_))
 by_cases hq1:((n:Nat):Int)=0
 ·refine cT (dT hq1) (sR [] (T.ret (rT ?_)))
  exact eRt 4 (.one (dS d)) [0,1] (by have e1:((atB d L n):List UInt8)=d:=(by (unfold atB;rw [if_pos (by omega)]));have hE:=congrArg (fun (q1:List UInt8)=>(dv (Yn q1):AV)) e1;exact hE) (ix (ix trivial))
 refine cF (dF hq1) (T.skip (nT ?_))
 refine sR [hR 5 rfl rfl (Yb (u1:=.int .i64 ((n:Nat):Int)) (u2:=.int .i64 1) (v:=.int .i64 ((n-1:Nat):Int)) (Vy pZ9) (X2 rfl) ⟨rfl,trivial⟩),hR 6 rfl rfl (Ww (k:=.i64) (l:=1) (sz:=(Xo false).sz) (off:=0) (n:=L.length) (i:=((n-1:Nat):Int)) (m:=(n-1)) (o':=(n-1)*(Xo false).sz+0) Tryz.underlying104 X62 rfl rfl (by omega) (by simp) (X2 rfl) trivial),hR 7 rfl rfl (X1n (l:=1) (off:=(n-1)*(Xo false).sz+0) (i:=n-1) (j:=0) (T:=65) (sz:=(Xo false).sz) (n:=L.length) (el:=W5 (Xo false) L) (ds:=[dI (L.getD (n-1) Ys).X9,dS (L.getD (n-1) Ys).Xy,.d (dsl false false (kE false) (L.getD (n-1) Ys).X7),.d (dsl false false (Xb false) (L.getD (n-1) Ys).Xf)]) Hc rfl (by omega) (by decide) rfl (X2 rfl) trivial),hR 8 rfl rfl (rCa (X4o false (L.getD (n-1) Ys) ‹_›) Tryz.func44 [] [(.tmp 18,.tv (.agg [dI (L.getD (n-1) Ys).X9,dS (L.getD (n-1) Ys).Xy,.d (dsl false false (kE false) (L.getD (n-1) Ys).X7),.d (dsl false false (Xb false) (L.getD (n-1) Ys).Xf)]))] 0 0),hR 9 rfl rfl (rCa (Xcl (Wn (L.getD (n-1) Ys)) ‹_› ‹_›) Tryz.func48 [] [(.tmp 19,.tv (.agg [dI (Z6i L n).X9,dS (Z6i L n).Xy,dI (Z6i L n).Ye,dS (Z6i L n).W4]))] 0 0)] ?_
 refine T.ret ?_
 exact eRt 4 (.one (dS (Hw (Z6i L n)))) [0,1] (by have e1:((atB d L n):List UInt8)=(Hw (Wn (L.getD (n-1) Ys))):=(by (unfold atB;rw [if_neg (by omega)]));have hE:=congrArg (fun (q1:List UInt8)=>(dv (Yn q1):AV)) e1;exact hE) (ix (ix trivial))
theorem X3u (h:Int) (d:List UInt8) (L:List Xn) (hh:0≤h∧h≤1099511627776) (hl:L.length≤100) (hw:X0a L):Holds Tryz.prog 38 ⟨[pv 0 0],[.box 106 [dB true,dI h,dS d,.own 1 (Xo false).sz 0 L.length],Xc 65 (Xo false) L],dv (Yn (atB d L L.length)),[.live (.box 106 [dB true,dI h,dS d,.own 1 (Xo false).sz 0 L.length]),.live (Xc 65 (Xo false) L)]⟩:=by
 refine Holds.of Tryz.func38 rfl (N:=10) Tryz.ntmps38 rfl fun w0 B0 S0 U0=>?_
 show T _ (Y2 10 2 w0 S0 U0 B0) ⟨[pv 0 0],[.live (.box 106 [dB true,dI h,dS d,.own 1 (Xo false).sz 0 L.length]),.live (Xc 65 (Xo false) L)]⟩ _ _
 refine sR [] (sR [hR 6 rfl rfl (rCa (ref11_at h d L L.length ‹_› ‹_› ‹_› (by omega)) Tryz.func86 [0,1] [(.tmp 3,pv 0 0),(.tmp 8,vI ((L.length:Nat):Int))] 2 2)] (T.ret ?_))
 exact eRt 2 (.one (dS (atB d L L.length))) [0,1] rfl (ix (ix trivial))
theorem elem_104:Elem Tryz.prog 104 65 4 72:=⟨Tryz.underlying104,_,_,X62,rfl,rfl,rfl,rfl,by decide⟩
section
variable (h:Int) (d:List UInt8) (L:List Xn) (b:Xn)
abbrev Z6j:List SV:=[dI b.X9,dS b.Xy,.d (dsl false false (kE false) b.X7),.d (dsl false false (Xb false) b.Xf)]
abbrev Z6k:HS:=.live (.box 106 [dB true,dI h,dS d,.own 1 (Xo false).sz 0 L.length])
abbrev Z6l:HObj:=Xc 65 (Xo false) L
abbrev Z6m:List AV:=[pv 0 0,.tv (.agg (Z6j b)),aa,pv 2 0,vI (Vd b),vI (Vd b),aa,aa,aa,aa,vB (!true),aa,aa,aa,vB (decide ((Vd b)≠0))]
abbrev Z6n:List HS:=[(Z6k h d L),.live ((Z6l L)),.live (.box 65 (Z6j b))]
abbrev Z6o:List HS:=[.live (.box 106 [dB true,dI h,dS d,.own 3 (Xo false).sz 0 L.length]),.dead,.live (.box 65 (Z6j b)),.live ((Z6l L))]
abbrev Z6p:List AV:=[pv 0 0,.tv (.agg (Z6j b)),aa,pv 2 0,vI 100,vI (Vd b),aa,aa,aa,aa,vB (!true),aa,aa,aa,vB (decide ((Vd b)≠0)),aa,aa,aa,aa,aa,aa,vB (decide (b.X9≠((h+((L.length:Nat):Int))+1)))]
abbrev Z6q:List AV:=[pv 0 0,.tv (.agg (Z6j b)),aa,pv 2 0,vI 101,vI (Vd b),aa,aa,aa,aa,vB (!true),aa,aa,aa,vB (decide ((Vd b)≠0)),aa,aa,aa,aa,aa,aa,vB (decide (b.X9≠((h+((L.length:Nat):Int))+1))),aa,aa,aa,aa,vB (decide (b.Xy≠(atB d L L.length)))]
end
theorem Xck (h:Int) (d:List UInt8) (L:List Xn) (b:Xn) (hh:0≤h∧h≤1099511627776) (hl:L.length≤100) (hw:X0a L) (hf:Hv b):Holds Tryz.prog 40 ⟨[pv 0 0,.tv (.agg [dI b.X9,dS b.Xy,.d (dsl false false (kE false) b.X7),.d (dsl false false (Xb false) b.Xf)])],[.box 106 [dB true,dI h,dS d,.own 1 (Xo false).sz 0 L.length],Xc 65 (Xo false) L],vI (X3g h d L b),[.live (.box 106 [dB true,dI h,dS d,.own 2 (Xo false).sz 0 (Hi h d L b).length]),.dead,.live (Xc 65 (Xo false) (Hi h d L b))]⟩:=by
 refine Holds.of Tryz.func40 rfl (N:=38) Tryz.ntmps40 rfl fun w0 B0 S0 U0=>?_
 show T _ (Y2 38 2 w0 S0 U0 B0) ⟨[pv 0 0,.tv (.agg (Z6j b))],[(Z6k h d L),.live ((Z6l L))]⟩ _ _
 have hf1:=hf.1.1
 have hf2:=hf.2.1
 have hf3:=hf.2.2
 refine sR [] (T.seq (sR [] (cF (b:=(!true)) rfl (T.skip (nT (sR [hR 1 rfl rfl (rCa (X6q false b (by omega) (by omega)) Tryz.func92 [] [(.tmp 11,.tv (.agg (Z6j b)))] 0 0)] (T.seq (sR [] ?_))))))))
 by_cases hq1:(Vd b)≠0
 ·refine cT (dT hq1) (sR [] (T.ret (rT ?_)))
  refine eN ⟨(Z6m b),(Z6n h d L b)⟩ ?_
  refine Xa (s':=⟨(Z6m b),(Z6o h d L b)⟩) (fun _ _ hG=>Gs.move (s:=⟨(Z6m b),(Z6n h d L b)⟩) 1 3 (o:=(Z6l L)) rfl rfl rfl ⟨.inl rfl,(kk2 p3x)⟩ ⟨(.inr py),⟨(.inl ⟨rfl,rfl⟩),⟨(.inr p1a),⟨(.inr (.inl ⟨rfl,rfl⟩)),trivial⟩⟩⟩⟩ hG) ?_
  exact eRt 4 (.one (dI (Vd b))) [0,1,3] (cI (by (have hx:=X9a (h:=h) (d:=d) (L:=L) (b:=b) ‹_› ;exact hx.1))) ⟨⟨rfl,(by have e1:(L.length:Nat)=(Hi h d L b).length:=(by (have hx:=X9a (h:=h) (d:=d) (L:=L) (b:=b) ‹_› ;(rw [hx.2];done)));have hE:=congrArg (fun (q1:Nat)=>(.live (.box 106 [dB true,dI h,dS d,.own 3 (Xo false).sz 0 q1]):HS)) e1;exact Eq.trans pZ4 hE)⟩,⟨⟨rfl,(by have e1:(L:List Xn)=(Hi h d L b):=(by (have hx:=X9a (h:=h) (d:=d) (L:=L) (b:=b) ‹_› ;exact hx.2.symm));have hE:=congrArg (fun (q1:List Xn)=>(.live (Xc 65 (Xo false) q1):HS)) e1;exact Eq.trans pZ4 hE)⟩,trivial⟩⟩
 have hca:=Xjt (Classical.not_not.1 hq1)
 refine cF (dF hq1) (T.skip (nT (T.seq ?_)))
 refine sD [[],[0],[],[2],[2,3],[0,1,2,3,4]] [hR 3 rfl rfl (rCa (Hg h d L ‹_› ‹_›) Tryz.func12 [0,1] [(.tmp 18,pv 0 0)] 2 2),hR 4 rfl rfl (Yb (u1:=.int .i64 (h+((L.length:Nat):Int))) (u2:=.int .i64 1) (v:=.int .i64 ((h+((L.length:Nat):Int))+1)) (Wb pZ9) (X2 rfl) ⟨rfl,trivial⟩)] ?_
 by_cases hq2:b.X9≠((h+((L.length:Nat):Int))+1)
 ·refine cT (dT hq2) (sR [] (T.ret (rT ?_)))
  refine eN ⟨(Z6p h L b),(Z6n h d L b)⟩ ?_
  refine Xa (s':=⟨(Z6p h L b),(Z6o h d L b)⟩) (fun _ _ hG=>Gs.move (s:=⟨(Z6p h L b),(Z6n h d L b)⟩) 1 3 (o:=(Z6l L)) rfl rfl rfl p3v ⟨(.inr py),⟨(.inl ⟨rfl,rfl⟩),⟨(.inr p1a),⟨(.inr (.inl ⟨rfl,rfl⟩)),trivial⟩⟩⟩⟩ hG) ?_
  exact eRt 4 (.one (dI 100)) [0,1,3] (cI (by (have hx:=X99 (h:=h) (d:=d) (L:=L) (b:=b) ‹_› ‹_› ;exact hx.1))) ⟨⟨rfl,(by have e1:(L.length:Nat)=(Hi h d L b).length:=(by (have hx:=X99 (h:=h) (d:=d) (L:=L) (b:=b) ‹_› ‹_› ;(rw [hx.2];done)));have hE:=congrArg (fun (q1:Nat)=>(.live (.box 106 [dB true,dI h,dS d,.own 3 (Xo false).sz 0 q1]):HS)) e1;exact Eq.trans pZ4 hE)⟩,⟨⟨rfl,(by have e1:(L:List Xn)=(Hi h d L b):=(by (have hx:=X99 (h:=h) (d:=d) (L:=L) (b:=b) ‹_› ‹_› ;exact hx.2.symm));have hE:=congrArg (fun (q1:List Xn)=>(.live (Xc 65 (Xo false) q1):HS)) e1;exact Eq.trans pZ4 hE)⟩,trivial⟩⟩
 refine cF (dF hq2) (T.skip (nT (T.seq ?_)))
 refine sD [[],[0],[],[2],[0,1,2,3]] [hR 3 rfl rfl (rCa (X3u h d L ‹_› ‹_› ‹_›) Tryz.func38 [0,1] [(.tmp 24,pv 0 0)] 2 2)] ?_
 by_cases hq3:b.Xy≠(atB d L L.length)
 ·refine cT (dT hq3) (sR [] (T.ret (rT ?_)))
  refine eN ⟨(Z6q h d L b),(Z6n h d L b)⟩ ?_
  refine Xa (s':=⟨(Z6q h d L b),(Z6o h d L b)⟩) (fun _ _ hG=>Gs.move (s:=⟨(Z6q h d L b),(Z6n h d L b)⟩) 1 3 (o:=(Z6l L)) rfl rfl rfl ⟨.inl rfl,(kk2 p2r)⟩ ⟨(.inr py),⟨(.inl ⟨rfl,rfl⟩),⟨(.inr p1a),⟨(.inr (.inl ⟨rfl,rfl⟩)),trivial⟩⟩⟩⟩ hG) ?_
  exact eRt 4 (.one (dI 101)) [0,1,3] (cI (by (have hx:=X98 (h:=h) (d:=d) (L:=L) (b:=b) ‹_› ‹_› ‹_› ;exact hx.1))) ⟨⟨rfl,(by have e1:(L.length:Nat)=(Hi h d L b).length:=(by (have hx:=X98 (h:=h) (d:=d) (L:=L) (b:=b) ‹_› ‹_› ‹_› ;(rw [hx.2];done)));have hE:=congrArg (fun (q1:Nat)=>(.live (.box 106 [dB true,dI h,dS d,.own 3 (Xo false).sz 0 q1]):HS)) e1;exact Eq.trans pZ4 hE)⟩,⟨⟨rfl,(by have e1:(L:List Xn)=(Hi h d L b):=(by (have hx:=X98 (h:=h) (d:=d) (L:=L) (b:=b) ‹_› ‹_› ‹_› ;exact hx.2.symm));have hE:=congrArg (fun (q1:List Xn)=>(.live (Xc 65 (Xo false) q1):HS)) e1;exact Eq.trans pZ4 hE)⟩,trivial⟩⟩
 refine cF (dF hq3) (T.skip (nT ?_))
 refine sD [[],[],[1],[1,2],[1,2,3],[],[5],[5,6],[1,2,3,4,5,6,7],[0,1,2,3,4,5,6,7,8],[0,1,2,3,4,5,6,7,8,9],[0,1,2,3,4,5,6,7,8,9,10]] [hR 6 rfl rfl (rCa (X8x b ‹_›) Tryz.func58 [] [(.tmp 32,.tv (.agg (Z6j b)))] 0 0),hR 7 rfl rfl (Y7 3 65 (Xo false) (X22 false) [b] [⟨0,.tmp 33,.agg (Z6j b),0⟩] (cs:=[dI b.X9,dS b.Xy,.d (dsl false false (kE false) b.X7),.d (dsl false false (Xb false) b.Xf)]) Tryz.underlying104 X62 rfl zero_65 rfl rfl rfl pb (Ym rfl rfl pb W3) pZ4 (V2 pZ4) (X2 rfl) trivial),hR 8 rfl rfl (Yv 1 4 65 72 (Xo false) (X22 false) L [b] (L++[b]) L.length (sy:=(.own 3 (Xo false).sz 0 [b].length)) (rhs:=[(3,.live (Xc 65 (Xo false) [b]))]) elem_104 (by omega) (V0 3 65 (Xo false) [b]) px (by (simp [maxLen,-List.getD_eq_getElem?_getD]<;>omega)) (by (simp [maxLen,-List.getD_eq_getElem?_getD]<;>omega)) (X2 rfl) trivial)] ?_
 refine sR [] (T.ret ?_)
 exact eRt 4 (.one (dI 0)) [0,1,4] (cI (by (have hx:=X7t (h:=h) (d:=d) (L:=L) (b:=b) ‹_› ‹_› ‹_› ;exact hx.1))) ⟨⟨rfl,(by have e1:((L++[b]).length:Nat)=(Hi h d L b).length:=(by (have hx:=X7t (h:=h) (d:=d) (L:=L) (b:=b) ‹_› ‹_› ‹_› ;(rw [hx.2];done)));have hE:=congrArg (fun (q1:Nat)=>(.live (.box 106 [dB true,dI h,dS d,.own 4 (Xo false).sz 0 q1]):HS)) e1;exact Eq.trans pZ4 hE)⟩,⟨⟨rfl,(by have e1:(L++[b]:List Xn)=(Hi h d L b):=(by (have hx:=X7t (h:=h) (d:=d) (L:=L) (b:=b) ‹_› ‹_› ‹_› ;exact hx.2.symm));have hE:=congrArg (fun (q1:List Xn)=>(.live (Xc 65 (Xo false) q1):HS)) e1;exact Eq.trans pZ4 hE)⟩,trivial⟩⟩
section
variable (h:Int) (d:List UInt8) (L:List Xn) (x:Int)
abbrev Z6r:HS:=.live (.box 106 [dB true,dI h,dS d,.own 1 (Xo false).sz 0 L.length])
abbrev Z6s:List AV:=[pv 0 0,vI x,aa,aa,pv 2 0,vI 4,aa,aa,aa,aa,aa,aa,aa,aa,aa,aa,aa,vB true]
abbrev Z6t:List HS:=[(Z6r h d L),.live (Xc 65 (Xo false) L),.live (.box 65 [dI 0,dS [],.d (.val (.slice none 0 0)),.d (.val (.slice none 0 0))])]
abbrev Z6u:SV:=.d (dsl false false (kE false) ([]:List aE))
abbrev Z6v:SV:=.d (dsl false false (Xb false) ([]:List Xw))
abbrev Z6w:List SV:=[dI 0,dS [],Z6u,Z6v]
abbrev Z6x:List AV:=[pv 0 0,vI x,aa,aa,pv 2 0,vI 4,aa,aa,aa,aa,aa,aa,aa,aa,aa,aa,aa,vB (decide (x>(h+((L.length:Nat):Int))))]
abbrev Z6y:SV:=dI (L.getD ((x-h)-1).toNat Ys).X9
abbrev Z6z:SV:=.d (dsl false false (kE false) (L.getD ((x-h)-1).toNat Ys).X7)
abbrev Z70:SV:=.d (dsl false false (Xb false) (L.getD ((x-h)-1).toNat Ys).Xf)
abbrev Z71:TV:=.agg [(Z6y h L x),dS (L.getD ((x-h)-1).toNat Ys).Xy,(Z6z h L x),(Z70 h L x)]
end
theorem X1i (h:Int) (d:List UInt8) (L:List Xn) (x:Int) (hh:0≤h∧h≤1099511627776) (hl:L.length≤100) (hw:X0a L):Holds Tryz.prog 20 ⟨[pv 0 0,vI x],[.box 106 [dB true,dI h,dS d,.own 1 (Xo false).sz 0 L.length],Xc 65 (Xo false) L],.tup [.agg [dI (rblk h L x).X9,dS (rblk h L x).Xy,.d (dsl false false (kE false) (rblk h L x).X7),.d (dsl false false (Xb false) (rblk h L x).Xf)],.one (dI (Ey h L.length x))],[.live (.box 106 [dB true,dI h,dS d,.own 1 (Xo false).sz 0 L.length]),.live (Xc 65 (Xo false) L)]⟩:=by
 refine Holds.of Tryz.func20 rfl (N:=33) Tryz.ntmps20 rfl fun w0 B0 S0 U0=>?_
 show T _ (Y2 33 2 w0 S0 U0 B0) ⟨[pv 0 0,vI x],[(Z6r h d L),.live (Xc 65 (Xo false) L)]⟩ _ _
 refine sR [] (T.seq ?_)
 by_cases hq1:x≤h
 ·refine sR (Xl (hN · false (dT hq1)) [7,8,9,10] (hP 11 (dT hq1)::[])) (cT (b:=true) rfl (sR [] (T.ret (rT ?_))))
  refine eN ⟨(Z6s x),(Z6t h d L)⟩ ?_
  refine Xa (s':=⟨(Z6s x),[(Z6r h d L),.live (Xc 65 (Xo false) L),.live (.box 65 Z6w)]⟩) (fun _ _ hG=>W1 (s:=⟨(Z6s x),(Z6t h d L)⟩) (kk2 (X1z trivial)) p2l hG) ?_
  exact eX [.c 4 2 65 0 65 [dI 0,dS [],Z6u,Z6v] (.agg Z6w),.t 5 (.one (dI 4))] ⟨⟨rfl,rfl,by kernel_rfl,by kernel_rfl,.inl ⟨4,Hc,rfl,Nat.le_of_ble_eq_true rfl⟩⟩,⟨⟨rfl,by kernel_rfl⟩,trivial⟩⟩ [0,1] pt (ix (ix trivial))
 refine sR [hY 7 (dF hq1),hY 8 (dF hq1),hS 9 (oY rfl rfl rfl rfl (X2 rfl) (dF hq1) (rCa (Hg h d L ‹_› ‹_›) Tryz.func12 [0,1] [(.tmp 14,pv 0 0)] 2 2)),hY 10 (dF hq1),hP 11 (dF hq1)] ?_
 by_cases hq2:x>(h+((L.length:Nat):Int))
 ·refine cT (dT hq2) (sR [] (T.ret (rT ?_)))
  refine eN ⟨(Z6x h L x),(Z6t h d L)⟩ ?_
  refine Xa (s':=⟨(Z6x h L x),[(Z6r h d L),.live (Xc 65 (Xo false) L),.live (.box 65 Z6w)]⟩) (fun _ _ hG=>W1 (s:=⟨(Z6x h L x),(Z6t h d L)⟩) (kk2 (X1z trivial)) p2l hG) ?_
  exact eX [.c 4 2 65 0 65 [dI 0,dS [],Z6u,Z6v] (.agg Z6w),.t 5 (.one (dI 4))] ⟨⟨rfl,rfl,by kernel_rfl,by kernel_rfl,.inl ⟨4,Hc,rfl,Nat.le_of_ble_eq_true rfl⟩⟩,⟨⟨rfl,by kernel_rfl⟩,trivial⟩⟩ [0,1] pt (ix (ix trivial))
 refine cF (dF hq2) (T.skip (nT ?_))
 refine sD [[],[0],[0,1],[0,1,2],[],[],[5],[5,6],[5,6,7],[4,5,6,7,8],[4,5,6,7,8,9],[0,1,2,3,4,5,6,7,8,9,10],[0,1,2,3,4,5,6,7,8,9,10,11],[0,1,2,3,4,5,6,7,8,9,10,11,12],[0,1,2,3,4,5,6,7,8,9,10,11,12,13],[0,1,2,3,4,5,6,7,8,9,10,11,12,13,14]] [hR 9 rfl rfl (Yb (u1:=.int .i64 x) (u2:=.int .i64 h) (v:=.int .i64 (x-h)) (Vy pZ9) (X2 rfl) trivial),hR 10 rfl rfl (Yb (u1:=.int .i64 (x-h)) (u2:=.int .i64 1) (v:=.int .i64 ((x-h)-1)) (Vy pZ9) (X2 rfl) ⟨rfl,trivial⟩),hR 11 rfl rfl (Ww (k:=.i64) (l:=1) (sz:=(Xo false).sz) (off:=0) (n:=L.length) (i:=((x-h)-1)) (m:=((x-h)-1).toNat) (o':=((x-h)-1).toNat*(Xo false).sz+0) Tryz.underlying104 X62 rfl (by omega) (by omega) (by simp) (X2 rfl) trivial),hR 12 rfl rfl (X1n (l:=1) (off:=((x-h)-1).toNat*(Xo false).sz+0) (i:=((x-h)-1).toNat) (j:=0) (T:=65) (sz:=(Xo false).sz) (n:=L.length) (el:=W5 (Xo false) L) (ds:=[(Z6y h L x),dS (L.getD ((x-h)-1).toNat Ys).Xy,(Z6z h L x),(Z70 h L x)]) Hc rfl (by omega) (by decide) rfl (X2 rfl) trivial),hR 13 rfl rfl (rCa (X8x (L.getD ((x-h)-1).toNat Ys) (by exact X66 ‹_› _)) Tryz.func58 [] [(.tmp 31,.tv ((Z71 h L x)))] 0 0)] ?_
 refine T.ret ?_
 exact eX [.c 4 2 65 0 65 [(Z6y h L x),dS (L.getD ((x-h)-1).toNat Ys).Xy,(Z6z h L x),(Z70 h L x)] ((Z71 h L x)),.t 5 (.one (dI 0))] ⟨⟨rfl,rfl,by kernel_rfl,by kernel_rfl,.inl ⟨4,Hc,rfl,Nat.le_of_ble_eq_true rfl⟩⟩,⟨⟨rfl,by kernel_rfl⟩,trivial⟩⟩ [0,1] (by have e1:((rblk h L x).X9:Int)=(L.getD ((x-h)-1).toNat Ys).X9:=p2b;have e2:((rblk h L x).Xy:List UInt8)=(L.getD ((x-h)-1).toNat Ys).Xy:=p2b;have e3:((rblk h L x).X7:List aE)=(L.getD ((x-h)-1).toNat Ys).X7:=p2b;have e4:((rblk h L x).Xf:List Xw)=(L.getD ((x-h)-1).toNat Ys).Xf:=p2b;have e5:((Ey h L.length x):Int)=0:=(by (have hi:inL h L.length x:=⟨by omega,by omega⟩;(rw [Ey,if_pos hi])));have hE:=congr pj e5;exact hE) (ix (ix trivial))
theorem iat_242:Tryz.prog.info? 242=some Tryz.t242:=by kernel_rfl
theorem Js:Wide Tryz.prog 242 (some 4):=⟨_,_,Tryz.underlying242,.inl ⟨_,rfl⟩,iat_242,rfl⟩
abbrev Z72:TV:=.one (dB true)
abbrev Z73:TV:=.agg [dI 11,dI 0,dI 1,dI 7]
theorem X6t (k:Int):Holds Tryz.prog 195 ⟨[vI k],[],.tup [.agg [dI (Yh k).Vp,dI (Yh k).Wu,dI (Yh k).V6,dI (Yh k).Vi],.one (dB (decide (okK k)))],[]⟩:=by
 refine Holds.of Tryz.func195 rfl (N:=54) Tryz.ntmps195 rfl fun w0 B0 S0 U0=>?_
 show T _ (Y2 54 0 w0 S0 U0 B0) ⟨[vI k],[]⟩ _ _
 refine sR [] (sR [] (T.seq (sR [] (T.block (T.seq (T.block (T.seq (T.block (T.seq (T.block (T.seq (T.block (T.seq (T.block (T.seq (T.block (T.seq (T.block (T.seq (T.block (T.seq (T.block (T.seq (T.block (T.seq (T.block (T.seq (T.seq (sR [] ?_)))))))))))))))))))))))))))))
 by_cases hq1:k=1
 ·refine cT (dT hq1) (T.exit (xT (xT (xH (nT (sR [] (T.exit (xM rfl (xT (xM rfl (xT (xM rfl (xT (xM rfl (xT (xM rfl (xT (xM rfl (xT (xM rfl (xT (xM rfl (xT (xM rfl (xT (xM rfl (xT (xH (nT (sR [] (T.ret ?_)))))))))))))))))))))))))))))))
  exact eX [.c 2 0 242 0 242 [dI 20,dI 0,dI 1,dI 7] (.agg [dI 20,dI 0,dI 1,dI 7]),.t 3 (Z72)] ⟨⟨rfl,rfl,by kernel_rfl,by kernel_rfl,.inl ⟨4,Js,rfl,Nat.le_of_ble_eq_true rfl⟩⟩,⟨⟨rfl,by kernel_rfl⟩,trivial⟩⟩ [] (gc2 (show (Yh k)=⟨20,0,1,7⟩ from Et) (show ((decide (okK k)):Bool)=true from Et) (fun qq0 (q5:Bool)=>(.tup [.agg [dI (qq0.Vp),dI (qq0.Wu),dI (qq0.V6),dI (qq0.Vi)],.one (dB q5)]:AV))) trivial
 refine cF (dF hq1) (T.skip (nT (T.seq (sR [] ?_))))
 by_cases hq2:k=2
 ·refine cT (dT hq2) (T.exit (xT (xT (xM rfl (xT (xH (nT (sR [hR 2 rfl rfl (Yb (u1:=.int .i64 0) (u2:=.int .i64 64) (v:=.int .i64 64) (X6x p3y) (X2 rfl) ⟨rfl,trivial⟩)] (xK [] (nB (nT (xK [hR 2 rfl rfl (Yb (u1:=.int .i64 64) (u2:=.int .i64 1) (v:=.int .i64 65) (X6x p3y) (X2 rfl) ⟨rfl,trivial⟩)] (nB (nT (sR [hR 2 rfl rfl (Yb (u1:=.int .i64 65) (u2:=.int .i64 10) (v:=.int .i64 75) (X6x p3y) (X2 rfl) ⟨rfl,trivial⟩)] (T.exit (xM rfl (xT (xM rfl (xT (xM rfl (xT (xM rfl (xT (xM rfl (xT (xM rfl (xT (xM rfl (xT (xH (nT (sR [] (T.ret ?_))))))))))))))))))))))))))))))))))
  exact eX [.c 2 0 242 0 242 [dI 75,dI 0,dI 1,dI 4] (.agg [dI 75,dI 0,dI 1,dI 4]),.t 3 (Z72)] ⟨⟨rfl,rfl,by kernel_rfl,by kernel_rfl,.inl ⟨4,Js,rfl,Nat.le_of_ble_eq_true rfl⟩⟩,⟨⟨rfl,by kernel_rfl⟩,trivial⟩⟩ [] (gc2 (show (Yh k)=⟨75,0,1,4⟩ from Et) (show ((decide (okK k)):Bool)=true from Et) (fun qq0 (q5:Bool)=>(.tup [.agg [dI (qq0.Vp),dI (qq0.Wu),dI (qq0.V6),dI (qq0.Vi)],.one (dB q5)]:AV))) trivial
 refine cF (dF hq2) (T.skip (nT (T.seq (T.seq (sR [] ?_)))))
 by_cases hq3:k=3
 ·refine cT (dT hq3) (T.skip (nT (cT (dT hq3) (T.exit (xT (xT (xM rfl (xT (xM rfl (xT (xH (nT (xK [hR 2 rfl rfl (Yb (u1:=.int .i64 0) (u2:=.int .i64 1) (v:=.int .i64 1) (X6x p3y) (X2 rfl) ⟨rfl,trivial⟩)] (nB (nT (sR [hR 2 rfl rfl (Yb (u1:=.int .i64 1) (u2:=.int .i64 10) (v:=.int .i64 11) (X6x p3y) (X2 rfl) ⟨rfl,trivial⟩)] (T.exit (xM rfl (xT (xM rfl (xT (xM rfl (xT (xM rfl (xT (xM rfl (xT (xM rfl (xT (xM rfl (xT (xH (nT (sR [] (T.ret ?_)))))))))))))))))))))))))))))))))))
  exact eX [.c 2 0 242 0 242 [dI 11,dI 0,dI 1,dI 7] (Z73),.t 3 (Z72)] ⟨⟨rfl,rfl,by kernel_rfl,by kernel_rfl,.inl ⟨4,Js,rfl,Nat.le_of_ble_eq_true rfl⟩⟩,⟨⟨rfl,by kernel_rfl⟩,trivial⟩⟩ [] p2e trivial
 refine cF (dF hq3) (xK [] (nT ?_))
 by_cases hq4:k=4
 ·refine cT (dT hq4) (T.exit (xT (xT (xM rfl (xT (xM rfl (xT (xH (nT (xK [hR 2 rfl rfl (Yb (u1:=.int .i64 0) (u2:=.int .i64 1) (v:=.int .i64 1) (X6x p3y) (X2 rfl) ⟨rfl,trivial⟩)] (nB (nT (sR [hR 2 rfl rfl (Yb (u1:=.int .i64 1) (u2:=.int .i64 10) (v:=.int .i64 11) (X6x p3y) (X2 rfl) ⟨rfl,trivial⟩)] (T.exit (xM rfl (xT (xM rfl (xT (xM rfl (xT (xM rfl (xT (xM rfl (xT (xM rfl (xT (xM rfl (xT (xH (nT (sR [] (T.ret ?_))))))))))))))))))))))))))))))))
  exact eX [.c 2 0 242 0 242 [dI 11,dI 0,dI 1,dI 7] (Z73),.t 3 (Z72)] ⟨⟨rfl,rfl,by kernel_rfl,by kernel_rfl,.inl ⟨4,Js,rfl,Nat.le_of_ble_eq_true rfl⟩⟩,⟨⟨rfl,by kernel_rfl⟩,trivial⟩⟩ [] p2e trivial
 refine cF (dF hq4) (T.skip (nT (T.seq (sR [] ?_))))
 by_cases hq5:k=5
 ·refine cT (dT hq5) (T.exit (xT (xT (xM rfl (xT (xM rfl (xT (xM rfl (xT (xH (nT (sR [hR 2 rfl rfl (Yb (u1:=.int .i64 0) (u2:=.int .i64 10) (v:=.int .i64 10) (X6x p3y) (X2 rfl) ⟨rfl,trivial⟩)] (T.exit (xM rfl (xT (xM rfl (xT (xM rfl (xT (xM rfl (xT (xM rfl (xT (xM rfl (xT (xM rfl (xT (xH (nT (sR [] (T.ret ?_)))))))))))))))))))))))))))))))
  exact eX [.c 2 0 242 0 242 [dI 10,dI 0,dI 1,dI 7] (.agg [dI 10,dI 0,dI 1,dI 7]),.t 3 (Z72)] ⟨⟨rfl,rfl,by kernel_rfl,by kernel_rfl,.inl ⟨4,Js,rfl,Nat.le_of_ble_eq_true rfl⟩⟩,⟨⟨rfl,by kernel_rfl⟩,trivial⟩⟩ [] (gc2 (show (Yh k)=⟨10,0,1,7⟩ from Et) (show ((decide (okK k)):Bool)=true from Et) (fun qq0 (q5:Bool)=>(.tup [.agg [dI (qq0.Vp),dI (qq0.Wu),dI (qq0.V6),dI (qq0.Vi)],.one (dB q5)]:AV))) trivial
 refine cF (dF hq5) (T.skip (nT (T.seq (sR [] ?_))))
 by_cases hq6:k=6
 ·refine cT (dT hq6) (T.exit (xT (xT (xM rfl (xT (xM rfl (xT (xM rfl (xT (xM rfl (xT (xH (nT (sR [] (T.exit (xM rfl (xT (xM rfl (xT (xM rfl (xT (xM rfl (xT (xM rfl (xT (xM rfl (xT (xH (nT (sR [] (T.ret ?_)))))))))))))))))))))))))))))))
  exact eX [.c 2 0 242 0 242 [dI 323,dI 1,dI 0,dI 7] (.agg [dI 323,dI 1,dI 0,dI 7]),.t 3 (Z72)] ⟨⟨rfl,rfl,by kernel_rfl,by kernel_rfl,.inl ⟨4,Js,rfl,Nat.le_of_ble_eq_true rfl⟩⟩,⟨⟨rfl,by kernel_rfl⟩,trivial⟩⟩ [] (gc2 (show (Yh k)=⟨323,1,0,7⟩ from Et) (show ((decide (okK k)):Bool)=true from Et) (fun qq0 (q5:Bool)=>(.tup [.agg [dI (qq0.Vp),dI (qq0.Wu),dI (qq0.V6),dI (qq0.Vi)],.one (dB q5)]:AV))) trivial
 refine cF (dF hq6) (T.skip (nT (T.seq (sR [] ?_))))
 by_cases hq7:k=7
 ·refine cT (dT hq7) (T.exit (xT (xT (xM rfl (xT (xM rfl (xT (xM rfl (xT (xM rfl (xT (xM rfl (xT (xH (nT (sR [] (T.exit (xM rfl (xT (xM rfl (xT (xM rfl (xT (xM rfl (xT (xM rfl (xT (xH (nT (sR [] (T.ret ?_)))))))))))))))))))))))))))))))
  exact eX [.c 2 0 242 0 242 [dI 193,dI 1,dI 1,dI 7] (.agg [dI 193,dI 1,dI 1,dI 7]),.t 3 (Z72)] ⟨⟨rfl,rfl,by kernel_rfl,by kernel_rfl,.inl ⟨4,Js,rfl,Nat.le_of_ble_eq_true rfl⟩⟩,⟨⟨rfl,by kernel_rfl⟩,trivial⟩⟩ [] (gc2 (show (Yh k)=⟨193,1,1,7⟩ from Et) (show ((decide (okK k)):Bool)=true from Et) (fun qq0 (q5:Bool)=>(.tup [.agg [dI (qq0.Vp),dI (qq0.Wu),dI (qq0.V6),dI (qq0.Vi)],.one (dB q5)]:AV))) trivial
 refine cF (dF hq7) (T.skip (nT (T.seq (sR [] ?_))))
 by_cases hq8:k=8
 ·refine cT (dT hq8) (T.exit (xT (xT (xM rfl (xT (xM rfl (xT (xM rfl (xT (xM rfl (xT (xM rfl (xT (xM rfl (xT (xH (nT (sR [] (T.exit (xM rfl (xT (xM rfl (xT (xM rfl (xT (xM rfl (xT (xH (nT (sR [] (T.ret ?_)))))))))))))))))))))))))))))))
  exact eX [.c 2 0 242 0 242 [dI 37,dI 0,dI 1,dI 7] (.agg [dI 37,dI 0,dI 1,dI 7]),.t 3 (Z72)] ⟨⟨rfl,rfl,by kernel_rfl,by kernel_rfl,.inl ⟨4,Js,rfl,Nat.le_of_ble_eq_true rfl⟩⟩,⟨⟨rfl,by kernel_rfl⟩,trivial⟩⟩ [] (gc2 (show (Yh k)=⟨37,0,1,7⟩ from Et) (show ((decide (okK k)):Bool)=true from Et) (fun qq0 (q5:Bool)=>(.tup [.agg [dI (qq0.Vp),dI (qq0.Wu),dI (qq0.V6),dI (qq0.Vi)],.one (dB q5)]:AV))) trivial
 refine cF (dF hq8) (T.skip (nT (T.seq (sR [] ?_))))
 by_cases hq9:k=9
 ·refine cT (dT hq9) (T.exit (xT (xT (xM rfl (xT (xM rfl (xT (xM rfl (xT (xM rfl (xT (xM rfl (xT (xM rfl (xT (xM rfl (xT (xH (nT (sR [] (T.exit (xM rfl (xT (xM rfl (xT (xM rfl (xT (xH (nT (sR [] (T.ret ?_)))))))))))))))))))))))))))))))
  exact eX [.c 2 0 242 0 242 [dI 2,dI 0,dI 0,dI 7] (.agg [dI 2,dI 0,dI 0,dI 7]),.t 3 (Z72)] ⟨⟨rfl,rfl,by kernel_rfl,by kernel_rfl,.inl ⟨4,Js,rfl,Nat.le_of_ble_eq_true rfl⟩⟩,⟨⟨rfl,by kernel_rfl⟩,trivial⟩⟩ [] (gc2 (show (Yh k)=⟨2,0,0,7⟩ from Et) (show ((decide (okK k)):Bool)=true from Et) (fun qq0 (q5:Bool)=>(.tup [.agg [dI (qq0.Vp),dI (qq0.Wu),dI (qq0.V6),dI (qq0.Vi)],.one (dB q5)]:AV))) trivial
 refine cF (dF hq9) (T.skip (nT (T.seq (sR [] ?_))))
 by_cases hq10:k=10
 ·refine cT (dT hq10) (T.exit (xT (xT (xM rfl (xT (xM rfl (xT (xM rfl (xT (xM rfl (xT (xM rfl (xT (xM rfl (xT (xM rfl (xT (xM rfl (xT (xH (nT (sR [] (T.exit (xM rfl (xT (xM rfl (xT (xH (nT (sR [] (T.ret ?_)))))))))))))))))))))))))))))))
  exact eX [.c 2 0 242 0 242 [dI 256,dI 0,dI 1,dI 7] (.agg [dI 256,dI 0,dI 1,dI 7]),.t 3 (Z72)] ⟨⟨rfl,rfl,by kernel_rfl,by kernel_rfl,.inl ⟨4,Js,rfl,Nat.le_of_ble_eq_true rfl⟩⟩,⟨⟨rfl,by kernel_rfl⟩,trivial⟩⟩ [] (gc2 (show (Yh k)=⟨256,0,1,7⟩ from Et) (show ((decide (okK k)):Bool)=true from Et) (fun qq0 (q5:Bool)=>(.tup [.agg [dI (qq0.Vp),dI (qq0.Wu),dI (qq0.V6),dI (qq0.Vi)],.one (dB q5)]:AV))) trivial
 refine cF (dF hq10) (T.skip (nT (sR [] ?_)))
 by_cases hq11:k=11
 ·refine cT (dT hq11) (T.exit (xT (xM rfl (xT (xM rfl (xT (xM rfl (xT (xM rfl (xT (xM rfl (xT (xM rfl (xT (xM rfl (xT (xM rfl (xT (xM rfl (xT (xH (nT (sR [] (T.exit (xM rfl (xT (xH (nT (sR [] (T.ret ?_))))))))))))))))))))))))))))))
  exact eX [.c 2 0 242 0 242 [dI 82,dI 0,dI 1,dI 7] (.agg [dI 82,dI 0,dI 1,dI 7]),.t 3 (Z72)] ⟨⟨rfl,rfl,by kernel_rfl,by kernel_rfl,.inl ⟨4,Js,rfl,Nat.le_of_ble_eq_true rfl⟩⟩,⟨⟨rfl,by kernel_rfl⟩,trivial⟩⟩ [] (gc2 (show (Yh k)=⟨82,0,1,7⟩ from Et) (show ((decide (okK k)):Bool)=true from Et) (fun qq0 (q5:Bool)=>(.tup [.agg [dI (qq0.Vp),dI (qq0.Wu),dI (qq0.V6),dI (qq0.Vi)],.one (dB q5)]:AV))) trivial
 refine cF (dF hq11) (T.skip (nT (T.exit (xM rfl (xT (xM rfl (xT (xM rfl (xT (xM rfl (xT (xM rfl (xT (xM rfl (xT (xM rfl (xT (xM rfl (xT (xM rfl (xT (xM rfl (xT (xH (nT (T.seq (sR [] (T.ret (rT (rB (rT ?_)))))))))))))))))))))))))))))))
 exact eX [.c 2 0 242 0 242 [dI 0,dI 0,dI 1,dI 7] (.agg [dI 0,dI 0,dI 1,dI 7]),.t 3 (.one (dB false))] ⟨⟨rfl,rfl,by kernel_rfl,by kernel_rfl,.inl ⟨4,Js,rfl,Nat.le_of_ble_eq_true rfl⟩⟩,⟨⟨rfl,by kernel_rfl⟩,trivial⟩⟩ [] (gc2 (show (Yh k)=⟨0,0,1,7⟩ from Et) (by exact dF (by unfold okK;omega)) (fun qq0 (q5:Bool)=>(.tup [.agg [dI (qq0.Vp),dI (qq0.Wu),dI (qq0.V6),dI (qq0.Vi)],.one (dB q5)]:AV))) trivial
theorem Un (s:J6) (f:Int) (n:Int) (lo:Int) (hi:Int):Holds Tryz.prog 200 ⟨[.tv (.agg [dI s.Vp,dI s.Wu,dI s.V6,dI s.Vi]),vI f,vI n,vI lo,vI hi],[],vB (decide (inM s f n lo hi)),[]⟩:=by
 refine Holds.of Tryz.func200 rfl (N:=24) Tryz.ntmps200 rfl fun w0 B0 S0 U0=>?_
 show T _ (Y2 24 0 w0 S0 U0 B0) ⟨[.tv (.agg [dI s.Vp,dI s.Wu,dI s.V6,dI s.Vi]),vI f,vI n,vI lo,vI hi],[]⟩ _ _
 refine sR [] (T.seq (sR [hR 3 rfl rfl (Yb (u1:=.int .i64 s.Vp) (u2:=.int .i64 f) (v:=.int .i64 (I8 s.Vp f)) (Xdr rfl) (X2 rfl) trivial)] ?_))
 by_cases hq1:(I8 s.Vp f)=0
 ·refine cT (dT hq1) (xK [] (nT ?_))
  by_cases hq2:0≤n
  ·refine sR (Xl (hY · (dT hq2)) [4,5,6] (hP 7 (dT hq2)::[])) (T.ret ?_)
   exact eRt 10 (.one (dB (decide (n≤0)))) [] (by have e1:((decide (inM s f n lo hi)):Bool)=(decide (n≤0)):=(by (simp [inM, *];done));have hE:=cB e1;exact hE) trivial
  refine sR (Xl (hN · true (dF hq2)) [4,5,6] (hP 7 (dF hq2)::[])) (T.ret ?_)
  exact eRt 10 (.one (dB false)) [] p3w trivial
 refine cF (dF hq1) (T.skip (nT ?_))
 by_cases hq3:lo≤n
 ·refine sR (Xl (hY · (dT hq3)) [4,5,6] (hP 7 (dT hq3)::[])) (T.ret ?_)
  exact eRt 10 (.one (dB (decide (n≤hi)))) [] (by have e1:((decide (inM s f n lo hi)):Bool)=(decide (n≤hi)):=(by (simp [inM, *];done));have hE:=cB e1;exact hE) trivial
 refine sR (Xl (hN · true (dF hq3)) [4,5,6] (hP 7 (dF hq3)::[])) (T.ret ?_)
 exact eRt 10 (.one (dB false)) [] p3w trivial
theorem Xhp (tc:Bool) (c:aC):Holds Tryz.prog 202 ⟨[.tv (.agg [dI c.Uu.f_Signer,.d (dsl tc false kU8 c.Uu.Xh),.d (dsl tc false (kE tc) c.Xi)])],[],vB (decide (((c.Xi.length:Nat):Int)>7)),[]⟩:=by
 refine Holds.of Tryz.func202 rfl (N:=7) Tryz.ntmps202 rfl fun w0 B0 S0 U0=>?_
 show T _ (Y2 7 0 w0 S0 U0 B0) ⟨[.tv (.agg [dI c.Uu.f_Signer,.d (dsl tc false kU8 c.Uu.Xh),.d (dsl tc false (kE tc) c.Xi)])],[]⟩ _ _
 refine sR [] (sR [] (T.ret ?_))
 exact eRt 2 (.one (dB (decide (((c.Xi.length:Nat):Int)>7)))) [] rfl trivial
theorem Eu:Tryz.prog.info? 86=some Tryz.t86:=by kernel_rfl
abbrev Z74:AV:=dv (.func (.func 202) #[] #[])
abbrev Z75 (l:List aC):AV:=vI ((l.length:Nat):Int)
theorem idx_Cert (tl:Bool) (nl:Bool) (sl_:Bool) (l:List aC) (hl:l.length≤9223372036854775807):Holds Tryz.prog 203 ⟨[slV tl nl (kC sl_) l,dv (.func (.func 202) #[] #[])],[],vI (idxV l),[]⟩:=by
 refine Holds.of Tryz.func203 rfl (N:=19) Tryz.ntmps203 rfl fun w0 B0 S0 U0=>?_
 show T _ (Y2 19 0 w0 S0 U0 B0) ⟨[slV tl nl (kC sl_) l,Z74],[]⟩ _ _
 refine sR [] (T.seq (sR [] (T.block ?_)))
 refine T.loop (ι:=Nat) (fun (k:Nat)=>⟨[slV tl nl (kC sl_) l,Z74,aa,aa,vI 0,aa,aa,(Z75 l),vI ((k:Nat):Int)],[]⟩) (fun (k:Nat)=>(k≤l.length)∧(∀ j,j<k→(l.getD j zC).Xi.length≤7)) (fun (k:Nat)=>l.length-k) (0) ⟨(Nat.zero_le _),(fun j hj=>absurd hj (Nat.not_lt_zero _))⟩ (fun _ _ hG=>Yu [] (bm 9 403) rfl rfl hG) ?_
 rintro k ⟨hk,hb⟩
 show T _ _ ⟨[slV tl nl (kC sl_) l,Z74,aa,aa,vI 0,aa,aa,(Z75 l),vI ((k:Nat):Int)],[]⟩ _ _
 replace hk:k≤l.length:=hk
 replace hb:∀ j,j<k→(l.getD j zC).Xi.length≤7:=hb
 refine sR [] (T.seq ?_)
 by_cases hq1:((k:Nat):Int)<((l.length:Nat):Int)
 ·refine cT (dT hq1) (T.skip (nT (T.seq (T.block (sR [] (sR [hR 3 rfl rfl (Wi tl nl (kC sl_) l k (k:=.i64) (i:=((k:Nat):Int)) Tryz.underlying76 Eu rfl rfl (by omega) (X2 rfl) trivial),hR 5 rfl rfl (X7u (fs:=#[]) (cs:=#[]) (Xhp sl_ (l.getD k zC) ) Tryz.func202 rfl (by decide) [] [] (l:=[(.tmp 15,.tv (.agg [dI (l.getD k zC).Uu.f_Signer,.d (dsl sl_ false kU8 (l.getD k zC).Uu.Xh),.d (dsl sl_ false (kE sl_) (l.getD k zC).Xi)]))]) [] rfl 0 0 rfl rfl rfl rfl rfl rfl rfl rfl rfl rfl rfl ⟨⟨.inl ⟨rfl,rfl⟩,⟨.inl ⟨rfl,rfl⟩,⟨.inl ⟨rfl,rfl⟩,trivial⟩⟩⟩,trivial⟩ rfl p3k (.inl rfl) (X2 rfl) trivial)] ?_))))))
  by_cases hq2:(((l.getD k zC).Xi.length:Nat):Int)>7
  ·refine cT (dT hq2) (sR [] (T.ret (rB (rT (rT (rB (rT ?_)))))))
   exact eRt 4 (.one (dI ((k:Nat):Int))) [] (cI (by exact idx_at hb (by omega) (by omega))) trivial
  refine cF (dF hq2) (T.skip (nB (nT (xK [hR 0 rfl rfl (Yb (u1:=.int .i64 ((k:Nat):Int)) (u2:=.int .i64 1) (v:=.int .i64 ((k+1:Nat):Int)) (Wb pZ9) (X2 rfl) ⟨rfl,trivial⟩)] ?_))))
  refine nL (k+1) ⟨(show (k+1)≤l.length from (by omega)),(show ∀ j,j<(k+1)→(l.getD j zC).Xi.length≤7 from (Im hb (by omega)))⟩ (show (l.length-(k+1):Nat)<l.length-k from (by omega)) (fun _ _ hG=>Yu [] (bm 9 403) rfl rfl hG)
 refine cF (dF hq1) (T.exit (xT (xT (xH (nT (sR [] (T.ret ?_)))))))
 exact eRt 4 (.one (dI (-1))) [] (cI (by exact idx_no hb (by omega))) trivial
theorem Fc (tl:Bool) (nl:Bool) (sl_:Bool) (l:List aC) (hl:l.length≤9223372036854775807):Holds Tryz.prog 201 ⟨[slV tl nl (kC sl_) l,dv (.func (.func 202) #[] #[])],[],vB (decide (¬X29 l)),[]⟩:=by
 refine Holds.of Tryz.func201 rfl (N:=9) Tryz.ntmps201 rfl fun w0 B0 S0 U0=>?_
 show T _ (Y2 9 0 w0 S0 U0 B0) ⟨[slV tl nl (kC sl_) l,dv (.func (.func 202) #[] #[])],[]⟩ _ _
 refine sR [] (sR [hR 2 rfl rfl (rCa (idx_Cert tl nl sl_ l ‹_›) Tryz.func203 [] [(.tmp 5,slV tl nl (kC sl_) l),(.tmp 6,dv (.func (.func 202) #[] #[]))] 0 0)] (T.ret ?_))
 exact eRt 4 (.one (dB (decide ((idxV l)≥0)))) [] (by have e1:((decide (¬X29 l)):Bool)=(decide ((idxV l)≥0)):=(by (rw [decide_eq_decide];exact (idx_few _).symm));have hE:=cB e1;exact hE) trivial
theorem I7:SEq Tryz.prog 46 (fun x:Xw=>.agg #[.int .i64 x.Y0,.int .i64 x.Xq]):=seq_of (g:=fun x:Xw=>#[.int .i64 x.Y0,.int .i64 x.Xq]) (bs':=fun a b=>[decide (a.Y0=b.Y0),decide (a.Xq=b.Xq)]) Tryz.underlying46 pZ4 pZ4 (fun a b=>⟨by decide,⟨_,_,rfl,rfl,.int Tryz.underlying44⟩,⟨by decide,⟨_,_,rfl,rfl,.int Tryz.underlying3⟩,trivial⟩⟩) (fun a b=>by rw [Bool.eq_iff_iff];simp [X2j])
section
variable (tm:Bool) (m:aM)
abbrev Z76:AV:=.tv (.agg [dI (Yh m.X0).Vp,dI (Yh m.X0).Wu,dI (Yh m.X0).V6,dI (Yh m.X0).Vi])
abbrev Z77:AV:=vI (Yh m.X0).Wu
abbrev Z78:AV:=vI 1099511627776
abbrev Z79:AV:=vI (Yh m.X0).V6
abbrev Z7a:AV:=vI ((m.Xt.length:Nat):Int)
abbrev Z7b:AV:=vI (Yh m.X0).Vi
abbrev Z7c:AV:=vI ((m.Xe.length:Nat):Int)
abbrev Z7d:AV:=vI ((m.Xd.length:Nat):Int)
abbrev Z7e:AV:=slV tm false (kC tm) m.X5
abbrev Z7f:AV:=dv (.func (.func 202) #[] #[])
abbrev Z7g:TV:=.one (dI 120)
abbrev Z7h:TV:=.one (dI 0)
abbrev Z7i:AV:=vB (decide (((m.X5.length:Nat):Int)=1))
end
theorem Xl0 (tm:Bool) (m:aM) (hq:m.Xt.length≤9223372036854775807) (hr:m.Y8.length≤9223372036854775807) (hc:m.X5.length≤9223372036854775807) (hd:m.Xd.length≤9223372036854775807) (hg:m.Xe.length≤9223372036854775807):Holds Tryz.prog 198 ⟨[.tv (.agg [dI m.X0,dI m.Y9,dI m.Xu,dI m.Xr,dI m.W0,dS m.Xe,.d (dsl tm false kU8 m.Xd),dI m.X3.Y0,dI m.X3.Xq,.d (dsl tm false (kE tm) m.Xt),.d (dsl tm false (kE tm) m.Y8),.d (dsl tm false (kC tm) m.X5)])],[],vI (chkM m),[]⟩:=by
 refine Holds.of Tryz.func198 rfl (N:=129) Tryz.ntmps198 rfl fun w0 B0 S0 U0=>?_
 show T _ (Y2 129 0 w0 S0 U0 B0) ⟨[.tv (.agg [dI m.X0,dI m.Y9,dI m.Xu,dI m.Xr,dI m.W0,dS m.Xe,.d (dsl tm false kU8 m.Xd),dI m.X3.Y0,dI m.X3.Xq,.d (dsl tm false (kE tm) m.Xt),.d (dsl tm false (kE tm) m.Y8),.d (dsl tm false (kC tm) m.X5)])],[]⟩ _ _
 refine sR [] (sR [hR 2 rfl rfl (rCa (X6t m.X0 ) Tryz.func195 [] [(.tmp 7,vI m.X0)] 0 0)] ?_)
 by_cases hq1:okK m.X0
 rotate_left
 ·refine sR (Xl (hN · true (dF hq1)) [2,3,4,5,6,7] (hP 8 (dF hq1)::(Xl hN1 [10,11,12,13,14,15] (hP0 16::(Xl hN1 [18,19,20,21] (hP0 22::(Xl hN1 [24,25,26,27] (hP0 28::[])))))))) (sR (Xl hN1 [2,3,4,5,6,7,8] (hP0 9::(Xl hN1 [11,12,13,14,15] (hP0 16::(Xl hN1 [18,19,20,21,22] (hP0 23::[])))))) (sR (Xl hN1 [2,3,4,5,6,7,8,9] (hP0 10::(Xl hN1 [12,13,14,15,16,17,18,19] (hP0 20::(Xl hN1 [22,23,24,25,26] (hU 27::(hU 28::(hU 29::(hU 30::(hN1 31::(hP0 32::[]))))))))))) (sR (Xl hN1 [2,3,4,5] (hU 6::(hU 7::(hU 8::(hU 9::(hN1 10::(hP0 11::[]))))))) (sR (Xl hN1 [2,3,4,5] (hU 6::(hU 7::(hU 8::(hU 9::(hN1 10::(hP0 11::(Xl hN1 [13,14,15,16] (hP0 17::[]))))))))) (T.seq (sR [] (cT (b:=(!false)) rfl (sR [] (T.ret (rT ?_))))))))))
  exact eRt 2 (Z7g) [] (cI (by exact if_neg (fun h9=>by exact absurd h9.1 ‹_›))) trivial
 by_cases hq2:inM (Yh m.X0) 1 m.Y9 (Yh m.X0).Wu 1099511627776
 rotate_left
 ·refine sR (Xl (hY · (dT hq1)) [2,3,4,5,6] (hS 7 (oY rfl rfl rfl rfl (X2 rfl) (dT hq1) (rCa (Un (Yh m.X0) 1 m.Y9 (Yh m.X0).Wu 1099511627776 ) Tryz.func200 [] [(.tmp 13,(Z76 m)),(.const (.int .i64 1),vI 1),(.tmp 15,vI m.Y9),(.tmp 17,(Z77 m)),(.const (.int .i64 1099511627776),Z78)] 0 0))::(hP 8 (dT hq1)::(Xl (hN · true (dF hq2)) [10,11,12,13,14,15] (hP 16 (dF hq2)::(Xl hN1 [18,19,20,21] (hP0 22::(Xl hN1 [24,25,26,27] (hP0 28::[]))))))))) (sR (Xl hN1 [2,3,4,5,6,7,8] (hP0 9::(Xl hN1 [11,12,13,14,15] (hP0 16::(Xl hN1 [18,19,20,21,22] (hP0 23::[])))))) (sR (Xl hN1 [2,3,4,5,6,7,8,9] (hP0 10::(Xl hN1 [12,13,14,15,16,17,18,19] (hP0 20::(Xl hN1 [22,23,24,25,26] (hU 27::(hU 28::(hU 29::(hU 30::(hN1 31::(hP0 32::[]))))))))))) ?_))
  refine sR (Xl hN1 [2,3,4,5] (hU 6::(hU 7::(hU 8::(hU 9::(hN1 10::(hP0 11::[]))))))) (sR (Xl hN1 [2,3,4,5] (hU 6::(hU 7::(hU 8::(hU 9::(hN1 10::(hP0 11::(Xl hN1 [13,14,15,16] (hP0 17::[]))))))))) (T.seq (sR [] (cT (b:=(!false)) rfl (sR [] (T.ret (rT ?_)))))))
  exact eRt 2 (Z7g) [] (cI (by exact if_neg (fun h9=>by exact absurd h9.2.1 ‹_›))) trivial
 by_cases hq3:inM (Yh m.X0) 2 m.Xu (Yh m.X0).V6 1099511627776
 rotate_left
 ·refine sR (Xl (hY · (dT hq1)) [2,3,4,5,6] (hS 7 (oY rfl rfl rfl rfl (X2 rfl) (dT hq1) (rCa (Un (Yh m.X0) 1 m.Y9 (Yh m.X0).Wu 1099511627776 ) Tryz.func200 [] [(.tmp 13,(Z76 m)),(.const (.int .i64 1),vI 1),(.tmp 15,vI m.Y9),(.tmp 17,(Z77 m)),(.const (.int .i64 1099511627776),Z78)] 0 0))::(hP 8 (dT hq1)::(Xl (hY · (dT hq2)) [10,11,12,13,14] (hS 15 (oY rfl rfl rfl rfl (X2 rfl) (dT hq2) (rCa (Un (Yh m.X0) 2 m.Xu (Yh m.X0).V6 1099511627776 ) Tryz.func200 [] [(.tmp 21,(Z76 m)),(.const (.int .i64 2),vI 2),(.tmp 23,vI m.Xu),(.tmp 25,(Z79 m)),(.const (.int .i64 1099511627776),Z78)] 0 0))::(hP 16 (dT hq2)::(Xl (hN · true (dF hq3)) [18,19,20,21] (hP 22 (dF hq3)::(Xl hN1 [24,25,26,27] (hP0 28::[])))))))))) ?_
  refine sR (Xl hN1 [2,3,4,5,6,7,8] (hP0 9::(Xl hN1 [11,12,13,14,15] (hP0 16::(Xl hN1 [18,19,20,21,22] (hP0 23::[])))))) (sR (Xl hN1 [2,3,4,5,6,7,8,9] (hP0 10::(Xl hN1 [12,13,14,15,16,17,18,19] (hP0 20::(Xl hN1 [22,23,24,25,26] (hU 27::(hU 28::(hU 29::(hU 30::(hN1 31::(hP0 32::[]))))))))))) (sR (Xl hN1 [2,3,4,5] (hU 6::(hU 7::(hU 8::(hU 9::(hN1 10::(hP0 11::[]))))))) (sR (Xl hN1 [2,3,4,5] (hU 6::(hU 7::(hU 8::(hU 9::(hN1 10::(hP0 11::(Xl hN1 [13,14,15,16] (hP0 17::[]))))))))) (T.seq (sR [] (cT (b:=(!false)) rfl (sR [] (T.ret (rT ?_)))))))))
  exact eRt 2 (Z7g) [] (cI (by exact if_neg (fun h9=>by exact absurd h9.2.2.1 ‹_›))) trivial
 by_cases hq4:inM (Yh m.X0) 4 m.Xr 0 1099511627776
 rotate_left
 ·refine sR (Xl (hY · (dT hq1)) [2,3,4,5,6] (hS 7 (oY rfl rfl rfl rfl (X2 rfl) (dT hq1) (rCa (Un (Yh m.X0) 1 m.Y9 (Yh m.X0).Wu 1099511627776 ) Tryz.func200 [] [(.tmp 13,(Z76 m)),(.const (.int .i64 1),vI 1),(.tmp 15,vI m.Y9),(.tmp 17,(Z77 m)),(.const (.int .i64 1099511627776),Z78)] 0 0))::(hP 8 (dT hq1)::(Xl (hY · (dT hq2)) [10,11,12,13,14] (hS 15 (oY rfl rfl rfl rfl (X2 rfl) (dT hq2) (rCa (Un (Yh m.X0) 2 m.Xu (Yh m.X0).V6 1099511627776 ) Tryz.func200 [] [(.tmp 21,(Z76 m)),(.const (.int .i64 2),vI 2),(.tmp 23,vI m.Xu),(.tmp 25,(Z79 m)),(.const (.int .i64 1099511627776),Z78)] 0 0))::(hP 16 (dT hq2)::(Xl (hY · (dT hq3)) [18,19,20] (hS 21 (oY rfl rfl rfl rfl (X2 rfl) (dT hq3) (rCa (Un (Yh m.X0) 4 m.Xr 0 1099511627776 ) Tryz.func200 [] [(.tmp 29,(Z76 m)),(.const (.int .i64 4),vI 4),(.tmp 31,vI m.Xr),(.const (.int .i64 0),vI 0),(.const (.int .i64 1099511627776),Z78)] 0 0))::(hP 22 (dT hq3)::(Xl (hN · true (dF hq4)) [24,25,26,27] (hP 28 (dF hq4)::[]))))))))))) ?_
  refine sR (Xl hN1 [2,3,4,5,6,7,8] (hP0 9::(Xl hN1 [11,12,13,14,15] (hP0 16::(Xl hN1 [18,19,20,21,22] (hP0 23::[])))))) (sR (Xl hN1 [2,3,4,5,6,7,8,9] (hP0 10::(Xl hN1 [12,13,14,15,16,17,18,19] (hP0 20::(Xl hN1 [22,23,24,25,26] (hU 27::(hU 28::(hU 29::(hU 30::(hN1 31::(hP0 32::[]))))))))))) (sR (Xl hN1 [2,3,4,5] (hU 6::(hU 7::(hU 8::(hU 9::(hN1 10::(hP0 11::[]))))))) (sR (Xl hN1 [2,3,4,5] (hU 6::(hU 7::(hU 8::(hU 9::(hN1 10::(hP0 11::(Xl hN1 [13,14,15,16] (hP0 17::[]))))))))) (T.seq (sR [] (cT (b:=(!false)) rfl (sR [] (T.ret (rT ?_)))))))))
  exact eRt 2 (Z7g) [] (cI (by exact if_neg (fun h9=>by exact absurd h9.2.2.2.1 ‹_›))) trivial
 refine sR (Xl (hY · (dT hq1)) [2,3,4,5,6] (hS 7 (oY rfl rfl rfl rfl (X2 rfl) (dT hq1) (rCa (Un (Yh m.X0) 1 m.Y9 (Yh m.X0).Wu 1099511627776 ) Tryz.func200 [] [(.tmp 13,(Z76 m)),(.const (.int .i64 1),vI 1),(.tmp 15,vI m.Y9),(.tmp 17,(Z77 m)),(.const (.int .i64 1099511627776),Z78)] 0 0))::(hP 8 (dT hq1)::(Xl (hY · (dT hq2)) [10,11,12,13,14] (hS 15 (oY rfl rfl rfl rfl (X2 rfl) (dT hq2) (rCa (Un (Yh m.X0) 2 m.Xu (Yh m.X0).V6 1099511627776 ) Tryz.func200 [] [(.tmp 21,(Z76 m)),(.const (.int .i64 2),vI 2),(.tmp 23,vI m.Xu),(.tmp 25,(Z79 m)),(.const (.int .i64 1099511627776),Z78)] 0 0))::(hP 16 (dT hq2)::(Xl (hY · (dT hq3)) [18,19,20] (hS 21 (oY rfl rfl rfl rfl (X2 rfl) (dT hq3) (rCa (Un (Yh m.X0) 4 m.Xr 0 1099511627776 ) Tryz.func200 [] [(.tmp 29,(Z76 m)),(.const (.int .i64 4),vI 4),(.tmp 31,vI m.Xr),(.const (.int .i64 0),vI 0),(.const (.int .i64 1099511627776),Z78)] 0 0))::(hP 22 (dT hq3)::(Xl (hY · (dT hq4)) [24,25,26] (hS 27 (oY rfl rfl rfl rfl (X2 rfl) (dT hq4) (rCa (Un (Yh m.X0) 4 m.W0 1 1099511627776 ) Tryz.func200 [] [(.tmp 35,(Z76 m)),(.const (.int .i64 4),vI 4),(.tmp 37,vI m.W0),(.const (.int .i64 1),vI 1),(.const (.int .i64 1099511627776),Z78)] 0 0))::(hP 28 (dT hq4)::[])))))))))))) ?_
 by_cases hq5:inM (Yh m.X0) 4 m.W0 1 1099511627776
 rotate_left
 ·refine sR (Xl (hN · true (dF hq5)) [2,3,4,5,6,7,8] (hP 9 (dF hq5)::(Xl hN1 [11,12,13,14,15] (hP0 16::(Xl hN1 [18,19,20,21,22] (hP0 23::[])))))) (sR (Xl hN1 [2,3,4,5,6,7,8,9] (hP0 10::(Xl hN1 [12,13,14,15,16,17,18,19] (hP0 20::(Xl hN1 [22,23,24,25,26] (hU 27::(hU 28::(hU 29::(hU 30::(hN1 31::(hP0 32::[]))))))))))) (sR (Xl hN1 [2,3,4,5] (hU 6::(hU 7::(hU 8::(hU 9::(hN1 10::(hP0 11::[]))))))) (sR (Xl hN1 [2,3,4,5] (hU 6::(hU 7::(hU 8::(hU 9::(hN1 10::(hP0 11::(Xl hN1 [13,14,15,16] (hP0 17::[]))))))))) (T.seq (sR [] (cT (b:=(!false)) rfl (sR [] (T.ret (rT ?_)))))))))
  exact eRt 2 (Z7g) [] (cI (by exact if_neg (fun h9=>by exact absurd h9.2.2.2.2.1 ‹_›))) trivial
 by_cases hq6:inM (Yh m.X0) 64 ((m.Xt.length:Nat):Int) 0 (Yh m.X0).Vi
 rotate_left
 ·refine sR (Xl (hY · (dT hq5)) [2,3,4,5,6,7] (hS 8 (oY rfl rfl rfl rfl (X2 rfl) (dT hq5) (rCa (Un (Yh m.X0) 64 ((m.Xt.length:Nat):Int) 0 (Yh m.X0).Vi ) Tryz.func200 [] [(.tmp 42,(Z76 m)),(.const (.int .i64 64),vI 64),(.tmp 45,(Z7a m)),(.const (.int .i64 0),vI 0),(.tmp 47,(Z7b m))] 0 0))::(hP 9 (dT hq5)::(Xl (hN · true (dF hq6)) [11,12,13,14,15] (hP 16 (dF hq6)::(Xl hN1 [18,19,20,21,22] (hP0 23::[]))))))) (sR (Xl hN1 [2,3,4,5,6,7,8,9] (hP0 10::(Xl hN1 [12,13,14,15,16,17,18,19] (hP0 20::(Xl hN1 [22,23,24,25,26] (hU 27::(hU 28::(hU 29::(hU 30::(hN1 31::(hP0 32::[]))))))))))) (sR (Xl hN1 [2,3,4,5] (hU 6::(hU 7::(hU 8::(hU 9::(hN1 10::(hP0 11::[]))))))) ?_))
  refine sR (Xl hN1 [2,3,4,5] (hU 6::(hU 7::(hU 8::(hU 9::(hN1 10::(hP0 11::(Xl hN1 [13,14,15,16] (hP0 17::[]))))))))) (T.seq (sR [] (cT (b:=(!false)) rfl (sR [] (T.ret (rT ?_))))))
  exact eRt 2 (Z7g) [] (cI (by exact if_neg (fun h9=>by exact absurd h9.2.2.2.2.2.1 ‹_›))) trivial
 by_cases hq7:inM (Yh m.X0) 128 ((m.Y8.length:Nat):Int) 0 8
 rotate_left
 ·refine sR (Xl (hY · (dT hq5)) [2,3,4,5,6,7] (hS 8 (oY rfl rfl rfl rfl (X2 rfl) (dT hq5) (rCa (Un (Yh m.X0) 64 ((m.Xt.length:Nat):Int) 0 (Yh m.X0).Vi ) Tryz.func200 [] [(.tmp 42,(Z76 m)),(.const (.int .i64 64),vI 64),(.tmp 45,(Z7a m)),(.const (.int .i64 0),vI 0),(.tmp 47,(Z7b m))] 0 0))::(hP 9 (dT hq5)::(Xl (hY · (dT hq6)) [11,12,13,14] (hS 15 (oY rfl rfl rfl rfl (X2 rfl) (dT hq6) (rCa (Un (Yh m.X0) 128 ((m.Y8.length:Nat):Int) 0 8 ) Tryz.func200 [] [(.tmp 51,(Z76 m)),(.const (.int .i64 128),vI 128),(.tmp 54,vI ((m.Y8.length:Nat):Int)),(.const (.int .i64 0),vI 0),(.const (.int .i64 8),vI 8)] 0 0))::(hP 16 (dT hq6)::(Xl (hN · true (dF hq7)) [18,19,20,21,22] (hP 23 (dF hq7)::[])))))))) ?_
  refine sR (Xl hN1 [2,3,4,5,6,7,8,9] (hP0 10::(Xl hN1 [12,13,14,15,16,17,18,19] (hP0 20::(Xl hN1 [22,23,24,25,26] (hU 27::(hU 28::(hU 29::(hU 30::(hN1 31::(hP0 32::[]))))))))))) (sR (Xl hN1 [2,3,4,5] (hU 6::(hU 7::(hU 8::(hU 9::(hN1 10::(hP0 11::[]))))))) (sR (Xl hN1 [2,3,4,5] (hU 6::(hU 7::(hU 8::(hU 9::(hN1 10::(hP0 11::(Xl hN1 [13,14,15,16] (hP0 17::[]))))))))) (T.seq (sR [] (cT (b:=(!false)) rfl (sR [] (T.ret (rT ?_))))))))
  exact eRt 2 (Z7g) [] (cI (by exact if_neg (fun h9=>by exact absurd h9.2.2.2.2.2.2.1 ‹_›))) trivial
 refine sR (Xl (hY · (dT hq5)) [2,3,4,5,6,7] (hS 8 (oY rfl rfl rfl rfl (X2 rfl) (dT hq5) (rCa (Un (Yh m.X0) 64 ((m.Xt.length:Nat):Int) 0 (Yh m.X0).Vi ) Tryz.func200 [] [(.tmp 42,(Z76 m)),(.const (.int .i64 64),vI 64),(.tmp 45,(Z7a m)),(.const (.int .i64 0),vI 0),(.tmp 47,(Z7b m))] 0 0))::(hP 9 (dT hq5)::(Xl (hY · (dT hq6)) [11,12,13,14] (hS 15 (oY rfl rfl rfl rfl (X2 rfl) (dT hq6) (rCa (Un (Yh m.X0) 128 ((m.Y8.length:Nat):Int) 0 8 ) Tryz.func200 [] [(.tmp 51,(Z76 m)),(.const (.int .i64 128),vI 128),(.tmp 54,vI ((m.Y8.length:Nat):Int)),(.const (.int .i64 0),vI 0),(.const (.int .i64 8),vI 8)] 0 0))::(hP 16 (dT hq6)::(Xl (hY · (dT hq7)) [18,19,20,21] (hS 22 (oY rfl rfl rfl rfl (X2 rfl) (dT hq7) (rCa (Un (Yh m.X0) 256 ((m.X5.length:Nat):Int) 0 8 ) Tryz.func200 [] [(.tmp 58,(Z76 m)),(.const (.int .i64 256),vI 256),(.tmp 61,vI ((m.X5.length:Nat):Int)),(.const (.int .i64 0),vI 0),(.const (.int .i64 8),vI 8)] 0 0))::(hP 23 (dT hq7)::[]))))))))) ?_
 by_cases hq8:inM (Yh m.X0) 256 ((m.X5.length:Nat):Int) 0 8
 rotate_left
 ·refine sR (Xl (hN · true (dF hq8)) [2,3,4,5,6,7,8,9] (hP 10 (dF hq8)::(Xl hN1 [12,13,14,15,16,17,18,19] (hP0 20::(Xl hN1 [22,23,24,25,26] (hU 27::(hU 28::(hU 29::(hU 30::(hN1 31::(hP0 32::[]))))))))))) (sR (Xl hN1 [2,3,4,5] (hU 6::(hU 7::(hU 8::(hU 9::(hN1 10::(hP0 11::[]))))))) (sR (Xl hN1 [2,3,4,5] (hU 6::(hU 7::(hU 8::(hU 9::(hN1 10::(hP0 11::(Xl hN1 [13,14,15,16] (hP0 17::[]))))))))) (T.seq (sR [] (cT (b:=(!false)) rfl (sR [] (T.ret (rT ?_))))))))
  exact eRt 2 (Z7g) [] (cI (by exact if_neg (fun h9=>by exact absurd h9.2.2.2.2.2.2.2.1 ‹_›))) trivial
 by_cases hq9:inM (Yh m.X0) 8 ((m.Xe.length:Nat):Int) 0 ((m.Xe.length:Nat):Int)
 rotate_left
 ·refine sR (Xl (hY · (dT hq8)) [2,3,4,5,6,7,8] (hS 9 (oY rfl rfl rfl rfl (X2 rfl) (dT hq8) (rCa (Un (Yh m.X0) 8 ((m.Xe.length:Nat):Int) 0 ((m.Xe.length:Nat):Int) ) Tryz.func200 [] [(.tmp 66,(Z76 m)),(.const (.int .i64 8),vI 8),(.tmp 69,(Z7c m)),(.const (.int .i64 0),vI 0),(.tmp 72,(Z7c m))] 0 0))::(hP 10 (dT hq8)::(Xl (hN · true (dF hq9)) [12,13,14,15,16,17,18,19] (hP 20 (dF hq9)::(Xl hN1 [22,23,24,25,26] (hU 27::(hU 28::(hU 29::(hU 30::(hN1 31::(hP0 32::[])))))))))))) (sR (Xl hN1 [2,3,4,5] (hU 6::(hU 7::(hU 8::(hU 9::(hN1 10::(hP0 11::[]))))))) (sR (Xl hN1 [2,3,4,5] (hU 6::(hU 7::(hU 8::(hU 9::(hN1 10::(hP0 11::(Xl hN1 [13,14,15,16] (hP0 17::[]))))))))) (T.seq (sR [] (cT (b:=(!false)) rfl (sR [] (T.ret (rT ?_))))))))
  exact eRt 2 (Z7g) [] (cI (by exact if_neg (fun h9=>by exact absurd h9.2.2.2.2.2.2.2.2.1 ‹_›))) trivial
 by_cases hq10:inM (Yh m.X0) 16 ((m.Xd.length:Nat):Int) 0 ((m.Xd.length:Nat):Int)
 rotate_left
 ·refine sR (Xl (hY · (dT hq8)) [2,3,4,5,6,7,8] (hS 9 (oY rfl rfl rfl rfl (X2 rfl) (dT hq8) (rCa (Un (Yh m.X0) 8 ((m.Xe.length:Nat):Int) 0 ((m.Xe.length:Nat):Int) ) Tryz.func200 [] [(.tmp 66,(Z76 m)),(.const (.int .i64 8),vI 8),(.tmp 69,(Z7c m)),(.const (.int .i64 0),vI 0),(.tmp 72,(Z7c m))] 0 0))::(hP 10 (dT hq8)::(Xl (hY · (dT hq9)) [12,13,14,15,16,17,18] (hS 19 (oY rfl rfl rfl rfl (X2 rfl) (dT hq9) (rCa (Un (Yh m.X0) 16 ((m.Xd.length:Nat):Int) 0 ((m.Xd.length:Nat):Int) ) Tryz.func200 [] [(.tmp 76,(Z76 m)),(.const (.int .i64 16),vI 16),(.tmp 79,(Z7d m)),(.const (.int .i64 0),vI 0),(.tmp 82,(Z7d m))] 0 0))::(hP 20 (dT hq9)::(Xl (hN · true (dF hq10)) [22,23,24,25,26] (hU 27::(hU 28::(hU 29::(hU 30::(hN 31 true (dF hq10)::(hP 32 (dF hq10)::[]))))))))))))) ?_
  refine sR (Xl hN1 [2,3,4,5] (hU 6::(hU 7::(hU 8::(hU 9::(hN1 10::(hP0 11::[]))))))) (sR (Xl hN1 [2,3,4,5] (hU 6::(hU 7::(hU 8::(hU 9::(hN1 10::(hP0 11::(Xl hN1 [13,14,15,16] (hP0 17::[]))))))))) (T.seq (sR [] (cT (b:=(!false)) rfl (sR [] (T.ret (rT ?_)))))))
  exact eRt 2 (Z7g) [] (cI (by exact if_neg (fun h9=>by exact absurd h9.2.2.2.2.2.2.2.2.2.1 ‹_›))) trivial
 by_cases hq11:(I8 (Yh m.X0).Vp 32)≠0
 ·refine sR (Xl (hY · (dT hq8)) [2,3,4,5,6,7,8] (hS 9 (oY rfl rfl rfl rfl (X2 rfl) (dT hq8) (rCa (Un (Yh m.X0) 8 ((m.Xe.length:Nat):Int) 0 ((m.Xe.length:Nat):Int) ) Tryz.func200 [] [(.tmp 66,(Z76 m)),(.const (.int .i64 8),vI 8),(.tmp 69,(Z7c m)),(.const (.int .i64 0),vI 0),(.tmp 72,(Z7c m))] 0 0))::(hP 10 (dT hq8)::(Xl (hY · (dT hq9)) [12,13,14,15,16,17,18] (hS 19 (oY rfl rfl rfl rfl (X2 rfl) (dT hq9) (rCa (Un (Yh m.X0) 16 ((m.Xd.length:Nat):Int) 0 ((m.Xd.length:Nat):Int) ) Tryz.func200 [] [(.tmp 76,(Z76 m)),(.const (.int .i64 16),vI 16),(.tmp 79,(Z7d m)),(.const (.int .i64 0),vI 0),(.tmp 82,(Z7d m))] 0 0))::(hP 20 (dT hq9)::(hY 22 (dT hq10)::(hY 23 (dT hq10)::(hS 24 (oY rfl rfl rfl rfl (X2 rfl) (dT hq10) (Yb (u1:=.int .i64 (Yh m.X0).Vp) (u2:=.int .i64 32) (v:=.int .i64 (I8 (Yh m.X0).Vp 32)) (Xdr rfl) (X2 rfl) ⟨rfl,trivial⟩))::(hY 25 (dT hq10)::(hY 26 (dT hq10)::(Xl (hN · false (dT hq11)) [27,28,29,30] (hS 31 (oY rfl rfl rfl rfl (X2 rfl) (dT hq10) (Wc (b:=(decide ((I8 (Yh m.X0).Vp 32)≠0))) (av:=vB true) (X2 rfl) ⟨rfl,trivial⟩ (dT hq11)))::(hP 32 (dT hq10)::[])))))))))))))) ?_
  by_cases hq12:m.X0≠1
  ·refine sR (Xl hY1 [2,3,4,5] (Xl (hN · false (dT hq12)) [6,7,8,9] (hS 10 (oY (b:=true) rfl rfl rfl rfl (X2 rfl) rfl (Wc (b:=(decide (m.X0≠1))) (av:=vB true) (X2 rfl) ⟨rfl,trivial⟩ (dT hq12)))::(hP1 11::[])))) ?_
   by_cases hq13:m.X0≠10
   ·refine sR (Xl hY1 [2,3,4,5] (Xl (hN · false (dT hq13)) [6,7,8,9] (hS 10 (oY (b:=true) rfl rfl rfl rfl (X2 rfl) rfl (Wc (b:=(decide (m.X0≠10))) (av:=vB true) (X2 rfl) ⟨rfl,trivial⟩ (dT hq13)))::(hP1 11::(hY1 13::(hY1 14::(hS 15 (oY (b:=true) rfl rfl rfl rfl (X2 rfl) rfl (rCa (Fc tm false tm m.X5 ‹_›) Tryz.func201 [] [(.tmp 123,(Z7e tm m)),(.func 202,Z7f)] 0 0))::(hY1 16::(hP1 17::[]))))))))) (T.seq (sR [] ?_))
    by_cases hq14:¬X29 m.X5
    ·refine cT (cn (cn (dT hq14))) (sR [] (T.ret (rT ?_)))
     exact eRt 2 (Z7g) [] pZ16 trivial
    refine cF (cn (cn (dF hq14))) (T.skip (nT (sR [] (T.ret ?_))))
    exact eRt 2 (Z7h) [] (cI (by exact if_pos ⟨‹_›,‹_›,‹_›,‹_›,‹_›,‹_›,‹_›,‹_›,‹_›,‹_›,p2g,p2g,p2g,p1w⟩)) trivial
   by_cases hq15:((m.X5.length:Nat):Int)=1
   ·refine sR (Xl hY1 [2,3,4,5] (Xl (hY · (dF hq13)) [6,7,8,9] (hS 10 (oY (b:=true) rfl rfl rfl rfl (X2 rfl) rfl (Wv (b:=(decide (m.X0≠10))) (av:=(Z7i m)) (X2 rfl) trivial (dF hq13)))::(hP1 11::(hY 13 (dT hq15)::(hY 14 (dT hq15)::(hS 15 (oY rfl rfl rfl rfl (X2 rfl) (dT hq15) (rCa (Fc tm false tm m.X5 ‹_›) Tryz.func201 [] [(.tmp 123,(Z7e tm m)),(.func 202,Z7f)] 0 0))::(hY 16 (dT hq15)::(hP 17 (dT hq15)::[]))))))))) (T.seq (sR [] ?_))
    by_cases hq16:¬X29 m.X5
    ·refine cT (cn (cn (dT hq16))) (sR [] (T.ret (rT ?_)))
     exact eRt 2 (Z7g) [] pZ16 trivial
    refine cF (cn (cn (dF hq16))) (T.skip (nT (sR [] (T.ret ?_))))
    exact eRt 2 (Z7h) [] (cI (by exact if_pos ⟨‹_›,‹_›,‹_›,‹_›,‹_›,‹_›,‹_›,‹_›,‹_›,‹_›,p2g,p2g,p2f,p1w⟩)) trivial
   refine sR (Xl hY1 [2,3,4,5] (Xl (hY · (dF hq13)) [6,7,8,9] (hS 10 (oY (b:=true) rfl rfl rfl rfl (X2 rfl) rfl (Wv (b:=(decide (m.X0≠10))) (av:=(Z7i m)) (X2 rfl) trivial (dF hq13)))::(hP1 11::(Xl (hN · true (dF hq15)) [13,14,15,16] (hP 17 (dF hq15)::[])))))) (T.seq (sR [] (cT (b:=(!false)) rfl (sR [] (T.ret (rT ?_))))))
   exact eRt 2 (Z7g) [] p1p trivial
  refine sR (Xl hY1 [2,3,4,5] (Xl (hY · (dF hq12)) [6,7,8,9] (hS 10 (oY (b:=true) rfl rfl rfl rfl (X2 rfl) rfl (Wv (b:=(decide (m.X0≠1))) (av:=vB (decide (((m.Xd.length:Nat):Int)≤4096))) (X2 rfl) trivial (dF hq12)))::(hP1 11::[])))) ?_
  by_cases hq17:((m.Xd.length:Nat):Int)≤4096
  rotate_left
  ·refine sR (Xl (hN · true (dF hq17)) [2,3,4,5] (hU 6::(hU 7::(hU 8::(hU 9::(hN 10 true (dF hq17)::(hP 11 (dF hq17)::(Xl hN1 [13,14,15,16] (hP0 17::[]))))))))) (T.seq (sR [] (cT (b:=(!false)) rfl (sR [] (T.ret (rT ?_))))))
   exact eRt 2 (Z7g) [] p3z trivial
  by_cases hq18:m.X0≠10
  ·refine sR (Xl (hY · (dT hq17)) [2,3,4,5] (Xl (hN · false (dT hq18)) [6,7,8,9] (hS 10 (oY rfl rfl rfl rfl (X2 rfl) (dT hq17) (Wc (b:=(decide (m.X0≠10))) (av:=vB true) (X2 rfl) ⟨rfl,trivial⟩ (dT hq18)))::(hP 11 (dT hq17)::(hY1 13::(hY1 14::(hS 15 (oY (b:=true) rfl rfl rfl rfl (X2 rfl) rfl (rCa (Fc tm false tm m.X5 ‹_›) Tryz.func201 [] [(.tmp 123,(Z7e tm m)),(.func 202,Z7f)] 0 0))::(hY1 16::(hP1 17::[]))))))))) (T.seq (sR [] ?_))
   by_cases hq19:¬X29 m.X5
   ·refine cT (cn (cn (dT hq19))) (sR [] (T.ret (rT ?_)))
    exact eRt 2 (Z7g) [] pZ16 trivial
   refine cF (cn (cn (dF hq19))) (T.skip (nT (sR [] (T.ret ?_))))
   exact eRt 2 (Z7h) [] (cI (by exact if_pos ⟨‹_›,‹_›,‹_›,‹_›,‹_›,‹_›,‹_›,‹_›,‹_›,‹_›,p2g,p2f,p2g,p1w⟩)) trivial
  by_cases hq20:((m.X5.length:Nat):Int)=1
  ·refine sR (Xl (hY · (dT hq17)) [2,3,4,5] (Xl (hY · (dF hq18)) [6,7,8,9] (hS 10 (oY rfl rfl rfl rfl (X2 rfl) (dT hq17) (Wv (b:=(decide (m.X0≠10))) (av:=(Z7i m)) (X2 rfl) trivial (dF hq18)))::(hP 11 (dT hq17)::(hY 13 (dT hq20)::(hY 14 (dT hq20)::(hS 15 (oY rfl rfl rfl rfl (X2 rfl) (dT hq20) (rCa (Fc tm false tm m.X5 ‹_›) Tryz.func201 [] [(.tmp 123,(Z7e tm m)),(.func 202,Z7f)] 0 0))::(hY 16 (dT hq20)::(hP 17 (dT hq20)::[]))))))))) (T.seq (sR [] ?_))
   by_cases hq21:¬X29 m.X5
   ·refine cT (cn (cn (dT hq21))) (sR [] (T.ret (rT ?_)))
    exact eRt 2 (Z7g) [] pZ16 trivial
   refine cF (cn (cn (dF hq21))) (T.skip (nT (sR [] (T.ret ?_))))
   exact eRt 2 (Z7h) [] (cI (by exact if_pos ⟨‹_›,‹_›,‹_›,‹_›,‹_›,‹_›,‹_›,‹_›,‹_›,‹_›,p2g,p2f,p2f,p1w⟩)) trivial
  refine sR (Xl (hY · (dT hq17)) [2,3,4,5] (Xl (hY · (dF hq18)) [6,7,8,9] (hS 10 (oY rfl rfl rfl rfl (X2 rfl) (dT hq17) (Wv (b:=(decide (m.X0≠10))) (av:=(Z7i m)) (X2 rfl) trivial (dF hq18)))::(hP 11 (dT hq17)::(Xl (hN · true (dF hq20)) [13,14,15,16] (hP 17 (dF hq20)::[])))))) (T.seq (sR [] (cT (b:=(!false)) rfl (sR [] (T.ret (rT ?_))))))
  exact eRt 2 (Z7g) [] p1p trivial
 refine sR (Xl (hY · (dT hq8)) [2,3,4,5,6,7,8] (hS 9 (oY rfl rfl rfl rfl (X2 rfl) (dT hq8) (rCa (Un (Yh m.X0) 8 ((m.Xe.length:Nat):Int) 0 ((m.Xe.length:Nat):Int) ) Tryz.func200 [] [(.tmp 66,(Z76 m)),(.const (.int .i64 8),vI 8),(.tmp 69,(Z7c m)),(.const (.int .i64 0),vI 0),(.tmp 72,(Z7c m))] 0 0))::(hP 10 (dT hq8)::(Xl (hY · (dT hq9)) [12,13,14,15,16,17,18] (hS 19 (oY rfl rfl rfl rfl (X2 rfl) (dT hq9) (rCa (Un (Yh m.X0) 16 ((m.Xd.length:Nat):Int) 0 ((m.Xd.length:Nat):Int) ) Tryz.func200 [] [(.tmp 76,(Z76 m)),(.const (.int .i64 16),vI 16),(.tmp 79,(Z7d m)),(.const (.int .i64 0),vI 0),(.tmp 82,(Z7d m))] 0 0))::(hP 20 (dT hq9)::(hY 22 (dT hq10)::(hY 23 (dT hq10)::(hS 24 (oY rfl rfl rfl rfl (X2 rfl) (dT hq10) (Yb (u1:=.int .i64 (Yh m.X0).Vp) (u2:=.int .i64 32) (v:=.int .i64 (I8 (Yh m.X0).Vp 32)) (Xdr rfl) (X2 rfl) ⟨rfl,trivial⟩))::(hY 25 (dT hq10)::(hY 26 (dT hq10)::(Xl (hY · (dF hq11)) [27,28,29] (hS 30 (oY rfl rfl rfl rfl (X2 rfl) (dF hq11) (r_eqSt (ax:=.tv (.agg [dI m.X3.Y0,dI m.X3.Xq])) (ay:=.tv (.agg [dI 0,dI 0])) (a:=m.X3) (b:=(Xw.mk 0 0)) I7 ⟨[.int .i64 m.X3.Y0,.int .i64 m.X3.Xq],rfl,rfl⟩ ⟨[.int .i64 0,.int .i64 0],rfl,rfl⟩ (X2 rfl) p1h))::(hS 31 (oY rfl rfl rfl rfl (X2 rfl) (dT hq10) (Wv (b:=(decide ((I8 (Yh m.X0).Vp 32)≠0))) (av:=vB (decide (m.X3=(Xw.mk 0 0)))) (X2 rfl) trivial (dF hq11)))::(hP 32 (dT hq10)::[]))))))))))))))) ?_
 by_cases hq22:m.X3=(Xw.mk 0 0)
 rotate_left
 ·refine sR (Xl (hN · true (dF hq22)) [2,3,4,5] (hU 6::(hU 7::(hU 8::(hU 9::(hN 10 true (dF hq22)::(hP 11 (dF hq22)::[]))))))) (sR (Xl hN1 [2,3,4,5] (hU 6::(hU 7::(hU 8::(hU 9::(hN1 10::(hP0 11::(Xl hN1 [13,14,15,16] (hP0 17::[]))))))))) (T.seq (sR [] (cT (b:=(!false)) rfl (sR [] (T.ret (rT ?_)))))))
  exact eRt 2 (Z7g) [] (cI (by exact if_neg (fun h9=>by (rcases h9.2.2.2.2.2.2.2.2.2.2.1 with h8|h8<;>exact absurd h8 ‹_›)))) trivial
 by_cases hq23:m.X0≠1
 ·refine sR (Xl (hY · (dT hq22)) [2,3,4,5] (Xl (hN · false (dT hq23)) [6,7,8,9] (hS 10 (oY rfl rfl rfl rfl (X2 rfl) (dT hq22) (Wc (b:=(decide (m.X0≠1))) (av:=vB true) (X2 rfl) ⟨rfl,trivial⟩ (dT hq23)))::(hP 11 (dT hq22)::[])))) ?_
  by_cases hq24:m.X0≠10
  ·refine sR (Xl hY1 [2,3,4,5] (Xl (hN · false (dT hq24)) [6,7,8,9] (hS 10 (oY (b:=true) rfl rfl rfl rfl (X2 rfl) rfl (Wc (b:=(decide (m.X0≠10))) (av:=vB true) (X2 rfl) ⟨rfl,trivial⟩ (dT hq24)))::(hP1 11::(hY1 13::(hY1 14::(hS 15 (oY (b:=true) rfl rfl rfl rfl (X2 rfl) rfl (rCa (Fc tm false tm m.X5 ‹_›) Tryz.func201 [] [(.tmp 123,(Z7e tm m)),(.func 202,Z7f)] 0 0))::(hY1 16::(hP1 17::[]))))))))) (T.seq (sR [] ?_))
   by_cases hq25:¬X29 m.X5
   ·refine cT (cn (cn (dT hq25))) (sR [] (T.ret (rT ?_)))
    exact eRt 2 (Z7g) [] pZ16 trivial
   refine cF (cn (cn (dF hq25))) (T.skip (nT (sR [] (T.ret ?_))))
   exact eRt 2 (Z7h) [] (cI (by exact if_pos ⟨‹_›,‹_›,‹_›,‹_›,‹_›,‹_›,‹_›,‹_›,‹_›,‹_›,p2f,p2g,p2g,p1w⟩)) trivial
  by_cases hq26:((m.X5.length:Nat):Int)=1
  ·refine sR (Xl hY1 [2,3,4,5] (Xl (hY · (dF hq24)) [6,7,8,9] (hS 10 (oY (b:=true) rfl rfl rfl rfl (X2 rfl) rfl (Wv (b:=(decide (m.X0≠10))) (av:=(Z7i m)) (X2 rfl) trivial (dF hq24)))::(hP1 11::(hY 13 (dT hq26)::(hY 14 (dT hq26)::(hS 15 (oY rfl rfl rfl rfl (X2 rfl) (dT hq26) (rCa (Fc tm false tm m.X5 ‹_›) Tryz.func201 [] [(.tmp 123,(Z7e tm m)),(.func 202,Z7f)] 0 0))::(hY 16 (dT hq26)::(hP 17 (dT hq26)::[]))))))))) (T.seq (sR [] ?_))
   by_cases hq27:¬X29 m.X5
   ·refine cT (cn (cn (dT hq27))) (sR [] (T.ret (rT ?_)))
    exact eRt 2 (Z7g) [] pZ16 trivial
   refine cF (cn (cn (dF hq27))) (T.skip (nT (sR [] (T.ret ?_))))
   exact eRt 2 (Z7h) [] (cI (by exact if_pos ⟨‹_›,‹_›,‹_›,‹_›,‹_›,‹_›,‹_›,‹_›,‹_›,‹_›,p2f,p2g,p2f,p1w⟩)) trivial
  refine sR (Xl hY1 [2,3,4,5] (Xl (hY · (dF hq24)) [6,7,8,9] (hS 10 (oY (b:=true) rfl rfl rfl rfl (X2 rfl) rfl (Wv (b:=(decide (m.X0≠10))) (av:=(Z7i m)) (X2 rfl) trivial (dF hq24)))::(hP1 11::(Xl (hN · true (dF hq26)) [13,14,15,16] (hP 17 (dF hq26)::[])))))) (T.seq (sR [] (cT (b:=(!false)) rfl (sR [] (T.ret (rT ?_))))))
  exact eRt 2 (Z7g) [] p1p trivial
 refine sR (Xl (hY · (dT hq22)) [2,3,4,5] (Xl (hY · (dF hq23)) [6,7,8,9] (hS 10 (oY rfl rfl rfl rfl (X2 rfl) (dT hq22) (Wv (b:=(decide (m.X0≠1))) (av:=vB (decide (((m.Xd.length:Nat):Int)≤4096))) (X2 rfl) trivial (dF hq23)))::(hP 11 (dT hq22)::[])))) ?_
 by_cases hq28:((m.Xd.length:Nat):Int)≤4096
 rotate_left
 ·refine sR (Xl (hN · true (dF hq28)) [2,3,4,5] (hU 6::(hU 7::(hU 8::(hU 9::(hN 10 true (dF hq28)::(hP 11 (dF hq28)::(Xl hN1 [13,14,15,16] (hP0 17::[]))))))))) (T.seq (sR [] (cT (b:=(!false)) rfl (sR [] (T.ret (rT ?_))))))
  exact eRt 2 (Z7g) [] p3z trivial
 by_cases hq29:m.X0≠10
 ·refine sR (Xl (hY · (dT hq28)) [2,3,4,5] (Xl (hN · false (dT hq29)) [6,7,8,9] (hS 10 (oY rfl rfl rfl rfl (X2 rfl) (dT hq28) (Wc (b:=(decide (m.X0≠10))) (av:=vB true) (X2 rfl) ⟨rfl,trivial⟩ (dT hq29)))::(hP 11 (dT hq28)::(hY1 13::(hY1 14::(hS 15 (oY (b:=true) rfl rfl rfl rfl (X2 rfl) rfl (rCa (Fc tm false tm m.X5 ‹_›) Tryz.func201 [] [(.tmp 123,(Z7e tm m)),(.func 202,Z7f)] 0 0))::(hY1 16::(hP1 17::[]))))))))) (T.seq (sR [] ?_))
  by_cases hq30:¬X29 m.X5
  ·refine cT (cn (cn (dT hq30))) (sR [] (T.ret (rT ?_)))
   exact eRt 2 (Z7g) [] pZ16 trivial
  refine cF (cn (cn (dF hq30))) (T.skip (nT (sR [] (T.ret ?_))))
  exact eRt 2 (Z7h) [] (cI (by exact if_pos ⟨‹_›,‹_›,‹_›,‹_›,‹_›,‹_›,‹_›,‹_›,‹_›,‹_›,p2f,p2f,p2g,p1w⟩)) trivial
 by_cases hq31:((m.X5.length:Nat):Int)=1
 ·refine sR (Xl (hY · (dT hq28)) [2,3,4,5] (Xl (hY · (dF hq29)) [6,7,8,9] (hS 10 (oY rfl rfl rfl rfl (X2 rfl) (dT hq28) (Wv (b:=(decide (m.X0≠10))) (av:=(Z7i m)) (X2 rfl) trivial (dF hq29)))::(hP 11 (dT hq28)::(hY 13 (dT hq31)::(hY 14 (dT hq31)::(hS 15 (oY rfl rfl rfl rfl (X2 rfl) (dT hq31) (rCa (Fc tm false tm m.X5 ‹_›) Tryz.func201 [] [(.tmp 123,(Z7e tm m)),(.func 202,Z7f)] 0 0))::(hY 16 (dT hq31)::(hP 17 (dT hq31)::[]))))))))) (T.seq (sR [] ?_))
  by_cases hq32:¬X29 m.X5
  ·refine cT (cn (cn (dT hq32))) (sR [] (T.ret (rT ?_)))
   exact eRt 2 (Z7g) [] pZ16 trivial
  refine cF (cn (cn (dF hq32))) (T.skip (nT (sR [] (T.ret ?_))))
  exact eRt 2 (Z7h) [] (cI (by exact if_pos ⟨‹_›,‹_›,‹_›,‹_›,‹_›,‹_›,‹_›,‹_›,‹_›,‹_›,p2f,p2f,p2f,p1w⟩)) trivial
 refine sR (Xl (hY · (dT hq28)) [2,3,4,5] (Xl (hY · (dF hq29)) [6,7,8,9] (hS 10 (oY rfl rfl rfl rfl (X2 rfl) (dT hq28) (Wv (b:=(decide (m.X0≠10))) (av:=(Z7i m)) (X2 rfl) trivial (dF hq29)))::(hP 11 (dT hq28)::(Xl (hN · true (dF hq31)) [13,14,15,16] (hP 17 (dF hq31)::[])))))) (T.seq (sR [] (cT (b:=(!false)) rfl (sR [] (T.ret (rT ?_))))))
 exact eRt 2 (Z7g) [] p1p trivial
end Go.Proofs.YtnaopgohccacmaaGreat.Q
