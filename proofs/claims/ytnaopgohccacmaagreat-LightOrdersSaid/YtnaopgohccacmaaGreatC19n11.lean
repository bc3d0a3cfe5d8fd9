import Derived.Test.YtnaopgohccacmaaGreatC19n7
namespace Go.Proofs.YtnaopgohccacmaaGreat.Q
open Go Go.RowKit
set_option linter.unusedVariables false
set_option linter.unusedSimpArgs false
set_option maxRecDepth 100000
set_option maxHeartbeats 4000000
section
variable (t:UInt8) (tl:Bool) (nl:Bool) (sl_:Bool) (l:List (List UInt8)) (k:Nat) (k2:Nat)
abbrev Z2e:AV:=dv (.int .u8 ((t.toNat:Nat):Int))
abbrev Z2f:AV:=slV tl nl (kSl sl_ kU8) l
abbrev Z2g:AV:=vI ((l.length:Nat):Int)
abbrev Z2h:St:=⟨[(Z2e t),(Z2f tl nl sl_ l),aa,aa,dv (Ys []),vI ((szP (l.take k):Nat):Int),aa,aa,aa,aa,aa,(Z2f tl nl sl_ l),(Z2g l),vI ((k:Nat):Int)],[]⟩
abbrev Z2j:AV:=vI ((k+1:Nat):Int)
abbrev Z2l:St:=⟨[(Z2e t),(Z2f tl nl sl_ l),aa,aa,aa,aa,aa,aa,Y7 0 kU8 0 (ofR t l.length (l.take k2)).length,aa,aa,(Z2f tl nl sl_ l),(Z2g l),aa,aa,aa,aa,aa,aa,aa,aa,aa,aa,aa,aa,aa,aa,aa,aa,aa,aa,aa,(Z2f tl nl sl_ l),(Z2g l),vI ((k2:Nat):Int)],[.live (Xf 5 kU8 (ofR t l.length (l.take k2)))]⟩
abbrev Z2m:AV:=vI ((k2+1:Nat):Int)
end
theorem X2o (t:UInt8) (tl:Bool) (nl:Bool) (sl_:Bool) (l:List (List UInt8)) (hs:szP l≤140737488354000):Holds Tryz.prog 84 ⟨[dv (.int .u8 ((t.toNat:Nat):Int)),slV tl nl (kSl sl_ kU8) l],[],dv (Ys (ofB t l)),[]⟩:=by
 refine Holds.of Tryz.func84 rfl (N:=44) Tryz.ntmps84 rfl fun w0 B0 S0 U0=>?_
 show T _ (Y5 44 0 w0 S0 U0 B0) ⟨[(Z2e t),(Z2f tl nl sl_ l)],[]⟩ _ _
 have hcn:=Xb0 l
 have hcl:=Ii ((l.length:Nat):Int)
 have hall:=X0q t l
 refine sR [] (sR [] (T.seq (sR [] (T.block ?_))))
 refine T.loop (ι:=Nat) (fun (k:Nat)=>(Z2h t tl nl sl_ l k)) (fun (k:Nat)=>(k≤l.length)) (fun (k:Nat)=>l.length-k) (0) (Nat.zero_le _) (fun _ _ hG=>Yp [] (bm 14 14387) (t2:=[(Z2e t),(Z2f tl nl sl_ l),aa,aa,dv (Ys []),vI 5,aa,aa,aa,aa,aa,(Z2f tl nl sl_ l),(Z2g l),vI 0]) (congrArg (fun (q1:Int)=>([(Z2e t),(Z2f tl nl sl_ l),aa,aa,dv (Ys []),vI q1,aa,aa,aa,aa,aa,(Z2f tl nl sl_ l),(Z2g l),vI 0]:List AV)) (by rfl)) rfl hG) ?_
 rintro k hk
 show T _ _ (Z2h t tl nl sl_ l k) _ _
 replace hk:k≤l.length:=hk
 have hsz0:=Ex l k
 refine sR [] (T.seq ?_)
 by_cases hq1:((k:Nat):Int)<((l.length:Nat):Int)
 ·have hkl:k<l.length:=(by omega);have hsk:=X4a hkl;have hst:=Ex l (k+1)
  refine cT (dT hq1) (T.skip (nT (T.seq (T.block (sR [hR 0 rfl rfl (W9 tl nl (kSl sl_ kU8) l k (k:=.i64) (i:=((k:Nat):Int)) Tryz.underlying136 U9 rfl rfl ‹_› (X3 rfl) trivial)] ?_)))))
  refine xR [hR 3 rfl rfl (Yg (u1:=.int .i64 4) (u2:=.int .i64 (((l.getD k []).length:Nat):Int)) (v:=.int .i64 ((4+(l.getD k []).length:Nat):Int)) (W8 pb) (X3 rfl) ⟨rfl,trivial⟩),hR 4 rfl rfl (Yg (u1:=.int .i64 ((szP (l.take k):Nat):Int)) (u2:=.int .i64 ((4+(l.getD k []).length:Nat):Int)) (v:=.int .i64 (((szP (l.take k))+(4+(l.getD k []).length):Nat):Int)) (W8 pb) (X3 rfl) trivial)] pZ8 pZ8 (nB (nT (xK [hR 0 rfl rfl (Yg (u1:=.int .i64 ((k:Nat):Int)) (u2:=.int .i64 1) (v:=.int .i64 ((k+1:Nat):Int)) (W8 pb) (X3 rfl) ⟨rfl,trivial⟩)] ?_)))
  refine nL (k+1) (show (k+1)≤l.length from (by omega)) (show (l.length-(k+1):Nat)<l.length-k from (by omega)) (fun _ _ hG=>Yp [] (bm 14 14387) (t2:=[(Z2e t),(Z2f tl nl sl_ l),aa,aa,dv (Ys []),vI (((szP (l.take k))+(4+(l.getD k []).length):Nat):Int),aa,aa,aa,aa,aa,(Z2f tl nl sl_ l),(Z2g l),(Z2j k)]) (by have e1:(((szP (l.take (k+1)):Nat):Int):Int)=(((szP (l.take k))+(4+(l.getD k []).length):Nat):Int):=(by (rw [X4a hkl]));have hE:=congrArg (fun (q1:Int)=>([(Z2e t),(Z2f tl nl sl_ l),aa,aa,dv (Ys []),vI q1,aa,aa,aa,aa,aa,(Z2f tl nl sl_ l),(Z2g l),(Z2j k)]:List AV)) e1;exact hE) rfl hG)
 refine cF (dF hq1) (T.exit (xT (xT (xH (nT ?_)))))
 refine sR [hR 1 rfl rfl (q_make 0 5 1 kU8 ([]:List UInt8) 0 (szP (l.take k)) (p:=0) (q:=((szP (l.take k):Nat):Int)) J8 Im rfl rfl (by omega) (by omega) (by (unfold maxLen;omega)) (by intro j hj;replace hj:j<1:=hj;rcases j with _|j<;>first|rfl|omega) (by simp) (X3 rfl) ⟨rfl,trivial⟩),hR 3 rfl rfl (Ye 1 5 kU8 Vs [t] [⟨0,.tmp 25,.one (.d (.val (.int .u8 ((t.toNat:Nat):Int)))),0⟩] (cs:=[.d (.val (.int .u8 ((t.toNat:Nat):Int)))]) Tryz.underlying25 J1 rfl Im rfl rfl rfl pd (Yq rfl rfl pd W5) pZ8 (V6 pZ8) (X3 rfl) trivial),hR 4 rfl rfl (W0 0 2 5 1 kU8 Vs ([]:List UInt8) [t] [t] ([]:List UInt8).length (sy:=(.own 1 kU8.sz 0 [t].length)) (rhs:=[(1,.live (Xf 5 kU8 [t]))]) J8 (by omega) (V0 1 5 kU8 [t]) (by simp) (by (simp [maxLen,-List.getD_eq_getElem?_getD]<;>omega)) (by (simp [maxLen,-List.getD_eq_getElem?_getD]<;>omega)) (X3 rfl) trivial)] ?_
 refine sR [hR 3 rfl rfl (Wx (X3b true false [t] ((l.length:Nat):Int) (by (simp [maxLen,-List.getD_eq_getElem?_getD]<;>omega))) Tryz.func131 rfl (by decide) [3] [2] (l:=[(.tmp 28,Y7 2 kU8 0 [t].length),(.tmp 30,(Z2g l))]) [(2,.live (Xf 5 kU8 [t]))] rfl 0 1 rfl rfl rfl rfl rfl rfl rfl rfl rfl ⟨.inr (.inl ⟨rfl,pZs,rfl,rfl,by simp,5,[t].length,W6 kU8 [t],List.Mem.head _,pk,fun i j=>by rw [Nat.zero_add]⟩),⟨.inl ⟨rfl,rfl⟩,trivial⟩⟩ rfl pZ6 pj (X3 rfl) trivial)] ?_
 refine T.seq (sR [] (T.block ?_))
 refine T.loop (ι:=Nat) (fun (k2:Nat)=>(Z2l t tl nl sl_ l k2)) (fun (k2:Nat)=>(k2≤l.length)) (fun (k2:Nat)=>l.length-k2) (0) (Nat.zero_le _) (fun _ _ hG=>Wi [3] (bm 35 30064777475) (t1:=[(Z2e t),(Z2f tl nl sl_ l),aa,aa,aa,aa,aa,aa,Y7 3 kU8 0 (ofR t l.length (l.take 0)).length,aa,aa,(Z2f tl nl sl_ l),(Z2g l),aa,aa,aa,aa,aa,aa,aa,aa,aa,aa,aa,aa,aa,aa,aa,aa,aa,aa,aa,(Z2f tl nl sl_ l),(Z2g l),vI 0]) (t2:=[(Z2e t),(Z2f tl nl sl_ l),aa,aa,aa,aa,aa,aa,Y7 3 kU8 0 ([t]++U6 ((l.length:Nat):Int)).length,aa,aa,(Z2f tl nl sl_ l),(Z2g l),aa,aa,aa,aa,aa,aa,aa,aa,aa,aa,aa,aa,aa,aa,aa,aa,aa,aa,aa,(Z2f tl nl sl_ l),(Z2g l),vI 0]) (h1:=[.live (Xf 5 kU8 (ofR t l.length (l.take 0)))]) (h2:=[.live (Xf 5 kU8 ([t]++U6 ((l.length:Nat):Int)))]) (congrArg (fun (q1:Nat)=>([(Z2e t),(Z2f tl nl sl_ l),aa,aa,aa,aa,aa,aa,Y7 3 kU8 0 q1,aa,aa,(Z2f tl nl sl_ l),(Z2g l),aa,aa,aa,aa,aa,aa,aa,aa,aa,aa,aa,aa,aa,aa,aa,aa,aa,aa,aa,(Z2f tl nl sl_ l),(Z2g l),vI 0]:List AV)) (by rfl)) pZ20 hG) ?_
 rintro k2 hk2
 show T _ _ (Z2l t tl nl sl_ l k2) _ _
 replace hk2:k2≤l.length:=hk2
 have hol:=Xcp t l.length (l.take k2)
 have hsz0:=Ex l k2
 refine sR [] (T.seq ?_)
 by_cases hq2:((k2:Nat):Int)<((l.length:Nat):Int)
 ·have hkl:k2<l.length:=(by omega);have hsk:=X4a hkl;have hst:=Ex l (k2+1)
  refine cT (dT hq2) (T.skip (nT (T.seq (T.block (sR [hR 0 rfl rfl (W9 tl nl (kSl sl_ kU8) l k2 (k:=.i64) (i:=((k2:Nat):Int)) Tryz.underlying136 U9 rfl rfl ‹_› (X3 rfl) trivial)] ?_)))))
  refine xK [hR 2 rfl rfl (Wx (Ei true false (ofR t l.length (l.take k2)) sl_ false (l.getD k2 []) (by omega)) Tryz.func132 rfl (by decide) [1] [0] (l:=[(.tmp 38,Y7 0 kU8 0 (ofR t l.length (l.take k2)).length),(.tmp 39,slV sl_ false kU8 (l.getD k2 []))]) [(0,.live (Xf 5 kU8 (ofR t l.length (l.take k2))))] rfl 0 1 rfl rfl rfl rfl rfl rfl rfl rfl rfl ⟨.inr (.inl ⟨rfl,pZs,rfl,rfl,by simp,5,(ofR t l.length (l.take k2)).length,W6 kU8 (ofR t l.length (l.take k2)),List.Mem.head _,pk,fun i j=>by rw [Nat.zero_add]⟩),⟨.inl ⟨rfl,rfl⟩,trivial⟩⟩ rfl pZ6 pj (X3 rfl) trivial)] (nB (nT ?_))
  refine xK [hR 0 rfl rfl (Yg (u1:=.int .i64 ((k2:Nat):Int)) (u2:=.int .i64 1) (v:=.int .i64 ((k2+1:Nat):Int)) (W8 pb) (X3 rfl) ⟨rfl,trivial⟩)] ?_
  refine nL (k2+1) (show (k2+1)≤l.length from (by omega)) (show (l.length-(k2+1):Nat)<l.length-k2 from (by omega)) (fun _ _ hG=>Wi [1] (bm 35 30064777475) (t1:=[(Z2e t),(Z2f tl nl sl_ l),aa,aa,aa,aa,aa,aa,Y7 1 kU8 0 (ofR t l.length (l.take (k2+1))).length,aa,aa,(Z2f tl nl sl_ l),(Z2g l),aa,aa,aa,aa,aa,aa,aa,aa,aa,aa,aa,aa,aa,aa,aa,aa,aa,aa,aa,(Z2f tl nl sl_ l),(Z2g l),(Z2m k2)]) (t2:=[(Z2e t),(Z2f tl nl sl_ l),aa,aa,aa,aa,aa,aa,Y7 1 kU8 0 ((ofR t l.length (l.take k2))++W2 (l.getD k2 [])).length,aa,aa,(Z2f tl nl sl_ l),(Z2g l),aa,aa,aa,aa,aa,aa,aa,aa,aa,aa,aa,aa,aa,aa,aa,aa,aa,aa,aa,(Z2f tl nl sl_ l),(Z2g l),(Z2m k2)]) (h1:=[.live (Xf 5 kU8 (ofR t l.length (l.take (k2+1))))]) (h2:=[.live (Xf 5 kU8 ((ofR t l.length (l.take k2))++W2 (l.getD k2 [])))]) (by have e1:((ofR t l.length (l.take (k2+1))).length:Nat)=((ofR t l.length (l.take k2))++W2 (l.getD k2 [])).length:=(by (rw [X4u hkl]));have hE:=congrArg (fun (q1:Nat)=>([(Z2e t),(Z2f tl nl sl_ l),aa,aa,aa,aa,aa,aa,Y7 1 kU8 0 q1,aa,aa,(Z2f tl nl sl_ l),(Z2g l),aa,aa,aa,aa,aa,aa,aa,aa,aa,aa,aa,aa,aa,aa,aa,aa,aa,aa,aa,(Z2f tl nl sl_ l),(Z2g l),(Z2m k2)]:List AV)) e1;exact hE) (by have e1:((ofR t l.length (l.take (k2+1))):List UInt8)=(ofR t l.length (l.take k2))++W2 (l.getD k2 []):=(by (rw [X4u hkl]));have hE:=congrArg (fun (q1:List UInt8)=>([.live (Xf 5 kU8 q1)]:List HS)) e1;exact hE) hG)
 refine cF (dF hq2) (T.exit (xT (xT (xH (nT (sR [hR 1 rfl rfl (Fg () (ofR t l.length (l.take k2)) (ys:=(.own 0 kU8.sz 0 (ofR t l.length (l.take k2)).length)) (rhs:=[(0,.live (Xf 5 kU8 (ofR t l.length (l.take k2))))]) Tryz.underlying25 Tryz.underlying5 Tryz.underlying60 (V0 0 5 kU8 (ofR t l.length (l.take k2))) (X3 rfl) trivial)] (T.ret ?_)))))))
 exact eRt 4 (.one (dS (ofR t l.length (l.take k2)))) [] (by have e1:((ofB t l):List UInt8)=(ofR t l.length (l.take k2)):=(by (have hke:k2=l.length:=(by omega);rw [hke,Xir]));have hE:=congrArg (fun (q1:List UInt8)=>(dv (Ys q1):AV)) e1;exact hE) trivial
theorem Hw:Zero Tryz.prog 25 [.slice none 0 0]:=⟨_,_,U9,rfl,rfl⟩
theorem X5o (t:UInt8) (tb:Bool) (nb:Bool) (b:List UInt8) (hb:b.length≤140737488350000):Holds Tryz.prog 118 ⟨[dv (.int .u8 ((t.toNat:Nat):Int)),slV tb nb kU8 b],[],dv (Ys (ofB t [b])),[]⟩:=by
 refine Holds.of Tryz.func118 rfl (N:=9) Tryz.ntmps118 rfl fun w0 B0 S0 U0=>?_
 show T _ (Y5 9 0 w0 S0 U0 B0) ⟨[dv (.int .u8 ((t.toNat:Nat):Int)),slV tb nb kU8 b],[]⟩ _ _
 have hs1:szP [b]=5+(4+b.length):=rfl
 refine sR [] ?_
 refine sR [hR 2 rfl rfl (Ye 0 25 (kSl tb kU8) (Et tb kU8) [b] [⟨0,.tmp 6,.one (.d (dsl tb nb kU8 b)),0⟩] (cs:=[.d (dsl tb nb kU8 b)]) Tryz.underlying136 U9 rfl Hw rfl rfl rfl pd (Yq rfl rfl pd W5) pZ8 ⟨pZ24,trivial⟩ (X3 rfl) trivial),hR 3 rfl rfl (Wx (X2o t true false tb [b] (by omega)) Tryz.func84 rfl (by decide) [] [0] (l:=[(.tmp 5,dv (.int .u8 ((t.toNat:Nat):Int))),(.tmp 7,Y7 0 (kSl false kU8) 0 [b].length)]) [(0,.live (Xf 25 (kSl tb kU8) [b]))] rfl 0 0 rfl rfl rfl rfl rfl rfl rfl rfl rfl ⟨.inl ⟨rfl,rfl⟩,⟨.inr (.inl ⟨rfl,pZs,rfl,rfl,by simp,25,[b].length,W6 (kSl tb kU8) [b],List.Mem.head _,pk,fun i j=>by rw [Nat.zero_add]⟩),trivial⟩⟩ rfl pZ6 p2a (X3 rfl) trivial)] ?_
 refine T.ret ?_
 exact eRt 4 (.one (dS (ofB t [b]))) [] rfl trivial
theorem X5n (t:UInt8) (a:List UInt8) (b:List UInt8) (hb:a.length+b.length≤140737488350000):Holds Tryz.prog 142 ⟨[dv (.int .u8 ((t.toNat:Nat):Int)),dv (Ys a),dv (Ys b)],[],dv (Ys (ofB t [a,b])),[]⟩:=by
 refine Holds.of Tryz.func142 rfl (N:=14) Tryz.ntmps142 rfl fun w0 B0 S0 U0=>?_
 show T _ (Y5 14 0 w0 S0 U0 B0) ⟨[dv (.int .u8 ((t.toNat:Nat):Int)),dv (Ys a),dv (Ys b)],[]⟩ _ _
 have hs1:szP [a,b]=5+(4+a.length)+(4+b.length):=rfl
 refine sR [] ?_
 refine sR [hR 2 rfl rfl (Ju (l:=a) Tryz.underlying60 Tryz.underlying25 Tryz.underlying5 (X3 rfl) trivial),hR 4 rfl rfl (Ju (l:=b) Tryz.underlying60 Tryz.underlying25 Tryz.underlying5 (X3 rfl) trivial),hR 5 rfl rfl (Ye 0 25 (kSl false kU8) (Et false kU8) [a,b] [⟨0,.tmp 9,.one (.d (dsl false true kU8 a)),0⟩,⟨1,.tmp 11,.one (.d (dsl false true kU8 b)),1⟩] (cs:=[.d (dsl false true kU8 a),.d (dsl false true kU8 b)]) Tryz.underlying136 U9 rfl Hw rfl rfl rfl pd (Yq rfl rfl pd (Yq rfl rfl pd W5)) pZ8 ⟨pZ24,⟨pZ24,trivial⟩⟩ (X3 rfl) trivial),hR 6 rfl rfl (Wx (X2o t true false false [a,b] (by omega)) Tryz.func84 rfl (by decide) [] [0] (l:=[(.tmp 7,dv (.int .u8 ((t.toNat:Nat):Int))),(.tmp 12,Y7 0 (kSl false kU8) 0 [a,b].length)]) [(0,.live (Xf 25 (kSl false kU8) [a,b]))] rfl 0 0 rfl rfl rfl rfl rfl rfl rfl rfl rfl ⟨.inl ⟨rfl,rfl⟩,⟨.inr (.inl ⟨rfl,pZs,rfl,rfl,by simp,25,[a,b].length,W6 (kSl false kU8) [a,b],List.Mem.head _,pk,fun i j=>by rw [Nat.zero_add]⟩),trivial⟩⟩ rfl pZ6 p2a (X3 rfl) trivial)] ?_
 refine T.ret ?_
 exact eRt 6 (.one (dS (ofB t [a,b]))) [] rfl trivial
abbrev Z2n (t:UInt8):AV:=dv (.int .u8 ((t.toNat:Nat):Int))
abbrev Z2o (t:UInt8) (l:List (List UInt8)) (k:Nat):=(ofR t l.length (l.take k))
abbrev Z2p (k:Nat):AV:=vI ((k+1:Nat):Int)
theorem X00 (t:UInt8) (tl:Bool) (nl:Bool) (sl_:Bool) (l:List (List UInt8)) (hs:szP l≤140737488354000):Holds Tryz.prog 71 ⟨[dv (.int .u8 ((t.toNat:Nat):Int)),slV tl nl (kSl sl_ kU8) l],[],dv (Ys (ofB t l)),[]⟩:=by
 refine Holds.of Tryz.func71 rfl (N:=26) Tryz.ntmps71 rfl fun w0 B0 S0 U0=>?_
 show T _ (Y5 26 0 w0 S0 U0 B0) ⟨[(Z2n t),slV tl nl (kSl sl_ kU8) l],[]⟩ _ _
 have hcn:=Xb0 l
 have hcl:=Ii ((l.length:Nat):Int)
 have hall:=X0q t l
 refine sR [] ?_
 refine sR [hR 1 rfl rfl (Ye 0 5 kU8 Vs [t] [⟨0,.tmp 7,.one (.d (.val (.int .u8 ((t.toNat:Nat):Int)))),0⟩] (cs:=[.d (.val (.int .u8 ((t.toNat:Nat):Int)))]) Tryz.underlying25 J1 rfl Im rfl rfl rfl pd (Yq rfl rfl pd W5) pZ8 (V6 pZ8) (X3 rfl) trivial),hR 4 rfl rfl (Wx (E8 true false [t] ((l.length:Nat):Int) (by (simp [maxLen,-List.getD_eq_getElem?_getD]<;>omega))) Tryz.func66 rfl (by decide) [1] [0] (l:=[(.tmp 8,Y7 0 kU8 0 [t].length),(.tmp 10,vI ((l.length:Nat):Int))]) [(0,.live (Xf 5 kU8 [t]))] rfl 0 1 rfl rfl rfl rfl rfl rfl rfl rfl rfl ⟨.inr (.inl ⟨rfl,pZs,rfl,rfl,by simp,5,[t].length,W6 kU8 [t],List.Mem.head _,pk,fun i j=>by rw [Nat.zero_add]⟩),⟨.inl ⟨rfl,rfl⟩,trivial⟩⟩ rfl pZ6 pj (X3 rfl) trivial)] ?_
 refine T.seq (sR [] (T.block ?_))
 refine T.loop (ι:=Nat) (fun (k:Nat)=>⟨[(Z2n t),slV tl nl (kSl sl_ kU8) l,aa,aa,aa,Y7 0 kU8 0 (Z2o t l k).length,vI ((k:Nat):Int)],[.live (Xf 5 kU8 (Z2o t l k))]⟩) (fun (k:Nat)=>(k≤l.length)) (fun (k:Nat)=>l.length-k) (0) (Nat.zero_le _) (fun _ _ hG=>Wi [1] (bm 7 99) (t1:=[(Z2n t),slV tl nl (kSl sl_ kU8) l,aa,aa,aa,Y7 1 kU8 0 (ofR t l.length (l.take 0)).length,vI 0]) (t2:=[(Z2n t),slV tl nl (kSl sl_ kU8) l,aa,aa,aa,Y7 1 kU8 0 ([t]++U6 ((l.length:Nat):Int)).length,vI 0]) (h1:=[.live (Xf 5 kU8 (ofR t l.length (l.take 0)))]) (h2:=[.live (Xf 5 kU8 ([t]++U6 ((l.length:Nat):Int)))]) (congrArg (fun (q1:Nat)=>([(Z2n t),slV tl nl (kSl sl_ kU8) l,aa,aa,aa,Y7 1 kU8 0 q1,vI 0]:List AV)) (by rfl)) pZ20 hG) ?_
 rintro k hk
 show T _ _ ⟨[(Z2n t),slV tl nl (kSl sl_ kU8) l,aa,aa,aa,Y7 0 kU8 0 (Z2o t l k).length,vI ((k:Nat):Int)],[.live (Xf 5 kU8 (Z2o t l k))]⟩ _ _
 replace hk:k≤l.length:=hk
 have hol:=Xcp t l.length (l.take k)
 have hsz0:=Ex l k
 refine T.seq (sR [] ?_)
 by_cases hq1:((k:Nat):Int)<((l.length:Nat):Int)
 ·have hkl:k<l.length:=(by omega);have hsk:=X4a hkl;have hst:=Ex l (k+1)
  refine cT (dT hq1) (T.skip (nT (T.seq (T.block ?_))))
  refine xR [hR 3 rfl rfl (W9 tl nl (kSl sl_ kU8) l k (k:=.i64) (i:=((k:Nat):Int)) Tryz.underlying136 U9 rfl rfl ‹_› (X3 rfl) trivial),hR 5 rfl rfl (Wx (I4 true false (ofR t l.length (l.take k)) sl_ false (l.getD k []) (by omega)) Tryz.func64 rfl (by decide) [1] [0] (l:=[(.tmp 18,Y7 0 kU8 0 (Z2o t l k).length),(.tmp 22,slV sl_ false kU8 (l.getD k []))]) [(0,.live (Xf 5 kU8 (Z2o t l k)))] rfl 0 1 rfl rfl rfl rfl rfl rfl rfl rfl rfl ⟨.inr (.inl ⟨rfl,pZs,rfl,rfl,by simp,5,(ofR t l.length (l.take k)).length,W6 kU8 (ofR t l.length (l.take k)),List.Mem.head _,pk,fun i j=>by rw [Nat.zero_add]⟩),⟨.inl ⟨rfl,rfl⟩,trivial⟩⟩ rfl pZ6 pj (X3 rfl) trivial)] pZ8 pZ8 ?_
  refine nB (nT (xK [hR 1 rfl rfl (Yg (u1:=.int .i64 ((k:Nat):Int)) (u2:=.int .i64 1) (v:=.int .i64 ((k+1:Nat):Int)) (W8 pb) (X3 rfl) ⟨rfl,trivial⟩)] ?_))
  refine nL (k+1) (show (k+1)≤l.length from (by omega)) (show (l.length-(k+1):Nat)<l.length-k from (by omega)) (fun _ _ hG=>Wi [1] (bm 7 99) (t1:=[(Z2n t),slV tl nl (kSl sl_ kU8) l,aa,aa,aa,Y7 1 kU8 0 (ofR t l.length (l.take (k+1))).length,(Z2p k)]) (t2:=[(Z2n t),slV tl nl (kSl sl_ kU8) l,aa,aa,aa,Y7 1 kU8 0 ((Z2o t l k)++W2 (l.getD k [])).length,(Z2p k)]) (h1:=[.live (Xf 5 kU8 (ofR t l.length (l.take (k+1))))]) (h2:=[.live (Xf 5 kU8 ((Z2o t l k)++W2 (l.getD k [])))]) (by have e1:((ofR t l.length (l.take (k+1))).length:Nat)=((ofR t l.length (l.take k))++W2 (l.getD k [])).length:=(by (rw [X4u hkl]));have hE:=congrArg (fun (q1:Nat)=>([(Z2n t),slV tl nl (kSl sl_ kU8) l,aa,aa,aa,Y7 1 kU8 0 q1,(Z2p k)]:List AV)) e1;exact hE) (by have e1:((ofR t l.length (l.take (k+1))):List UInt8)=(ofR t l.length (l.take k))++W2 (l.getD k []):=(by (rw [X4u hkl]));have hE:=congrArg (fun (q1:List UInt8)=>([.live (Xf 5 kU8 q1)]:List HS)) e1;exact hE) hG)
 refine cF (dF hq1) (T.exit (xT (xT (xH (nT (sR [hR 1 rfl rfl (Fg () (ofR t l.length (l.take k)) (ys:=(.own 0 kU8.sz 0 (Z2o t l k).length)) (rhs:=[(0,.live (Xf 5 kU8 (Z2o t l k)))]) Tryz.underlying25 Tryz.underlying5 Tryz.underlying60 (V0 0 5 kU8 (ofR t l.length (l.take k))) (X3 rfl) trivial)] (T.ret ?_)))))))
 exact eRt 4 (.one (dS (Z2o t l k))) [] (by have e1:((ofB t l):List UInt8)=(ofR t l.length (l.take k)):=(by (have hke:k=l.length:=(by omega);rw [hke,Xir]));have hE:=congrArg (fun (q1:List UInt8)=>(dv (Ys q1):AV)) e1;exact hE) trivial
theorem X8v (t:UInt8) (tb:Bool) (nb:Bool) (b:List UInt8) (hb:b.length≤140737488350000):Holds Tryz.prog 93 ⟨[dv (.int .u8 ((t.toNat:Nat):Int)),slV tb nb kU8 b],[],dv (Ys (ofB t [b])),[]⟩:=by
 refine Holds.of Tryz.func93 rfl (N:=9) Tryz.ntmps93 rfl fun w0 B0 S0 U0=>?_
 show T _ (Y5 9 0 w0 S0 U0 B0) ⟨[dv (.int .u8 ((t.toNat:Nat):Int)),slV tb nb kU8 b],[]⟩ _ _
 have hs1:szP [b]=5+(4+b.length):=rfl
 refine sR [] ?_
 refine sR [hR 2 rfl rfl (Ye 0 25 (kSl tb kU8) (Et tb kU8) [b] [⟨0,.tmp 6,.one (.d (dsl tb nb kU8 b)),0⟩] (cs:=[.d (dsl tb nb kU8 b)]) Tryz.underlying136 U9 rfl Hw rfl rfl rfl pd (Yq rfl rfl pd W5) pZ8 ⟨pZ24,trivial⟩ (X3 rfl) trivial),hR 3 rfl rfl (Wx (X00 t true false tb [b] (by omega)) Tryz.func71 rfl (by decide) [] [0] (l:=[(.tmp 5,dv (.int .u8 ((t.toNat:Nat):Int))),(.tmp 7,Y7 0 (kSl false kU8) 0 [b].length)]) [(0,.live (Xf 25 (kSl tb kU8) [b]))] rfl 0 0 rfl rfl rfl rfl rfl rfl rfl rfl rfl ⟨.inl ⟨rfl,rfl⟩,⟨.inr (.inl ⟨rfl,pZs,rfl,rfl,by simp,25,[b].length,W6 (kSl tb kU8) [b],List.Mem.head _,pk,fun i j=>by rw [Nat.zero_add]⟩),trivial⟩⟩ rfl pZ6 p2a (X3 rfl) trivial)] ?_
 refine T.ret ?_
 exact eRt 4 (.one (dS (ofB t [b]))) [] rfl trivial
theorem Xgj (t:UInt8) (a:List UInt8) (b:List UInt8) (hb:a.length+b.length≤140737488350000):Holds Tryz.prog 139 ⟨[dv (.int .u8 ((t.toNat:Nat):Int)),dv (Ys a),dv (Ys b)],[],dv (Ys (ofB t [a,b])),[]⟩:=by
 refine Holds.of Tryz.func139 rfl (N:=14) Tryz.ntmps139 rfl fun w0 B0 S0 U0=>?_
 show T _ (Y5 14 0 w0 S0 U0 B0) ⟨[dv (.int .u8 ((t.toNat:Nat):Int)),dv (Ys a),dv (Ys b)],[]⟩ _ _
 have hs1:szP [a,b]=5+(4+a.length)+(4+b.length):=rfl
 refine sR [] ?_
 refine sR [hR 2 rfl rfl (Ju (l:=a) Tryz.underlying60 Tryz.underlying25 Tryz.underlying5 (X3 rfl) trivial),hR 4 rfl rfl (Ju (l:=b) Tryz.underlying60 Tryz.underlying25 Tryz.underlying5 (X3 rfl) trivial),hR 5 rfl rfl (Ye 0 25 (kSl false kU8) (Et false kU8) [a,b] [⟨0,.tmp 9,.one (.d (dsl false true kU8 a)),0⟩,⟨1,.tmp 11,.one (.d (dsl false true kU8 b)),1⟩] (cs:=[.d (dsl false true kU8 a),.d (dsl false true kU8 b)]) Tryz.underlying136 U9 rfl Hw rfl rfl rfl pd (Yq rfl rfl pd (Yq rfl rfl pd W5)) pZ8 ⟨pZ24,⟨pZ24,trivial⟩⟩ (X3 rfl) trivial),hR 6 rfl rfl (Wx (X00 t true false false [a,b] (by omega)) Tryz.func71 rfl (by decide) [] [0] (l:=[(.tmp 7,dv (.int .u8 ((t.toNat:Nat):Int))),(.tmp 12,Y7 0 (kSl false kU8) 0 [a,b].length)]) [(0,.live (Xf 25 (kSl false kU8) [a,b]))] rfl 0 0 rfl rfl rfl rfl rfl rfl rfl rfl rfl ⟨.inl ⟨rfl,rfl⟩,⟨.inr (.inl ⟨rfl,pZs,rfl,rfl,by simp,25,[a,b].length,W6 (kSl false kU8) [a,b],List.Mem.head _,pk,fun i j=>by rw [Nat.zero_add]⟩),trivial⟩⟩ rfl pZ6 p2a (X3 rfl) trivial)] ?_
 refine T.ret ?_
 exact eRt 6 (.one (dS (ofB t [a,b]))) [] rfl trivial
theorem Xhq (x:Nat) (hx:x<18446744073709551616):Holds Tryz.prog 166 ⟨[dv (.int .u64 ((x:Nat):Int))],[],vI ((X23 x:Nat):Int),[]⟩:=by
 refine Holds.of Tryz.func166 rfl (N:=25) Tryz.ntmps166 rfl fun w0 B0 S0 U0=>?_
 show T _ (Y5 25 0 w0 S0 U0 B0) ⟨[dv (.int .u64 ((x:Nat):Int))],[]⟩ _ _
 have hb8:=fun (y:Nat)=>UInt8.toNat_lt (Yr.getD (UInt8.ofNat y).toNat 0)
 refine sR [] (T.seq (sR [] ?_))
 by_cases hq1:((x:Nat):Int)≥4294967296
 ·have hd32:=Fw (x:=x) (s:=32) (by omega)
  refine cT (dT hq1) (sR [hR 1 rfl rfl (Yg (u1:=.int .u64 ((x:Nat):Int)) (u2:=.int .u64 32) (v:=.int .u64 ((x / 2 ^ 32:Nat):Int)) (Ew (n:=32) rfl pt) (X3 rfl) ⟨rfl,trivial⟩)] (xK [] (nT (T.seq (sR [] ?_)))))
  by_cases hq2:((x / 2 ^ 32:Nat):Int)≥65536
  ·have hd16:=Fw (x:=x / 2 ^ 32) (s:=16) (by omega)
   refine cT (dT hq2) (sR [hR 1 rfl rfl (Yg (u1:=.int .u64 ((x / 2 ^ 32:Nat):Int)) (u2:=.int .u64 16) (v:=.int .u64 (((x / 2 ^ 32) / 2 ^ 16:Nat):Int)) (Ew (n:=16) rfl pt) (X3 rfl) ⟨rfl,trivial⟩)] (xK [hR 1 rfl rfl (Yg (u1:=.int .i64 32) (u2:=.int .i64 16) (v:=.int .i64 48) (W8 pb) (X3 rfl) ⟨rfl,trivial⟩)] (nT (T.seq (sR [] ?_)))))
   by_cases hq3:(((x / 2 ^ 32) / 2 ^ 16:Nat):Int)≥256
   ·have hd8:=Fw (x:=(x / 2 ^ 32) / 2 ^ 16) (s:=8) (by omega)
    refine cT (dT hq3) (sR [hR 1 rfl rfl (Yg (u1:=.int .u64 (((x / 2 ^ 32) / 2 ^ 16:Nat):Int)) (u2:=.int .u64 8) (v:=.int .u64 ((((x / 2 ^ 32) / 2 ^ 16) / 2 ^ 8:Nat):Int)) (Ew (n:=8) rfl pt) (X3 rfl) ⟨rfl,trivial⟩)] (xK [hR 1 rfl rfl (Yg (u1:=.int .i64 48) (u2:=.int .i64 8) (v:=.int .i64 56) (W8 pb) (X3 rfl) ⟨rfl,trivial⟩)] (nT ?_)))
    refine sR [hR 2 rfl rfl (Ve (u:=.int .u64 ((((x / 2 ^ 32) / 2 ^ 16) / 2 ^ 8:Nat):Int)) (v:=.int .u8 (((UInt8.ofNat (((x / 2 ^ 32) / 2 ^ 16) / 2 ^ 8)).toNat:Nat):Int)) (Ht Tryz.underlying179 Tryz.underlying5) (X3 rfl) trivial),hR 3 rfl rfl (I5 (k:=.u8) (l:=Yr) (m:=(UInt8.ofNat (((x / 2 ^ 32) / 2 ^ 16) / 2 ^ 8)).toNat) (b:=(Yr.getD (UInt8.ofNat (((x / 2 ^ 32) / 2 ^ 16) / 2 ^ 8)).toNat 0)) (i:=(((UInt8.ofNat (((x / 2 ^ 32) / 2 ^ 16) / 2 ^ 8)).toNat:Nat):Int)) Tryz.underlying9 rfl pZ27 rfl (X3 rfl) ⟨rfl,trivial⟩),hR 4 rfl rfl (Ve (u:=.int .u8 (((Yr.getD (UInt8.ofNat (((x / 2 ^ 32) / 2 ^ 16) / 2 ^ 8)).toNat 0).toNat:Nat):Int)) (v:=.int .i64 (((Yr.getD (UInt8.ofNat (((x / 2 ^ 32) / 2 ^ 16) / 2 ^ 8)).toNat 0).toNat:Nat):Int)) (H6 Tryz.underlying5 Tryz.underlying3 p3p) (X3 rfl) trivial),hR 5 rfl rfl (Yg (u1:=.int .i64 56) (u2:=.int .i64 (((Yr.getD (UInt8.ofNat (((x / 2 ^ 32) / 2 ^ 16) / 2 ^ 8)).toNat 0).toNat:Nat):Int)) (v:=.int .i64 ((56+(Yr.getD (UInt8.ofNat (((x / 2 ^ 32) / 2 ^ 16) / 2 ^ 8)).toNat 0).toNat:Nat):Int)) (W8 p3p) (X3 rfl) trivial)] ?_
    refine T.ret ?_
    exact eRt 2 (.one (dI ((56+(Yr.getD (UInt8.ofNat (((x / 2 ^ 32) / 2 ^ 16) / 2 ^ 8)).toNat 0).toNat:Nat):Int))) [] (by have e1:(((X23 x:Nat):Int):Int)=((56+(Yr.getD (UInt8.ofNat (((x / 2 ^ 32) / 2 ^ 16) / 2 ^ 8)).toNat 0).toNat:Nat):Int):=p2q;have hE:=cI e1;exact hE) trivial
   refine cF (dF hq3) (T.skip (nT ?_))
   refine sR [hR 2 rfl rfl (Ve (u:=.int .u64 (((x / 2 ^ 32) / 2 ^ 16:Nat):Int)) (v:=.int .u8 (((UInt8.ofNat ((x / 2 ^ 32) / 2 ^ 16)).toNat:Nat):Int)) (Ht Tryz.underlying179 Tryz.underlying5) (X3 rfl) trivial),hR 3 rfl rfl (I5 (k:=.u8) (l:=Yr) (m:=(UInt8.ofNat ((x / 2 ^ 32) / 2 ^ 16)).toNat) (b:=(Yr.getD (UInt8.ofNat ((x / 2 ^ 32) / 2 ^ 16)).toNat 0)) (i:=(((UInt8.ofNat ((x / 2 ^ 32) / 2 ^ 16)).toNat:Nat):Int)) Tryz.underlying9 rfl pZ27 rfl (X3 rfl) ⟨rfl,trivial⟩),hR 4 rfl rfl (Ve (u:=.int .u8 (((Yr.getD (UInt8.ofNat ((x / 2 ^ 32) / 2 ^ 16)).toNat 0).toNat:Nat):Int)) (v:=.int .i64 (((Yr.getD (UInt8.ofNat ((x / 2 ^ 32) / 2 ^ 16)).toNat 0).toNat:Nat):Int)) (H6 Tryz.underlying5 Tryz.underlying3 p3v) (X3 rfl) trivial),hR 5 rfl rfl (Yg (u1:=.int .i64 48) (u2:=.int .i64 (((Yr.getD (UInt8.ofNat ((x / 2 ^ 32) / 2 ^ 16)).toNat 0).toNat:Nat):Int)) (v:=.int .i64 ((48+(Yr.getD (UInt8.ofNat ((x / 2 ^ 32) / 2 ^ 16)).toNat 0).toNat:Nat):Int)) (W8 p3v) (X3 rfl) trivial)] ?_
   refine T.ret ?_
   exact eRt 2 (.one (dI ((48+(Yr.getD (UInt8.ofNat ((x / 2 ^ 32) / 2 ^ 16)).toNat 0).toNat:Nat):Int))) [] (by have e1:(((X23 x:Nat):Int):Int)=((48+(Yr.getD (UInt8.ofNat ((x / 2 ^ 32) / 2 ^ 16)).toNat 0).toNat:Nat):Int):=p2q;have hE:=cI e1;exact hE) trivial
  refine cF (dF hq2) (T.skip (nT (T.seq (sR [] ?_))))
  by_cases hq4:((x / 2 ^ 32:Nat):Int)≥256
  ·have hd8:=Fw (x:=x / 2 ^ 32) (s:=8) (by omega)
   refine cT (dT hq4) (sR [hR 1 rfl rfl (Yg (u1:=.int .u64 ((x / 2 ^ 32:Nat):Int)) (u2:=.int .u64 8) (v:=.int .u64 (((x / 2 ^ 32) / 2 ^ 8:Nat):Int)) (Ew (n:=8) rfl pt) (X3 rfl) ⟨rfl,trivial⟩)] (xK [hR 1 rfl rfl (Yg (u1:=.int .i64 32) (u2:=.int .i64 8) (v:=.int .i64 40) (W8 pb) (X3 rfl) ⟨rfl,trivial⟩)] (nT ?_)))
   refine sR [hR 2 rfl rfl (Ve (u:=.int .u64 (((x / 2 ^ 32) / 2 ^ 8:Nat):Int)) (v:=.int .u8 (((UInt8.ofNat ((x / 2 ^ 32) / 2 ^ 8)).toNat:Nat):Int)) (Ht Tryz.underlying179 Tryz.underlying5) (X3 rfl) trivial),hR 3 rfl rfl (I5 (k:=.u8) (l:=Yr) (m:=(UInt8.ofNat ((x / 2 ^ 32) / 2 ^ 8)).toNat) (b:=(Yr.getD (UInt8.ofNat ((x / 2 ^ 32) / 2 ^ 8)).toNat 0)) (i:=(((UInt8.ofNat ((x / 2 ^ 32) / 2 ^ 8)).toNat:Nat):Int)) Tryz.underlying9 rfl pZ27 rfl (X3 rfl) ⟨rfl,trivial⟩),hR 4 rfl rfl (Ve (u:=.int .u8 (((Yr.getD (UInt8.ofNat ((x / 2 ^ 32) / 2 ^ 8)).toNat 0).toNat:Nat):Int)) (v:=.int .i64 (((Yr.getD (UInt8.ofNat ((x / 2 ^ 32) / 2 ^ 8)).toNat 0).toNat:Nat):Int)) (H6 Tryz.underlying5 Tryz.underlying3 p3w) (X3 rfl) trivial),hR 5 rfl rfl (Yg (u1:=.int .i64 40) (u2:=.int .i64 (((Yr.getD (UInt8.ofNat ((x / 2 ^ 32) / 2 ^ 8)).toNat 0).toNat:Nat):Int)) (v:=.int .i64 ((40+(Yr.getD (UInt8.ofNat ((x / 2 ^ 32) / 2 ^ 8)).toNat 0).toNat:Nat):Int)) (W8 p3w) (X3 rfl) trivial)] ?_
   refine T.ret ?_
   exact eRt 2 (.one (dI ((40+(Yr.getD (UInt8.ofNat ((x / 2 ^ 32) / 2 ^ 8)).toNat 0).toNat:Nat):Int))) [] (by have e1:(((X23 x:Nat):Int):Int)=((40+(Yr.getD (UInt8.ofNat ((x / 2 ^ 32) / 2 ^ 8)).toNat 0).toNat:Nat):Int):=p2q;have hE:=cI e1;exact hE) trivial
  refine cF (dF hq4) (T.skip (nT ?_))
  refine sR [hR 2 rfl rfl (Ve (u:=.int .u64 ((x / 2 ^ 32:Nat):Int)) (v:=.int .u8 (((UInt8.ofNat (x / 2 ^ 32)).toNat:Nat):Int)) (Ht Tryz.underlying179 Tryz.underlying5) (X3 rfl) trivial),hR 3 rfl rfl (I5 (k:=.u8) (l:=Yr) (m:=(UInt8.ofNat (x / 2 ^ 32)).toNat) (b:=(Yr.getD (UInt8.ofNat (x / 2 ^ 32)).toNat 0)) (i:=(((UInt8.ofNat (x / 2 ^ 32)).toNat:Nat):Int)) Tryz.underlying9 rfl pZ27 rfl (X3 rfl) ⟨rfl,trivial⟩),hR 4 rfl rfl (Ve (u:=.int .u8 (((Yr.getD (UInt8.ofNat (x / 2 ^ 32)).toNat 0).toNat:Nat):Int)) (v:=.int .i64 (((Yr.getD (UInt8.ofNat (x / 2 ^ 32)).toNat 0).toNat:Nat):Int)) (H6 Tryz.underlying5 Tryz.underlying3 p45) (X3 rfl) trivial),hR 5 rfl rfl (Yg (u1:=.int .i64 32) (u2:=.int .i64 (((Yr.getD (UInt8.ofNat (x / 2 ^ 32)).toNat 0).toNat:Nat):Int)) (v:=.int .i64 ((32+(Yr.getD (UInt8.ofNat (x / 2 ^ 32)).toNat 0).toNat:Nat):Int)) (W8 p45) (X3 rfl) trivial)] ?_
  refine T.ret ?_
  exact eRt 2 (.one (dI ((32+(Yr.getD (UInt8.ofNat (x / 2 ^ 32)).toNat 0).toNat:Nat):Int))) [] (by have e1:(((X23 x:Nat):Int):Int)=((32+(Yr.getD (UInt8.ofNat (x / 2 ^ 32)).toNat 0).toNat:Nat):Int):=p2q;have hE:=cI e1;exact hE) trivial
 refine cF (dF hq1) (T.skip (nT (T.seq (sR [] ?_))))
 by_cases hq5:((x:Nat):Int)≥65536
 ·have hd16:=Fw (x:=x) (s:=16) (by omega)
  refine cT (dT hq5) (sR [hR 1 rfl rfl (Yg (u1:=.int .u64 ((x:Nat):Int)) (u2:=.int .u64 16) (v:=.int .u64 ((x / 2 ^ 16:Nat):Int)) (Ew (n:=16) rfl pt) (X3 rfl) ⟨rfl,trivial⟩)] (xK [hR 1 rfl rfl (Yg (u1:=.int .i64 0) (u2:=.int .i64 16) (v:=.int .i64 16) (W8 pb) (X3 rfl) ⟨rfl,trivial⟩)] (nT (T.seq (sR [] ?_)))))
  by_cases hq6:((x / 2 ^ 16:Nat):Int)≥256
  ·have hd8:=Fw (x:=x / 2 ^ 16) (s:=8) (by omega)
   refine cT (dT hq6) (sR [hR 1 rfl rfl (Yg (u1:=.int .u64 ((x / 2 ^ 16:Nat):Int)) (u2:=.int .u64 8) (v:=.int .u64 (((x / 2 ^ 16) / 2 ^ 8:Nat):Int)) (Ew (n:=8) rfl pt) (X3 rfl) ⟨rfl,trivial⟩)] (xK [hR 1 rfl rfl (Yg (u1:=.int .i64 16) (u2:=.int .i64 8) (v:=.int .i64 24) (W8 pb) (X3 rfl) ⟨rfl,trivial⟩)] (nT ?_)))
   refine sR [hR 2 rfl rfl (Ve (u:=.int .u64 (((x / 2 ^ 16) / 2 ^ 8:Nat):Int)) (v:=.int .u8 (((UInt8.ofNat ((x / 2 ^ 16) / 2 ^ 8)).toNat:Nat):Int)) (Ht Tryz.underlying179 Tryz.underlying5) (X3 rfl) trivial),hR 3 rfl rfl (I5 (k:=.u8) (l:=Yr) (m:=(UInt8.ofNat ((x / 2 ^ 16) / 2 ^ 8)).toNat) (b:=(Yr.getD (UInt8.ofNat ((x / 2 ^ 16) / 2 ^ 8)).toNat 0)) (i:=(((UInt8.ofNat ((x / 2 ^ 16) / 2 ^ 8)).toNat:Nat):Int)) Tryz.underlying9 rfl pZ27 rfl (X3 rfl) ⟨rfl,trivial⟩),hR 4 rfl rfl (Ve (u:=.int .u8 (((Yr.getD (UInt8.ofNat ((x / 2 ^ 16) / 2 ^ 8)).toNat 0).toNat:Nat):Int)) (v:=.int .i64 (((Yr.getD (UInt8.ofNat ((x / 2 ^ 16) / 2 ^ 8)).toNat 0).toNat:Nat):Int)) (H6 Tryz.underlying5 Tryz.underlying3 p3x) (X3 rfl) trivial),hR 5 rfl rfl (Yg (u1:=.int .i64 24) (u2:=.int .i64 (((Yr.getD (UInt8.ofNat ((x / 2 ^ 16) / 2 ^ 8)).toNat 0).toNat:Nat):Int)) (v:=.int .i64 ((24+(Yr.getD (UInt8.ofNat ((x / 2 ^ 16) / 2 ^ 8)).toNat 0).toNat:Nat):Int)) (W8 p3x) (X3 rfl) trivial)] ?_
   refine T.ret ?_
   exact eRt 2 (.one (dI ((24+(Yr.getD (UInt8.ofNat ((x / 2 ^ 16) / 2 ^ 8)).toNat 0).toNat:Nat):Int))) [] (by have e1:(((X23 x:Nat):Int):Int)=((24+(Yr.getD (UInt8.ofNat ((x / 2 ^ 16) / 2 ^ 8)).toNat 0).toNat:Nat):Int):=p2q;have hE:=cI e1;exact hE) trivial
  refine cF (dF hq6) (T.skip (nT ?_))
  refine sR [hR 2 rfl rfl (Ve (u:=.int .u64 ((x / 2 ^ 16:Nat):Int)) (v:=.int .u8 (((UInt8.ofNat (x / 2 ^ 16)).toNat:Nat):Int)) (Ht Tryz.underlying179 Tryz.underlying5) (X3 rfl) trivial),hR 3 rfl rfl (I5 (k:=.u8) (l:=Yr) (m:=(UInt8.ofNat (x / 2 ^ 16)).toNat) (b:=(Yr.getD (UInt8.ofNat (x / 2 ^ 16)).toNat 0)) (i:=(((UInt8.ofNat (x / 2 ^ 16)).toNat:Nat):Int)) Tryz.underlying9 rfl pZ27 rfl (X3 rfl) ⟨rfl,trivial⟩),hR 4 rfl rfl (Ve (u:=.int .u8 (((Yr.getD (UInt8.ofNat (x / 2 ^ 16)).toNat 0).toNat:Nat):Int)) (v:=.int .i64 (((Yr.getD (UInt8.ofNat (x / 2 ^ 16)).toNat 0).toNat:Nat):Int)) (H6 Tryz.underlying5 Tryz.underlying3 p46) (X3 rfl) trivial),hR 5 rfl rfl (Yg (u1:=.int .i64 16) (u2:=.int .i64 (((Yr.getD (UInt8.ofNat (x / 2 ^ 16)).toNat 0).toNat:Nat):Int)) (v:=.int .i64 ((16+(Yr.getD (UInt8.ofNat (x / 2 ^ 16)).toNat 0).toNat:Nat):Int)) (W8 p46) (X3 rfl) trivial)] ?_
  refine T.ret ?_
  exact eRt 2 (.one (dI ((16+(Yr.getD (UInt8.ofNat (x / 2 ^ 16)).toNat 0).toNat:Nat):Int))) [] (by have e1:(((X23 x:Nat):Int):Int)=((16+(Yr.getD (UInt8.ofNat (x / 2 ^ 16)).toNat 0).toNat:Nat):Int):=p2q;have hE:=cI e1;exact hE) trivial
 refine cF (dF hq5) (T.skip (nT (T.seq (sR [] ?_))))
 by_cases hq7:((x:Nat):Int)≥256
 ·have hd8:=Fw (x:=x) (s:=8) (by omega)
  refine cT (dT hq7) (sR [hR 1 rfl rfl (Yg (u1:=.int .u64 ((x:Nat):Int)) (u2:=.int .u64 8) (v:=.int .u64 ((x / 2 ^ 8:Nat):Int)) (Ew (n:=8) rfl pt) (X3 rfl) ⟨rfl,trivial⟩)] (xK [hR 1 rfl rfl (Yg (u1:=.int .i64 0) (u2:=.int .i64 8) (v:=.int .i64 8) (W8 pb) (X3 rfl) ⟨rfl,trivial⟩)] (nT ?_)))
  refine sR [hR 2 rfl rfl (Ve (u:=.int .u64 ((x / 2 ^ 8:Nat):Int)) (v:=.int .u8 (((UInt8.ofNat (x / 2 ^ 8)).toNat:Nat):Int)) (Ht Tryz.underlying179 Tryz.underlying5) (X3 rfl) trivial),hR 3 rfl rfl (I5 (k:=.u8) (l:=Yr) (m:=(UInt8.ofNat (x / 2 ^ 8)).toNat) (b:=(Yr.getD (UInt8.ofNat (x / 2 ^ 8)).toNat 0)) (i:=(((UInt8.ofNat (x / 2 ^ 8)).toNat:Nat):Int)) Tryz.underlying9 rfl pZ27 rfl (X3 rfl) ⟨rfl,trivial⟩),hR 4 rfl rfl (Ve (u:=.int .u8 (((Yr.getD (UInt8.ofNat (x / 2 ^ 8)).toNat 0).toNat:Nat):Int)) (v:=.int .i64 (((Yr.getD (UInt8.ofNat (x / 2 ^ 8)).toNat 0).toNat:Nat):Int)) (H6 Tryz.underlying5 Tryz.underlying3 p47) (X3 rfl) trivial),hR 5 rfl rfl (Yg (u1:=.int .i64 8) (u2:=.int .i64 (((Yr.getD (UInt8.ofNat (x / 2 ^ 8)).toNat 0).toNat:Nat):Int)) (v:=.int .i64 ((8+(Yr.getD (UInt8.ofNat (x / 2 ^ 8)).toNat 0).toNat:Nat):Int)) (W8 p47) (X3 rfl) trivial)] ?_
  refine T.ret ?_
  exact eRt 2 (.one (dI ((8+(Yr.getD (UInt8.ofNat (x / 2 ^ 8)).toNat 0).toNat:Nat):Int))) [] (by have e1:(((X23 x:Nat):Int):Int)=((8+(Yr.getD (UInt8.ofNat (x / 2 ^ 8)).toNat 0).toNat:Nat):Int):=p2q;have hE:=cI e1;exact hE) trivial
 refine cF (dF hq7) (T.skip (nT ?_))
 refine sR [hR 2 rfl rfl (Ve (u:=.int .u64 ((x:Nat):Int)) (v:=.int .u8 (((UInt8.ofNat x).toNat:Nat):Int)) (Ht Tryz.underlying179 Tryz.underlying5) (X3 rfl) trivial),hR 3 rfl rfl (I5 (k:=.u8) (l:=Yr) (m:=(UInt8.ofNat x).toNat) (b:=(Yr.getD (UInt8.ofNat x).toNat 0)) (i:=(((UInt8.ofNat x).toNat:Nat):Int)) Tryz.underlying9 rfl pZ27 rfl (X3 rfl) ⟨rfl,trivial⟩),hR 4 rfl rfl (Ve (u:=.int .u8 (((Yr.getD (UInt8.ofNat x).toNat 0).toNat:Nat):Int)) (v:=.int .i64 (((Yr.getD (UInt8.ofNat x).toNat 0).toNat:Nat):Int)) (H6 Tryz.underlying5 Tryz.underlying3 p4i) (X3 rfl) trivial),hR 5 rfl rfl (Yg (u1:=.int .i64 0) (u2:=.int .i64 (((Yr.getD (UInt8.ofNat x).toNat 0).toNat:Nat):Int)) (v:=.int .i64 ((0+(Yr.getD (UInt8.ofNat x).toNat 0).toNat:Nat):Int)) (W8 p4i) (X3 rfl) trivial)] ?_
 refine T.ret ?_
 exact eRt 2 (.one (dI ((0+(Yr.getD (UInt8.ofNat x).toNat 0).toNat:Nat):Int))) [] (by have e1:(((X23 x:Nat):Int):Int)=((0+(Yr.getD (UInt8.ofNat x).toNat 0).toNat:Nat):Int):=p2q;have hE:=cI e1;exact hE) trivial
theorem bits_Len (x:Nat) (hx:x<18446744073709551616):Holds Tryz.prog 130 ⟨[dv (.int .u64 ((x:Nat):Int))],[],vI ((X23 x:Nat):Int),[]⟩:=by
 refine Holds.of Tryz.func130 rfl (N:=8) Tryz.ntmps130 rfl fun w0 B0 S0 U0=>?_
 show T _ (Y5 8 0 w0 S0 U0 B0) ⟨[dv (.int .u64 ((x:Nat):Int))],[]⟩ _ _
 refine sR [] (T.seq (cF (b:=false) rfl (T.skip (nT (sR [hR 1 rfl rfl (rCa (Xhq x ‹_›) Tryz.func166 [] [(.tmp 6,dv (.int .u64 ((x:Nat):Int)))] 0 0)] (T.ret ?_))))))
 exact eRt 2 (.one (dI ((X23 x:Nat):Int))) [] rfl trivial
theorem X0s (n:Nat) (h2:2≤n) (hn:n≤9223372036854775807):Holds Tryz.prog 148 ⟨[vI ((n:Nat):Int)],[],vI ((half n:Nat):Int),[]⟩:=by
 refine Holds.of Tryz.func148 rfl (N:=9) Tryz.ntmps148 rfl fun w0 B0 S0 U0=>?_
 show T _ (Y5 9 0 w0 S0 U0 B0) ⟨[vI ((n:Nat):Int)],[]⟩ _ _
 have hlg:=log_le hn h2
 refine sR [] ?_
 refine sR [hR 1 rfl rfl (Yg (u1:=.int .i64 ((n:Nat):Int)) (u2:=.int .i64 1) (v:=.int .i64 ((n-1:Nat):Int)) (Uu pb) (X3 rfl) ⟨rfl,trivial⟩),hR 2 rfl rfl (Ve (u:=.int .i64 ((n-1:Nat):Int)) (v:=.int .u64 ((n-1:Nat):Int)) (H6 Tryz.underlying3 Tryz.underlying185 p3q) (X3 rfl) trivial),hR 3 rfl rfl (rCa (bits_Len (n-1) (by omega)) Tryz.func130 [] [(.tmp 5,dv (.int .u64 ((n-1:Nat):Int)))] 0 0),hR 4 rfl rfl (Yg (u1:=.int .i64 ((X23 (n-1):Nat):Int)) (u2:=.int .i64 1) (v:=.int .i64 ((Nat.log2 (n-1):Nat):Int)) (Uu (by rw [X9d (by omega),IntKind.wrap_i64];omega)) (X3 rfl) ⟨rfl,trivial⟩),hR 5 rfl rfl (Yg (u1:=.int .i64 1) (u2:=.int .i64 ((Nat.log2 (n-1):Nat):Int)) (v:=.int .i64 ((half n:Nat):Int)) (b_shl (n:=Nat.log2 (n-1)) rfl (Nat.le_trans hlg (by decide)) (shl_half hn h2)) (X3 rfl) ⟨rfl,trivial⟩)] ?_
 refine T.ret ?_
 exact eRt 2 (.one (dI ((half n:Nat):Int))) [] rfl trivial
abbrev Z2q (n:Nat):AV:=vI ((n:Nat):Int)
theorem Xgf (n:Nat) (h2:2≤n) (hn:n≤9223372036854775807):Holds Tryz.prog 138 ⟨[vI ((n:Nat):Int)],[],vI ((half n:Nat):Int),[]⟩:=by
 refine Holds.of Tryz.func138 rfl (N:=12) Tryz.ntmps138 rfl fun w0 B0 S0 U0=>?_
 show T _ (Y5 12 0 w0 S0 U0 B0) ⟨[(Z2q n)],[]⟩ _ _
 refine sR [] (sR [] (T.seq (T.block ?_)))
 refine T.loop (ι:=Nat) (fun (K:Nat)=>⟨[(Z2q n),aa,vI 0,vI ((K:Nat):Int)],[]⟩) (fun (K:Nat)=>(∃ j,K=2 ^ j)∧(K<n)) (fun (K:Nat)=>n-K) (1) ⟨⟨0,rfl⟩,(by omega)⟩ (fun _ _ hG=>Yp [] (bm 4 13) rfl rfl hG) ?_
 rintro K ⟨hp,hK⟩
 show T _ _ ⟨[(Z2q n),aa,vI 0,vI ((K:Nat):Int)],[]⟩ _ _
 replace hp:∃ j,K=2 ^ j:=hp
 replace hK:K<n:=hK
 refine T.seq (sR [hR 3 rfl rfl (Yg (u1:=.int .i64 ((n:Nat):Int)) (u2:=.int .i64 ((K:Nat):Int)) (v:=.int .i64 (((n:Nat):Int)-((K:Nat):Int))) (Uu pb) (X3 rfl) trivial)] ?_)
 by_cases hq1:((K:Nat):Int)<(((n:Nat):Int)-((K:Nat):Int))
 ·refine cT (dT hq1) (T.skip (nT (T.block (xK [hR 1 rfl rfl (Yg (u1:=.int .i64 2) (u2:=.int .i64 ((K:Nat):Int)) (v:=.int .i64 ((2*K:Nat):Int)) (Xa5 pb) (X3 rfl) ⟨rfl,trivial⟩)] (nB ?_)))))
  refine nL (2*K) ⟨(show ∃ j,(2*K)=2 ^ j from (by obtain ⟨j,hj⟩:=hp;exact ⟨j+1,by rw [hj,Nat.pow_succ];omega⟩)),(show (2*K)<n from (by omega))⟩ (show (n-(2*K):Nat)<n-K from (by have hK0:0<K:=(by obtain ⟨j,hj⟩:=hp;rw [hj];exact Nat.pow_pos (by decide));omega)) (fun _ _ hG=>Yp [] (bm 4 13) rfl rfl hG)
 refine cF (dF hq1) (T.exit (xT (xT (xH (nT (sR [] (T.ret ?_)))))))
 exact eRt 2 (.one (dI ((K:Nat):Int))) [] (by have e1:(((half n:Nat):Int):Int)=((K:Nat):Int):=(by (rw [half_of hp hK (by omega)]));have hE:=cI e1;exact hE) trivial
theorem X7e:∀ (N:Nat) (tl:Bool) (nl:Bool) (sl_:Bool) (l:List (List UInt8)) (hf:Ig szL 40 600 l),l.length=N→Holds Tryz.prog 110 ⟨[slV tl nl (kSl sl_ kU8) l],[],dv (Ys (Wo l)),[]⟩:=by
  intro N
  induction N using Nat.strongRecOn with
  | _ N ih =>
    intro tl nl sl_ l hf hN
    refine Holds.of Tryz.func110 rfl (N:=28) Tryz.ntmps110 rfl fun w0 B0 S0 U0=>?_
    show T _ (Y5 28 0 w0 S0 U0 B0) ⟨[slV tl nl (kSl sl_ kU8) l],[]⟩ _ _
    have hl40:=hf.1
    have hg0:(l.getD 0 []).length≤600:=Iw (sz:=szL) hf (by decide) 0
    refine sR [] (sR [] (sR [] (T.block (sR [] ?_))))
    by_cases hq1:((l.length:Nat):Int)=0
    ·refine cT (dT hq1) ?_
     refine sR [hR 0 rfl rfl (rCn (X2o (4:UInt8) false false false ([]:List (List UInt8)) (by first|assumption|omega|(unfold maxLen;omega)|(simp [maxLen,-List.getD_eq_getElem?_getD]<;>omega)|decide)) Tryz.func84 [] [(.const (.int .u8 4),dv (.int .u8 4)),(.const (.slice none 0 0),dv (.slice none 0 0))] 0 0 ⟨.inl ⟨rfl,rfl⟩,⟨.inr pq,trivial⟩⟩ ⟨rfl,⟨rfl,trivial⟩⟩)] ?_
     refine T.ret (rB ?_)
     exact eRt 2 (.one (dS (ofB (4:UInt8) ([]:List (List UInt8))))) [] p3b trivial
    refine cF (dF hq1) (sR [] ?_)
    by_cases hq2:((l.length:Nat):Int)=1
    ·refine cT (dT hq2) ?_
     refine sR [hR 1 rfl rfl (W9 tl nl (kSl sl_ kU8) l 0 (k:=.i64) (i:=0) Tryz.underlying136 U9 rfl rfl (by first|assumption|omega|(unfold maxLen;omega)|(simp [maxLen,-List.getD_eq_getElem?_getD]<;>omega)|decide) (X3 rfl) ⟨rfl,trivial⟩),hR 3 rfl rfl (rCa (X5o (2:UInt8) sl_ false (l.getD 0 []) (by first|assumption|omega|(unfold maxLen;omega)|(simp [maxLen,-List.getD_eq_getElem?_getD]<;>omega)|decide)) Tryz.func118 [] [(.const (.int .u8 2),dv (.int .u8 2)),(.tmp 26,slV sl_ false kU8 (l.getD 0 []))] 0 0)] ?_
     refine T.ret (rB ?_)
     exact eRt 2 (.one (dS (ofB (2:UInt8) [(l.getD 0 [])]))) [] p3g trivial
    have h2l:2≤l.length:=(by omega);have hhl:=Ie h2l;have hhp:=Jn l.length;have hfa:=J2 (H5 hf (half l.length));have hfb:=J2 (If hf (half l.length))
    refine cF (dF hq2) ?_
    refine sR [hR 1 rfl rfl (rCa (X0s l.length (by first|assumption|omega|(unfold maxLen;omega)|(simp [maxLen,-List.getD_eq_getElem?_getD]<;>omega)|decide) (by first|assumption|omega|(unfold maxLen;omega)|(simp [maxLen,-List.getD_eq_getElem?_getD]<;>omega)|decide)) Tryz.func148 [] [(.tmp 8,vI ((l.length:Nat):Int))] 0 0)] ?_
    refine sD [[],[],[0,1],[0,1,2],[],[],[4,5],[0,1,2,3,4,5,6],[0,1,2,3,4,5,6,7],[0,1,2,3,4,5,6,7,8]] [hR 2 rfl rfl (Uz tl nl (kSl sl_ kU8) l (l.take (half l.length)) 0 (half l.length) (lo:=none) (hi:=some (.tmp 11,((half l.length:Nat):Int))) Tryz.underlying136 U9 rfl rfl rfl rfl rfl (by first|assumption|omega|(unfold maxLen;omega)|(simp [maxLen,-List.getD_eq_getElem?_getD]<;>omega)|decide) (by first|assumption|omega|(unfold maxLen;omega)|(simp [maxLen,-List.getD_eq_getElem?_getD]<;>omega)|decide) rfl (X3 rfl) trivial),hR 3 rfl rfl (rCa (ih ((l.take (half l.length)).length) (show (l.take (half l.length)).length<N from p2o) tl nl sl_ (l.take (half l.length)) p1e rfl) Tryz.func110 [] [(.tmp 12,slV tl nl (kSl sl_ kU8) (l.take (half l.length)))] 0 0),hR 6 rfl rfl (Uz tl nl (kSl sl_ kU8) l (l.drop (half l.length)) (half l.length) l.length (lo:=some (.tmp 15,((half l.length:Nat):Int))) (hi:=none) Tryz.underlying136 U9 rfl rfl rfl rfl rfl (by first|assumption|omega|(unfold maxLen;omega)|(simp [maxLen,-List.getD_eq_getElem?_getD]<;>omega)|decide) (by first|assumption|omega|(unfold maxLen;omega)|(simp [maxLen,-List.getD_eq_getElem?_getD]<;>omega)|decide) I7 (X3 rfl) trivial),hR 7 rfl rfl (rCa (ih ((l.drop (half l.length)).length) (show (l.drop (half l.length)).length<N from p2o) tl nl sl_ (l.drop (half l.length)) p1e rfl) Tryz.func110 [] [(.tmp 16,slV tl nl (kSl sl_ kU8) (l.drop (half l.length)))] 0 0),hR 8 rfl rfl (rCa (X5n (3:UInt8) (Wo (l.take (half l.length))) (Wo (l.drop (half l.length))) (by first|assumption|omega|(unfold maxLen;omega)|(simp [maxLen,-List.getD_eq_getElem?_getD]<;>omega)|decide)) Tryz.func142 [] [(.const (.int .u8 3),dv (.int .u8 3)),(.tmp 13,dv (Ys (Wo (l.take (half l.length))))),(.tmp 17,dv (Ys (Wo (l.drop (half l.length)))))] 0 0)] ?_
    refine T.ret (rB ?_)
    exact eRt 2 (.one (dS (ofB (3:UInt8) [(Wo (l.take (half l.length))),(Wo (l.drop (half l.length)))]))) [] p2t trivial
theorem X21 (tl:Bool) (nl:Bool) (sl_:Bool) (l:List (List UInt8)) (hf:Ig szL 40 600 l):Holds Tryz.prog 110 ⟨[slV tl nl (kSl sl_ kU8) l],[],dv (Ys (Wo l)),[]⟩:=X7e _ tl nl sl_ l hf rfl
theorem X8t:∀ (N:Nat) (tl:Bool) (nl:Bool) (sl_:Bool) (l:List (List UInt8)) (hf:Ig szL 40 600 l),l.length=N→Holds Tryz.prog 98 ⟨[slV tl nl (kSl sl_ kU8) l],[],dv (Ys (Wo l)),[]⟩:=by
  intro N
  induction N using Nat.strongRecOn with
  | _ N ih =>
    intro tl nl sl_ l hf hN
    refine Holds.of Tryz.func98 rfl (N:=27) Tryz.ntmps98 rfl fun w0 B0 S0 U0=>?_
    show T _ (Y5 27 0 w0 S0 U0 B0) ⟨[slV tl nl (kSl sl_ kU8) l],[]⟩ _ _
    have hl40:=hf.1
    have hg0:(l.getD 0 []).length≤600:=Iw (sz:=szL) hf (by decide) 0
    refine sR [] (T.seq (sR [] ?_))
    by_cases hq1:((l.length:Nat):Int)=0
    ·refine cT (dT hq1) ?_
     refine sR [hR 0 rfl rfl (rCn (X00 (4:UInt8) false false false ([]:List (List UInt8)) (by first|assumption|omega|(unfold maxLen;omega)|(simp [maxLen,-List.getD_eq_getElem?_getD]<;>omega)|decide)) Tryz.func71 [] [(.const (.int .u8 4),dv (.int .u8 4)),(.const (.slice none 0 0),dv (.slice none 0 0))] 0 0 ⟨.inl ⟨rfl,rfl⟩,⟨.inr pq,trivial⟩⟩ ⟨rfl,⟨rfl,trivial⟩⟩)] ?_
     refine T.ret (rT ?_)
     exact eRt 2 (.one (dS (ofB (4:UInt8) ([]:List (List UInt8))))) [] p3b trivial
    refine cF (dF hq1) (T.skip (nT (T.seq (sR [] ?_))))
    by_cases hq2:((l.length:Nat):Int)=1
    ·refine cT (dT hq2) ?_
     refine sR [hR 1 rfl rfl (W9 tl nl (kSl sl_ kU8) l 0 (k:=.i64) (i:=0) Tryz.underlying136 U9 rfl rfl (by first|assumption|omega|(unfold maxLen;omega)|(simp [maxLen,-List.getD_eq_getElem?_getD]<;>omega)|decide) (X3 rfl) ⟨rfl,trivial⟩),hR 3 rfl rfl (rCa (X8v (2:UInt8) sl_ false (l.getD 0 []) (by first|assumption|omega|(unfold maxLen;omega)|(simp [maxLen,-List.getD_eq_getElem?_getD]<;>omega)|decide)) Tryz.func93 [] [(.const (.int .u8 2),dv (.int .u8 2)),(.tmp 13,slV sl_ false kU8 (l.getD 0 []))] 0 0)] ?_
     refine T.ret (rT ?_)
     exact eRt 2 (.one (dS (ofB (2:UInt8) [(l.getD 0 [])]))) [] p3g trivial
    have h2l:2≤l.length:=(by omega);have hhl:=Ie h2l;have hhp:=Jn l.length;have hfa:=J2 (H5 hf (half l.length));have hfb:=J2 (If hf (half l.length))
    refine cF (dF hq2) (T.skip (nT ?_))
    refine sR [hR 2 rfl rfl (rCa (Xgf l.length (by first|assumption|omega|(unfold maxLen;omega)|(simp [maxLen,-List.getD_eq_getElem?_getD]<;>omega)|decide) (by first|assumption|omega|(unfold maxLen;omega)|(simp [maxLen,-List.getD_eq_getElem?_getD]<;>omega)|decide)) Tryz.func138 [] [(.tmp 16,vI ((l.length:Nat):Int))] 0 0)] ?_
    refine sD [[],[],[0,1],[0,1,2],[],[],[4,5],[0,1,2,3,4,5,6],[0,1,2,3,4,5,6,7],[0,1,2,3,4,5,6,7,8]] [hR 2 rfl rfl (Uz tl nl (kSl sl_ kU8) l (l.take (half l.length)) 0 (half l.length) (lo:=none) (hi:=some (.tmp 19,((half l.length:Nat):Int))) Tryz.underlying136 U9 rfl rfl rfl rfl rfl (by first|assumption|omega|(unfold maxLen;omega)|(simp [maxLen,-List.getD_eq_getElem?_getD]<;>omega)|decide) (by first|assumption|omega|(unfold maxLen;omega)|(simp [maxLen,-List.getD_eq_getElem?_getD]<;>omega)|decide) rfl (X3 rfl) trivial),hR 3 rfl rfl (rCa (ih ((l.take (half l.length)).length) (show (l.take (half l.length)).length<N from p2o) tl nl sl_ (l.take (half l.length)) p1e rfl) Tryz.func98 [] [(.tmp 20,slV tl nl (kSl sl_ kU8) (l.take (half l.length)))] 0 0),hR 6 rfl rfl (Uz tl nl (kSl sl_ kU8) l (l.drop (half l.length)) (half l.length) l.length (lo:=some (.tmp 23,((half l.length:Nat):Int))) (hi:=none) Tryz.underlying136 U9 rfl rfl rfl rfl rfl (by first|assumption|omega|(unfold maxLen;omega)|(simp [maxLen,-List.getD_eq_getElem?_getD]<;>omega)|decide) (by first|assumption|omega|(unfold maxLen;omega)|(simp [maxLen,-List.getD_eq_getElem?_getD]<;>omega)|decide) I7 (X3 rfl) trivial),hR 7 rfl rfl (rCa (ih ((l.drop (half l.length)).length) (show (l.drop (half l.length)).length<N from p2o) tl nl sl_ (l.drop (half l.length)) p1e rfl) Tryz.func98 [] [(.tmp 24,slV tl nl (kSl sl_ kU8) (l.drop (half l.length)))] 0 0),hR 8 rfl rfl (rCa (Xgj (3:UInt8) (Wo (l.take (half l.length))) (Wo (l.drop (half l.length))) (by first|assumption|omega|(unfold maxLen;omega)|(simp [maxLen,-List.getD_eq_getElem?_getD]<;>omega)|decide)) Tryz.func139 [] [(.const (.int .u8 3),dv (.int .u8 3)),(.tmp 21,dv (Ys (Wo (l.take (half l.length))))),(.tmp 25,dv (Ys (Wo (l.drop (half l.length)))))] 0 0)] ?_
    refine T.ret ?_
    exact eRt 2 (.one (dS (ofB (3:UInt8) [(Wo (l.take (half l.length))),(Wo (l.drop (half l.length)))]))) [] p2t trivial
theorem Xgg (tl:Bool) (nl:Bool) (sl_:Bool) (l:List (List UInt8)) (hf:Ig szL 40 600 l):Holds Tryz.prog 98 ⟨[slV tl nl (kSl sl_ kU8) l],[],dv (Ys (Wo l)),[]⟩:=X8t _ tl nl sl_ l hf rfl
theorem Iz:Tryz.prog.info? 168=some Tryz.t168:=by kernel_rfl
theorem Xdi:Wide Tryz.prog 168 (some 2):=⟨_,_,Tryz.underlying168,.inl ⟨_,rfl⟩,Iz,rfl⟩
theorem Xbw:Cells Tryz.prog 168 2:=⟨_,Iz,rfl⟩
section
variable (l:List Yn) (i:Nat) (ys:List Yn)
abbrev Z2r:AV:=Y7 0 (Xz false) 0 l.length
abbrev Z2t:DV:=.val (.bool (ys.getD (((l.length:Nat):Int)-1-((i:Nat):Int)).toNat Yx).J5)
abbrev Z2u:DV:=.val (Ys (ys.getD (((l.length:Nat):Int)-1-((i:Nat):Int)).toNat Yx).X6)
abbrev Z2v:AV:=vI ((i+1:Nat):Int)
end
theorem rev_Step (l:List Yn) (hl:l.length≤3000000):Holds Tryz.prog 149 ⟨[Y7 0 (Xz false) 0 l.length],[Xf 168 (Xz false) l],.tup [],[.live (Xf 168 (Xz false) l.reverse)]⟩:=by
 refine Holds.of Tryz.func149 rfl (N:=28) Tryz.ntmps149 rfl fun w0 B0 S0 U0=>?_
 show T _ (Y5 28 1 w0 S0 U0 B0) ⟨[(Z2r l)],[.live (Xf 168 (Xz false) l)]⟩ _ _
 refine sR [hR 2 rfl rfl (Yg (u1:=.int .i64 ((l.length:Nat):Int)) (u2:=.int .i64 1) (v:=.int .i64 (((l.length:Nat):Int)-1)) (Uu pb) (X3 rfl) ⟨rfl,trivial⟩)] (T.block ?_)
 refine T.loop (ι:=Nat×(List Yn)) (fun (x_:Nat×(List Yn))=>⟨[(Z2r l),aa,vI ((x_.1:Nat):Int),vI (((l.length:Nat):Int)-1-((x_.1:Nat):Int))],[.live (Xf 168 (Xz false) x_.2)]⟩) (fun (x_:Nat×(List Yn))=>(2*x_.1≤l.length)∧(revI Yx l x_.1 x_.2)) (fun (x_:Nat×(List Yn))=>l.length-x_.1) (0,l) ⟨(by omega),(rev_0 _ _)⟩ (fun _ _ hG=>Yp [0] (bm 4 13) (t2:=[(Z2r l),aa,vI 0,vI (((l.length:Nat):Int)-1)]) (congrArg (fun (q1:Int)=>([(Z2r l),aa,vI 0,vI q1]:List AV)) (show (((l.length:Nat):Int)-1-((0:Nat):Int):Int)=((l.length:Nat):Int)-1 from (by omega))) rfl hG) ?_
 rintro ⟨i,ys⟩ ⟨hi,hr⟩
 show T _ _ ⟨[(Z2r l),aa,vI ((i:Nat):Int),vI (((l.length:Nat):Int)-1-((i:Nat):Int))],[.live (Xf 168 (Xz false) ys)]⟩ _ _
 replace hi:2*i≤l.length:=hi
 replace hr:revI Yx l i ys:=hr
 have hy1:=hr.1
 refine T.seq (sR [] ?_)
 by_cases hq1:((i:Nat):Int)<(((l.length:Nat):Int)-1-((i:Nat):Int))
 ·refine cT (dT hq1) (T.skip (nT (T.seq (T.block ?_))))
  refine xD [[],[],[],[],[],[],[4,5],[4,5,6],[],[],[8,9],[8,9,10],[0,1,4,5,6,7,8,9,10,11],[0,1,4,5,6,7,8,9,10,11,12],[0,1,2,3,4,5,6,7,8,9,10,11,12,13],[0,1,2,3,4,5,6,7,8,9,10,11,12,13,14]] [hR 6 rfl rfl (Vk (k:=.i64) (l:=0) (sz:=(Xz false).sz) (off:=0) (n:=l.length) (i:=(((l.length:Nat):Int)-1-((i:Nat):Int))) (m:=(((l.length:Nat):Int)-1-((i:Nat):Int)).toNat) (o':=(((l.length:Nat):Int)-1-((i:Nat):Int)).toNat*(Xz false).sz+0) Tryz.underlying47 Iz rfl (by omega) (by omega) (by simp) (X3 rfl) trivial),hR 7 rfl rfl (X4p (l:=0) (off:=(((l.length:Nat):Int)-1-((i:Nat):Int)).toNat*(Xz false).sz+0) (i:=(((l.length:Nat):Int)-1-((i:Nat):Int)).toNat) (j:=0) (T:=168) (sz:=(Xz false).sz) (n:=ys.length) (el:=W6 (Xz false) ys) (ds:=[.d ((Z2t l i ys)),.d ((Z2u l i ys))]) Xdi rfl (by omega) (by decide) rfl (X3 rfl) trivial),hR 10 rfl rfl (Vk (k:=.i64) (l:=0) (sz:=(Xz false).sz) (off:=0) (n:=l.length) (i:=((i:Nat):Int)) (m:=i) (o':=i*(Xz false).sz+0) Tryz.underlying47 Iz rfl rfl (by omega) (by simp) (X3 rfl) trivial),hR 11 rfl rfl (X4p (l:=0) (off:=i*(Xz false).sz+0) (i:=i) (j:=0) (T:=168) (sz:=(Xz false).sz) (n:=ys.length) (el:=W6 (Xz false) ys) (ds:=[dB (ys.getD i Yx).J5,dS (ys.getD i Yx).X6]) Xdi rfl (by omega) (by decide) rfl (X3 rfl) trivial),hR 12 rfl rfl (Vk (k:=.i64) (l:=0) (sz:=(Xz false).sz) (off:=0) (n:=l.length) (i:=((i:Nat):Int)) (m:=i) (o':=i*(Xz false).sz+0) Tryz.underlying47 Iz rfl rfl (by omega) (by simp) (X3 rfl) trivial),hR 13 rfl rfl (F5 0 168 (Xz false) ys (ys.getD (((l.length:Nat):Int)-1-((i:Nat):Int)).toNat Yx) i 0 2 [(Z2t l i ys),(Z2u l i ys)] (tv:=.agg [.d ((Z2t l i ys)),.d ((Z2u l i ys))]) (off:=i*(Xz false).sz+0) Xbw (kk2 trivial) rfl rfl (by omega) (by decide) rfl (by intro j hj;replace hj:j<2:=hj;rcases j with _|_|j<;>rfl) trivial),hR 14 rfl rfl (Vk (k:=.i64) (l:=0) (sz:=(Xz false).sz) (off:=0) (n:=l.length) (i:=(((l.length:Nat):Int)-1-((i:Nat):Int))) (m:=(((l.length:Nat):Int)-1-((i:Nat):Int)).toNat) (o':=(((l.length:Nat):Int)-1-((i:Nat):Int)).toNat*(Xz false).sz+0) Tryz.underlying47 Iz rfl (by omega) (by omega) (by simp) (X3 rfl) trivial),hR 15 rfl rfl (F5 0 168 (Xz false) (ys.set i (ys.getD (((l.length:Nat):Int)-1-((i:Nat):Int)).toNat Yx)) (ys.getD i Yx) (((l.length:Nat):Int)-1-((i:Nat):Int)).toNat 0 2 [.val (.bool (ys.getD i Yx).J5),.val (Ys (ys.getD i Yx).X6)] (tv:=.agg [dB (ys.getD i Yx).J5,dS (ys.getD i Yx).X6]) (off:=(((l.length:Nat):Int)-1-((i:Nat):Int)).toNat*(Xz false).sz+0) Xbw (kk2 trivial) rfl rfl (by (simp [maxLen,-List.getD_eq_getElem?_getD]<;>omega)) (by decide) rfl (by intro j hj;replace hj:j<2:=hj;rcases j with _|_|j<;>rfl) trivial)] pZ8 pZ8 pZ8 pZ8 pZ8 pZ8 ?_
  refine nB (nT ?_)
  refine xR [hR 1 rfl rfl (Yg (u1:=.int .i64 ((i:Nat):Int)) (u2:=.int .i64 1) (v:=.int .i64 ((i+1:Nat):Int)) (W8 pb) (X3 rfl) ⟨rfl,trivial⟩),hR 3 rfl rfl (Yg (u1:=.int .i64 (((l.length:Nat):Int)-1-((i:Nat):Int))) (u2:=.int .i64 1) (v:=.int .i64 ((((l.length:Nat):Int)-1-((i:Nat):Int))-1)) (Uu pb) (X3 rfl) ⟨rfl,trivial⟩)] pZ8 pZ8 ?_
  refine nL (i+1,((ys.set i (ys.getD (((l.length:Nat):Int)-1-((i:Nat):Int)).toNat Yx)).set (((l.length:Nat):Int)-1-((i:Nat):Int)).toNat (ys.getD i Yx))) ⟨(show 2*(i+1)≤l.length from (by omega)),(show revI Yx l (i+1) ((ys.set i (ys.getD (((l.length:Nat):Int)-1-((i:Nat):Int)).toNat Yx)).set (((l.length:Nat):Int)-1-((i:Nat):Int)).toNat (ys.getD i Yx)) from (Xdy hr (by omega) (by omega)))⟩ (show (l.length-(i+1):Nat)<l.length-i from (by omega)) (fun _ _ hG=>Yp [0] (bm 4 13) (t2:=[(Z2r l),aa,(Z2v i),vI ((((l.length:Nat):Int)-1-((i:Nat):Int))-1)]) (congrArg (fun (q1:Int)=>([(Z2r l),aa,(Z2v i),vI q1]:List AV)) (by omega)) rfl hG)
 refine cF (dF hq1) (T.exit (xT (xT (xH ?_))))
 exact tE (.inr rfl) [] trivial [0] rfl rfl rfl rfl rfl rfl ⟨⟨rfl,(by have e1:(ys:List Yn)=l.reverse:=(by exact Xib hr (by omega));have hE:=congrArg (fun (q1:List Yn)=>(.live (Xf 168 (Xz false) q1):HS)) e1;exact Eq.trans pZ8 hE)⟩,trivial⟩
theorem Xjb:Cells Tryz.prog 4 1:=⟨_,X27,rfl⟩
section
variable (l:List Bool) (i:Nat) (ys:List Bool)
abbrev Z2y:DV:=.val (.bool (ys.getD (((l.length:Nat):Int)-1-((i:Nat):Int)).toNat false))
abbrev Z2z:AV:=vI ((i+1:Nat):Int)
end
theorem rev_bool (l:List Bool) (hl:l.length≤3000000):Holds Tryz.prog 169 ⟨[Y7 0 Y8 0 l.length],[Xf 4 Y8 l],.tup [],[.live (Xf 4 Y8 l.reverse)]⟩:=by
 refine Holds.of Tryz.func169 rfl (N:=28) Tryz.ntmps169 rfl fun w0 B0 S0 U0=>?_
 show T _ (Y5 28 1 w0 S0 U0 B0) ⟨[Y7 0 Y8 0 l.length],[.live (Xf 4 Y8 l)]⟩ _ _
 refine sR [hR 2 rfl rfl (Yg (u1:=.int .i64 ((l.length:Nat):Int)) (u2:=.int .i64 1) (v:=.int .i64 (((l.length:Nat):Int)-1)) (Uu pb) (X3 rfl) ⟨rfl,trivial⟩)] (T.block ?_)
 refine T.loop (ι:=Nat×(List Bool)) (fun (x_:Nat×(List Bool))=>⟨[Y7 0 Y8 0 l.length,aa,vI ((x_.1:Nat):Int),vI (((l.length:Nat):Int)-1-((x_.1:Nat):Int))],[.live (Xf 4 Y8 x_.2)]⟩) (fun (x_:Nat×(List Bool))=>(2*x_.1≤l.length)∧(revI false l x_.1 x_.2)) (fun (x_:Nat×(List Bool))=>l.length-x_.1) (0,l) ⟨(by omega),(rev_0 _ _)⟩ (fun _ _ hG=>Yp [0] (bm 4 13) (t2:=[Y7 0 Y8 0 l.length,aa,vI 0,vI (((l.length:Nat):Int)-1)]) (congrArg (fun (q1:Int)=>([Y7 0 Y8 0 l.length,aa,vI 0,vI q1]:List AV)) (show (((l.length:Nat):Int)-1-((0:Nat):Int):Int)=((l.length:Nat):Int)-1 from (by omega))) rfl hG) ?_
 rintro ⟨i,ys⟩ ⟨hi,hr⟩
 show T _ _ ⟨[Y7 0 Y8 0 l.length,aa,vI ((i:Nat):Int),vI (((l.length:Nat):Int)-1-((i:Nat):Int))],[.live (Xf 4 Y8 ys)]⟩ _ _
 replace hi:2*i≤l.length:=hi
 replace hr:revI false l i ys:=hr
 have hy1:=hr.1
 refine T.seq (sR [] ?_)
 by_cases hq1:((i:Nat):Int)<(((l.length:Nat):Int)-1-((i:Nat):Int))
 ·refine cT (dT hq1) (T.skip (nT (T.seq (T.block ?_))))
  refine xD [[],[],[],[],[],[],[4,5],[4,5,6],[],[],[8,9],[8,9,10],[0,1,4,5,6,7,8,9,10,11],[0,1,4,5,6,7,8,9,10,11,12],[0,1,2,3,4,5,6,7,8,9,10,11,12,13],[0,1,2,3,4,5,6,7,8,9,10,11,12,13,14]] [hR 6 rfl rfl (Vk (k:=.i64) (l:=0) (sz:=Y8.sz) (off:=0) (n:=l.length) (i:=(((l.length:Nat):Int)-1-((i:Nat):Int))) (m:=(((l.length:Nat):Int)-1-((i:Nat):Int)).toNat) (o':=(((l.length:Nat):Int)-1-((i:Nat):Int)).toNat*Y8.sz+0) Tryz.underlying192 X27 rfl (by omega) (by omega) (by simp) (X3 rfl) trivial),hR 7 rfl rfl (Ff (l:=0) (off:=(((l.length:Nat):Int)-1-((i:Nat):Int)).toNat*Y8.sz+0) (i:=(((l.length:Nat):Int)-1-((i:Nat):Int)).toNat) (j:=0) (T:=4) (sz:=Y8.sz) (n:=ys.length) (el:=W6 Y8 ys) (c:=(Z2y l i ys)) Xg2 rfl (by omega) (by decide) rfl (X3 rfl) trivial),hR 10 rfl rfl (Vk (k:=.i64) (l:=0) (sz:=Y8.sz) (off:=0) (n:=l.length) (i:=((i:Nat):Int)) (m:=i) (o':=i*Y8.sz+0) Tryz.underlying192 X27 rfl rfl (by omega) (by simp) (X3 rfl) trivial),hR 11 rfl rfl (Ff (l:=0) (off:=i*Y8.sz+0) (i:=i) (j:=0) (T:=4) (sz:=Y8.sz) (n:=ys.length) (el:=W6 Y8 ys) (c:=.val (.bool (ys.getD i false))) Xg2 rfl (by omega) (by decide) rfl (X3 rfl) trivial),hR 12 rfl rfl (Vk (k:=.i64) (l:=0) (sz:=Y8.sz) (off:=0) (n:=l.length) (i:=((i:Nat):Int)) (m:=i) (o':=i*Y8.sz+0) Tryz.underlying192 X27 rfl rfl (by omega) (by simp) (X3 rfl) trivial),hR 13 rfl rfl (F5 0 4 Y8 ys (ys.getD (((l.length:Nat):Int)-1-((i:Nat):Int)).toNat false) i 0 1 [(Z2y l i ys)] (tv:=.one (.d ((Z2y l i ys)))) (off:=i*Y8.sz+0) Xjb ⟨.inl rfl,trivial⟩ rfl rfl (by omega) (by decide) rfl (by intro j hj;replace hj:j<1:=hj;rcases j with _|j<;>first|rfl|omega) trivial),hR 14 rfl rfl (Vk (k:=.i64) (l:=0) (sz:=Y8.sz) (off:=0) (n:=l.length) (i:=(((l.length:Nat):Int)-1-((i:Nat):Int))) (m:=(((l.length:Nat):Int)-1-((i:Nat):Int)).toNat) (o':=(((l.length:Nat):Int)-1-((i:Nat):Int)).toNat*Y8.sz+0) Tryz.underlying192 X27 rfl (by omega) (by omega) (by simp) (X3 rfl) trivial),hR 15 rfl rfl (F5 0 4 Y8 (ys.set i (ys.getD (((l.length:Nat):Int)-1-((i:Nat):Int)).toNat false)) (ys.getD i false) (((l.length:Nat):Int)-1-((i:Nat):Int)).toNat 0 1 [.val (.bool (ys.getD i false))] (tv:=.one (dB (ys.getD i false))) (off:=(((l.length:Nat):Int)-1-((i:Nat):Int)).toNat*Y8.sz+0) Xjb ⟨.inl rfl,trivial⟩ rfl rfl (by (simp [maxLen,-List.getD_eq_getElem?_getD]<;>omega)) (by decide) rfl (by intro j hj;replace hj:j<1:=hj;rcases j with _|j<;>first|rfl|omega) trivial)] pZ8 pZ8 pZ8 pZ8 pZ8 pZ8 ?_
  refine nB (nT ?_)
  refine xR [hR 1 rfl rfl (Yg (u1:=.int .i64 ((i:Nat):Int)) (u2:=.int .i64 1) (v:=.int .i64 ((i+1:Nat):Int)) (W8 pb) (X3 rfl) ⟨rfl,trivial⟩),hR 3 rfl rfl (Yg (u1:=.int .i64 (((l.length:Nat):Int)-1-((i:Nat):Int))) (u2:=.int .i64 1) (v:=.int .i64 ((((l.length:Nat):Int)-1-((i:Nat):Int))-1)) (Uu pb) (X3 rfl) ⟨rfl,trivial⟩)] pZ8 pZ8 ?_
  refine nL (i+1,((ys.set i (ys.getD (((l.length:Nat):Int)-1-((i:Nat):Int)).toNat false)).set (((l.length:Nat):Int)-1-((i:Nat):Int)).toNat (ys.getD i false))) ⟨(show 2*(i+1)≤l.length from (by omega)),(show revI false l (i+1) ((ys.set i (ys.getD (((l.length:Nat):Int)-1-((i:Nat):Int)).toNat false)).set (((l.length:Nat):Int)-1-((i:Nat):Int)).toNat (ys.getD i false)) from (Xdy hr (by omega) (by omega)))⟩ (show (l.length-(i+1):Nat)<l.length-i from (by omega)) (fun _ _ hG=>Yp [0] (bm 4 13) (t2:=[Y7 0 Y8 0 l.length,aa,(Z2z i),vI ((((l.length:Nat):Int)-1-((i:Nat):Int))-1)]) (congrArg (fun (q1:Int)=>([Y7 0 Y8 0 l.length,aa,(Z2z i),vI q1]:List AV)) (by omega)) rfl hG)
 refine cF (dF hq1) (T.exit (xT (xT (xH ?_))))
 exact tE (.inr rfl) [] trivial [0] rfl rfl rfl rfl rfl rfl ⟨⟨rfl,(by have e1:(ys:List Bool)=l.reverse:=(by exact Xib hr (by omega));have hE:=congrArg (fun (q1:List Bool)=>(.live (Xf 4 Y8 q1):HS)) e1;exact Eq.trans pZ8 hE)⟩,trivial⟩
theorem Xde:Zero Tryz.prog 168 [.bool false,Ys []]:=⟨_,_,Iz,rfl,rfl⟩
theorem iat_60:Tryz.prog.info? 60=some Tryz.t60:=by kernel_rfl
theorem Xj6:Elem Tryz.prog 47 168 2 24:=⟨Tryz.underlying47,_,_,Iz,rfl,rfl,rfl,rfl,by decide⟩
section
variable (tl:Bool) (nl:Bool) (sl_:Bool) (l:List (List UInt8)) (i:Int) (X:List (List UInt8)) (j:Nat) (Dn:List Yn)
abbrev Z32:St:=⟨[slV tl nl (kSl sl_ kU8) l,vI i,aa,aa,dv (.slice none 0 0),vI 2,aa,aa,aa,aa,aa,aa,aa,aa,aa,vB true],[]⟩
abbrev Z33:AV:=slV false false (Xz false) ([]:List Yn)
abbrev Z34:AV:=vB (decide (i≥((l.length:Nat):Int)))
abbrev Z35:St:=⟨[slV tl nl (kSl sl_ kU8) l,vI i,aa,aa,dv (.slice none 0 0),vI 2,aa,aa,aa,aa,aa,aa,aa,aa,aa,(Z34 l i)],[]⟩
abbrev Z36:List HS:=[.live (Xf 168 (Xz false) ([]:List Yn))]
abbrev Z37:AV:=vI ((j:Nat):Int)
abbrev Z38:=(Yn.mk false (Wo (X.drop (half X.length))))
abbrev Z39:=(Yn.mk true (Wo (X.take (half X.length))))
abbrev Z3a:AV:=vB (decide (((X.length:Nat):Int)>1))
abbrev Z3b:List AV:=[slV tl nl (kSl sl_ kU8) X,(Z37 j),aa,aa,aa,aa,Y7 0 (Xz false) 0 Dn.length,aa,aa,aa,aa,aa,aa,aa,aa,aa,aa,aa,(Z3a X)]
abbrev Z3c:List HS:=[.live (Xf 168 (Xz false) Dn.reverse)]
abbrev Z3d:AV:=Y7 0 (Xz false) 0 Dn.reverse.length
abbrev Z3e:List AV:=[slV tl nl (kSl sl_ kU8) X,(Z37 j),aa,aa,aa,aa,(Z3d Dn),aa,aa,aa,aa,aa,aa,aa,aa,aa,aa,aa,(Z3a X)]
abbrev Z3f:List AV:=[slV tl nl (kSl sl_ kU8) X,(Z37 j),aa,aa,(Z3d Dn),vI 0,(Z3d Dn),aa,aa,aa,aa,aa,aa,aa,aa,aa,aa,aa,(Z3a X)]
end
theorem Xeo (tl:Bool) (nl:Bool) (sl_:Bool) (l:List (List UInt8)) (i:Int) (hf:Ig szL 40 600 l):Holds Tryz.prog 111 ⟨[slV tl nl (kSl sl_ kU8) l,vI i],[],.tup [.one (.d (dsl false false (Xz false) (X03 l i))),.one (dI (X4t l i))],[]⟩:=by
 refine Holds.of Tryz.func111 rfl (N:=53) Tryz.ntmps111 rfl fun w0 B0 S0 U0=>?_
 show T _ (Y5 53 0 w0 S0 U0 B0) ⟨[slV tl nl (kSl sl_ kU8) l,vI i],[]⟩ _ _
 have hl40:=hf.1
 refine sR [] (T.seq ?_)
 by_cases hq1:i<0
 ·refine sR (Xr (hN · false (dT hq1)) [3,4,5,6] (hP 7 (dT hq1)::[])) (cT (b:=true) rfl (sR [] (T.ret (rT ?_))))
  refine eN (Z32 tl nl sl_ l i) ?_
  refine X8 (s':=⟨[slV tl nl (kSl sl_ kU8) l,vI i,aa,aa,Z33,vI 2,aa,aa,aa,aa,aa,aa,aa,aa,aa,vB true],[]⟩) (fun _ _ hG=>Ym (s:=(Z32 tl nl sl_ l i)) (kk4 ⟨pq,⟨.inl rfl,(kk2 (kk8 trivial))⟩⟩) trivial hG) ?_
  exact eX [.t 4 (.one (.d (dsl false false (Xz false) ([]:List Yn)))),.t 5 (.one (dI 2))] ⟨⟨rfl,by kernel_rfl⟩,⟨⟨rfl,by kernel_rfl⟩,trivial⟩⟩ [] pZ21 trivial
 refine sR (Xr (hY · (dF hq1)) [3,4,5,6] (hP 7 (dF hq1)::[])) ?_
 by_cases hq2:i≥((l.length:Nat):Int)
 ·refine cT (dT hq2) (sR [] (T.ret (rT ?_)))
  refine eN (Z35 tl nl sl_ l i) ?_
  refine X8 (s':=⟨[slV tl nl (kSl sl_ kU8) l,vI i,aa,aa,Z33,vI 2,aa,aa,aa,aa,aa,aa,aa,aa,aa,(Z34 l i)],[]⟩) (fun _ _ hG=>Ym (s:=(Z35 tl nl sl_ l i)) (kk4 ⟨pq,⟨.inl rfl,(kk2 (kk8 trivial))⟩⟩) trivial hG) ?_
  exact eX [.t 4 (.one (.d (dsl false false (Xz false) ([]:List Yn)))),.t 5 (.one (dI 2))] ⟨⟨rfl,by kernel_rfl⟩,⟨⟨rfl,by kernel_rfl⟩,trivial⟩⟩ [] pZ21 trivial
 refine cF (dF hq2) (T.skip (nT (sR [] (T.seq (T.block ?_)))))
 refine tN ⟨[slV tl nl (kSl sl_ kU8) l,vI i,aa,aa,dv (.slice none 0 0),vI 0,dv (.slice none 0 0),aa,aa,aa,aa,aa,aa,aa,aa,(Z34 l i)],[]⟩ ?_
 refine Wr (s':=⟨[slV tl nl (kSl sl_ kU8) l,vI i,aa,aa,dv (.slice none 0 0),vI 0,Y7 0 (Xz false) 0 0,aa,aa,aa,aa,aa,aa,aa,aa,(Z34 l i)],Z36⟩) (fun _ _ hG=>Vz 0 6 168 (Xz false) rfl rfl hG) ?_
 refine T.loop (ι:=(List (List UInt8))×Nat×(List Yn)) (fun (x_:(List (List UInt8))×Nat×(List Yn))=>⟨[slV tl nl (kSl sl_ kU8) x_.1,vI ((x_.2.1:Nat):Int),aa,aa,aa,aa,Y7 0 (Xz false) 0 x_.2.2.length],[.live (Xf 168 (Xz false) x_.2.2)]⟩) (fun (x_:(List (List UInt8))×Nat×(List Yn))=>(Ig szL 40 600 x_.1)∧(x_.2.1<x_.1.length)∧(U4 l i.toNat=U4 x_.1 x_.2.1++x_.2.2.reverse)∧(x_.2.2.length+x_.1.length≤l.length)) (fun (x_:(List (List UInt8))×Nat×(List Yn))=>x_.1.length) (l,i.toNat,([]:List Yn)) ⟨(show Ig szL 40 600 l from hf),(show i.toNat<l.length from (by omega)),(show U4 l i.toNat=U4 l i.toNat++([]:List Yn).reverse from (by simp)),(show ([]:List Yn).length+l.length≤l.length from (by simp))⟩ (fun _ _ hG=>Yp [0] (bm 7 67) (t2:=[slV tl nl (kSl sl_ kU8) l,vI i,aa,aa,aa,aa,Y7 0 (Xz false) 0 0]) (cg2 (fun (q1:Int) (q2:Nat)=>([slV tl nl (kSl sl_ kU8) l,vI q1,aa,aa,aa,aa,Y7 0 (Xz false) 0 q2]:List AV)) (show (((i.toNat:Nat):Int):Int)=i from (by omega)) (by rfl)) rfl hG) ?_
 rintro ⟨X,j,Dn⟩ ⟨hX,hj,he,hD⟩
 show T _ _ ⟨[slV tl nl (kSl sl_ kU8) X,(Z37 j),aa,aa,aa,aa,Y7 0 (Xz false) 0 Dn.length],[.live (Xf 168 (Xz false) Dn)]⟩ _ _
 replace hX:Ig szL 40 600 X:=hX
 replace hj:j<X.length:=hj
 replace he:U4 l i.toNat=U4 X j++Dn.reverse:=he
 replace hD:Dn.length+X.length≤l.length:=hD
 have hl40:=hf.1
 refine T.seq (sR [] ?_)
 by_cases hq3:((X.length:Nat):Int)>1
 ·have h2x:2≤X.length:=(by omega);have hhl:=Ie h2x;have hhp:=Jn X.length;have hfa:=J2 (H5 hX (half X.length));have hfb:=J2 (If hX (half X.length))
  refine cT (dT hq3) (T.skip (nT (T.block (sR [hR 2 rfl rfl (rCa (X0s X.length ‹_› (by omega)) Tryz.func148 [] [(.tmp 20,vI ((X.length:Nat):Int))] 0 0)] (sR [] ?_)))))
  by_cases hq4:((j:Nat):Int)<((half X.length:Nat):Int)
  ·refine cT (dT hq4) ?_
   refine sR [hR 3 rfl rfl (Uz tl nl (kSl sl_ kU8) X (X.drop (half X.length)) (half X.length) X.length (lo:=some (.tmp 27,((half X.length:Nat):Int))) (hi:=none) Tryz.underlying136 U9 rfl rfl rfl rfl rfl (by omega) (by omega) I7 (X3 rfl) trivial),hR 4 rfl rfl (rCa (X21 tl nl sl_ (X.drop (half X.length)) (by exact If ‹_› _)) Tryz.func110 [] [(.tmp 28,slV tl nl (kSl sl_ kU8) (X.drop (half X.length)))] 0 0),hR 6 rfl rfl (Ye 1 168 (Xz false) (Hy false) [(Yn.mk false (Wo (X.drop (half X.length))))] [⟨0,.tmp 30,.agg [dB false,dS (Wo (X.drop (half X.length)))],0⟩] (cs:=[dB false,dS (Wo (X.drop (half X.length)))]) Tryz.underlying47 Iz rfl Xde rfl rfl rfl pd (Yq rfl rfl pd W5) pZ8 (V6 pZ8) (X3 rfl) trivial),hR 7 rfl rfl (W0 0 2 168 24 (Xz false) (Hy false) Dn [(Yn.mk false (Wo (X.drop (half X.length))))] (Dn++[(Yn.mk false (Wo (X.drop (half X.length))))]) Dn.length (sy:=(.own 1 (Xz false).sz 0 [(Z38 X)].length)) (rhs:=[(1,.live (Xf 168 (Xz false) [(Z38 X)]))]) Xj6 (by omega) (V0 1 168 (Xz false) [(Yn.mk false (Wo (X.drop (half X.length))))]) I7 (by (simp [maxLen,-List.getD_eq_getElem?_getD]<;>omega)) (by (simp [maxLen,-List.getD_eq_getElem?_getD]<;>omega)) (X3 rfl) trivial)] ?_
   refine xK [hR 2 rfl rfl (Uz tl nl (kSl sl_ kU8) X (X.take (half X.length)) 0 (half X.length) (lo:=none) (hi:=some (.tmp 34,((half X.length:Nat):Int))) Tryz.underlying136 U9 rfl rfl rfl rfl rfl (by omega) (by omega) rfl (X3 rfl) trivial)] (nB ?_)
   refine nL ((X.take (half X.length)),j,Dn++[(Yn.mk false (Wo (X.drop (half X.length))))]) ⟨(show Ig szL 40 600 (X.take (half X.length)) from (by exact H5 hX _)),(show j<(X.take (half X.length)).length from (by (simp only [List.length_take];omega))),(show U4 l i.toNat=U4 (X.take (half X.length)) j++(Dn++[(Yn.mk false (Wo (X.drop (half X.length))))]).reverse from (by exact Xgt he h2x (by omega))),(show (Dn++[(Yn.mk false (Wo (X.drop (half X.length))))]).length+(X.take (half X.length)).length≤l.length from p4g)⟩ (show ((X.take (half X.length)).length:Nat)<X.length from (by simp only [List.length_take,List.length_drop];omega)) (fun _ _ hG=>Wi [2] (bm 7 67) (t1:=[slV tl nl (kSl sl_ kU8) (X.take (half X.length)),(Z37 j),aa,aa,aa,aa,Y7 2 (Xz false) 0 (Dn++[(Z38 X)]).length]) (h1:=[.live (Xf 168 (Xz false) (Dn++[(Z38 X)]))]) rfl rfl hG)
  refine cF (dF hq4) ?_
  refine sR [hR 3 rfl rfl (Uz tl nl (kSl sl_ kU8) X (X.take (half X.length)) 0 (half X.length) (lo:=none) (hi:=some (.tmp 38,((half X.length:Nat):Int))) Tryz.underlying136 U9 rfl rfl rfl rfl rfl (by omega) (by omega) rfl (X3 rfl) trivial),hR 4 rfl rfl (rCa (X21 tl nl sl_ (X.take (half X.length)) (by exact H5 ‹_› _)) Tryz.func110 [] [(.tmp 39,slV tl nl (kSl sl_ kU8) (X.take (half X.length)))] 0 0),hR 6 rfl rfl (Ye 1 168 (Xz false) (Hy false) [(Yn.mk true (Wo (X.take (half X.length))))] [⟨0,.tmp 41,.agg [dB true,dS (Wo (X.take (half X.length)))],0⟩] (cs:=[dB true,dS (Wo (X.take (half X.length)))]) Tryz.underlying47 Iz rfl Xde rfl rfl rfl pd (Yq rfl rfl pd W5) pZ8 (V6 pZ8) (X3 rfl) trivial),hR 7 rfl rfl (W0 0 2 168 24 (Xz false) (Hy false) Dn [(Yn.mk true (Wo (X.take (half X.length))))] (Dn++[(Yn.mk true (Wo (X.take (half X.length))))]) Dn.length (sy:=(.own 1 (Xz false).sz 0 [(Z39 X)].length)) (rhs:=[(1,.live (Xf 168 (Xz false) [(Z39 X)]))]) Xj6 (by omega) (V0 1 168 (Xz false) [(Yn.mk true (Wo (X.take (half X.length))))]) I7 (by (simp [maxLen,-List.getD_eq_getElem?_getD]<;>omega)) (by (simp [maxLen,-List.getD_eq_getElem?_getD]<;>omega)) (X3 rfl) trivial)] ?_
  refine xR [hR 2 rfl rfl (Uz tl nl (kSl sl_ kU8) X (X.drop (half X.length)) (half X.length) X.length (lo:=some (.tmp 45,((half X.length:Nat):Int))) (hi:=none) Tryz.underlying136 U9 rfl rfl rfl rfl rfl (by omega) (by omega) I7 (X3 rfl) trivial),hR 5 rfl rfl (Yg (u1:=.int .i64 ((j:Nat):Int)) (u2:=.int .i64 ((half X.length:Nat):Int)) (v:=.int .i64 ((j-(half X.length):Nat):Int)) (Uu pb) (X3 rfl) trivial)] pZ8 pZ8 (nB ?_)
  refine nL ((X.drop (half X.length)),j-(half X.length),Dn++[(Yn.mk true (Wo (X.take (half X.length))))]) ⟨(show Ig szL 40 600 (X.drop (half X.length)) from (by exact If hX _)),(show (j-(half X.length))<(X.drop (half X.length)).length from (by (simp only [List.length_drop];omega))),(show U4 l i.toNat=U4 (X.drop (half X.length)) (j-(half X.length))++(Dn++[(Yn.mk true (Wo (X.take (half X.length))))]).reverse from (by exact Xgs he h2x (by omega))),(show (Dn++[(Yn.mk true (Wo (X.take (half X.length))))]).length+(X.drop (half X.length)).length≤l.length from p4g)⟩ (show ((X.drop (half X.length)).length:Nat)<X.length from (by simp only [List.length_take,List.length_drop];omega)) (fun _ _ hG=>Wi [2] (bm 7 67) (t1:=[slV tl nl (kSl sl_ kU8) (X.drop (half X.length)),vI ((j-(half X.length):Nat):Int),aa,aa,aa,aa,Y7 2 (Xz false) 0 (Dn++[(Z39 X)]).length]) (h1:=[.live (Xf 168 (Xz false) (Dn++[(Z39 X)]))]) rfl rfl hG)
 refine cF (dF hq3) (T.exit (xT (xT (xH (nT (sR [hR 1 rfl rfl (rCa (rev_Step Dn (by omega)) Tryz.func149 [0] [(.tmp 50,Y7 0 (Xz false) 0 Dn.length)] 1 1)] ?_))))))
 refine tN ⟨(Z3b tl nl sl_ X j Dn),(Z3c Dn)⟩ ?_
 refine Wr (s':=⟨(Z3e tl nl sl_ X j Dn),(Z3c Dn)⟩) (fun _ _ hG=>Yp [0] (bm 19 262211) (t2:=(Z3b tl nl sl_ X j Dn)) (by have e1:(Dn.reverse.length:Nat)=Dn.length:=(by simp only [List.length_set,List.length_reverse]);have hE:=congrArg (fun (q1:Nat)=>([slV tl nl (kSl sl_ kU8) X,(Z37 j),aa,aa,aa,aa,Y7 0 (Xz false) 0 q1,aa,aa,aa,aa,aa,aa,aa,aa,aa,aa,aa,(Z3a X)]:List AV)) e1;exact hE) rfl hG) (sR [] (T.ret ?_))
 refine eN ⟨(Z3f tl nl sl_ X j Dn),(Z3c Dn)⟩ ?_
 refine X8 (s':=⟨[slV tl nl (kSl sl_ kU8) X,(Z37 j),aa,aa,slV false false (Xz false) Dn.reverse,vI 0,slV false false (Xz false) Dn.reverse,aa,aa,aa,aa,aa,aa,aa,aa,aa,aa,aa,(Z3a X)],[.dead]⟩) (fun _ _ hG=>Gs.freeze (s:=⟨(Z3f tl nl sl_ X j Dn),(Z3c Dn)⟩) 0 (el:=W6 (Xz false) Dn.reverse) (sz:=(Xz false).sz) (n:=Dn.reverse.length) rfl (kk4 ⟨(.inr pZ2),⟨.inl rfl,⟨(.inr pZ2),p3f⟩⟩⟩) ⟨(.inl ⟨rfl,rfl⟩),trivial⟩ hG) ?_
 exact eX [.t 4 (.one (.d (dsl false false (Xz false) Dn.reverse))),.t 5 (.one (dI 0))] ⟨⟨rfl,by kernel_rfl⟩,⟨⟨rfl,by kernel_rfl⟩,trivial⟩⟩ [] (by have e1:((X03 l i):List Yn)=Dn.reverse:=(by (have ho:okI l i:=(by simp only [okI];omega);(rw [X03,if_pos ho,← path_end he (by omega)])));have e2:((X4t l i):Int)=0:=(by (have ho:okI l i:=(by simp only [okI];omega);(rw [X4t,if_pos ho])));have hE:=congr p1a e2;exact hE) trivial
section
variable (tl:Bool) (nl:Bool) (sl_:Bool) (l:List (List UInt8)) (i:Int)
end
theorem zero_4:Zero Tryz.prog 4 [.bool false]:=⟨_,_,X27,rfl,rfl⟩
theorem Xff:Elem Tryz.prog 192 4 1 1:=⟨Tryz.underlying192,_,_,X27,rfl,rfl,rfl,rfl,by decide⟩
section
variable (i:Int) (n:Int) (j:Nat) (m:Nat) (Dn:List Bool)
abbrev Z3q:AV:=vI ((j:Nat):Int)
abbrev Z3r:AV:=vI ((m:Nat):Int)
abbrev Z3s:AV:=vB (decide (((m:Nat):Int)<2))
abbrev Z3t:List AV:=[(Z3q j),(Z3r m),aa,aa,Y7 0 Y8 0 Dn.reverse.length,aa,aa,aa,(Z3s m)]
end
theorem Xcs (i:Int) (n:Int) (hi:0≤i∧i<n) (hn:n≤9223372036854775807):Holds Tryz.prog 141 ⟨[vI i,vI n],[],Y7 0 Y8 0 (Wc i.toNat n.toNat).length,[.live (Xf 4 Y8 (Wc i.toNat n.toNat))]⟩:=by
 refine Holds.of Tryz.func141 rfl (N:=31) Tryz.ntmps141 rfl fun w0 B0 S0 U0=>?_
 show T _ (Y5 31 0 w0 S0 U0 B0) ⟨[vI i,vI n],[]⟩ _ _
 refine sR [] (Xfy (T.seq ?_))
 refine T.label (nT (T.seq (T.block ?_)))
 refine tN ⟨[vI i,vI n,aa,aa,dv (.slice none 0 0)],[]⟩ ?_
 refine Wr (s':=⟨[vI i,vI n,aa,aa,Y7 0 Y8 0 0],[.live (Xf 4 Y8 ([]:List Bool))]⟩) (fun _ _ hG=>Vz 0 4 4 Y8 rfl rfl hG) ?_
 refine T.loop (ι:=Nat×Nat×(List Bool)) (fun (x_:Nat×Nat×(List Bool))=>⟨[vI ((x_.1:Nat):Int),vI ((x_.2.1:Nat):Int),aa,aa,Y7 0 Y8 0 x_.2.2.length],[.live (Xf 4 Y8 x_.2.2)]⟩) (fun (x_:Nat×Nat×(List Bool))=>(x_.2.1≤9223372036854775807)∧(x_.1<x_.2.1)∧(Wc i.toNat n.toNat=Wc x_.1 x_.2.1++x_.2.2.reverse)) (fun (x_:Nat×Nat×(List Bool))=>x_.2.1) (i.toNat,n.toNat,([]:List Bool)) ⟨(show n.toNat≤9223372036854775807 from (by omega)),(show i.toNat<n.toNat from (by omega)),(show Wc i.toNat n.toNat=Wc i.toNat n.toNat++([]:List Bool).reverse from (by simp))⟩ (fun _ _ hG=>Yp [0] (bm 5 19) (t2:=[vI i,vI n,aa,aa,Y7 0 Y8 0 0]) (cg3 (fun (q1:Int) (q2:Int) (q3:Nat)=>([vI q1,vI q2,aa,aa,Y7 0 Y8 0 q3]:List AV)) (show (((i.toNat:Nat):Int):Int)=i from (by omega)) (show (((n.toNat:Nat):Int):Int)=n from (by omega)) (by rfl)) rfl hG) ?_
 rintro ⟨j,m,Dn⟩ ⟨hm,hj,he⟩
 show T _ _ ⟨[(Z3q j),(Z3r m),aa,aa,Y7 0 Y8 0 Dn.length],[.live (Xf 4 Y8 Dn)]⟩ _ _
 replace hm:m≤9223372036854775807:=hm
 replace hj:j<m:=hj
 replace he:Wc i.toNat n.toNat=Wc j m++Dn.reverse:=he
 have hDl:=sides_D he
 refine T.block (T.seq (sR [] ?_))
 by_cases hq1:((m:Nat):Int)<2
 ·refine cT (dT hq1) (T.exit (xT (xM rfl (xT (xH (nT (sR [hR 1 rfl rfl (rCa (rev_bool Dn (by omega)) Tryz.func169 [0] [(.tmp 28,Y7 0 Y8 0 Dn.length)] 1 1)] ?_)))))))
  refine tN ⟨[(Z3q j),(Z3r m),aa,aa,Y7 0 Y8 0 Dn.length,aa,aa,aa,(Z3s m)],[.live (Xf 4 Y8 Dn.reverse)]⟩ ?_
  refine Wr (s':=⟨(Z3t j m Dn),[.live (Xf 4 Y8 Dn.reverse)]⟩) (fun _ _ hG=>Yp [0] (bm 9 275) (t2:=[(Z3q j),(Z3r m),aa,aa,Y7 0 Y8 0 Dn.length,aa,aa,aa,(Z3s m)]) (by have e1:(Dn.reverse.length:Nat)=Dn.length:=(by simp only [List.length_set,List.length_reverse]);have hE:=congrArg (fun (q1:Nat)=>([(Z3q j),(Z3r m),aa,aa,Y7 0 Y8 0 q1,aa,aa,aa,(Z3s m)]:List AV)) e1;exact hE) rfl hG) (sR [] (T.ret (rS ?_)))
  exact eRt 4 (.one (.own 0 Y8.sz 0 Dn.reverse.length)) [0] (by have e1:((Wc i.toNat n.toNat).length:Nat)=Dn.reverse.length:=(by (rw [← Xb3 he (by omega)]));have hE:=congrArg (fun (q1:Nat)=>(Y7 0 Y8 0 q1:AV)) e1;exact hE) ⟨⟨rfl,(by have e1:(Dn.reverse:List Bool)=(Wc i.toNat n.toNat):=(by exact Xb3 he (by omega));have hE:=congrArg (fun (q1:List Bool)=>(.live (Xf 4 Y8 q1):HS)) e1;exact Eq.trans pZ8 hE)⟩,trivial⟩
 have h2m:2≤m:=(by omega);have hhl:=Ie h2m;have hhp:=Jn m
 refine cF (dF hq1) (T.skip (nT (sR [hR 1 rfl rfl (rCa (X0s m ‹_› ‹_›) Tryz.func148 [] [(.tmp 9,(Z3r m))] 0 0)] (T.seq (sR [] (sR [] ?_))))))
 by_cases hq2:((j:Nat):Int)≥((half m:Nat):Int)
 ·refine cT (dT hq2) ?_
  refine sR [hR 1 rfl rfl (Ye 1 4 Y8 X4z [true] [⟨0,.const (.bool true),.one (dB true),0⟩] (cs:=[dB true]) Tryz.underlying192 X27 rfl zero_4 rfl rfl rfl pd (Yq rfl rfl pd W5) pZ8 (V6 pZ8) (X3 rfl) ⟨rfl,trivial⟩),hR 2 rfl rfl (W0 0 2 4 1 Y8 X4z Dn [true] (Dn++[true]) Dn.length (sy:=(.own 1 Y8.sz 0 [true].length)) (rhs:=[(1,.live (Xf 4 Y8 [true]))]) Xff (by omega) (V0 1 4 Y8 [true]) I7 (by (simp [maxLen,-List.getD_eq_getElem?_getD]<;>omega)) (by (simp [maxLen,-List.getD_eq_getElem?_getD]<;>omega)) (X3 rfl) trivial)] ?_
  refine sR [hR 2 rfl rfl (Yg (u1:=.int .i64 ((j:Nat):Int)) (u2:=.int .i64 ((half m:Nat):Int)) (v:=.int .i64 ((j-(half m):Nat):Int)) (Uu pb) (X3 rfl) trivial),hR 5 rfl rfl (Yg (u1:=.int .i64 ((m:Nat):Int)) (u2:=.int .i64 ((half m:Nat):Int)) (v:=.int .i64 ((m-(half m):Nat):Int)) (Uu pb) (X3 rfl) trivial)] (T.exit (xT (xH ?_)))
  refine nL (j-(half m),m-(half m),Dn++[true]) ⟨(show (m-(half m))≤9223372036854775807 from (by omega)),(show (j-(half m))<(m-(half m)) from (by omega)),(show Wc i.toNat n.toNat=Wc (j-(half m)) (m-(half m))++(Dn++[true]).reverse from (by exact Xdp he h2m hm (by omega)))⟩ (show ((m-(half m)):Nat)<m from (by omega)) (fun _ _ hG=>Wi [2] (bm 5 19) (t1:=[vI ((j-(half m):Nat):Int),vI ((m-(half m):Nat):Int),aa,aa,Y7 2 Y8 0 (Dn++[true]).length]) (h1:=[.live (Xf 4 Y8 (Dn++[true]))]) rfl rfl hG)
 refine cF (dF hq2) (T.skip (nT ?_))
 refine sR [hR 1 rfl rfl (Ye 1 4 Y8 X4z [false] [⟨0,.const (.bool false),.one (dB false),0⟩] (cs:=[dB false]) Tryz.underlying192 X27 rfl zero_4 rfl rfl rfl pd (Yq rfl rfl pd W5) pZ8 (V6 pZ8) (X3 rfl) ⟨rfl,trivial⟩),hR 2 rfl rfl (W0 0 2 4 1 Y8 X4z Dn [false] (Dn++[false]) Dn.length (sy:=(.own 1 Y8.sz 0 [false].length)) (rhs:=[(1,.live (Xf 4 Y8 [false]))]) Xff (by omega) (V0 1 4 Y8 [false]) I7 (by (simp [maxLen,-List.getD_eq_getElem?_getD]<;>omega)) (by (simp [maxLen,-List.getD_eq_getElem?_getD]<;>omega)) (X3 rfl) trivial)] ?_
 refine xK [] (nB ?_)
 refine nL (j,half m,Dn++[false]) ⟨(show (half m)≤9223372036854775807 from (by omega)),(show j<(half m) from (by omega)),(show Wc i.toNat n.toNat=Wc j (half m)++(Dn++[false]).reverse from (by exact Xdq he h2m hm (by omega)))⟩ (show ((half m):Nat)<m from (by omega)) (fun _ _ hG=>Wi [2] (bm 5 19) (t1:=[(Z3q j),vI ((half m:Nat):Int),aa,aa,Y7 2 Y8 0 (Dn++[false]).length]) (h1:=[.live (Xf 4 Y8 (Dn++[false]))]) rfl rfl hG)
theorem X2m:Wide Tryz.prog 60 none:=⟨_,Tryz.underlying60,(fun _ h=>by cases h),(fun _ _ h=>by cases h)⟩
section
variable (root:List UInt8) (tleaf:Bool) (nleaf:Bool) (leaf:List UInt8) (i:Int) (n:Int) (tp:Bool) (np:Bool) (p:List Yn) (k:Nat)
abbrev Z3w:AV:=slV tp np (Xz false) p
abbrev Z3x:AV:=Y7 0 Y8 0 (Wc i.toNat n.toNat).length
abbrev Z3y:AV:=vI ((p.length:Nat):Int)
abbrev Z3z:List HS:=[.live (Xf 4 Y8 (Wc i.toNat n.toNat))]
abbrev Z40:St:=⟨[dv (Ys root),slV tleaf nleaf kU8 leaf,vI i,vI n,(Z3w tp np p),aa,aa,aa,aa,aa,aa,(Z3x i n),dv (Ys (climb (ofB 2 [leaf]) (p.take k))),aa,aa,aa,aa,aa,aa,aa,aa,aa,aa,aa,aa,aa,aa,aa,aa,aa,aa,aa,(Z3w tp np p),(Z3y p),vI ((k:Nat):Int)],(Z3z i n)⟩
abbrev Z42:AV:=vI ((k+1:Nat):Int)
end
theorem Xct (root:List UInt8) (tleaf:Bool) (nleaf:Bool) (leaf:List UInt8) (i:Int) (n:Int) (tp:Bool) (np:Bool) (p:List Yn) (hp:Ig szS 70 30000 p) (hl:leaf.length≤600) (hn:n≤9223372036854775807):Holds Tryz.prog 100 ⟨[dv (Ys root),slV tleaf nleaf kU8 leaf,vI i,vI n,slV tp np (Xz false) p],[],vI (Ia root leaf i n p),[]⟩:=by
 refine Holds.of Tryz.func100 rfl (N:=62) Tryz.ntmps100 rfl fun w0 B0 S0 U0=>?_
 show T _ (Y5 62 0 w0 S0 U0 B0) ⟨[dv (Ys root),slV tleaf nleaf kU8 leaf,vI i,vI n,(Z3w tp np p)],[]⟩ _ _
 have hp70:=hp.1
 refine sR [] (T.seq ?_)
 by_cases hq1:i<0
 ·refine sR (Xr (hN · false (dT hq1)) [3,4,5] (hP 6 (dT hq1)::[])) (cT (b:=true) rfl (sR [] (T.ret (rT ?_))))
  exact eRt 10 (.one (dI 2)) [] (cI (by exact Xbt (by omega))) trivial
 refine sR (Xr (hY · (dF hq1)) [3,4,5] (hP 6 (dF hq1)::[])) ?_
 by_cases hq2:i≥n
 ·refine cT (dT hq2) (sR [] (T.ret (rT ?_)))
  exact eRt 10 (.one (dI 2)) [] (cI (by exact Xbt (by omega))) trivial
 refine cF (dF hq2) (T.skip (nT (sR [hR 2 rfl rfl (rCa (Xcs i n (by omega) ‹_›) Tryz.func141 [0] [(.tmp 22,vI i),(.tmp 23,vI n)] 0 1)] (T.seq (sR [] ?_)))))
 by_cases hq3:(((Wc i.toNat n.toNat).length:Nat):Int)≠((p.length:Nat):Int)
 ·refine cT (dT hq3) (sR [] (T.ret (rT ?_)))
  exact eRt 10 (.one (dI 90)) [] (cI (by exact chk_len (by omega) (by omega))) trivial
 refine cF (dF hq3) (T.skip (nT (sR [hR 1 rfl rfl (rCa (X5o (2:UInt8) tleaf nleaf leaf (by omega)) Tryz.func118 [] [(.const (.int .u8 2),dv (.int .u8 2)),(.tmp 30,slV tleaf nleaf kU8 leaf)] 0 0)] (T.seq (sR [] (T.block ?_))))))
 refine T.loop (ι:=Nat) (fun (k:Nat)=>(Z40 root tleaf nleaf leaf i n tp np p k)) (fun (k:Nat)=>(k≤p.length)∧((Wc i.toNat n.toNat).length=p.length)∧(∀ t,t<k→(p.getD t Yx).J5=(Wc i.toNat n.toNat).getD t false)) (fun (k:Nat)=>p.length-k) (0) ⟨(Nat.zero_le _),(by omega),(fun j hj=>absurd hj (Nat.not_lt_zero _))⟩ (fun _ _ hG=>Yp [0] (bm 35 30064777247) (t2:=[dv (Ys root),slV tleaf nleaf kU8 leaf,vI i,vI n,(Z3w tp np p),aa,aa,aa,aa,aa,aa,(Z3x i n),dv (Ys (ofB (2:UInt8) [leaf])),aa,aa,aa,aa,aa,aa,aa,aa,aa,aa,aa,aa,aa,aa,aa,aa,aa,aa,aa,(Z3w tp np p),(Z3y p),vI 0]) (congrArg (fun (q1:List UInt8)=>([dv (Ys root),slV tleaf nleaf kU8 leaf,vI i,vI n,(Z3w tp np p),aa,aa,aa,aa,aa,aa,(Z3x i n),dv (Ys q1),aa,aa,aa,aa,aa,aa,aa,aa,aa,aa,aa,aa,aa,aa,aa,aa,aa,aa,aa,(Z3w tp np p),(Z3y p),vI 0]:List AV)) (by rfl)) rfl hG) ?_
 rintro k ⟨hk,hsl,hb⟩
 show T _ _ (Z40 root tleaf nleaf leaf i n tp np p k) _ _
 replace hk:k≤p.length:=hk
 replace hsl:(Wc i.toNat n.toNat).length=p.length:=hsl
 replace hb:∀ t,t<k→(p.getD t Yx).J5=(Wc i.toNat n.toNat).getD t false:=hb
 have hk70:(p.take k).length≤70:=by rw [List.length_take];have:=hp.1;omega
 have hcl:=Xkw (p:=p.take k) (m:=30000) (fun s hs=>hp.2 s (List.mem_of_mem_take hs)) (ofB 2 [leaf])
 have hlf:=Xew 2 leaf
 have hgd:((p.getD k Yx).X6).length≤30000:=Iw (sz:=szS) hp (by decide) k
 refine sR [] (T.seq ?_)
 by_cases hq4:((k:Nat):Int)<((p.length:Nat):Int)
 ·refine cT (dT hq4) (T.skip (nT (T.seq (T.block (sR [hR 1 rfl rfl (W9 tp np (Xz false) p k (k:=.i64) (i:=((k:Nat):Int)) Tryz.underlying47 Iz rfl rfl (by omega) (X3 rfl) trivial)] (T.block ?_))))))
  refine sD [[],[0],[],[],[2,3],[2,3,4],[0,1,2,3,4,5],[0,1,2,3,4,5,6]] [hR 4 rfl rfl (Vk (k:=.i64) (l:=0) (sz:=Y8.sz) (off:=0) (n:=(Wc i.toNat n.toNat).length) (i:=((k:Nat):Int)) (m:=k) (o':=k*Y8.sz+0) Tryz.underlying192 X27 rfl rfl (by omega) (by simp) (X3 rfl) trivial),hR 5 rfl rfl (Ff (l:=0) (off:=k*Y8.sz+0) (i:=k) (j:=0) (T:=4) (sz:=Y8.sz) (n:=(Wc i.toNat n.toNat).length) (el:=W6 Y8 (Wc i.toNat n.toNat)) (c:=.val (.bool ((Wc i.toNat n.toNat).getD k false))) Xg2 rfl (by omega) (by decide) rfl (X3 rfl) trivial)] ?_
  by_cases hq5:(p.getD k Yx).J5≠((Wc i.toNat n.toNat).getD k false)
  ·refine cT (dT hq5) (sR [] (T.ret (rB (rB (rT (rT (rB (rT ?_))))))))
   exact eRt 10 (.one (dI 90)) [] (cI (by exact chk_at (p:=p) (k:=k) (by omega) (by omega) ‹_›)) trivial
  refine cF (dF hq5) (sR [] ?_)
  by_cases hq6:(p.getD k Yx).J5=true
  ·refine cT hq6 (xK [hR 3 rfl rfl (rCa (X5n (3:UInt8) (p.getD k Yx).X6 (climb (ofB 2 [leaf]) (p.take k)) (by omega)) Tryz.func142 [] [(.const (.int .u8 3),dv (.int .u8 3)),(.tmp 55,dv (Ys (p.getD k Yx).X6)),(.tmp 56,dv (Ys (climb (ofB 2 [leaf]) (p.take k))))] 0 0)] (nB (nB (nT (xK [hR 0 rfl rfl (Yg (u1:=.int .i64 ((k:Nat):Int)) (u2:=.int .i64 1) (v:=.int .i64 ((k+1:Nat):Int)) (W8 pb) (X3 rfl) ⟨rfl,trivial⟩)] ?_)))))
   refine nL (k+1) ⟨(show (k+1)≤p.length from (by omega)),(show (Wc i.toNat n.toNat).length=p.length from hsl),(show ∀ t,t<(k+1)→(p.getD t Yx).J5=(Wc i.toNat n.toNat).getD t false from (Ud hb p1h))⟩ (show (p.length-(k+1):Nat)<p.length-k from (by omega)) (fun _ _ hG=>Yp [0] (bm 35 30064777247) (t2:=[dv (Ys root),slV tleaf nleaf kU8 leaf,vI i,vI n,(Z3w tp np p),aa,aa,aa,aa,aa,aa,(Z3x i n),dv (Ys (ofB (3:UInt8) [(p.getD k Yx).X6,(climb (ofB 2 [leaf]) (p.take k))])),aa,aa,aa,aa,aa,aa,aa,aa,aa,aa,aa,aa,aa,aa,aa,aa,aa,aa,aa,(Z3w tp np p),(Z3y p),(Z42 k)]) (by have e1:((climb (ofB 2 [leaf]) (p.take (k+1))):List UInt8)=(ofB (3:UInt8) [(p.getD k Yx).X6,(climb (ofB 2 [leaf]) (p.take k))]):=(by (have h8:(p.getD k Yx).J5=(Wc i.toNat n.toNat).getD k false:=Classical.not_not.1 ‹_›;rw [X9w (p:=p) (k:=k) _ (by omega),X12];(have h7:(p.getD k Yx).J5=true:=‹_›;rw [if_pos h7])));have hE:=congrArg (fun (q1:List UInt8)=>([dv (Ys root),slV tleaf nleaf kU8 leaf,vI i,vI n,(Z3w tp np p),aa,aa,aa,aa,aa,aa,(Z3x i n),dv (Ys q1),aa,aa,aa,aa,aa,aa,aa,aa,aa,aa,aa,aa,aa,aa,aa,aa,aa,aa,aa,(Z3w tp np p),(Z3y p),(Z42 k)]:List AV)) e1;exact hE) rfl hG)
  replace hq6:=Bool.eq_false_iff.2 hq6
  refine cF hq6 (xK [hR 3 rfl rfl (rCa (X5n (3:UInt8) (climb (ofB 2 [leaf]) (p.take k)) (p.getD k Yx).X6 (by omega)) Tryz.func142 [] [(.const (.int .u8 3),dv (.int .u8 3)),(.tmp 39,dv (Ys (climb (ofB 2 [leaf]) (p.take k)))),(.tmp 41,dv (Ys (p.getD k Yx).X6))] 0 0)] (nB (nB (nT (xK [hR 0 rfl rfl (Yg (u1:=.int .i64 ((k:Nat):Int)) (u2:=.int .i64 1) (v:=.int .i64 ((k+1:Nat):Int)) (W8 pb) (X3 rfl) ⟨rfl,trivial⟩)] ?_)))))
  refine nL (k+1) ⟨(show (k+1)≤p.length from (by omega)),(show (Wc i.toNat n.toNat).length=p.length from hsl),(show ∀ t,t<(k+1)→(p.getD t Yx).J5=(Wc i.toNat n.toNat).getD t false from (Ud hb p1h))⟩ (show (p.length-(k+1):Nat)<p.length-k from (by omega)) (fun _ _ hG=>Yp [0] (bm 35 30064777247) (t2:=[dv (Ys root),slV tleaf nleaf kU8 leaf,vI i,vI n,(Z3w tp np p),aa,aa,aa,aa,aa,aa,(Z3x i n),dv (Ys (ofB (3:UInt8) [(climb (ofB 2 [leaf]) (p.take k)),(p.getD k Yx).X6])),aa,aa,aa,aa,aa,aa,aa,aa,aa,aa,aa,aa,aa,aa,aa,aa,aa,aa,aa,(Z3w tp np p),(Z3y p),(Z42 k)]) (by have e1:((climb (ofB 2 [leaf]) (p.take (k+1))):List UInt8)=(ofB (3:UInt8) [(climb (ofB 2 [leaf]) (p.take k)),(p.getD k Yx).X6]):=(by (have h8:(p.getD k Yx).J5=(Wc i.toNat n.toNat).getD k false:=Classical.not_not.1 ‹_›;rw [X9w (p:=p) (k:=k) _ (by omega),X12];(have h7:(p.getD k Yx).J5=false:=‹_›;rw [if_neg (by rw [h7];decide)])));have hE:=congrArg (fun (q1:List UInt8)=>([dv (Ys root),slV tleaf nleaf kU8 leaf,vI i,vI n,(Z3w tp np p),aa,aa,aa,aa,aa,aa,(Z3x i n),dv (Ys q1),aa,aa,aa,aa,aa,aa,aa,aa,aa,aa,aa,aa,aa,aa,aa,aa,aa,aa,aa,(Z3w tp np p),(Z3y p),(Z42 k)]:List AV)) e1;exact hE) rfl hG)
 refine cF (dF hq4) (T.exit (xT (xT (xH (nT (T.seq (sR [] ?_)))))))
 by_cases hq7:(climb (ofB 2 [leaf]) (p.take k))≠root
 ·refine cT (dT hq7) (sR [] (T.ret (rT ?_)))
  exact eRt 10 (.one (dI 90)) [] (by have e1:((Ia root leaf i n p):Int)=90:=p4e;have hE:=cI e1;exact hE) trivial
 refine cF (dF hq7) (T.skip (nT (sR [] (T.ret ?_))))
 exact eRt 10 (.one (dI 0)) [] (by have e1:((Ia root leaf i n p):Int)=0:=p4e;have hE:=cI e1;exact hE) trivial
section
variable (root:List UInt8) (tleaf:Bool) (nleaf:Bool) (leaf:List UInt8) (i:Int) (n:Int) (tp:Bool) (np:Bool) (p:List Yn) (k:Nat)
end
section
variable (b:List UInt8) (tl:Bool) (nl:Bool) (l:List Int) (k:Nat)
abbrev Z4d:AV:=vI ((l.length:Nat):Int)
abbrev Z4e:St:=⟨[Y7 0 kU8 0 (b++Wa (l.take k)).length,slV tl nl (U5 .i64) l,aa,aa,aa,aa,aa,slV tl nl (U5 .i64) l,(Z4d l),vI ((k:Nat):Int)],[.live (Xf 5 kU8 (b++Wa (l.take k)))]⟩
abbrev Z4g:AV:=vI ((k+1:Nat):Int)
end
theorem X13 (tb:Bool) (nb:Bool) (b:List UInt8) (tl:Bool) (nl:Bool) (l:List Int) (hb:b.length≤140737488350000) (hl:1≤l.length∧l.length≤100):Holds Tryz.prog 135 ⟨[slV tb nb kU8 b,slV tl nl (U5 .i64) l],[],Y7 0 kU8 0 (b++Wa l).length,[.live (Xf 5 kU8 (b++Wa l))]⟩:=by
 refine Holds.of Tryz.func135 rfl (N:=18) Tryz.ntmps135 rfl fun w0 B0 S0 U0=>?_
 show T _ (Y5 18 0 w0 S0 U0 B0) ⟨[slV tb nb kU8 b,slV tl nl (U5 .i64) l],[]⟩ _ _
 refine sR [] (T.seq (sR [] (T.block ?_)))
 refine Xon ?_
 refine Xji (sR [] (T.seq ?_))
 by_cases hq1:0<((l.length:Nat):Int)
 rotate_left
 ·exact absurd (by omega) hq1
 refine cT (dT hq1) (T.skip (nT (T.seq (T.block (sR [hR 0 rfl rfl (W9 tl nl (U5 .i64) l 0 (k:=.i64) (i:=0) Tryz.underlying24 X19 rfl rfl (by omega) (X3 rfl) trivial)] (xK [hR 2 rfl rfl (rCa (X1n tb nb b (l.getD 0 0) (by omega)) Tryz.func168 [0] [(.tmp 13,slV tb nb kU8 b),(.tmp 14,vI (l.getD 0 0))] 0 1)] (nB (nT (xK [hR 0 rfl rfl (Yg (u1:=.int .i64 0) (u2:=.int .i64 1) (v:=.int .i64 1) (W8 pb) (X3 rfl) ⟨rfl,trivial⟩)] ?_)))))))))
 refine nP ?_
 refine TL.loop (ι:=Nat) (fun (k:Nat)=>(Z4e b tl nl l k)) (fun (k:Nat)=>(1≤k∧k≤l.length)) (fun (k:Nat)=>l.length-k) (1) (by omega) (fun _ _ hG=>Yp [0] (bm 10 899) (t2:=[Y7 0 kU8 0 (b++Yv (l.getD 0 0)).length,slV tl nl (U5 .i64) l,aa,aa,aa,aa,aa,slV tl nl (U5 .i64) l,(Z4d l),vI 1]) (h2:=[.live (Xf 5 kU8 (b++Yv (l.getD 0 0)))]) (by have e1:((b++Wa (l.take 1)).length:Nat)=(b++Yv (l.getD 0 0)).length:=(by (rw [Xey (by omega)]));have hE:=congrArg (fun (q1:Nat)=>([Y7 0 kU8 0 q1,slV tl nl (U5 .i64) l,aa,aa,aa,aa,aa,slV tl nl (U5 .i64) l,(Z4d l),vI 1]:List AV)) e1;exact hE) (by have e1:((b++Wa (l.take 1)):List UInt8)=b++Yv (l.getD 0 0):=(by (rw [Xey (by omega)]));have hE:=congrArg (fun (q1:List UInt8)=>([.live (Xf 5 kU8 q1)]:List HS)) e1;exact hE) hG) ?_
 rintro k hk
 show T _ _ (Z4e b tl nl l k) _ _
 replace hk:1≤k∧k≤l.length:=hk
 have hil:=I9 (l.take k)
 have htk:(l.take k).length=k:=p1r
 refine sR [] (T.seq ?_)
 by_cases hq2:((k:Nat):Int)<((l.length:Nat):Int)
 ·refine cT (dT hq2) (T.skip (nT (T.seq (T.block (sR [hR 0 rfl rfl (W9 tl nl (U5 .i64) l k (k:=.i64) (i:=((k:Nat):Int)) Tryz.underlying24 X19 rfl rfl (by omega) (X3 rfl) trivial)] ?_)))))
  refine xK [hR 2 rfl rfl (Wx (X1n true false (b++Wa (l.take k)) (l.getD k 0) (by (simp [maxLen,-List.getD_eq_getElem?_getD]<;>omega))) Tryz.func168 rfl (by decide) [1] [0] (l:=[(.tmp 13,Y7 0 kU8 0 (b++Wa (l.take k)).length),(.tmp 14,vI (l.getD k 0))]) [(0,.live (Xf 5 kU8 (b++Wa (l.take k))))] rfl 0 1 rfl rfl rfl rfl rfl rfl rfl rfl rfl ⟨.inr (.inl ⟨rfl,pZs,rfl,rfl,by simp,5,(b++Wa (l.take k)).length,W6 kU8 (b++Wa (l.take k)),List.Mem.head _,pk,fun i j=>by rw [Nat.zero_add]⟩),⟨.inl ⟨rfl,rfl⟩,trivial⟩⟩ rfl pZ6 pj (X3 rfl) trivial)] ?_
  refine nB (nT (xK [hR 0 rfl rfl (Yg (u1:=.int .i64 ((k:Nat):Int)) (u2:=.int .i64 1) (v:=.int .i64 ((k+1:Nat):Int)) (W8 pb) (X3 rfl) ⟨rfl,trivial⟩)] ?_))
  refine nL (k+1) (show 1≤(k+1)∧(k+1)≤l.length from (by omega)) (show (l.length-(k+1):Nat)<l.length-k from (by omega)) (fun _ _ hG=>Wi [1] (bm 10 899) (t1:=[Y7 1 kU8 0 (b++Wa (l.take (k+1))).length,slV tl nl (U5 .i64) l,aa,aa,aa,aa,aa,slV tl nl (U5 .i64) l,(Z4d l),(Z4g k)]) (t2:=[Y7 1 kU8 0 ((b++Wa (l.take k))++Yv (l.getD k 0)).length,slV tl nl (U5 .i64) l,aa,aa,aa,aa,aa,slV tl nl (U5 .i64) l,(Z4d l),(Z4g k)]) (h1:=[.live (Xf 5 kU8 (b++Wa (l.take (k+1))))]) (h2:=[.live (Xf 5 kU8 ((b++Wa (l.take k))++Yv (l.getD k 0)))]) (by have e1:((b++Wa (l.take (k+1))).length:Nat)=((b++Wa (l.take k))++Yv (l.getD k 0)).length:=(by (rw [X68 (by omega),List.append_assoc]));have hE:=congrArg (fun (q1:Nat)=>([Y7 1 kU8 0 q1,slV tl nl (U5 .i64) l,aa,aa,aa,aa,aa,slV tl nl (U5 .i64) l,(Z4d l),(Z4g k)]:List AV)) e1;exact hE) (by have e1:((b++Wa (l.take (k+1))):List UInt8)=(b++Wa (l.take k))++Yv (l.getD k 0):=(by (rw [X68 (by omega),List.append_assoc]));have hE:=congrArg (fun (q1:List UInt8)=>([.live (Xf 5 kU8 q1)]:List HS)) e1;exact hE) hG)
 refine cF (dF hq2) (T.exit (xT (xT (xH (nT (sR [] (T.ret ?_)))))))
 exact eRt 4 (.one (.own 0 kU8.sz 0 (b++Wa (l.take k)).length)) [0] (by have e1:((b++Wa l).length:Nat)=(b++Wa (l.take k)).length:=p56;have hE:=congrArg (fun (q1:Nat)=>(Y7 0 kU8 0 q1:AV)) e1;exact hE) ⟨⟨rfl,(by have e1:((b++Wa (l.take k)):List UInt8)=b++Wa l:=p56;have hE:=congrArg (fun (q1:List UInt8)=>(.live (Xf 5 kU8 q1):HS)) e1;exact Eq.trans pZ8 hE)⟩,trivial⟩
theorem Xa1 (te:Bool) (e:aE) (r:Y4) (hb:e.X7.length≤100000000):Holds Tryz.prog 101 ⟨[.tv (.agg [dI e.X2,.d (dsl te false kU8 e.X7)]),.tv (.agg [dI r.Xu,dI r.Xl])],[],Y7 0 kU8 0 (Vp e r).length,[.live (Xf 5 kU8 (Vp e r))]⟩:=by
 refine Holds.of Tryz.func101 rfl (N:=18) Tryz.ntmps101 rfl fun w0 B0 S0 U0=>?_
 show T _ (Y5 18 0 w0 S0 U0 B0) ⟨[.tv (.agg [dI e.X2,.d (dsl te false kU8 e.X7)]),.tv (.agg [dI r.Xu,dI r.Xl])],[]⟩ _ _
 have hi1:=Wt e.X2
 have hi2:(Wa [e.X2]).length=8:=I9 [e.X2]
 have hi2n:(([]:List UInt8)++Wa [e.X2]).length=8:=I9 [e.X2]
 have hy:=Vi e.X7
 refine sR [] ?_
 refine sD [[],[0],[0,1],[0,1,2],[],[4],[0,1,2,3,4,5],[],[7],[],[9],[7,8,9,10],[0,1,2,3,4,5,6,7,8,9,10,11],[0,1,2,3,4,5,6,7,8,9,10,11,12]] [hR 2 rfl rfl (Ye 2 3 (U5 .i64) (X2w .i64) [e.X2] [⟨0,.tmp 6,.one (dI e.X2),0⟩] (cs:=[dI e.X2]) Tryz.underlying24 X19 rfl X5m rfl rfl rfl pd (Yq rfl rfl pd W5) pZ8 (V6 pZ8) (X3 rfl) trivial),hR 3 rfl rfl (Wx (X13 false false ([]:List UInt8) true false [e.X2] (by (simp [maxLen,-List.getD_eq_getElem?_getD]<;>omega)) (by (simp [maxLen,-List.getD_eq_getElem?_getD]<;>omega))) Tryz.func135 rfl (by decide) [3] [2] (l:=[(.const (.slice none 0 0),dv (.slice none 0 0)),(.tmp 7,Y7 2 (U5 .i64) 0 [e.X2].length)]) [(2,.live (Xf 3 (U5 .i64) [e.X2]))] rfl 0 1 rfl rfl rfl rfl rfl rfl rfl rfl rfl ⟨.inr pq,⟨.inr (.inl ⟨rfl,pZs,rfl,rfl,by simp,3,[e.X2].length,W6 (U5 .i64) [e.X2],List.Mem.head _,pk,fun i j=>by rw [Nat.zero_add]⟩),trivial⟩⟩ rfl pZ6 pj (X3 rfl) ⟨rfl,trivial⟩),hR 6 rfl rfl (Wx (Ei true false (([]:List UInt8)++Wa [e.X2]) te false e.X7 (by omega)) Tryz.func132 rfl (by decide) [4] [3] (l:=[(.tmp 8,Y7 3 kU8 0 (([]:List UInt8)++Wa [e.X2]).length),(.tmp 10,slV te false kU8 e.X7)]) [(3,.live (Xf 5 kU8 (([]:List UInt8)++Wa [e.X2])))] rfl 0 1 rfl rfl rfl rfl rfl rfl rfl rfl rfl ⟨.inr (.inl ⟨rfl,pZs,rfl,rfl,by simp,5,(([]:List UInt8)++Wa [e.X2]).length,W6 kU8 (([]:List UInt8)++Wa [e.X2]),List.Mem.head _,pk,fun i j=>by rw [Nat.zero_add]⟩),⟨.inl ⟨rfl,rfl⟩,trivial⟩⟩ rfl pZ6 pj (X3 rfl) trivial),hR 11 rfl rfl (Ye 5 3 (U5 .i64) (X2w .i64) [r.Xu,r.Xl] [⟨0,.tmp 13,.one (dI r.Xu),0⟩,⟨1,.tmp 15,.one (dI r.Xl),1⟩] (cs:=[dI r.Xu,dI r.Xl]) Tryz.underlying24 X19 rfl X5m rfl rfl rfl pd (Yq rfl rfl pd (Yq rfl rfl pd W5)) pZ8 (V6 pZ8) (X3 rfl) trivial),hR 12 rfl rfl (Wx (X13 true false (([]:List UInt8)++Wa [e.X2]++W2 e.X7) true false [r.Xu,r.Xl] (by (simp [maxLen,-List.getD_eq_getElem?_getD]<;>omega)) (by (simp [maxLen,-List.getD_eq_getElem?_getD]<;>omega))) Tryz.func135 rfl (by decide) [6] [4,5] (l:=[(.tmp 11,Y7 4 kU8 0 (([]:List UInt8)++Wa [e.X2]++W2 e.X7).length),(.tmp 16,Y7 5 (U5 .i64) 0 [r.Xu,r.Xl].length)]) [(4,.live (Xf 5 kU8 (([]:List UInt8)++Wa [e.X2]++W2 e.X7))),(5,.live (Xf 3 (U5 .i64) [r.Xu,r.Xl]))] rfl 0 1 rfl rfl rfl rfl rfl rfl rfl rfl rfl ⟨.inr (.inl ⟨rfl,pZs,rfl,rfl,by simp,5,(([]:List UInt8)++Wa [e.X2]++W2 e.X7).length,W6 kU8 (([]:List UInt8)++Wa [e.X2]++W2 e.X7),List.Mem.head _,pk,fun i j=>by rw [Nat.zero_add]⟩),⟨.inr (.inl ⟨rfl,pZs,rfl,rfl,by simp,3,[r.Xu,r.Xl].length,W6 (U5 .i64) [r.Xu,r.Xl],List.Mem.tail _ (List.Mem.head _),pk,fun i j=>by rw [Nat.zero_add]⟩),trivial⟩⟩ rfl (by intro b hb;simp only [List.mem_cons,List.not_mem_nil,or_false] at hb;rcases hb with rfl|rfl;exact ⟨_,List.Mem.head _⟩;exact ⟨_,List.Mem.tail _ (List.Mem.head _)⟩) pj (X3 rfl) trivial)] ?_
 refine T.ret ?_
 exact eRt 4 (.one (.own 6 kU8.sz 0 (([]:List UInt8)++Wa [e.X2]++W2 e.X7++Wa [r.Xu,r.Xl]).length)) [6] (by have e1:((Vp e r).length:Nat)=(([]:List UInt8)++Wa [e.X2]++W2 e.X7++Wa [r.Xu,r.Xl]).length:=(by (simp [Vp,Wa];done));have hE:=congrArg (fun (q1:Nat)=>(Y7 6 kU8 0 q1:AV)) e1;exact hE) ⟨⟨rfl,(by have e1:(([]:List UInt8)++Wa [e.X2]++W2 e.X7++Wa [r.Xu,r.Xl]:List UInt8)=Vp e r:=(by (simp [Vp,Wa];done));have hE:=congrArg (fun (q1:List UInt8)=>(.live (Xf 5 kU8 q1):HS)) e1;exact Eq.trans pZ8 hE)⟩,trivial⟩
end Go.Proofs.YtnaopgohccacmaaGreat.Q
