import Derived.Test.YtnaopgohccacmaaGreatC19n7
namespace Go.Proofs.YtnaopgohccacmaaGreat.Q
open Go Go.RowKit
set_option linter.unusedVariables false
set_option linter.unusedSimpArgs false
set_option maxRecDepth 100000
set_option maxHeartbeats 4000000
section
variable (t:UInt8) (tl:Bool) (nl:Bool) (sl_:Bool) (l:List (List UInt8)) (k:Nat) (k2:Nat)
abbrev Z2e:AV:=dv (.int .u8 ((t.toNat:Nat):Int))
abbrev Z2f:AV:=slV tl nl (kSl sl_ kU8) l
abbrev Z2g:AV:=vI ((l.length:Nat):Int)
abbrev Z2h:St:=⟨[(Z2e t),(Z2f tl nl sl_ l),aa,aa,dv (Yh []),vI ((szP (l.take k):Nat):Int),aa,aa,aa,aa,aa,(Z2f tl nl sl_ l),(Z2g l),vI ((k:Nat):Int)],[]⟩
abbrev Z2j:AV:=vI ((k+1:Nat):Int)
abbrev Z2l:St:=⟨[(Z2e t),(Z2f tl nl sl_ l),aa,aa,aa,aa,aa,aa,Y9 0 kU8 0 (ofR t l.length (l.take k2)).length,aa,aa,(Z2f tl nl sl_ l),(Z2g l),aa,aa,aa,aa,aa,aa,aa,aa,aa,aa,aa,aa,aa,aa,aa,aa,aa,aa,aa,(Z2f tl nl sl_ l),(Z2g l),vI ((k2:Nat):Int)],[.live (Xe 5 kU8 (ofR t l.length (l.take k2)))]⟩
abbrev Z2m:AV:=vI ((k2+1:Nat):Int)
end
theorem X46 (t:UInt8) (tl:Bool) (nl:Bool) (sl_:Bool) (l:List (List UInt8)) (hs:szP l≤140737488354000):Holds Tryz.prog 84 ⟨[dv (.int .u8 ((t.toNat:Nat):Int)),slV tl nl (kSl sl_ kU8) l],[],dv (Yh (ofB t l)),[]⟩:=by
 refine Holds.of Tryz.func84 rfl (N:=44) Tryz.ntmps84 rfl fun w0 B0 S0 U0=>?_
 show T _ (Y2 44 0 w0 S0 U0 B0) ⟨[(Z2e t),(Z2f tl nl sl_ l)],[]⟩ _ _
 have hcn:=Xas l
 have hcl:=Ik ((l.length:Nat):Int)
 have hall:=X2p t l
 refine sR [] ?_
 refine sR [] ?_
 refine T.seq ?_
 refine sR [] ?_
 refine T.block ?_
 refine T.loop (ι:=Nat) (fun (k:Nat)=>(Z2h t tl nl sl_ l k)) (fun (k:Nat)=>(k≤l.length)) (fun (k:Nat)=>l.length-k) (0) (Nat.zero_le _) (fun _ _ hG=>Yt [] (bm 14 14387) (t2:=[(Z2e t),(Z2f tl nl sl_ l),aa,aa,dv (Yh []),vI 5,aa,aa,aa,aa,aa,(Z2f tl nl sl_ l),(Z2g l),vI 0]) (congrArg (fun (q1:Int)=>([(Z2e t),(Z2f tl nl sl_ l),aa,aa,dv (Yh []),vI q1,aa,aa,aa,aa,aa,(Z2f tl nl sl_ l),(Z2g l),vI 0]:List AV)) (by rfl)) rfl hG) ?_
 rintro k hk
 show T _ _ (Z2h t tl nl sl_ l k) _ _
 replace hk:k≤l.length:=hk
 have hsz0:=Es l k
 refine sR [] ?_
 refine T.seq ?_
 by_cases hq1:((k:Nat):Int)<((l.length:Nat):Int)
 ·have hkl:k<l.length:=(by omega);have hsk:=X47 hkl;have hst:=Es l (k+1)
  refine cT (dT hq1) ?_
  refine T.skip (nT (T.seq ?_))
  refine T.block ?_
  refine sR [hR 0 rfl rfl (Wd tl nl (kSl sl_ kU8) l k (k:=.i64) (i:=((k:Nat):Int)) Tryz.underlying136 U1 rfl rfl ‹_› (X3 rfl) trivial)] ?_
  refine xR [hR 3 rfl rfl (Ye (u1:=.int .i64 4) (u2:=.int .i64 (((l.getD k []).length:Nat):Int)) (v:=.int .i64 ((4+(l.getD k []).length:Nat):Int)) (Wa pa) (X3 rfl) ⟨rfl,trivial⟩),hR 4 rfl rfl (Ye (u1:=.int .i64 ((szP (l.take k):Nat):Int)) (u2:=.int .i64 ((4+(l.getD k []).length:Nat):Int)) (v:=.int .i64 (((szP (l.take k))+(4+(l.getD k []).length):Nat):Int)) (Wa pa) (X3 rfl) trivial)] pZ7 pZ7 ?_
  refine nB ?_
  refine nT ?_
  refine xK [hR 0 rfl rfl (Ye (u1:=.int .i64 ((k:Nat):Int)) (u2:=.int .i64 1) (v:=.int .i64 ((k+1:Nat):Int)) (Wa pa) (X3 rfl) ⟨rfl,trivial⟩)] ?_
  refine nL (k+1) (show (k+1)≤l.length from (by omega)) (show (l.length-(k+1):Nat)<l.length-k from (by omega)) (fun _ _ hG=>Yt [] (bm 14 14387) (t2:=[(Z2e t),(Z2f tl nl sl_ l),aa,aa,dv (Yh []),vI (((szP (l.take k))+(4+(l.getD k []).length):Nat):Int),aa,aa,aa,aa,aa,(Z2f tl nl sl_ l),(Z2g l),(Z2j k)]) (by have e1:(((szP (l.take (k+1)):Nat):Int):Int)=(((szP (l.take k))+(4+(l.getD k []).length):Nat):Int):=(by (rw [X47 hkl]));have hE:=congrArg (fun (q1:Int)=>([(Z2e t),(Z2f tl nl sl_ l),aa,aa,dv (Yh []),vI q1,aa,aa,aa,aa,aa,(Z2f tl nl sl_ l),(Z2g l),(Z2j k)]:List AV)) e1;exact hE) rfl hG)
 refine cF (dF hq1) ?_
 refine T.exit ?_
 refine xT ?_
 refine xT ?_
 refine xH ?_
 refine nT ?_
 refine sR [hR 1 rfl rfl (q_make 0 5 1 kU8 ([]:List UInt8) 0 (szP (l.take k)) (p:=0) (q:=((szP (l.take k):Nat):Int)) Jf Io rfl rfl (by omega) (by omega) (by (unfold maxLen;omega)) (by intro j hj;replace hj:j<1:=hj;rcases j with _|j<;>first|rfl|omega) (by simp) (X3 rfl) ⟨rfl,trivial⟩),hR 3 rfl rfl (Yd 1 5 kU8 Vr [t] [⟨0,.tmp 25,.one (.d (.val (.int .u8 ((t.toNat:Nat):Int)))),0⟩] (cs:=[.d (.val (.int .u8 ((t.toNat:Nat):Int)))]) Tryz.underlying25 Jl rfl Io rfl rfl rfl pd (Yp rfl rfl pd W4) pZ7 (V1 pZ7) (X3 rfl) trivial),hR 4 rfl rfl (Yy 0 2 5 1 kU8 Vr ([]:List UInt8) [t] [t] ([]:List UInt8).length (sy:=(.own 1 kU8.sz 0 [t].length)) (rhs:=[(1,.live (Xe 5 kU8 [t]))]) Jf (by omega) (Wu 1 5 kU8 [t]) (by simp) (by (simp [maxLen,-List.getD_eq_getElem?_getD]<;>omega)) (by (simp [maxLen,-List.getD_eq_getElem?_getD]<;>omega)) (X3 rfl) trivial)] ?_
 refine sR [hR 3 rfl rfl (Ww (X33 true false [t] ((l.length:Nat):Int) (by (simp [maxLen,-List.getD_eq_getElem?_getD]<;>omega))) Tryz.func131 rfl (by decide) [3] [2] (l:=[(.tmp 28,Y9 2 kU8 0 [t].length),(.tmp 30,(Z2g l))]) [(2,.live (Xe 5 kU8 [t]))] rfl 0 1 rfl rfl rfl rfl rfl rfl rfl rfl rfl ⟨.inr (.inl ⟨rfl,px,rfl,rfl,by simp,5,[t].length,W6 kU8 [t],List.Mem.head _,pm,fun i j=>by rw [Nat.zero_add]⟩),⟨.inl ⟨rfl,rfl⟩,trivial⟩⟩ rfl pZ6 pZl (X3 rfl) trivial)] ?_
 refine T.seq ?_
 refine sR [] ?_
 refine T.block ?_
 refine T.loop (ι:=Nat) (fun (k2:Nat)=>(Z2l t tl nl sl_ l k2)) (fun (k2:Nat)=>(k2≤l.length)) (fun (k2:Nat)=>l.length-k2) (0) (Nat.zero_le _) (fun _ _ hG=>Vb [3] (bm 35 30064777475) (t1:=[(Z2e t),(Z2f tl nl sl_ l),aa,aa,aa,aa,aa,aa,Y9 3 kU8 0 (ofR t l.length (l.take 0)).length,aa,aa,(Z2f tl nl sl_ l),(Z2g l),aa,aa,aa,aa,aa,aa,aa,aa,aa,aa,aa,aa,aa,aa,aa,aa,aa,aa,aa,(Z2f tl nl sl_ l),(Z2g l),vI 0]) (t2:=[(Z2e t),(Z2f tl nl sl_ l),aa,aa,aa,aa,aa,aa,Y9 3 kU8 0 ([t]++U7 ((l.length:Nat):Int)).length,aa,aa,(Z2f tl nl sl_ l),(Z2g l),aa,aa,aa,aa,aa,aa,aa,aa,aa,aa,aa,aa,aa,aa,aa,aa,aa,aa,aa,(Z2f tl nl sl_ l),(Z2g l),vI 0]) (h1:=[.live (Xe 5 kU8 (ofR t l.length (l.take 0)))]) (h2:=[.live (Xe 5 kU8 ([t]++U7 ((l.length:Nat):Int)))]) (congrArg (fun (q1:Nat)=>([(Z2e t),(Z2f tl nl sl_ l),aa,aa,aa,aa,aa,aa,Y9 3 kU8 0 q1,aa,aa,(Z2f tl nl sl_ l),(Z2g l),aa,aa,aa,aa,aa,aa,aa,aa,aa,aa,aa,aa,aa,aa,aa,aa,aa,aa,aa,(Z2f tl nl sl_ l),(Z2g l),vI 0]:List AV)) (by rfl)) pZ29 hG) ?_
 rintro k2 hk2
 show T _ _ (Z2l t tl nl sl_ l k2) _ _
 replace hk2:k2≤l.length:=hk2
 have hol:=Xcc t l.length (l.take k2)
 have hsz0:=Es l k2
 refine sR [] ?_
 refine T.seq ?_
 by_cases hq2:((k2:Nat):Int)<((l.length:Nat):Int)
 ·have hkl:k2<l.length:=(by omega);have hsk:=X47 hkl;have hst:=Es l (k2+1)
  refine cT (dT hq2) ?_
  refine T.skip (nT (T.seq ?_))
  refine T.block ?_
  refine sR [hR 0 rfl rfl (Wd tl nl (kSl sl_ kU8) l k2 (k:=.i64) (i:=((k2:Nat):Int)) Tryz.underlying136 U1 rfl rfl ‹_› (X3 rfl) trivial)] ?_
  refine xK [hR 2 rfl rfl (Ww (X34 true false (ofR t l.length (l.take k2)) sl_ false (l.getD k2 []) (by omega)) Tryz.func132 rfl (by decide) [1] [0] (l:=[(.tmp 38,Y9 0 kU8 0 (ofR t l.length (l.take k2)).length),(.tmp 39,slV sl_ false kU8 (l.getD k2 []))]) [(0,.live (Xe 5 kU8 (ofR t l.length (l.take k2))))] rfl 0 1 rfl rfl rfl rfl rfl rfl rfl rfl rfl ⟨.inr (.inl ⟨rfl,px,rfl,rfl,by simp,5,(ofR t l.length (l.take k2)).length,W6 kU8 (ofR t l.length (l.take k2)),List.Mem.head _,pm,fun i j=>by rw [Nat.zero_add]⟩),⟨.inl ⟨rfl,rfl⟩,trivial⟩⟩ rfl pZ6 pZl (X3 rfl) trivial)] ?_
  refine nB ?_
  refine nT ?_
  refine xK [hR 0 rfl rfl (Ye (u1:=.int .i64 ((k2:Nat):Int)) (u2:=.int .i64 1) (v:=.int .i64 ((k2+1:Nat):Int)) (Wa pa) (X3 rfl) ⟨rfl,trivial⟩)] ?_
  refine nL (k2+1) (show (k2+1)≤l.length from (by omega)) (show (l.length-(k2+1):Nat)<l.length-k2 from (by omega)) (fun _ _ hG=>Vb [1] (bm 35 30064777475) (t1:=[(Z2e t),(Z2f tl nl sl_ l),aa,aa,aa,aa,aa,aa,Y9 1 kU8 0 (ofR t l.length (l.take (k2+1))).length,aa,aa,(Z2f tl nl sl_ l),(Z2g l),aa,aa,aa,aa,aa,aa,aa,aa,aa,aa,aa,aa,aa,aa,aa,aa,aa,aa,aa,(Z2f tl nl sl_ l),(Z2g l),(Z2m k2)]) (t2:=[(Z2e t),(Z2f tl nl sl_ l),aa,aa,aa,aa,aa,aa,Y9 1 kU8 0 ((ofR t l.length (l.take k2))++W3 (l.getD k2 [])).length,aa,aa,(Z2f tl nl sl_ l),(Z2g l),aa,aa,aa,aa,aa,aa,aa,aa,aa,aa,aa,aa,aa,aa,aa,aa,aa,aa,aa,(Z2f tl nl sl_ l),(Z2g l),(Z2m k2)]) (h1:=[.live (Xe 5 kU8 (ofR t l.length (l.take (k2+1))))]) (h2:=[.live (Xe 5 kU8 ((ofR t l.length (l.take k2))++W3 (l.getD k2 [])))]) (by have e1:((ofR t l.length (l.take (k2+1))).length:Nat)=((ofR t l.length (l.take k2))++W3 (l.getD k2 [])).length:=(by (rw [X4t hkl]));have hE:=congrArg (fun (q1:Nat)=>([(Z2e t),(Z2f tl nl sl_ l),aa,aa,aa,aa,aa,aa,Y9 1 kU8 0 q1,aa,aa,(Z2f tl nl sl_ l),(Z2g l),aa,aa,aa,aa,aa,aa,aa,aa,aa,aa,aa,aa,aa,aa,aa,aa,aa,aa,aa,(Z2f tl nl sl_ l),(Z2g l),(Z2m k2)]:List AV)) e1;exact hE) (by have e1:((ofR t l.length (l.take (k2+1))):List UInt8)=(ofR t l.length (l.take k2))++W3 (l.getD k2 []):=(by (rw [X4t hkl]));have hE:=congrArg (fun (q1:List UInt8)=>([.live (Xe 5 kU8 q1)]:List HS)) e1;exact hE) hG)
 refine cF (dF hq2) ?_
 refine T.exit ?_
 refine xT ?_
 refine xT ?_
 refine xH ?_
 refine nT ?_
 refine sR [hR 1 rfl rfl (Hr () (ofR t l.length (l.take k2)) (ys:=(.own 0 kU8.sz 0 (ofR t l.length (l.take k2)).length)) (rhs:=[(0,.live (Xe 5 kU8 (ofR t l.length (l.take k2))))]) Tryz.underlying25 Tryz.underlying5 Tryz.underlying60 (Wu 0 5 kU8 (ofR t l.length (l.take k2))) (X3 rfl) trivial)] ?_
 refine T.ret ?_
 exact eRt 4 (.one (dS (ofR t l.length (l.take k2)))) [] (by have e1:((ofB t l):List UInt8)=(ofR t l.length (l.take k2)):=(by (have hke:k2=l.length:=(by omega);rw [hke,Xhs]));have hE:=congrArg (fun (q1:List UInt8)=>(dv (Yh q1):AV)) e1;exact hE) trivial
theorem E0:Zero Tryz.prog 25 [.slice none 0 0]:=⟨_,_,U1,rfl,rfl⟩
theorem X5l (t:UInt8) (tb:Bool) (nb:Bool) (b:List UInt8) (hb:b.length≤140737488350000):Holds Tryz.prog 118 ⟨[dv (.int .u8 ((t.toNat:Nat):Int)),slV tb nb kU8 b],[],dv (Yh (ofB t [b])),[]⟩:=by
 refine Holds.of Tryz.func118 rfl (N:=9) Tryz.ntmps118 rfl fun w0 B0 S0 U0=>?_
 show T _ (Y2 9 0 w0 S0 U0 B0) ⟨[dv (.int .u8 ((t.toNat:Nat):Int)),slV tb nb kU8 b],[]⟩ _ _
 have hs1:szP [b]=5+(4+b.length):=rfl
 refine sR [] ?_
 refine sR [hR 2 rfl rfl (Yd 0 25 (kSl tb kU8) (X22 tb kU8) [b] [⟨0,.tmp 6,.one (.d (dsl tb nb kU8 b)),0⟩] (cs:=[.d (dsl tb nb kU8 b)]) Tryz.underlying136 U1 rfl E0 rfl rfl rfl pd (Yp rfl rfl pd W4) pZ7 ⟨p2g,trivial⟩ (X3 rfl) trivial),hR 3 rfl rfl (Ww (X46 t true false tb [b] (by omega)) Tryz.func84 rfl (by decide) [] [0] (l:=[(.tmp 5,dv (.int .u8 ((t.toNat:Nat):Int))),(.tmp 7,Y9 0 (kSl false kU8) 0 [b].length)]) [(0,.live (Xe 25 (kSl tb kU8) [b]))] rfl 0 0 rfl rfl rfl rfl rfl rfl rfl rfl rfl ⟨.inl ⟨rfl,rfl⟩,⟨.inr (.inl ⟨rfl,px,rfl,rfl,by simp,25,[b].length,W6 (kSl tb kU8) [b],List.Mem.head _,pm,fun i j=>by rw [Nat.zero_add]⟩),trivial⟩⟩ rfl pZ6 p2t (X3 rfl) trivial)] ?_
 refine T.ret ?_
 exact eRt 4 (.one (dS (ofB t [b]))) [] rfl trivial
theorem X5k (t:UInt8) (a:List UInt8) (b:List UInt8) (hb:a.length+b.length≤140737488350000):Holds Tryz.prog 142 ⟨[dv (.int .u8 ((t.toNat:Nat):Int)),dv (Yh a),dv (Yh b)],[],dv (Yh (ofB t [a,b])),[]⟩:=by
 refine Holds.of Tryz.func142 rfl (N:=14) Tryz.ntmps142 rfl fun w0 B0 S0 U0=>?_
 show T _ (Y2 14 0 w0 S0 U0 B0) ⟨[dv (.int .u8 ((t.toNat:Nat):Int)),dv (Yh a),dv (Yh b)],[]⟩ _ _
 have hs1:szP [a,b]=5+(4+a.length)+(4+b.length):=rfl
 refine sR [] ?_
 refine sR [hR 2 rfl rfl (Jx (l:=a) Tryz.underlying60 Tryz.underlying25 Tryz.underlying5 (X3 rfl) trivial),hR 4 rfl rfl (Jx (l:=b) Tryz.underlying60 Tryz.underlying25 Tryz.underlying5 (X3 rfl) trivial),hR 5 rfl rfl (Yd 0 25 (kSl false kU8) (X22 false kU8) [a,b] [⟨0,.tmp 9,.one (.d (dsl false true kU8 a)),0⟩,⟨1,.tmp 11,.one (.d (dsl false true kU8 b)),1⟩] (cs:=[.d (dsl false true kU8 a),.d (dsl false true kU8 b)]) Tryz.underlying136 U1 rfl E0 rfl rfl rfl pd (Yp rfl rfl pd (Yp rfl rfl pd W4)) pZ7 ⟨p2g,⟨p2g,trivial⟩⟩ (X3 rfl) trivial),hR 6 rfl rfl (Ww (X46 t true false false [a,b] (by omega)) Tryz.func84 rfl (by decide) [] [0] (l:=[(.tmp 7,dv (.int .u8 ((t.toNat:Nat):Int))),(.tmp 12,Y9 0 (kSl false kU8) 0 [a,b].length)]) [(0,.live (Xe 25 (kSl false kU8) [a,b]))] rfl 0 0 rfl rfl rfl rfl rfl rfl rfl rfl rfl ⟨.inl ⟨rfl,rfl⟩,⟨.inr (.inl ⟨rfl,px,rfl,rfl,by simp,25,[a,b].length,W6 (kSl false kU8) [a,b],List.Mem.head _,pm,fun i j=>by rw [Nat.zero_add]⟩),trivial⟩⟩ rfl pZ6 p2t (X3 rfl) trivial)] ?_
 refine T.ret ?_
 exact eRt 6 (.one (dS (ofB t [a,b]))) [] rfl trivial
abbrev Z2n (t:UInt8):AV:=dv (.int .u8 ((t.toNat:Nat):Int))
abbrev Z2o (t:UInt8) (l:List (List UInt8)) (k:Nat):=(ofR t l.length (l.take k))
abbrev Z2p (k:Nat):AV:=vI ((k+1:Nat):Int)
theorem X1l (t:UInt8) (tl:Bool) (nl:Bool) (sl_:Bool) (l:List (List UInt8)) (hs:szP l≤140737488354000):Holds Tryz.prog 71 ⟨[dv (.int .u8 ((t.toNat:Nat):Int)),slV tl nl (kSl sl_ kU8) l],[],dv (Yh (ofB t l)),[]⟩:=by
 refine Holds.of Tryz.func71 rfl (N:=26) Tryz.ntmps71 rfl fun w0 B0 S0 U0=>?_
 show T _ (Y2 26 0 w0 S0 U0 B0) ⟨[(Z2n t),slV tl nl (kSl sl_ kU8) l],[]⟩ _ _
 have hcn:=Xas l
 have hcl:=Ik ((l.length:Nat):Int)
 have hall:=X2p t l
 refine sR [] ?_
 refine sR [hR 1 rfl rfl (Yd 0 5 kU8 Vr [t] [⟨0,.tmp 7,.one (.d (.val (.int .u8 ((t.toNat:Nat):Int)))),0⟩] (cs:=[.d (.val (.int .u8 ((t.toNat:Nat):Int)))]) Tryz.underlying25 Jl rfl Io rfl rfl rfl pd (Yp rfl rfl pd W4) pZ7 (V1 pZ7) (X3 rfl) trivial),hR 4 rfl rfl (Ww (E5 true false [t] ((l.length:Nat):Int) (by (simp [maxLen,-List.getD_eq_getElem?_getD]<;>omega))) Tryz.func66 rfl (by decide) [1] [0] (l:=[(.tmp 8,Y9 0 kU8 0 [t].length),(.tmp 10,vI ((l.length:Nat):Int))]) [(0,.live (Xe 5 kU8 [t]))] rfl 0 1 rfl rfl rfl rfl rfl rfl rfl rfl rfl ⟨.inr (.inl ⟨rfl,px,rfl,rfl,by simp,5,[t].length,W6 kU8 [t],List.Mem.head _,pm,fun i j=>by rw [Nat.zero_add]⟩),⟨.inl ⟨rfl,rfl⟩,trivial⟩⟩ rfl pZ6 pZl (X3 rfl) trivial)] ?_
 refine T.seq ?_
 refine sR [] ?_
 refine T.block ?_
 refine T.loop (ι:=Nat) (fun (k:Nat)=>⟨[(Z2n t),slV tl nl (kSl sl_ kU8) l,aa,aa,aa,Y9 0 kU8 0 (Z2o t l k).length,vI ((k:Nat):Int)],[.live (Xe 5 kU8 (Z2o t l k))]⟩) (fun (k:Nat)=>(k≤l.length)) (fun (k:Nat)=>l.length-k) (0) (Nat.zero_le _) (fun _ _ hG=>Vb [1] (bm 7 99) (t1:=[(Z2n t),slV tl nl (kSl sl_ kU8) l,aa,aa,aa,Y9 1 kU8 0 (ofR t l.length (l.take 0)).length,vI 0]) (t2:=[(Z2n t),slV tl nl (kSl sl_ kU8) l,aa,aa,aa,Y9 1 kU8 0 ([t]++U7 ((l.length:Nat):Int)).length,vI 0]) (h1:=[.live (Xe 5 kU8 (ofR t l.length (l.take 0)))]) (h2:=[.live (Xe 5 kU8 ([t]++U7 ((l.length:Nat):Int)))]) (congrArg (fun (q1:Nat)=>([(Z2n t),slV tl nl (kSl sl_ kU8) l,aa,aa,aa,Y9 1 kU8 0 q1,vI 0]:List AV)) (by rfl)) pZ29 hG) ?_
 rintro k hk
 show T _ _ ⟨[(Z2n t),slV tl nl (kSl sl_ kU8) l,aa,aa,aa,Y9 0 kU8 0 (Z2o t l k).length,vI ((k:Nat):Int)],[.live (Xe 5 kU8 (Z2o t l k))]⟩ _ _
 replace hk:k≤l.length:=hk
 have hol:=Xcc t l.length (l.take k)
 have hsz0:=Es l k
 refine T.seq ?_
 refine sR [] ?_
 by_cases hq1:((k:Nat):Int)<((l.length:Nat):Int)
 ·have hkl:k<l.length:=(by omega);have hsk:=X47 hkl;have hst:=Es l (k+1)
  refine cT (dT hq1) ?_
  refine T.skip (nT (T.seq ?_))
  refine T.block ?_
  refine xR [hR 3 rfl rfl (Wd tl nl (kSl sl_ kU8) l k (k:=.i64) (i:=((k:Nat):Int)) Tryz.underlying136 U1 rfl rfl ‹_› (X3 rfl) trivial),hR 5 rfl rfl (Ww (I9 true false (ofR t l.length (l.take k)) sl_ false (l.getD k []) (by omega)) Tryz.func64 rfl (by decide) [1] [0] (l:=[(.tmp 18,Y9 0 kU8 0 (Z2o t l k).length),(.tmp 22,slV sl_ false kU8 (l.getD k []))]) [(0,.live (Xe 5 kU8 (Z2o t l k)))] rfl 0 1 rfl rfl rfl rfl rfl rfl rfl rfl rfl ⟨.inr (.inl ⟨rfl,px,rfl,rfl,by simp,5,(ofR t l.length (l.take k)).length,W6 kU8 (ofR t l.length (l.take k)),List.Mem.head _,pm,fun i j=>by rw [Nat.zero_add]⟩),⟨.inl ⟨rfl,rfl⟩,trivial⟩⟩ rfl pZ6 pZl (X3 rfl) trivial)] pZ7 pZ7 ?_
  refine nB ?_
  refine nT ?_
  refine xK [hR 1 rfl rfl (Ye (u1:=.int .i64 ((k:Nat):Int)) (u2:=.int .i64 1) (v:=.int .i64 ((k+1:Nat):Int)) (Wa pa) (X3 rfl) ⟨rfl,trivial⟩)] ?_
  refine nL (k+1) (show (k+1)≤l.length from (by omega)) (show (l.length-(k+1):Nat)<l.length-k from (by omega)) (fun _ _ hG=>Vb [1] (bm 7 99) (t1:=[(Z2n t),slV tl nl (kSl sl_ kU8) l,aa,aa,aa,Y9 1 kU8 0 (ofR t l.length (l.take (k+1))).length,(Z2p k)]) (t2:=[(Z2n t),slV tl nl (kSl sl_ kU8) l,aa,aa,aa,Y9 1 kU8 0 ((Z2o t l k)++W3 (l.getD k [])).length,(Z2p k)]) (h1:=[.live (Xe 5 kU8 (ofR t l.length (l.take (k+1))))]) (h2:=[.live (Xe 5 kU8 ((Z2o t l k)++W3 (l.getD k [])))]) (by have e1:((ofR t l.length (l.take (k+1))).length:Nat)=((ofR t l.length (l.take k))++W3 (l.getD k [])).length:=(by (rw [X4t hkl]));have hE:=congrArg (fun (q1:Nat)=>([(Z2n t),slV tl nl (kSl sl_ kU8) l,aa,aa,aa,Y9 1 kU8 0 q1,(Z2p k)]:List AV)) e1;exact hE) (by have e1:((ofR t l.length (l.take (k+1))):List UInt8)=(ofR t l.length (l.take k))++W3 (l.getD k []):=(by (rw [X4t hkl]));have hE:=congrArg (fun (q1:List UInt8)=>([.live (Xe 5 kU8 q1)]:List HS)) e1;exact hE) hG)
 refine cF (dF hq1) ?_
 refine T.exit ?_
 refine xT ?_
 refine xT ?_
 refine xH ?_
 refine nT ?_
 refine sR [hR 1 rfl rfl (Hr () (ofR t l.length (l.take k)) (ys:=(.own 0 kU8.sz 0 (Z2o t l k).length)) (rhs:=[(0,.live (Xe 5 kU8 (Z2o t l k)))]) Tryz.underlying25 Tryz.underlying5 Tryz.underlying60 (Wu 0 5 kU8 (ofR t l.length (l.take k))) (X3 rfl) trivial)] ?_
 refine T.ret ?_
 exact eRt 4 (.one (dS (Z2o t l k))) [] (by have e1:((ofB t l):List UInt8)=(ofR t l.length (l.take k)):=(by (have hke:k=l.length:=(by omega);rw [hke,Xhs]));have hE:=congrArg (fun (q1:List UInt8)=>(dv (Yh q1):AV)) e1;exact hE) trivial
theorem X3q (t:UInt8) (tb:Bool) (nb:Bool) (b:List UInt8) (hb:b.length≤140737488350000):Holds Tryz.prog 93 ⟨[dv (.int .u8 ((t.toNat:Nat):Int)),slV tb nb kU8 b],[],dv (Yh (ofB t [b])),[]⟩:=by
 refine Holds.of Tryz.func93 rfl (N:=9) Tryz.ntmps93 rfl fun w0 B0 S0 U0=>?_
 show T _ (Y2 9 0 w0 S0 U0 B0) ⟨[dv (.int .u8 ((t.toNat:Nat):Int)),slV tb nb kU8 b],[]⟩ _ _
 have hs1:szP [b]=5+(4+b.length):=rfl
 refine sR [] ?_
 refine sR [hR 2 rfl rfl (Yd 0 25 (kSl tb kU8) (X22 tb kU8) [b] [⟨0,.tmp 6,.one (.d (dsl tb nb kU8 b)),0⟩] (cs:=[.d (dsl tb nb kU8 b)]) Tryz.underlying136 U1 rfl E0 rfl rfl rfl pd (Yp rfl rfl pd W4) pZ7 ⟨p2g,trivial⟩ (X3 rfl) trivial),hR 3 rfl rfl (Ww (X1l t true false tb [b] (by omega)) Tryz.func71 rfl (by decide) [] [0] (l:=[(.tmp 5,dv (.int .u8 ((t.toNat:Nat):Int))),(.tmp 7,Y9 0 (kSl false kU8) 0 [b].length)]) [(0,.live (Xe 25 (kSl tb kU8) [b]))] rfl 0 0 rfl rfl rfl rfl rfl rfl rfl rfl rfl ⟨.inl ⟨rfl,rfl⟩,⟨.inr (.inl ⟨rfl,px,rfl,rfl,by simp,25,[b].length,W6 (kSl tb kU8) [b],List.Mem.head _,pm,fun i j=>by rw [Nat.zero_add]⟩),trivial⟩⟩ rfl pZ6 p2t (X3 rfl) trivial)] ?_
 refine T.ret ?_
 exact eRt 4 (.one (dS (ofB t [b]))) [] rfl trivial
theorem X3p (t:UInt8) (a:List UInt8) (b:List UInt8) (hb:a.length+b.length≤140737488350000):Holds Tryz.prog 139 ⟨[dv (.int .u8 ((t.toNat:Nat):Int)),dv (Yh a),dv (Yh b)],[],dv (Yh (ofB t [a,b])),[]⟩:=by
 refine Holds.of Tryz.func139 rfl (N:=14) Tryz.ntmps139 rfl fun w0 B0 S0 U0=>?_
 show T _ (Y2 14 0 w0 S0 U0 B0) ⟨[dv (.int .u8 ((t.toNat:Nat):Int)),dv (Yh a),dv (Yh b)],[]⟩ _ _
 have hs1:szP [a,b]=5+(4+a.length)+(4+b.length):=rfl
 refine sR [] ?_
 refine sR [hR 2 rfl rfl (Jx (l:=a) Tryz.underlying60 Tryz.underlying25 Tryz.underlying5 (X3 rfl) trivial),hR 4 rfl rfl (Jx (l:=b) Tryz.underlying60 Tryz.underlying25 Tryz.underlying5 (X3 rfl) trivial),hR 5 rfl rfl (Yd 0 25 (kSl false kU8) (X22 false kU8) [a,b] [⟨0,.tmp 9,.one (.d (dsl false true kU8 a)),0⟩,⟨1,.tmp 11,.one (.d (dsl false true kU8 b)),1⟩] (cs:=[.d (dsl false true kU8 a),.d (dsl false true kU8 b)]) Tryz.underlying136 U1 rfl E0 rfl rfl rfl pd (Yp rfl rfl pd (Yp rfl rfl pd W4)) pZ7 ⟨p2g,⟨p2g,trivial⟩⟩ (X3 rfl) trivial),hR 6 rfl rfl (Ww (X1l t true false false [a,b] (by omega)) Tryz.func71 rfl (by decide) [] [0] (l:=[(.tmp 7,dv (.int .u8 ((t.toNat:Nat):Int))),(.tmp 12,Y9 0 (kSl false kU8) 0 [a,b].length)]) [(0,.live (Xe 25 (kSl false kU8) [a,b]))] rfl 0 0 rfl rfl rfl rfl rfl rfl rfl rfl rfl ⟨.inl ⟨rfl,rfl⟩,⟨.inr (.inl ⟨rfl,px,rfl,rfl,by simp,25,[a,b].length,W6 (kSl false kU8) [a,b],List.Mem.head _,pm,fun i j=>by rw [Nat.zero_add]⟩),trivial⟩⟩ rfl pZ6 p2t (X3 rfl) trivial)] ?_
 refine T.ret ?_
 exact eRt 6 (.one (dS (ofB t [a,b]))) [] rfl trivial
theorem Xh0 (x:Nat) (hx:x<18446744073709551616):Holds Tryz.prog 166 ⟨[dv (.int .u64 ((x:Nat):Int))],[],vI ((X1y x:Nat):Int),[]⟩:=by
 refine Holds.of Tryz.func166 rfl (N:=25) Tryz.ntmps166 rfl fun w0 B0 S0 U0=>?_
 show T _ (Y2 25 0 w0 S0 U0 B0) ⟨[dv (.int .u64 ((x:Nat):Int))],[]⟩ _ _
 have hb8:=fun (y:Nat)=>UInt8.toNat_lt (Yr.getD (UInt8.ofNat y).toNat 0)
 refine sR [] ?_
 refine T.seq ?_
 refine sR [] ?_
 by_cases hq1:((x:Nat):Int)≥4294967296
 ·have hd32:=Fo (x:=x) (s:=32) (by omega)
  refine cT (dT hq1) ?_
  refine sR [hR 1 rfl rfl (Ye (u1:=.int .u64 ((x:Nat):Int)) (u2:=.int .u64 32) (v:=.int .u64 ((x / 2 ^ 32:Nat):Int)) (Er (n:=32) rfl py) (X3 rfl) ⟨rfl,trivial⟩)] ?_
  refine xK [] ?_
  refine nT (T.seq ?_)
  refine sR [] ?_
  by_cases hq2:((x / 2 ^ 32:Nat):Int)≥65536
  ·have hd16:=Fo (x:=x / 2 ^ 32) (s:=16) (by omega)
   refine cT (dT hq2) ?_
   refine sR [hR 1 rfl rfl (Ye (u1:=.int .u64 ((x / 2 ^ 32:Nat):Int)) (u2:=.int .u64 16) (v:=.int .u64 (((x / 2 ^ 32) / 2 ^ 16:Nat):Int)) (Er (n:=16) rfl py) (X3 rfl) ⟨rfl,trivial⟩)] ?_
   refine xK [hR 1 rfl rfl (Ye (u1:=.int .i64 32) (u2:=.int .i64 16) (v:=.int .i64 48) (Wa pa) (X3 rfl) ⟨rfl,trivial⟩)] ?_
   refine nT (T.seq ?_)
   refine sR [] ?_
   by_cases hq3:(((x / 2 ^ 32) / 2 ^ 16:Nat):Int)≥256
   ·have hd8:=Fo (x:=(x / 2 ^ 32) / 2 ^ 16) (s:=8) (by omega)
    refine cT (dT hq3) ?_
    refine sR [hR 1 rfl rfl (Ye (u1:=.int .u64 (((x / 2 ^ 32) / 2 ^ 16:Nat):Int)) (u2:=.int .u64 8) (v:=.int .u64 ((((x / 2 ^ 32) / 2 ^ 16) / 2 ^ 8:Nat):Int)) (Er (n:=8) rfl py) (X3 rfl) ⟨rfl,trivial⟩)] ?_
    refine xK [hR 1 rfl rfl (Ye (u1:=.int .i64 48) (u2:=.int .i64 8) (v:=.int .i64 56) (Wa pa) (X3 rfl) ⟨rfl,trivial⟩)] ?_
    refine nT ?_
    refine sR [hR 2 rfl rfl (Vc (u:=.int .u64 ((((x / 2 ^ 32) / 2 ^ 16) / 2 ^ 8:Nat):Int)) (v:=.int .u8 (((UInt8.ofNat (((x / 2 ^ 32) / 2 ^ 16) / 2 ^ 8)).toNat:Nat):Int)) (Hn Tryz.underlying179 Tryz.underlying5) (X3 rfl) trivial),hR 3 rfl rfl (Ia (k:=.u8) (l:=Yr) (m:=(UInt8.ofNat (((x / 2 ^ 32) / 2 ^ 16) / 2 ^ 8)).toNat) (b:=(Yr.getD (UInt8.ofNat (((x / 2 ^ 32) / 2 ^ 16) / 2 ^ 8)).toNat 0)) (i:=(((UInt8.ofNat (((x / 2 ^ 32) / 2 ^ 16) / 2 ^ 8)).toNat:Nat):Int)) Tryz.underlying9 rfl p2i rfl (X3 rfl) ⟨rfl,trivial⟩),hR 4 rfl rfl (Vc (u:=.int .u8 (((Yr.getD (UInt8.ofNat (((x / 2 ^ 32) / 2 ^ 16) / 2 ^ 8)).toNat 0).toNat:Nat):Int)) (v:=.int .i64 (((Yr.getD (UInt8.ofNat (((x / 2 ^ 32) / 2 ^ 16) / 2 ^ 8)).toNat 0).toNat:Nat):Int)) (H2 Tryz.underlying5 Tryz.underlying3 p42) (X3 rfl) trivial),hR 5 rfl rfl (Ye (u1:=.int .i64 56) (u2:=.int .i64 (((Yr.getD (UInt8.ofNat (((x / 2 ^ 32) / 2 ^ 16) / 2 ^ 8)).toNat 0).toNat:Nat):Int)) (v:=.int .i64 ((56+(Yr.getD (UInt8.ofNat (((x / 2 ^ 32) / 2 ^ 16) / 2 ^ 8)).toNat 0).toNat:Nat):Int)) (Wa p42) (X3 rfl) trivial)] ?_
    refine T.ret ?_
    exact eRt 2 (.one (dI ((56+(Yr.getD (UInt8.ofNat (((x / 2 ^ 32) / 2 ^ 16) / 2 ^ 8)).toNat 0).toNat:Nat):Int))) [] (by have e1:(((X1y x:Nat):Int):Int)=((56+(Yr.getD (UInt8.ofNat (((x / 2 ^ 32) / 2 ^ 16) / 2 ^ 8)).toNat 0).toNat:Nat):Int):=pZ30;have hE:=cI e1;exact hE) trivial
   refine cF (dF hq3) ?_
   refine T.skip (nT ?_)
   refine sR [hR 2 rfl rfl (Vc (u:=.int .u64 (((x / 2 ^ 32) / 2 ^ 16:Nat):Int)) (v:=.int .u8 (((UInt8.ofNat ((x / 2 ^ 32) / 2 ^ 16)).toNat:Nat):Int)) (Hn Tryz.underlying179 Tryz.underlying5) (X3 rfl) trivial),hR 3 rfl rfl (Ia (k:=.u8) (l:=Yr) (m:=(UInt8.ofNat ((x / 2 ^ 32) / 2 ^ 16)).toNat) (b:=(Yr.getD (UInt8.ofNat ((x / 2 ^ 32) / 2 ^ 16)).toNat 0)) (i:=(((UInt8.ofNat ((x / 2 ^ 32) / 2 ^ 16)).toNat:Nat):Int)) Tryz.underlying9 rfl p2i rfl (X3 rfl) ⟨rfl,trivial⟩),hR 4 rfl rfl (Vc (u:=.int .u8 (((Yr.getD (UInt8.ofNat ((x / 2 ^ 32) / 2 ^ 16)).toNat 0).toNat:Nat):Int)) (v:=.int .i64 (((Yr.getD (UInt8.ofNat ((x / 2 ^ 32) / 2 ^ 16)).toNat 0).toNat:Nat):Int)) (H2 Tryz.underlying5 Tryz.underlying3 p47) (X3 rfl) trivial),hR 5 rfl rfl (Ye (u1:=.int .i64 48) (u2:=.int .i64 (((Yr.getD (UInt8.ofNat ((x / 2 ^ 32) / 2 ^ 16)).toNat 0).toNat:Nat):Int)) (v:=.int .i64 ((48+(Yr.getD (UInt8.ofNat ((x / 2 ^ 32) / 2 ^ 16)).toNat 0).toNat:Nat):Int)) (Wa p47) (X3 rfl) trivial)] ?_
   refine T.ret ?_
   exact eRt 2 (.one (dI ((48+(Yr.getD (UInt8.ofNat ((x / 2 ^ 32) / 2 ^ 16)).toNat 0).toNat:Nat):Int))) [] (by have e1:(((X1y x:Nat):Int):Int)=((48+(Yr.getD (UInt8.ofNat ((x / 2 ^ 32) / 2 ^ 16)).toNat 0).toNat:Nat):Int):=pZ30;have hE:=cI e1;exact hE) trivial
  refine cF (dF hq2) ?_
  refine T.skip (nT (T.seq ?_))
  refine sR [] ?_
  by_cases hq4:((x / 2 ^ 32:Nat):Int)≥256
  ·have hd8:=Fo (x:=x / 2 ^ 32) (s:=8) (by omega)
   refine cT (dT hq4) ?_
   refine sR [hR 1 rfl rfl (Ye (u1:=.int .u64 ((x / 2 ^ 32:Nat):Int)) (u2:=.int .u64 8) (v:=.int .u64 (((x / 2 ^ 32) / 2 ^ 8:Nat):Int)) (Er (n:=8) rfl py) (X3 rfl) ⟨rfl,trivial⟩)] ?_
   refine xK [hR 1 rfl rfl (Ye (u1:=.int .i64 32) (u2:=.int .i64 8) (v:=.int .i64 40) (Wa pa) (X3 rfl) ⟨rfl,trivial⟩)] ?_
   refine nT ?_
   refine sR [hR 2 rfl rfl (Vc (u:=.int .u64 (((x / 2 ^ 32) / 2 ^ 8:Nat):Int)) (v:=.int .u8 (((UInt8.ofNat ((x / 2 ^ 32) / 2 ^ 8)).toNat:Nat):Int)) (Hn Tryz.underlying179 Tryz.underlying5) (X3 rfl) trivial),hR 3 rfl rfl (Ia (k:=.u8) (l:=Yr) (m:=(UInt8.ofNat ((x / 2 ^ 32) / 2 ^ 8)).toNat) (b:=(Yr.getD (UInt8.ofNat ((x / 2 ^ 32) / 2 ^ 8)).toNat 0)) (i:=(((UInt8.ofNat ((x / 2 ^ 32) / 2 ^ 8)).toNat:Nat):Int)) Tryz.underlying9 rfl p2i rfl (X3 rfl) ⟨rfl,trivial⟩),hR 4 rfl rfl (Vc (u:=.int .u8 (((Yr.getD (UInt8.ofNat ((x / 2 ^ 32) / 2 ^ 8)).toNat 0).toNat:Nat):Int)) (v:=.int .i64 (((Yr.getD (UInt8.ofNat ((x / 2 ^ 32) / 2 ^ 8)).toNat 0).toNat:Nat):Int)) (H2 Tryz.underlying5 Tryz.underlying3 p48) (X3 rfl) trivial),hR 5 rfl rfl (Ye (u1:=.int .i64 40) (u2:=.int .i64 (((Yr.getD (UInt8.ofNat ((x / 2 ^ 32) / 2 ^ 8)).toNat 0).toNat:Nat):Int)) (v:=.int .i64 ((40+(Yr.getD (UInt8.ofNat ((x / 2 ^ 32) / 2 ^ 8)).toNat 0).toNat:Nat):Int)) (Wa p48) (X3 rfl) trivial)] ?_
   refine T.ret ?_
   exact eRt 2 (.one (dI ((40+(Yr.getD (UInt8.ofNat ((x / 2 ^ 32) / 2 ^ 8)).toNat 0).toNat:Nat):Int))) [] (by have e1:(((X1y x:Nat):Int):Int)=((40+(Yr.getD (UInt8.ofNat ((x / 2 ^ 32) / 2 ^ 8)).toNat 0).toNat:Nat):Int):=pZ30;have hE:=cI e1;exact hE) trivial
  refine cF (dF hq4) ?_
  refine T.skip (nT ?_)
  refine sR [hR 2 rfl rfl (Vc (u:=.int .u64 ((x / 2 ^ 32:Nat):Int)) (v:=.int .u8 (((UInt8.ofNat (x / 2 ^ 32)).toNat:Nat):Int)) (Hn Tryz.underlying179 Tryz.underlying5) (X3 rfl) trivial),hR 3 rfl rfl (Ia (k:=.u8) (l:=Yr) (m:=(UInt8.ofNat (x / 2 ^ 32)).toNat) (b:=(Yr.getD (UInt8.ofNat (x / 2 ^ 32)).toNat 0)) (i:=(((UInt8.ofNat (x / 2 ^ 32)).toNat:Nat):Int)) Tryz.underlying9 rfl p2i rfl (X3 rfl) ⟨rfl,trivial⟩),hR 4 rfl rfl (Vc (u:=.int .u8 (((Yr.getD (UInt8.ofNat (x / 2 ^ 32)).toNat 0).toNat:Nat):Int)) (v:=.int .i64 (((Yr.getD (UInt8.ofNat (x / 2 ^ 32)).toNat 0).toNat:Nat):Int)) (H2 Tryz.underlying5 Tryz.underlying3 p4g) (X3 rfl) trivial),hR 5 rfl rfl (Ye (u1:=.int .i64 32) (u2:=.int .i64 (((Yr.getD (UInt8.ofNat (x / 2 ^ 32)).toNat 0).toNat:Nat):Int)) (v:=.int .i64 ((32+(Yr.getD (UInt8.ofNat (x / 2 ^ 32)).toNat 0).toNat:Nat):Int)) (Wa p4g) (X3 rfl) trivial)] ?_
  refine T.ret ?_
  exact eRt 2 (.one (dI ((32+(Yr.getD (UInt8.ofNat (x / 2 ^ 32)).toNat 0).toNat:Nat):Int))) [] (by have e1:(((X1y x:Nat):Int):Int)=((32+(Yr.getD (UInt8.ofNat (x / 2 ^ 32)).toNat 0).toNat:Nat):Int):=pZ30;have hE:=cI e1;exact hE) trivial
 refine cF (dF hq1) ?_
 refine T.skip (nT (T.seq ?_))
 refine sR [] ?_
 by_cases hq5:((x:Nat):Int)≥65536
 ·have hd16:=Fo (x:=x) (s:=16) (by omega)
  refine cT (dT hq5) ?_
  refine sR [hR 1 rfl rfl (Ye (u1:=.int .u64 ((x:Nat):Int)) (u2:=.int .u64 16) (v:=.int .u64 ((x / 2 ^ 16:Nat):Int)) (Er (n:=16) rfl py) (X3 rfl) ⟨rfl,trivial⟩)] ?_
  refine xK [hR 1 rfl rfl (Ye (u1:=.int .i64 0) (u2:=.int .i64 16) (v:=.int .i64 16) (Wa pa) (X3 rfl) ⟨rfl,trivial⟩)] ?_
  refine nT (T.seq ?_)
  refine sR [] ?_
  by_cases hq6:((x / 2 ^ 16:Nat):Int)≥256
  ·have hd8:=Fo (x:=x / 2 ^ 16) (s:=8) (by omega)
   refine cT (dT hq6) ?_
   refine sR [hR 1 rfl rfl (Ye (u1:=.int .u64 ((x / 2 ^ 16:Nat):Int)) (u2:=.int .u64 8) (v:=.int .u64 (((x / 2 ^ 16) / 2 ^ 8:Nat):Int)) (Er (n:=8) rfl py) (X3 rfl) ⟨rfl,trivial⟩)] ?_
   refine xK [hR 1 rfl rfl (Ye (u1:=.int .i64 16) (u2:=.int .i64 8) (v:=.int .i64 24) (Wa pa) (X3 rfl) ⟨rfl,trivial⟩)] ?_
   refine nT ?_
   refine sR [hR 2 rfl rfl (Vc (u:=.int .u64 (((x / 2 ^ 16) / 2 ^ 8:Nat):Int)) (v:=.int .u8 (((UInt8.ofNat ((x / 2 ^ 16) / 2 ^ 8)).toNat:Nat):Int)) (Hn Tryz.underlying179 Tryz.underlying5) (X3 rfl) trivial),hR 3 rfl rfl (Ia (k:=.u8) (l:=Yr) (m:=(UInt8.ofNat ((x / 2 ^ 16) / 2 ^ 8)).toNat) (b:=(Yr.getD (UInt8.ofNat ((x / 2 ^ 16) / 2 ^ 8)).toNat 0)) (i:=(((UInt8.ofNat ((x / 2 ^ 16) / 2 ^ 8)).toNat:Nat):Int)) Tryz.underlying9 rfl p2i rfl (X3 rfl) ⟨rfl,trivial⟩),hR 4 rfl rfl (Vc (u:=.int .u8 (((Yr.getD (UInt8.ofNat ((x / 2 ^ 16) / 2 ^ 8)).toNat 0).toNat:Nat):Int)) (v:=.int .i64 (((Yr.getD (UInt8.ofNat ((x / 2 ^ 16) / 2 ^ 8)).toNat 0).toNat:Nat):Int)) (H2 Tryz.underlying5 Tryz.underlying3 p49) (X3 rfl) trivial),hR 5 rfl rfl (Ye (u1:=.int .i64 24) (u2:=.int .i64 (((Yr.getD (UInt8.ofNat ((x / 2 ^ 16) / 2 ^ 8)).toNat 0).toNat:Nat):Int)) (v:=.int .i64 ((24+(Yr.getD (UInt8.ofNat ((x / 2 ^ 16) / 2 ^ 8)).toNat 0).toNat:Nat):Int)) (Wa p49) (X3 rfl) trivial)] ?_
   refine T.ret ?_
   exact eRt 2 (.one (dI ((24+(Yr.getD (UInt8.ofNat ((x / 2 ^ 16) / 2 ^ 8)).toNat 0).toNat:Nat):Int))) [] (by have e1:(((X1y x:Nat):Int):Int)=((24+(Yr.getD (UInt8.ofNat ((x / 2 ^ 16) / 2 ^ 8)).toNat 0).toNat:Nat):Int):=pZ30;have hE:=cI e1;exact hE) trivial
  refine cF (dF hq6) ?_
  refine T.skip (nT ?_)
  refine sR [hR 2 rfl rfl (Vc (u:=.int .u64 ((x / 2 ^ 16:Nat):Int)) (v:=.int .u8 (((UInt8.ofNat (x / 2 ^ 16)).toNat:Nat):Int)) (Hn Tryz.underlying179 Tryz.underlying5) (X3 rfl) trivial),hR 3 rfl rfl (Ia (k:=.u8) (l:=Yr) (m:=(UInt8.ofNat (x / 2 ^ 16)).toNat) (b:=(Yr.getD (UInt8.ofNat (x / 2 ^ 16)).toNat 0)) (i:=(((UInt8.ofNat (x / 2 ^ 16)).toNat:Nat):Int)) Tryz.underlying9 rfl p2i rfl (X3 rfl) ⟨rfl,trivial⟩),hR 4 rfl rfl (Vc (u:=.int .u8 (((Yr.getD (UInt8.ofNat (x / 2 ^ 16)).toNat 0).toNat:Nat):Int)) (v:=.int .i64 (((Yr.getD (UInt8.ofNat (x / 2 ^ 16)).toNat 0).toNat:Nat):Int)) (H2 Tryz.underlying5 Tryz.underlying3 p4h) (X3 rfl) trivial),hR 5 rfl rfl (Ye (u1:=.int .i64 16) (u2:=.int .i64 (((Yr.getD (UInt8.ofNat (x / 2 ^ 16)).toNat 0).toNat:Nat):Int)) (v:=.int .i64 ((16+(Yr.getD (UInt8.ofNat (x / 2 ^ 16)).toNat 0).toNat:Nat):Int)) (Wa p4h) (X3 rfl) trivial)] ?_
  refine T.ret ?_
  exact eRt 2 (.one (dI ((16+(Yr.getD (UInt8.ofNat (x / 2 ^ 16)).toNat 0).toNat:Nat):Int))) [] (by have e1:(((X1y x:Nat):Int):Int)=((16+(Yr.getD (UInt8.ofNat (x / 2 ^ 16)).toNat 0).toNat:Nat):Int):=pZ30;have hE:=cI e1;exact hE) trivial
 refine cF (dF hq5) ?_
 refine T.skip (nT (T.seq ?_))
 refine sR [] ?_
 by_cases hq7:((x:Nat):Int)≥256
 ·have hd8:=Fo (x:=x) (s:=8) (by omega)
  refine cT (dT hq7) ?_
  refine sR [hR 1 rfl rfl (Ye (u1:=.int .u64 ((x:Nat):Int)) (u2:=.int .u64 8) (v:=.int .u64 ((x / 2 ^ 8:Nat):Int)) (Er (n:=8) rfl py) (X3 rfl) ⟨rfl,trivial⟩)] ?_
  refine xK [hR 1 rfl rfl (Ye (u1:=.int .i64 0) (u2:=.int .i64 8) (v:=.int .i64 8) (Wa pa) (X3 rfl) ⟨rfl,trivial⟩)] ?_
  refine nT ?_
  refine sR [hR 2 rfl rfl (Vc (u:=.int .u64 ((x / 2 ^ 8:Nat):Int)) (v:=.int .u8 (((UInt8.ofNat (x / 2 ^ 8)).toNat:Nat):Int)) (Hn Tryz.underlying179 Tryz.underlying5) (X3 rfl) trivial),hR 3 rfl rfl (Ia (k:=.u8) (l:=Yr) (m:=(UInt8.ofNat (x / 2 ^ 8)).toNat) (b:=(Yr.getD (UInt8.ofNat (x / 2 ^ 8)).toNat 0)) (i:=(((UInt8.ofNat (x / 2 ^ 8)).toNat:Nat):Int)) Tryz.underlying9 rfl p2i rfl (X3 rfl) ⟨rfl,trivial⟩),hR 4 rfl rfl (Vc (u:=.int .u8 (((Yr.getD (UInt8.ofNat (x / 2 ^ 8)).toNat 0).toNat:Nat):Int)) (v:=.int .i64 (((Yr.getD (UInt8.ofNat (x / 2 ^ 8)).toNat 0).toNat:Nat):Int)) (H2 Tryz.underlying5 Tryz.underlying3 p4j) (X3 rfl) trivial),hR 5 rfl rfl (Ye (u1:=.int .i64 8) (u2:=.int .i64 (((Yr.getD (UInt8.ofNat (x / 2 ^ 8)).toNat 0).toNat:Nat):Int)) (v:=.int .i64 ((8+(Yr.getD (UInt8.ofNat (x / 2 ^ 8)).toNat 0).toNat:Nat):Int)) (Wa p4j) (X3 rfl) trivial)] ?_
  refine T.ret ?_
  exact eRt 2 (.one (dI ((8+(Yr.getD (UInt8.ofNat (x / 2 ^ 8)).toNat 0).toNat:Nat):Int))) [] (by have e1:(((X1y x:Nat):Int):Int)=((8+(Yr.getD (UInt8.ofNat (x / 2 ^ 8)).toNat 0).toNat:Nat):Int):=pZ30;have hE:=cI e1;exact hE) trivial
 refine cF (dF hq7) ?_
 refine T.skip (nT ?_)
 refine sR [hR 2 rfl rfl (Vc (u:=.int .u64 ((x:Nat):Int)) (v:=.int .u8 (((UInt8.ofNat x).toNat:Nat):Int)) (Hn Tryz.underlying179 Tryz.underlying5) (X3 rfl) trivial),hR 3 rfl rfl (Ia (k:=.u8) (l:=Yr) (m:=(UInt8.ofNat x).toNat) (b:=(Yr.getD (UInt8.ofNat x).toNat 0)) (i:=(((UInt8.ofNat x).toNat:Nat):Int)) Tryz.underlying9 rfl p2i rfl (X3 rfl) ⟨rfl,trivial⟩),hR 4 rfl rfl (Vc (u:=.int .u8 (((Yr.getD (UInt8.ofNat x).toNat 0).toNat:Nat):Int)) (v:=.int .i64 (((Yr.getD (UInt8.ofNat x).toNat 0).toNat:Nat):Int)) (H2 Tryz.underlying5 Tryz.underlying3 p4t) (X3 rfl) trivial),hR 5 rfl rfl (Ye (u1:=.int .i64 0) (u2:=.int .i64 (((Yr.getD (UInt8.ofNat x).toNat 0).toNat:Nat):Int)) (v:=.int .i64 ((0+(Yr.getD (UInt8.ofNat x).toNat 0).toNat:Nat):Int)) (Wa p4t) (X3 rfl) trivial)] ?_
 refine T.ret ?_
 exact eRt 2 (.one (dI ((0+(Yr.getD (UInt8.ofNat x).toNat 0).toNat:Nat):Int))) [] (by have e1:(((X1y x:Nat):Int):Int)=((0+(Yr.getD (UInt8.ofNat x).toNat 0).toNat:Nat):Int):=pZ30;have hE:=cI e1;exact hE) trivial
theorem bits_Len (x:Nat) (hx:x<18446744073709551616):Holds Tryz.prog 130 ⟨[dv (.int .u64 ((x:Nat):Int))],[],vI ((X1y x:Nat):Int),[]⟩:=by
 refine Holds.of Tryz.func130 rfl (N:=8) Tryz.ntmps130 rfl fun w0 B0 S0 U0=>?_
 show T _ (Y2 8 0 w0 S0 U0 B0) ⟨[dv (.int .u64 ((x:Nat):Int))],[]⟩ _ _
 refine sR [] ?_
 refine T.seq ?_
 refine cF (b:=false) rfl ?_
 refine T.skip (nT ?_)
 refine sR [hR 1 rfl rfl (rCa (Xh0 x ‹_›) Tryz.func166 [] [(.tmp 6,dv (.int .u64 ((x:Nat):Int)))] 0 0)] ?_
 refine T.ret ?_
 exact eRt 2 (.one (dI ((X1y x:Nat):Int))) [] rfl trivial
theorem X0o (n:Nat) (h2:2≤n) (hn:n≤9223372036854775807):Holds Tryz.prog 148 ⟨[vI ((n:Nat):Int)],[],vI ((half n:Nat):Int),[]⟩:=by
 refine Holds.of Tryz.func148 rfl (N:=9) Tryz.ntmps148 rfl fun w0 B0 S0 U0=>?_
 show T _ (Y2 9 0 w0 S0 U0 B0) ⟨[vI ((n:Nat):Int)],[]⟩ _ _
 have hlg:=log_le hn h2
 refine sR [] ?_
 refine sR [hR 1 rfl rfl (Ye (u1:=.int .i64 ((n:Nat):Int)) (u2:=.int .i64 1) (v:=.int .i64 ((n-1:Nat):Int)) (Ve pa) (X3 rfl) ⟨rfl,trivial⟩),hR 2 rfl rfl (Vc (u:=.int .i64 ((n-1:Nat):Int)) (v:=.int .u64 ((n-1:Nat):Int)) (H2 Tryz.underlying3 Tryz.underlying185 p43) (X3 rfl) trivial),hR 3 rfl rfl (rCa (bits_Len (n-1) (by omega)) Tryz.func130 [] [(.tmp 5,dv (.int .u64 ((n-1:Nat):Int)))] 0 0),hR 4 rfl rfl (Ye (u1:=.int .i64 ((X1y (n-1):Nat):Int)) (u2:=.int .i64 1) (v:=.int .i64 ((Nat.log2 (n-1):Nat):Int)) (Ve (by rw [X9h (by omega),IntKind.wrap_i64];omega)) (X3 rfl) ⟨rfl,trivial⟩),hR 5 rfl rfl (Ye (u1:=.int .i64 1) (u2:=.int .i64 ((Nat.log2 (n-1):Nat):Int)) (v:=.int .i64 ((half n:Nat):Int)) (b_shl (n:=Nat.log2 (n-1)) rfl (Nat.le_trans hlg (by decide)) (shl_half hn h2)) (X3 rfl) ⟨rfl,trivial⟩)] ?_
 refine T.ret ?_
 exact eRt 2 (.one (dI ((half n:Nat):Int))) [] rfl trivial
abbrev Z2q (n:Nat):AV:=vI ((n:Nat):Int)
theorem X3n (n:Nat) (h2:2≤n) (hn:n≤9223372036854775807):Holds Tryz.prog 138 ⟨[vI ((n:Nat):Int)],[],vI ((half n:Nat):Int),[]⟩:=by
 refine Holds.of Tryz.func138 rfl (N:=12) Tryz.ntmps138 rfl fun w0 B0 S0 U0=>?_
 show T _ (Y2 12 0 w0 S0 U0 B0) ⟨[(Z2q n)],[]⟩ _ _
 refine sR [] ?_
 refine sR [] ?_
 refine T.seq ?_
 refine T.block ?_
 refine T.loop (ι:=Nat) (fun (K:Nat)=>⟨[(Z2q n),aa,vI 0,vI ((K:Nat):Int)],[]⟩) (fun (K:Nat)=>(∃ j,K=2 ^ j)∧(K<n)) (fun (K:Nat)=>n-K) (1) ⟨⟨0,rfl⟩,(by omega)⟩ (fun _ _ hG=>Yt [] (bm 4 13) rfl rfl hG) ?_
 rintro K ⟨hp,hK⟩
 show T _ _ ⟨[(Z2q n),aa,vI 0,vI ((K:Nat):Int)],[]⟩ _ _
 replace hp:∃ j,K=2 ^ j:=hp
 replace hK:K<n:=hK
 refine T.seq ?_
 refine sR [hR 3 rfl rfl (Ye (u1:=.int .i64 ((n:Nat):Int)) (u2:=.int .i64 ((K:Nat):Int)) (v:=.int .i64 (((n:Nat):Int)-((K:Nat):Int))) (Ve pa) (X3 rfl) trivial)] ?_
 by_cases hq1:((K:Nat):Int)<(((n:Nat):Int)-((K:Nat):Int))
 ·refine cT (dT hq1) ?_
  refine T.skip (nT ?_)
  refine T.block ?_
  refine xK [hR 1 rfl rfl (Ye (u1:=.int .i64 2) (u2:=.int .i64 ((K:Nat):Int)) (v:=.int .i64 ((2*K:Nat):Int)) (Xa2 pa) (X3 rfl) ⟨rfl,trivial⟩)] ?_
  refine nB ?_
  refine nL (2*K) ⟨(show ∃ j,(2*K)=2 ^ j from (by obtain ⟨j,hj⟩:=hp;exact ⟨j+1,by rw [hj,Nat.pow_succ];omega⟩)),(show (2*K)<n from (by omega))⟩ (show (n-(2*K):Nat)<n-K from (by have hK0:0<K:=(by obtain ⟨j,hj⟩:=hp;rw [hj];exact Nat.pow_pos (by decide));omega)) (fun _ _ hG=>Yt [] (bm 4 13) rfl rfl hG)
 refine cF (dF hq1) ?_
 refine T.exit ?_
 refine xT ?_
 refine xT ?_
 refine xH ?_
 refine nT ?_
 refine sR [] ?_
 refine T.ret ?_
 exact eRt 2 (.one (dI ((K:Nat):Int))) [] (by have e1:(((half n:Nat):Int):Int)=((K:Nat):Int):=(by (rw [half_of hp hK (by omega)]));have hE:=cI e1;exact hE) trivial
end Go.Proofs.YtnaopgohccacmaaGreat.Q
