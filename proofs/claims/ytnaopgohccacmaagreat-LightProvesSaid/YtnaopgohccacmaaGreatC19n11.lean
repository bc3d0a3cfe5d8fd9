import Derived.Test.YtnaopgohccacmaaGreatC19n7
namespace Go.Proofs.YtnaopgohccacmaaGreat.Q
open Go Go.RowKit
set_option linter.unusedVariables false
set_option linter.unusedSimpArgs false
set_option maxRecDepth 100000
set_option maxHeartbeats 4000000
section
variable (t:UInt8) (tl:Bool) (nl:Bool) (sl_:Bool) (l:List (List UInt8)) (k:Nat) (k2:Nat)
abbrev Z2e:AV:=dv (.int .u8 ((t.toNat:Nat):Int))
abbrev Z2f:AV:=slV tl nl (kSl sl_ kU8) l
abbrev Z2g:AV:=vI ((l.length:Nat):Int)
abbrev Z2h:St:=⟨[(Z2e t),(Z2f tl nl sl_ l),aa,aa,dv (Yk []),vI ((szP (l.take k):Nat):Int),aa,aa,aa,aa,aa,(Z2f tl nl sl_ l),(Z2g l),vI ((k:Nat):Int)],[]⟩
abbrev Z2j:AV:=vI ((k+1:Nat):Int)
abbrev Z2l:St:=⟨[(Z2e t),(Z2f tl nl sl_ l),aa,aa,aa,aa,aa,aa,Y8 0 kU8 0 (ofR t l.length (l.take k2)).length,aa,aa,(Z2f tl nl sl_ l),(Z2g l),aa,aa,aa,aa,aa,aa,aa,aa,aa,aa,aa,aa,aa,aa,aa,aa,aa,aa,aa,(Z2f tl nl sl_ l),(Z2g l),vI ((k2:Nat):Int)],[.live (Xf 5 kU8 (ofR t l.length (l.take k2)))]⟩
abbrev Z2m:AV:=vI ((k2+1:Nat):Int)
end
theorem X3x (t:UInt8) (tl:Bool) (nl:Bool) (sl_:Bool) (l:List (List UInt8)) (hs:szP l≤140737488354000):Holds Tryz.prog 84 ⟨[dv (.int .u8 ((t.toNat:Nat):Int)),slV tl nl (kSl sl_ kU8) l],[],dv (Yk (ofB t l)),[]⟩:=by
 refine Holds.of Tryz.func84 rfl (N:=44) Tryz.ntmps84 rfl fun w0 B0 S0 U0=>?_
 show T _ (Y2 44 0 w0 S0 U0 B0) ⟨[(Z2e t),(Z2f tl nl sl_ l)],[]⟩ _ _
 have hcn:=Xan l
 have hcl:=Jc ((l.length:Nat):Int)
 have hall:=X2m t l
 refine sR [] (sR [] (T.seq (sR [] (T.block ?_))))
 refine T.loop (ι:=Nat) (fun (k:Nat)=>(Z2h t tl nl sl_ l k)) (fun (k:Nat)=>(k≤l.length)) (fun (k:Nat)=>l.length-k) (0) (Nat.zero_le _) (fun _ _ hG=>Yv [] (bm 14 14387) (t2:=[(Z2e t),(Z2f tl nl sl_ l),aa,aa,dv (Yk []),vI 5,aa,aa,aa,aa,aa,(Z2f tl nl sl_ l),(Z2g l),vI 0]) (congrArg (fun (q1:Int)=>([(Z2e t),(Z2f tl nl sl_ l),aa,aa,dv (Yk []),vI q1,aa,aa,aa,aa,aa,(Z2f tl nl sl_ l),(Z2g l),vI 0]:List AV)) (by rfl)) rfl hG) ?_
 rintro k hk
 show T _ _ (Z2h t tl nl sl_ l k) _ _
 replace hk:k≤l.length:=hk
 have hsz0:=Eo l k
 refine sR [] (T.seq ?_)
 by_cases hq1:((k:Nat):Int)<((l.length:Nat):Int)
 ·have hkl:k<l.length:=(by omega);have hsk:=X3y hkl;have hst:=Eo l (k+1)
  refine cT (dT hq1) (T.skip (nT (T.seq (T.block (sR [hR 0 rfl rfl (We tl nl (kSl sl_ kU8) l k (k:=.i64) (i:=((k:Nat):Int)) Tryz.underlying136 U1 rfl rfl ‹_› (X3 rfl) trivial)] ?_)))))
  refine xR [hR 3 rfl rfl (Yd (u1:=.int .i64 4) (u2:=.int .i64 (((l.getD k []).length:Nat):Int)) (v:=.int .i64 ((4+(l.getD k []).length:Nat):Int)) (Wb pc) (X3 rfl) ⟨rfl,trivial⟩),hR 4 rfl rfl (Yd (u1:=.int .i64 ((szP (l.take k):Nat):Int)) (u2:=.int .i64 ((4+(l.getD k []).length:Nat):Int)) (v:=.int .i64 (((szP (l.take k))+(4+(l.getD k []).length):Nat):Int)) (Wb pc) (X3 rfl) trivial)] pZ8 pZ8 (nB (nT (xK [hR 0 rfl rfl (Yd (u1:=.int .i64 ((k:Nat):Int)) (u2:=.int .i64 1) (v:=.int .i64 ((k+1:Nat):Int)) (Wb pc) (X3 rfl) ⟨rfl,trivial⟩)] ?_)))
  refine nL (k+1) (show (k+1)≤l.length from (by omega)) (show (l.length-(k+1):Nat)<l.length-k from (by omega)) (fun _ _ hG=>Yv [] (bm 14 14387) (t2:=[(Z2e t),(Z2f tl nl sl_ l),aa,aa,dv (Yk []),vI (((szP (l.take k))+(4+(l.getD k []).length):Nat):Int),aa,aa,aa,aa,aa,(Z2f tl nl sl_ l),(Z2g l),(Z2j k)]) (by have e1:(((szP (l.take (k+1)):Nat):Int):Int)=(((szP (l.take k))+(4+(l.getD k []).length):Nat):Int):=(by (rw [X3y hkl]));have hE:=congrArg (fun (q1:Int)=>([(Z2e t),(Z2f tl nl sl_ l),aa,aa,dv (Yk []),vI q1,aa,aa,aa,aa,aa,(Z2f tl nl sl_ l),(Z2g l),(Z2j k)]:List AV)) e1;exact hE) rfl hG)
 refine cF (dF hq1) (T.exit (xT (xT (xH (nT ?_)))))
 refine sR [hR 1 rfl rfl (q_make 0 5 1 kU8 ([]:List UInt8) 0 (szP (l.take k)) (p:=0) (q:=((szP (l.take k):Nat):Int)) Jb Im rfl rfl (by omega) (by omega) (by (unfold maxLen;omega)) (by intro j hj;replace hj:j<1:=hj;rcases j with _|j<;>first|rfl|omega) (by simp) (X3 rfl) ⟨rfl,trivial⟩),hR 3 rfl rfl (Yc 1 5 kU8 Vu [t] [⟨0,.tmp 25,.one (.d (.val (.int .u8 ((t.toNat:Nat):Int)))),0⟩] (cs:=[.d (.val (.int .u8 ((t.toNat:Nat):Int)))]) Tryz.underlying25 Ji rfl Im rfl rfl rfl pd (Yr rfl rfl pd W5) pZ8 (V4 pZ8) (X3 rfl) trivial),hR 4 rfl rfl (W2 0 2 5 1 kU8 Vu ([]:List UInt8) [t] [t] ([]:List UInt8).length (sy:=(.own 1 kU8.sz 0 [t].length)) (rhs:=[(1,.live (Xf 5 kU8 [t]))]) Jb (by omega) (Wv 1 5 kU8 [t]) (by simp) (by (simp [maxLen,-List.getD_eq_getElem?_getD]<;>omega)) (by (simp [maxLen,-List.getD_eq_getElem?_getD]<;>omega)) (X3 rfl) trivial)] ?_
 refine sR [hR 3 rfl rfl (Wu (X2x true false [t] ((l.length:Nat):Int) (by (simp [maxLen,-List.getD_eq_getElem?_getD]<;>omega))) Tryz.func131 rfl (by decide) [3] [2] (l:=[(.tmp 28,Y8 2 kU8 0 [t].length),(.tmp 30,(Z2g l))]) [(2,.live (Xf 5 kU8 [t]))] rfl 0 1 rfl rfl rfl rfl rfl rfl rfl rfl rfl ⟨.inr (.inl ⟨rfl,pZv,rfl,rfl,by simp,5,[t].length,W7 kU8 [t],List.Mem.head _,pZl,fun i j=>by rw [Nat.zero_add]⟩),⟨.inl ⟨rfl,rfl⟩,trivial⟩⟩ rfl pZ6 pk (X3 rfl) trivial)] ?_
 refine T.seq (sR [] (T.block ?_))
 refine T.loop (ι:=Nat) (fun (k2:Nat)=>(Z2l t tl nl sl_ l k2)) (fun (k2:Nat)=>(k2≤l.length)) (fun (k2:Nat)=>l.length-k2) (0) (Nat.zero_le _) (fun _ _ hG=>Wf [3] (bm 35 30064777475) (t1:=[(Z2e t),(Z2f tl nl sl_ l),aa,aa,aa,aa,aa,aa,Y8 3 kU8 0 (ofR t l.length (l.take 0)).length,aa,aa,(Z2f tl nl sl_ l),(Z2g l),aa,aa,aa,aa,aa,aa,aa,aa,aa,aa,aa,aa,aa,aa,aa,aa,aa,aa,aa,(Z2f tl nl sl_ l),(Z2g l),vI 0]) (t2:=[(Z2e t),(Z2f tl nl sl_ l),aa,aa,aa,aa,aa,aa,Y8 3 kU8 0 ([t]++Ve ((l.length:Nat):Int)).length,aa,aa,(Z2f tl nl sl_ l),(Z2g l),aa,aa,aa,aa,aa,aa,aa,aa,aa,aa,aa,aa,aa,aa,aa,aa,aa,aa,aa,(Z2f tl nl sl_ l),(Z2g l),vI 0]) (h1:=[.live (Xf 5 kU8 (ofR t l.length (l.take 0)))]) (h2:=[.live (Xf 5 kU8 ([t]++Ve ((l.length:Nat):Int)))]) (congrArg (fun (q1:Nat)=>([(Z2e t),(Z2f tl nl sl_ l),aa,aa,aa,aa,aa,aa,Y8 3 kU8 0 q1,aa,aa,(Z2f tl nl sl_ l),(Z2g l),aa,aa,aa,aa,aa,aa,aa,aa,aa,aa,aa,aa,aa,aa,aa,aa,aa,aa,aa,(Z2f tl nl sl_ l),(Z2g l),vI 0]:List AV)) (by rfl)) pZ20 hG) ?_
 rintro k2 hk2
 show T _ _ (Z2l t tl nl sl_ l k2) _ _
 replace hk2:k2≤l.length:=hk2
 have hol:=Xc7 t l.length (l.take k2)
 have hsz0:=Eo l k2
 refine sR [] (T.seq ?_)
 by_cases hq2:((k2:Nat):Int)<((l.length:Nat):Int)
 ·have hkl:k2<l.length:=(by omega);have hsk:=X3y hkl;have hst:=Eo l (k2+1)
  refine cT (dT hq2) (T.skip (nT (T.seq (T.block (sR [hR 0 rfl rfl (We tl nl (kSl sl_ kU8) l k2 (k:=.i64) (i:=((k2:Nat):Int)) Tryz.underlying136 U1 rfl rfl ‹_› (X3 rfl) trivial)] ?_)))))
  refine xK [hR 2 rfl rfl (Wu (X2y true false (ofR t l.length (l.take k2)) sl_ false (l.getD k2 []) (by omega)) Tryz.func132 rfl (by decide) [1] [0] (l:=[(.tmp 38,Y8 0 kU8 0 (ofR t l.length (l.take k2)).length),(.tmp 39,slV sl_ false kU8 (l.getD k2 []))]) [(0,.live (Xf 5 kU8 (ofR t l.length (l.take k2))))] rfl 0 1 rfl rfl rfl rfl rfl rfl rfl rfl rfl ⟨.inr (.inl ⟨rfl,pZv,rfl,rfl,by simp,5,(ofR t l.length (l.take k2)).length,W7 kU8 (ofR t l.length (l.take k2)),List.Mem.head _,pZl,fun i j=>by rw [Nat.zero_add]⟩),⟨.inl ⟨rfl,rfl⟩,trivial⟩⟩ rfl pZ6 pk (X3 rfl) trivial)] (nB (nT ?_))
  refine xK [hR 0 rfl rfl (Yd (u1:=.int .i64 ((k2:Nat):Int)) (u2:=.int .i64 1) (v:=.int .i64 ((k2+1:Nat):Int)) (Wb pc) (X3 rfl) ⟨rfl,trivial⟩)] ?_
  refine nL (k2+1) (show (k2+1)≤l.length from (by omega)) (show (l.length-(k2+1):Nat)<l.length-k2 from (by omega)) (fun _ _ hG=>Wf [1] (bm 35 30064777475) (t1:=[(Z2e t),(Z2f tl nl sl_ l),aa,aa,aa,aa,aa,aa,Y8 1 kU8 0 (ofR t l.length (l.take (k2+1))).length,aa,aa,(Z2f tl nl sl_ l),(Z2g l),aa,aa,aa,aa,aa,aa,aa,aa,aa,aa,aa,aa,aa,aa,aa,aa,aa,aa,aa,(Z2f tl nl sl_ l),(Z2g l),(Z2m k2)]) (t2:=[(Z2e t),(Z2f tl nl sl_ l),aa,aa,aa,aa,aa,aa,Y8 1 kU8 0 ((ofR t l.length (l.take k2))++Yx (l.getD k2 [])).length,aa,aa,(Z2f tl nl sl_ l),(Z2g l),aa,aa,aa,aa,aa,aa,aa,aa,aa,aa,aa,aa,aa,aa,aa,aa,aa,aa,aa,(Z2f tl nl sl_ l),(Z2g l),(Z2m k2)]) (h1:=[.live (Xf 5 kU8 (ofR t l.length (l.take (k2+1))))]) (h2:=[.live (Xf 5 kU8 ((ofR t l.length (l.take k2))++Yx (l.getD k2 [])))]) (by have e1:((ofR t l.length (l.take (k2+1))).length:Nat)=((ofR t l.length (l.take k2))++Yx (l.getD k2 [])).length:=(by (rw [X4f hkl]));have hE:=congrArg (fun (q1:Nat)=>([(Z2e t),(Z2f tl nl sl_ l),aa,aa,aa,aa,aa,aa,Y8 1 kU8 0 q1,aa,aa,(Z2f tl nl sl_ l),(Z2g l),aa,aa,aa,aa,aa,aa,aa,aa,aa,aa,aa,aa,aa,aa,aa,aa,aa,aa,aa,(Z2f tl nl sl_ l),(Z2g l),(Z2m k2)]:List AV)) e1;exact hE) (by have e1:((ofR t l.length (l.take (k2+1))):List UInt8)=(ofR t l.length (l.take k2))++Yx (l.getD k2 []):=(by (rw [X4f hkl]));have hE:=congrArg (fun (q1:List UInt8)=>([.live (Xf 5 kU8 q1)]:List HS)) e1;exact hE) hG)
 refine cF (dF hq2) (T.exit (xT (xT (xH (nT (sR [hR 1 rfl rfl (Hp () (ofR t l.length (l.take k2)) (ys:=(.own 0 kU8.sz 0 (ofR t l.length (l.take k2)).length)) (rhs:=[(0,.live (Xf 5 kU8 (ofR t l.length (l.take k2))))]) Tryz.underlying25 Tryz.underlying5 Tryz.underlying60 (Wv 0 5 kU8 (ofR t l.length (l.take k2))) (X3 rfl) trivial)] (T.ret ?_)))))))
 exact eRt 4 (.one (dS (ofR t l.length (l.take k2)))) [] (by have e1:((ofB t l):List UInt8)=(ofR t l.length (l.take k2)):=(by (have hke:k2=l.length:=(by omega);rw [hke,Xib]));have hE:=congrArg (fun (q1:List UInt8)=>(dv (Yk q1):AV)) e1;exact hE) trivial
theorem Fw:Zero Tryz.prog 25 [.slice none 0 0]:=⟨_,_,U1,rfl,rfl⟩
theorem X57 (t:UInt8) (tb:Bool) (nb:Bool) (b:List UInt8) (hb:b.length≤140737488350000):Holds Tryz.prog 118 ⟨[dv (.int .u8 ((t.toNat:Nat):Int)),slV tb nb kU8 b],[],dv (Yk (ofB t [b])),[]⟩:=by
 refine Holds.of Tryz.func118 rfl (N:=9) Tryz.ntmps118 rfl fun w0 B0 S0 U0=>?_
 show T _ (Y2 9 0 w0 S0 U0 B0) ⟨[dv (.int .u8 ((t.toNat:Nat):Int)),slV tb nb kU8 b],[]⟩ _ _
 have hs1:szP [b]=5+(4+b.length):=rfl
 refine sR [] ?_
 refine sR [hR 2 rfl rfl (Yc 0 25 (kSl tb kU8) (X1x tb kU8) [b] [⟨0,.tmp 6,.one (.d (dsl tb nb kU8 b)),0⟩] (cs:=[.d (dsl tb nb kU8 b)]) Tryz.underlying136 U1 rfl Fw rfl rfl rfl pd (Yr rfl rfl pd W5) pZ8 ⟨pZ25,trivial⟩ (X3 rfl) trivial),hR 3 rfl rfl (Wu (X3x t true false tb [b] (by omega)) Tryz.func84 rfl (by decide) [] [0] (l:=[(.tmp 5,dv (.int .u8 ((t.toNat:Nat):Int))),(.tmp 7,Y8 0 (kSl false kU8) 0 [b].length)]) [(0,.live (Xf 25 (kSl tb kU8) [b]))] rfl 0 0 rfl rfl rfl rfl rfl rfl rfl rfl rfl ⟨.inl ⟨rfl,rfl⟩,⟨.inr (.inl ⟨rfl,pZv,rfl,rfl,by simp,25,[b].length,W7 (kSl tb kU8) [b],List.Mem.head _,pZl,fun i j=>by rw [Nat.zero_add]⟩),trivial⟩⟩ rfl pZ6 p2v (X3 rfl) trivial)] ?_
 refine T.ret ?_
 exact eRt 4 (.one (dS (ofB t [b]))) [] rfl trivial
theorem X56 (t:UInt8) (a:List UInt8) (b:List UInt8) (hb:a.length+b.length≤140737488350000):Holds Tryz.prog 142 ⟨[dv (.int .u8 ((t.toNat:Nat):Int)),dv (Yk a),dv (Yk b)],[],dv (Yk (ofB t [a,b])),[]⟩:=by
 refine Holds.of Tryz.func142 rfl (N:=14) Tryz.ntmps142 rfl fun w0 B0 S0 U0=>?_
 show T _ (Y2 14 0 w0 S0 U0 B0) ⟨[dv (.int .u8 ((t.toNat:Nat):Int)),dv (Yk a),dv (Yk b)],[]⟩ _ _
 have hs1:szP [a,b]=5+(4+a.length)+(4+b.length):=rfl
 refine sR [] ?_
 refine sR [hR 2 rfl rfl (Jv (l:=a) Tryz.underlying60 Tryz.underlying25 Tryz.underlying5 (X3 rfl) trivial),hR 4 rfl rfl (Jv (l:=b) Tryz.underlying60 Tryz.underlying25 Tryz.underlying5 (X3 rfl) trivial),hR 5 rfl rfl (Yc 0 25 (kSl false kU8) (X1x false kU8) [a,b] [⟨0,.tmp 9,.one (.d (dsl false true kU8 a)),0⟩,⟨1,.tmp 11,.one (.d (dsl false true kU8 b)),1⟩] (cs:=[.d (dsl false true kU8 a),.d (dsl false true kU8 b)]) Tryz.underlying136 U1 rfl Fw rfl rfl rfl pd (Yr rfl rfl pd (Yr rfl rfl pd W5)) pZ8 ⟨pZ25,⟨pZ25,trivial⟩⟩ (X3 rfl) trivial),hR 6 rfl rfl (Wu (X3x t true false false [a,b] (by omega)) Tryz.func84 rfl (by decide) [] [0] (l:=[(.tmp 7,dv (.int .u8 ((t.toNat:Nat):Int))),(.tmp 12,Y8 0 (kSl false kU8) 0 [a,b].length)]) [(0,.live (Xf 25 (kSl false kU8) [a,b]))] rfl 0 0 rfl rfl rfl rfl rfl rfl rfl rfl rfl ⟨.inl ⟨rfl,rfl⟩,⟨.inr (.inl ⟨rfl,pZv,rfl,rfl,by simp,25,[a,b].length,W7 (kSl false kU8) [a,b],List.Mem.head _,pZl,fun i j=>by rw [Nat.zero_add]⟩),trivial⟩⟩ rfl pZ6 p2v (X3 rfl) trivial)] ?_
 refine T.ret ?_
 exact eRt 6 (.one (dS (ofB t [a,b]))) [] rfl trivial
abbrev Z2n (t:UInt8):AV:=dv (.int .u8 ((t.toNat:Nat):Int))
abbrev Z2o (t:UInt8) (l:List (List UInt8)) (k:Nat):=(ofR t l.length (l.take k))
abbrev Z2p (k:Nat):AV:=vI ((k+1:Nat):Int)
theorem X1h (t:UInt8) (tl:Bool) (nl:Bool) (sl_:Bool) (l:List (List UInt8)) (hs:szP l≤140737488354000):Holds Tryz.prog 71 ⟨[dv (.int .u8 ((t.toNat:Nat):Int)),slV tl nl (kSl sl_ kU8) l],[],dv (Yk (ofB t l)),[]⟩:=by
 refine Holds.of Tryz.func71 rfl (N:=26) Tryz.ntmps71 rfl fun w0 B0 S0 U0=>?_
 show T _ (Y2 26 0 w0 S0 U0 B0) ⟨[(Z2n t),slV tl nl (kSl sl_ kU8) l],[]⟩ _ _
 have hcn:=Xan l
 have hcl:=Jc ((l.length:Nat):Int)
 have hall:=X2m t l
 refine sR [] ?_
 refine sR [hR 1 rfl rfl (Yc 0 5 kU8 Vu [t] [⟨0,.tmp 7,.one (.d (.val (.int .u8 ((t.toNat:Nat):Int)))),0⟩] (cs:=[.d (.val (.int .u8 ((t.toNat:Nat):Int)))]) Tryz.underlying25 Ji rfl Im rfl rfl rfl pd (Yr rfl rfl pd W5) pZ8 (V4 pZ8) (X3 rfl) trivial),hR 4 rfl rfl (Wu (E1 true false [t] ((l.length:Nat):Int) (by (simp [maxLen,-List.getD_eq_getElem?_getD]<;>omega))) Tryz.func66 rfl (by decide) [1] [0] (l:=[(.tmp 8,Y8 0 kU8 0 [t].length),(.tmp 10,vI ((l.length:Nat):Int))]) [(0,.live (Xf 5 kU8 [t]))] rfl 0 1 rfl rfl rfl rfl rfl rfl rfl rfl rfl ⟨.inr (.inl ⟨rfl,pZv,rfl,rfl,by simp,5,[t].length,W7 kU8 [t],List.Mem.head _,pZl,fun i j=>by rw [Nat.zero_add]⟩),⟨.inl ⟨rfl,rfl⟩,trivial⟩⟩ rfl pZ6 pk (X3 rfl) trivial)] ?_
 refine T.seq (sR [] (T.block ?_))
 refine T.loop (ι:=Nat) (fun (k:Nat)=>⟨[(Z2n t),slV tl nl (kSl sl_ kU8) l,aa,aa,aa,Y8 0 kU8 0 (Z2o t l k).length,vI ((k:Nat):Int)],[.live (Xf 5 kU8 (Z2o t l k))]⟩) (fun (k:Nat)=>(k≤l.length)) (fun (k:Nat)=>l.length-k) (0) (Nat.zero_le _) (fun _ _ hG=>Wf [1] (bm 7 99) (t1:=[(Z2n t),slV tl nl (kSl sl_ kU8) l,aa,aa,aa,Y8 1 kU8 0 (ofR t l.length (l.take 0)).length,vI 0]) (t2:=[(Z2n t),slV tl nl (kSl sl_ kU8) l,aa,aa,aa,Y8 1 kU8 0 ([t]++Ve ((l.length:Nat):Int)).length,vI 0]) (h1:=[.live (Xf 5 kU8 (ofR t l.length (l.take 0)))]) (h2:=[.live (Xf 5 kU8 ([t]++Ve ((l.length:Nat):Int)))]) (congrArg (fun (q1:Nat)=>([(Z2n t),slV tl nl (kSl sl_ kU8) l,aa,aa,aa,Y8 1 kU8 0 q1,vI 0]:List AV)) (by rfl)) pZ20 hG) ?_
 rintro k hk
 show T _ _ ⟨[(Z2n t),slV tl nl (kSl sl_ kU8) l,aa,aa,aa,Y8 0 kU8 0 (Z2o t l k).length,vI ((k:Nat):Int)],[.live (Xf 5 kU8 (Z2o t l k))]⟩ _ _
 replace hk:k≤l.length:=hk
 have hol:=Xc7 t l.length (l.take k)
 have hsz0:=Eo l k
 refine T.seq (sR [] ?_)
 by_cases hq1:((k:Nat):Int)<((l.length:Nat):Int)
 ·have hkl:k<l.length:=(by omega);have hsk:=X3y hkl;have hst:=Eo l (k+1)
  refine cT (dT hq1) (T.skip (nT (T.seq (T.block ?_))))
  refine xR [hR 3 rfl rfl (We tl nl (kSl sl_ kU8) l k (k:=.i64) (i:=((k:Nat):Int)) Tryz.underlying136 U1 rfl rfl ‹_› (X3 rfl) trivial),hR 5 rfl rfl (Wu (Ia true false (ofR t l.length (l.take k)) sl_ false (l.getD k []) (by omega)) Tryz.func64 rfl (by decide) [1] [0] (l:=[(.tmp 18,Y8 0 kU8 0 (Z2o t l k).length),(.tmp 22,slV sl_ false kU8 (l.getD k []))]) [(0,.live (Xf 5 kU8 (Z2o t l k)))] rfl 0 1 rfl rfl rfl rfl rfl rfl rfl rfl rfl ⟨.inr (.inl ⟨rfl,pZv,rfl,rfl,by simp,5,(ofR t l.length (l.take k)).length,W7 kU8 (ofR t l.length (l.take k)),List.Mem.head _,pZl,fun i j=>by rw [Nat.zero_add]⟩),⟨.inl ⟨rfl,rfl⟩,trivial⟩⟩ rfl pZ6 pk (X3 rfl) trivial)] pZ8 pZ8 ?_
  refine nB (nT (xK [hR 1 rfl rfl (Yd (u1:=.int .i64 ((k:Nat):Int)) (u2:=.int .i64 1) (v:=.int .i64 ((k+1:Nat):Int)) (Wb pc) (X3 rfl) ⟨rfl,trivial⟩)] ?_))
  refine nL (k+1) (show (k+1)≤l.length from (by omega)) (show (l.length-(k+1):Nat)<l.length-k from (by omega)) (fun _ _ hG=>Wf [1] (bm 7 99) (t1:=[(Z2n t),slV tl nl (kSl sl_ kU8) l,aa,aa,aa,Y8 1 kU8 0 (ofR t l.length (l.take (k+1))).length,(Z2p k)]) (t2:=[(Z2n t),slV tl nl (kSl sl_ kU8) l,aa,aa,aa,Y8 1 kU8 0 ((Z2o t l k)++Yx (l.getD k [])).length,(Z2p k)]) (h1:=[.live (Xf 5 kU8 (ofR t l.length (l.take (k+1))))]) (h2:=[.live (Xf 5 kU8 ((Z2o t l k)++Yx (l.getD k [])))]) (by have e1:((ofR t l.length (l.take (k+1))).length:Nat)=((ofR t l.length (l.take k))++Yx (l.getD k [])).length:=(by (rw [X4f hkl]));have hE:=congrArg (fun (q1:Nat)=>([(Z2n t),slV tl nl (kSl sl_ kU8) l,aa,aa,aa,Y8 1 kU8 0 q1,(Z2p k)]:List AV)) e1;exact hE) (by have e1:((ofR t l.length (l.take (k+1))):List UInt8)=(ofR t l.length (l.take k))++Yx (l.getD k []):=(by (rw [X4f hkl]));have hE:=congrArg (fun (q1:List UInt8)=>([.live (Xf 5 kU8 q1)]:List HS)) e1;exact hE) hG)
 refine cF (dF hq1) (T.exit (xT (xT (xH (nT (sR [hR 1 rfl rfl (Hp () (ofR t l.length (l.take k)) (ys:=(.own 0 kU8.sz 0 (Z2o t l k).length)) (rhs:=[(0,.live (Xf 5 kU8 (Z2o t l k)))]) Tryz.underlying25 Tryz.underlying5 Tryz.underlying60 (Wv 0 5 kU8 (ofR t l.length (l.take k))) (X3 rfl) trivial)] (T.ret ?_)))))))
 exact eRt 4 (.one (dS (Z2o t l k))) [] (by have e1:((ofB t l):List UInt8)=(ofR t l.length (l.take k)):=(by (have hke:k=l.length:=(by omega);rw [hke,Xib]));have hE:=congrArg (fun (q1:List UInt8)=>(dv (Yk q1):AV)) e1;exact hE) trivial
theorem X8m (t:UInt8) (tb:Bool) (nb:Bool) (b:List UInt8) (hb:b.length≤140737488350000):Holds Tryz.prog 93 ⟨[dv (.int .u8 ((t.toNat:Nat):Int)),slV tb nb kU8 b],[],dv (Yk (ofB t [b])),[]⟩:=by
 refine Holds.of Tryz.func93 rfl (N:=9) Tryz.ntmps93 rfl fun w0 B0 S0 U0=>?_
 show T _ (Y2 9 0 w0 S0 U0 B0) ⟨[dv (.int .u8 ((t.toNat:Nat):Int)),slV tb nb kU8 b],[]⟩ _ _
 have hs1:szP [b]=5+(4+b.length):=rfl
 refine sR [] ?_
 refine sR [hR 2 rfl rfl (Yc 0 25 (kSl tb kU8) (X1x tb kU8) [b] [⟨0,.tmp 6,.one (.d (dsl tb nb kU8 b)),0⟩] (cs:=[.d (dsl tb nb kU8 b)]) Tryz.underlying136 U1 rfl Fw rfl rfl rfl pd (Yr rfl rfl pd W5) pZ8 ⟨pZ25,trivial⟩ (X3 rfl) trivial),hR 3 rfl rfl (Wu (X1h t true false tb [b] (by omega)) Tryz.func71 rfl (by decide) [] [0] (l:=[(.tmp 5,dv (.int .u8 ((t.toNat:Nat):Int))),(.tmp 7,Y8 0 (kSl false kU8) 0 [b].length)]) [(0,.live (Xf 25 (kSl tb kU8) [b]))] rfl 0 0 rfl rfl rfl rfl rfl rfl rfl rfl rfl ⟨.inl ⟨rfl,rfl⟩,⟨.inr (.inl ⟨rfl,pZv,rfl,rfl,by simp,25,[b].length,W7 (kSl tb kU8) [b],List.Mem.head _,pZl,fun i j=>by rw [Nat.zero_add]⟩),trivial⟩⟩ rfl pZ6 p2v (X3 rfl) trivial)] ?_
 refine T.ret ?_
 exact eRt 4 (.one (dS (ofB t [b]))) [] rfl trivial
theorem Xgb (t:UInt8) (a:List UInt8) (b:List UInt8) (hb:a.length+b.length≤140737488350000):Holds Tryz.prog 139 ⟨[dv (.int .u8 ((t.toNat:Nat):Int)),dv (Yk a),dv (Yk b)],[],dv (Yk (ofB t [a,b])),[]⟩:=by
 refine Holds.of Tryz.func139 rfl (N:=14) Tryz.ntmps139 rfl fun w0 B0 S0 U0=>?_
 show T _ (Y2 14 0 w0 S0 U0 B0) ⟨[dv (.int .u8 ((t.toNat:Nat):Int)),dv (Yk a),dv (Yk b)],[]⟩ _ _
 have hs1:szP [a,b]=5+(4+a.length)+(4+b.length):=rfl
 refine sR [] ?_
 refine sR [hR 2 rfl rfl (Jv (l:=a) Tryz.underlying60 Tryz.underlying25 Tryz.underlying5 (X3 rfl) trivial),hR 4 rfl rfl (Jv (l:=b) Tryz.underlying60 Tryz.underlying25 Tryz.underlying5 (X3 rfl) trivial),hR 5 rfl rfl (Yc 0 25 (kSl false kU8) (X1x false kU8) [a,b] [⟨0,.tmp 9,.one (.d (dsl false true kU8 a)),0⟩,⟨1,.tmp 11,.one (.d (dsl false true kU8 b)),1⟩] (cs:=[.d (dsl false true kU8 a),.d (dsl false true kU8 b)]) Tryz.underlying136 U1 rfl Fw rfl rfl rfl pd (Yr rfl rfl pd (Yr rfl rfl pd W5)) pZ8 ⟨pZ25,⟨pZ25,trivial⟩⟩ (X3 rfl) trivial),hR 6 rfl rfl (Wu (X1h t true false false [a,b] (by omega)) Tryz.func71 rfl (by decide) [] [0] (l:=[(.tmp 7,dv (.int .u8 ((t.toNat:Nat):Int))),(.tmp 12,Y8 0 (kSl false kU8) 0 [a,b].length)]) [(0,.live (Xf 25 (kSl false kU8) [a,b]))] rfl 0 0 rfl rfl rfl rfl rfl rfl rfl rfl rfl ⟨.inl ⟨rfl,rfl⟩,⟨.inr (.inl ⟨rfl,pZv,rfl,rfl,by simp,25,[a,b].length,W7 (kSl false kU8) [a,b],List.Mem.head _,pZl,fun i j=>by rw [Nat.zero_add]⟩),trivial⟩⟩ rfl pZ6 p2v (X3 rfl) trivial)] ?_
 refine T.ret ?_
 exact eRt 6 (.one (dS (ofB t [a,b]))) [] rfl trivial
theorem Xhb (x:Nat) (hx:x<18446744073709551616):Holds Tryz.prog 166 ⟨[dv (.int .u64 ((x:Nat):Int))],[],vI ((X1t x:Nat):Int),[]⟩:=by
 refine Holds.of Tryz.func166 rfl (N:=25) Tryz.ntmps166 rfl fun w0 B0 S0 U0=>?_
 show T _ (Y2 25 0 w0 S0 U0 B0) ⟨[dv (.int .u64 ((x:Nat):Int))],[]⟩ _ _
 have hb8:=fun (y:Nat)=>UInt8.toNat_lt (Ys.getD (UInt8.ofNat y).toNat 0)
 refine sR [] (T.seq (sR [] ?_))
 by_cases hq1:((x:Nat):Int)≥4294967296
 ·have hd32:=Fm (x:=x) (s:=32) (by omega)
  refine cT (dT hq1) (sR [hR 1 rfl rfl (Yd (u1:=.int .u64 ((x:Nat):Int)) (u2:=.int .u64 32) (v:=.int .u64 ((x / 2 ^ 32:Nat):Int)) (En (n:=32) rfl pw) (X3 rfl) ⟨rfl,trivial⟩)] (xK [] (nT (T.seq (sR [] ?_)))))
  by_cases hq2:((x / 2 ^ 32:Nat):Int)≥65536
  ·have hd16:=Fm (x:=x / 2 ^ 32) (s:=16) (by omega)
   refine cT (dT hq2) (sR [hR 1 rfl rfl (Yd (u1:=.int .u64 ((x / 2 ^ 32:Nat):Int)) (u2:=.int .u64 16) (v:=.int .u64 (((x / 2 ^ 32) / 2 ^ 16:Nat):Int)) (En (n:=16) rfl pw) (X3 rfl) ⟨rfl,trivial⟩)] (xK [hR 1 rfl rfl (Yd (u1:=.int .i64 32) (u2:=.int .i64 16) (v:=.int .i64 48) (Wb pc) (X3 rfl) ⟨rfl,trivial⟩)] (nT (T.seq (sR [] ?_)))))
   by_cases hq3:(((x / 2 ^ 32) / 2 ^ 16:Nat):Int)≥256
   ·have hd8:=Fm (x:=(x / 2 ^ 32) / 2 ^ 16) (s:=8) (by omega)
    refine cT (dT hq3) (sR [hR 1 rfl rfl (Yd (u1:=.int .u64 (((x / 2 ^ 32) / 2 ^ 16:Nat):Int)) (u2:=.int .u64 8) (v:=.int .u64 ((((x / 2 ^ 32) / 2 ^ 16) / 2 ^ 8:Nat):Int)) (En (n:=8) rfl pw) (X3 rfl) ⟨rfl,trivial⟩)] (xK [hR 1 rfl rfl (Yd (u1:=.int .i64 48) (u2:=.int .i64 8) (v:=.int .i64 56) (Wb pc) (X3 rfl) ⟨rfl,trivial⟩)] (nT ?_)))
    refine sR [hR 2 rfl rfl (Vb (u:=.int .u64 ((((x / 2 ^ 32) / 2 ^ 16) / 2 ^ 8:Nat):Int)) (v:=.int .u8 (((UInt8.ofNat (((x / 2 ^ 32) / 2 ^ 16) / 2 ^ 8)).toNat:Nat):Int)) (Hm Tryz.underlying179 Tryz.underlying5) (X3 rfl) trivial),hR 3 rfl rfl (Ib (k:=.u8) (l:=Ys) (m:=(UInt8.ofNat (((x / 2 ^ 32) / 2 ^ 16) / 2 ^ 8)).toNat) (b:=(Ys.getD (UInt8.ofNat (((x / 2 ^ 32) / 2 ^ 16) / 2 ^ 8)).toNat 0)) (i:=(((UInt8.ofNat (((x / 2 ^ 32) / 2 ^ 16) / 2 ^ 8)).toNat:Nat):Int)) Tryz.underlying9 rfl p2a rfl (X3 rfl) ⟨rfl,trivial⟩),hR 4 rfl rfl (Vb (u:=.int .u8 (((Ys.getD (UInt8.ofNat (((x / 2 ^ 32) / 2 ^ 16) / 2 ^ 8)).toNat 0).toNat:Nat):Int)) (v:=.int .i64 (((Ys.getD (UInt8.ofNat (((x / 2 ^ 32) / 2 ^ 16) / 2 ^ 8)).toNat 0).toNat:Nat):Int)) (H3 Tryz.underlying5 Tryz.underlying3 p3v) (X3 rfl) trivial),hR 5 rfl rfl (Yd (u1:=.int .i64 56) (u2:=.int .i64 (((Ys.getD (UInt8.ofNat (((x / 2 ^ 32) / 2 ^ 16) / 2 ^ 8)).toNat 0).toNat:Nat):Int)) (v:=.int .i64 ((56+(Ys.getD (UInt8.ofNat (((x / 2 ^ 32) / 2 ^ 16) / 2 ^ 8)).toNat 0).toNat:Nat):Int)) (Wb p3v) (X3 rfl) trivial)] ?_
    refine T.ret ?_
    exact eRt 2 (.one (dI ((56+(Ys.getD (UInt8.ofNat (((x / 2 ^ 32) / 2 ^ 16) / 2 ^ 8)).toNat 0).toNat:Nat):Int))) [] (by have e1:(((X1t x:Nat):Int):Int)=((56+(Ys.getD (UInt8.ofNat (((x / 2 ^ 32) / 2 ^ 16) / 2 ^ 8)).toNat 0).toNat:Nat):Int):=p2o;have hE:=cI e1;exact hE) trivial
   refine cF (dF hq3) (T.skip (nT ?_))
   refine sR [hR 2 rfl rfl (Vb (u:=.int .u64 (((x / 2 ^ 32) / 2 ^ 16:Nat):Int)) (v:=.int .u8 (((UInt8.ofNat ((x / 2 ^ 32) / 2 ^ 16)).toNat:Nat):Int)) (Hm Tryz.underlying179 Tryz.underlying5) (X3 rfl) trivial),hR 3 rfl rfl (Ib (k:=.u8) (l:=Ys) (m:=(UInt8.ofNat ((x / 2 ^ 32) / 2 ^ 16)).toNat) (b:=(Ys.getD (UInt8.ofNat ((x / 2 ^ 32) / 2 ^ 16)).toNat 0)) (i:=(((UInt8.ofNat ((x / 2 ^ 32) / 2 ^ 16)).toNat:Nat):Int)) Tryz.underlying9 rfl p2a rfl (X3 rfl) ⟨rfl,trivial⟩),hR 4 rfl rfl (Vb (u:=.int .u8 (((Ys.getD (UInt8.ofNat ((x / 2 ^ 32) / 2 ^ 16)).toNat 0).toNat:Nat):Int)) (v:=.int .i64 (((Ys.getD (UInt8.ofNat ((x / 2 ^ 32) / 2 ^ 16)).toNat 0).toNat:Nat):Int)) (H3 Tryz.underlying5 Tryz.underlying3 p40) (X3 rfl) trivial),hR 5 rfl rfl (Yd (u1:=.int .i64 48) (u2:=.int .i64 (((Ys.getD (UInt8.ofNat ((x / 2 ^ 32) / 2 ^ 16)).toNat 0).toNat:Nat):Int)) (v:=.int .i64 ((48+(Ys.getD (UInt8.ofNat ((x / 2 ^ 32) / 2 ^ 16)).toNat 0).toNat:Nat):Int)) (Wb p40) (X3 rfl) trivial)] ?_
   refine T.ret ?_
   exact eRt 2 (.one (dI ((48+(Ys.getD (UInt8.ofNat ((x / 2 ^ 32) / 2 ^ 16)).toNat 0).toNat:Nat):Int))) [] (by have e1:(((X1t x:Nat):Int):Int)=((48+(Ys.getD (UInt8.ofNat ((x / 2 ^ 32) / 2 ^ 16)).toNat 0).toNat:Nat):Int):=p2o;have hE:=cI e1;exact hE) trivial
  refine cF (dF hq2) (T.skip (nT (T.seq (sR [] ?_))))
  by_cases hq4:((x / 2 ^ 32:Nat):Int)≥256
  ·have hd8:=Fm (x:=x / 2 ^ 32) (s:=8) (by omega)
   refine cT (dT hq4) (sR [hR 1 rfl rfl (Yd (u1:=.int .u64 ((x / 2 ^ 32:Nat):Int)) (u2:=.int .u64 8) (v:=.int .u64 (((x / 2 ^ 32) / 2 ^ 8:Nat):Int)) (En (n:=8) rfl pw) (X3 rfl) ⟨rfl,trivial⟩)] (xK [hR 1 rfl rfl (Yd (u1:=.int .i64 32) (u2:=.int .i64 8) (v:=.int .i64 40) (Wb pc) (X3 rfl) ⟨rfl,trivial⟩)] (nT ?_)))
   refine sR [hR 2 rfl rfl (Vb (u:=.int .u64 (((x / 2 ^ 32) / 2 ^ 8:Nat):Int)) (v:=.int .u8 (((UInt8.ofNat ((x / 2 ^ 32) / 2 ^ 8)).toNat:Nat):Int)) (Hm Tryz.underlying179 Tryz.underlying5) (X3 rfl) trivial),hR 3 rfl rfl (Ib (k:=.u8) (l:=Ys) (m:=(UInt8.ofNat ((x / 2 ^ 32) / 2 ^ 8)).toNat) (b:=(Ys.getD (UInt8.ofNat ((x / 2 ^ 32) / 2 ^ 8)).toNat 0)) (i:=(((UInt8.ofNat ((x / 2 ^ 32) / 2 ^ 8)).toNat:Nat):Int)) Tryz.underlying9 rfl p2a rfl (X3 rfl) ⟨rfl,trivial⟩),hR 4 rfl rfl (Vb (u:=.int .u8 (((Ys.getD (UInt8.ofNat ((x / 2 ^ 32) / 2 ^ 8)).toNat 0).toNat:Nat):Int)) (v:=.int .i64 (((Ys.getD (UInt8.ofNat ((x / 2 ^ 32) / 2 ^ 8)).toNat 0).toNat:Nat):Int)) (H3 Tryz.underlying5 Tryz.underlying3 p41) (X3 rfl) trivial),hR 5 rfl rfl (Yd (u1:=.int .i64 40) (u2:=.int .i64 (((Ys.getD (UInt8.ofNat ((x / 2 ^ 32) / 2 ^ 8)).toNat 0).toNat:Nat):Int)) (v:=.int .i64 ((40+(Ys.getD (UInt8.ofNat ((x / 2 ^ 32) / 2 ^ 8)).toNat 0).toNat:Nat):Int)) (Wb p41) (X3 rfl) trivial)] ?_
   refine T.ret ?_
   exact eRt 2 (.one (dI ((40+(Ys.getD (UInt8.ofNat ((x / 2 ^ 32) / 2 ^ 8)).toNat 0).toNat:Nat):Int))) [] (by have e1:(((X1t x:Nat):Int):Int)=((40+(Ys.getD (UInt8.ofNat ((x / 2 ^ 32) / 2 ^ 8)).toNat 0).toNat:Nat):Int):=p2o;have hE:=cI e1;exact hE) trivial
  refine cF (dF hq4) (T.skip (nT ?_))
  refine sR [hR 2 rfl rfl (Vb (u:=.int .u64 ((x / 2 ^ 32:Nat):Int)) (v:=.int .u8 (((UInt8.ofNat (x / 2 ^ 32)).toNat:Nat):Int)) (Hm Tryz.underlying179 Tryz.underlying5) (X3 rfl) trivial),hR 3 rfl rfl (Ib (k:=.u8) (l:=Ys) (m:=(UInt8.ofNat (x / 2 ^ 32)).toNat) (b:=(Ys.getD (UInt8.ofNat (x / 2 ^ 32)).toNat 0)) (i:=(((UInt8.ofNat (x / 2 ^ 32)).toNat:Nat):Int)) Tryz.underlying9 rfl p2a rfl (X3 rfl) ⟨rfl,trivial⟩),hR 4 rfl rfl (Vb (u:=.int .u8 (((Ys.getD (UInt8.ofNat (x / 2 ^ 32)).toNat 0).toNat:Nat):Int)) (v:=.int .i64 (((Ys.getD (UInt8.ofNat (x / 2 ^ 32)).toNat 0).toNat:Nat):Int)) (H3 Tryz.underlying5 Tryz.underlying3 p48) (X3 rfl) trivial),hR 5 rfl rfl (Yd (u1:=.int .i64 32) (u2:=.int .i64 (((Ys.getD (UInt8.ofNat (x / 2 ^ 32)).toNat 0).toNat:Nat):Int)) (v:=.int .i64 ((32+(Ys.getD (UInt8.ofNat (x / 2 ^ 32)).toNat 0).toNat:Nat):Int)) (Wb p48) (X3 rfl) trivial)] ?_
  refine T.ret ?_
  exact eRt 2 (.one (dI ((32+(Ys.getD (UInt8.ofNat (x / 2 ^ 32)).toNat 0).toNat:Nat):Int))) [] (by have e1:(((X1t x:Nat):Int):Int)=((32+(Ys.getD (UInt8.ofNat (x / 2 ^ 32)).toNat 0).toNat:Nat):Int):=p2o;have hE:=cI e1;exact hE) trivial
 refine cF (dF hq1) (T.skip (nT (T.seq (sR [] ?_))))
 by_cases hq5:((x:Nat):Int)≥65536
 ·have hd16:=Fm (x:=x) (s:=16) (by omega)
  refine cT (dT hq5) (sR [hR 1 rfl rfl (Yd (u1:=.int .u64 ((x:Nat):Int)) (u2:=.int .u64 16) (v:=.int .u64 ((x / 2 ^ 16:Nat):Int)) (En (n:=16) rfl pw) (X3 rfl) ⟨rfl,trivial⟩)] (xK [hR 1 rfl rfl (Yd (u1:=.int .i64 0) (u2:=.int .i64 16) (v:=.int .i64 16) (Wb pc) (X3 rfl) ⟨rfl,trivial⟩)] (nT (T.seq (sR [] ?_)))))
  by_cases hq6:((x / 2 ^ 16:Nat):Int)≥256
  ·have hd8:=Fm (x:=x / 2 ^ 16) (s:=8) (by omega)
   refine cT (dT hq6) (sR [hR 1 rfl rfl (Yd (u1:=.int .u64 ((x / 2 ^ 16:Nat):Int)) (u2:=.int .u64 8) (v:=.int .u64 (((x / 2 ^ 16) / 2 ^ 8:Nat):Int)) (En (n:=8) rfl pw) (X3 rfl) ⟨rfl,trivial⟩)] (xK [hR 1 rfl rfl (Yd (u1:=.int .i64 16) (u2:=.int .i64 8) (v:=.int .i64 24) (Wb pc) (X3 rfl) ⟨rfl,trivial⟩)] (nT ?_)))
   refine sR [hR 2 rfl rfl (Vb (u:=.int .u64 (((x / 2 ^ 16) / 2 ^ 8:Nat):Int)) (v:=.int .u8 (((UInt8.ofNat ((x / 2 ^ 16) / 2 ^ 8)).toNat:Nat):Int)) (Hm Tryz.underlying179 Tryz.underlying5) (X3 rfl) trivial),hR 3 rfl rfl (Ib (k:=.u8) (l:=Ys) (m:=(UInt8.ofNat ((x / 2 ^ 16) / 2 ^ 8)).toNat) (b:=(Ys.getD (UInt8.ofNat ((x / 2 ^ 16) / 2 ^ 8)).toNat 0)) (i:=(((UInt8.ofNat ((x / 2 ^ 16) / 2 ^ 8)).toNat:Nat):Int)) Tryz.underlying9 rfl p2a rfl (X3 rfl) ⟨rfl,trivial⟩),hR 4 rfl rfl (Vb (u:=.int .u8 (((Ys.getD (UInt8.ofNat ((x / 2 ^ 16) / 2 ^ 8)).toNat 0).toNat:Nat):Int)) (v:=.int .i64 (((Ys.getD (UInt8.ofNat ((x / 2 ^ 16) / 2 ^ 8)).toNat 0).toNat:Nat):Int)) (H3 Tryz.underlying5 Tryz.underlying3 p42) (X3 rfl) trivial),hR 5 rfl rfl (Yd (u1:=.int .i64 24) (u2:=.int .i64 (((Ys.getD (UInt8.ofNat ((x / 2 ^ 16) / 2 ^ 8)).toNat 0).toNat:Nat):Int)) (v:=.int .i64 ((24+(Ys.getD (UInt8.ofNat ((x / 2 ^ 16) / 2 ^ 8)).toNat 0).toNat:Nat):Int)) (Wb p42) (X3 rfl) trivial)] ?_
   refine T.ret ?_
   exact eRt 2 (.one (dI ((24+(Ys.getD (UInt8.ofNat ((x / 2 ^ 16) / 2 ^ 8)).toNat 0).toNat:Nat):Int))) [] (by have e1:(((X1t x:Nat):Int):Int)=((24+(Ys.getD (UInt8.ofNat ((x / 2 ^ 16) / 2 ^ 8)).toNat 0).toNat:Nat):Int):=p2o;have hE:=cI e1;exact hE) trivial
  refine cF (dF hq6) (T.skip (nT ?_))
  refine sR [hR 2 rfl rfl (Vb (u:=.int .u64 ((x / 2 ^ 16:Nat):Int)) (v:=.int .u8 (((UInt8.ofNat (x / 2 ^ 16)).toNat:Nat):Int)) (Hm Tryz.underlying179 Tryz.underlying5) (X3 rfl) trivial),hR 3 rfl rfl (Ib (k:=.u8) (l:=Ys) (m:=(UInt8.ofNat (x / 2 ^ 16)).toNat) (b:=(Ys.getD (UInt8.ofNat (x / 2 ^ 16)).toNat 0)) (i:=(((UInt8.ofNat (x / 2 ^ 16)).toNat:Nat):Int)) Tryz.underlying9 rfl p2a rfl (X3 rfl) ⟨rfl,trivial⟩),hR 4 rfl rfl (Vb (u:=.int .u8 (((Ys.getD (UInt8.ofNat (x / 2 ^ 16)).toNat 0).toNat:Nat):Int)) (v:=.int .i64 (((Ys.getD (UInt8.ofNat (x / 2 ^ 16)).toNat 0).toNat:Nat):Int)) (H3 Tryz.underlying5 Tryz.underlying3 p49) (X3 rfl) trivial),hR 5 rfl rfl (Yd (u1:=.int .i64 16) (u2:=.int .i64 (((Ys.getD (UInt8.ofNat (x / 2 ^ 16)).toNat 0).toNat:Nat):Int)) (v:=.int .i64 ((16+(Ys.getD (UInt8.ofNat (x / 2 ^ 16)).toNat 0).toNat:Nat):Int)) (Wb p49) (X3 rfl) trivial)] ?_
  refine T.ret ?_
  exact eRt 2 (.one (dI ((16+(Ys.getD (UInt8.ofNat (x / 2 ^ 16)).toNat 0).toNat:Nat):Int))) [] (by have e1:(((X1t x:Nat):Int):Int)=((16+(Ys.getD (UInt8.ofNat (x / 2 ^ 16)).toNat 0).toNat:Nat):Int):=p2o;have hE:=cI e1;exact hE) trivial
 refine cF (dF hq5) (T.skip (nT (T.seq (sR [] ?_))))
 by_cases hq7:((x:Nat):Int)≥256
 ·have hd8:=Fm (x:=x) (s:=8) (by omega)
  refine cT (dT hq7) (sR [hR 1 rfl rfl (Yd (u1:=.int .u64 ((x:Nat):Int)) (u2:=.int .u64 8) (v:=.int .u64 ((x / 2 ^ 8:Nat):Int)) (En (n:=8) rfl pw) (X3 rfl) ⟨rfl,trivial⟩)] (xK [hR 1 rfl rfl (Yd (u1:=.int .i64 0) (u2:=.int .i64 8) (v:=.int .i64 8) (Wb pc) (X3 rfl) ⟨rfl,trivial⟩)] (nT ?_)))
  refine sR [hR 2 rfl rfl (Vb (u:=.int .u64 ((x / 2 ^ 8:Nat):Int)) (v:=.int .u8 (((UInt8.ofNat (x / 2 ^ 8)).toNat:Nat):Int)) (Hm Tryz.underlying179 Tryz.underlying5) (X3 rfl) trivial),hR 3 rfl rfl (Ib (k:=.u8) (l:=Ys) (m:=(UInt8.ofNat (x / 2 ^ 8)).toNat) (b:=(Ys.getD (UInt8.ofNat (x / 2 ^ 8)).toNat 0)) (i:=(((UInt8.ofNat (x / 2 ^ 8)).toNat:Nat):Int)) Tryz.underlying9 rfl p2a rfl (X3 rfl) ⟨rfl,trivial⟩),hR 4 rfl rfl (Vb (u:=.int .u8 (((Ys.getD (UInt8.ofNat (x / 2 ^ 8)).toNat 0).toNat:Nat):Int)) (v:=.int .i64 (((Ys.getD (UInt8.ofNat (x / 2 ^ 8)).toNat 0).toNat:Nat):Int)) (H3 Tryz.underlying5 Tryz.underlying3 p4b) (X3 rfl) trivial),hR 5 rfl rfl (Yd (u1:=.int .i64 8) (u2:=.int .i64 (((Ys.getD (UInt8.ofNat (x / 2 ^ 8)).toNat 0).toNat:Nat):Int)) (v:=.int .i64 ((8+(Ys.getD (UInt8.ofNat (x / 2 ^ 8)).toNat 0).toNat:Nat):Int)) (Wb p4b) (X3 rfl) trivial)] ?_
  refine T.ret ?_
  exact eRt 2 (.one (dI ((8+(Ys.getD (UInt8.ofNat (x / 2 ^ 8)).toNat 0).toNat:Nat):Int))) [] (by have e1:(((X1t x:Nat):Int):Int)=((8+(Ys.getD (UInt8.ofNat (x / 2 ^ 8)).toNat 0).toNat:Nat):Int):=p2o;have hE:=cI e1;exact hE) trivial
 refine cF (dF hq7) (T.skip (nT ?_))
 refine sR [hR 2 rfl rfl (Vb (u:=.int .u64 ((x:Nat):Int)) (v:=.int .u8 (((UInt8.ofNat x).toNat:Nat):Int)) (Hm Tryz.underlying179 Tryz.underlying5) (X3 rfl) trivial),hR 3 rfl rfl (Ib (k:=.u8) (l:=Ys) (m:=(UInt8.ofNat x).toNat) (b:=(Ys.getD (UInt8.ofNat x).toNat 0)) (i:=(((UInt8.ofNat x).toNat:Nat):Int)) Tryz.underlying9 rfl p2a rfl (X3 rfl) ⟨rfl,trivial⟩),hR 4 rfl rfl (Vb (u:=.int .u8 (((Ys.getD (UInt8.ofNat x).toNat 0).toNat:Nat):Int)) (v:=.int .i64 (((Ys.getD (UInt8.ofNat x).toNat 0).toNat:Nat):Int)) (H3 Tryz.underlying5 Tryz.underlying3 p4l) (X3 rfl) trivial),hR 5 rfl rfl (Yd (u1:=.int .i64 0) (u2:=.int .i64 (((Ys.getD (UInt8.ofNat x).toNat 0).toNat:Nat):Int)) (v:=.int .i64 ((0+(Ys.getD (UInt8.ofNat x).toNat 0).toNat:Nat):Int)) (Wb p4l) (X3 rfl) trivial)] ?_
 refine T.ret ?_
 exact eRt 2 (.one (dI ((0+(Ys.getD (UInt8.ofNat x).toNat 0).toNat:Nat):Int))) [] (by have e1:(((X1t x:Nat):Int):Int)=((0+(Ys.getD (UInt8.ofNat x).toNat 0).toNat:Nat):Int):=p2o;have hE:=cI e1;exact hE) trivial
theorem bits_Len (x:Nat) (hx:x<18446744073709551616):Holds Tryz.prog 130 ⟨[dv (.int .u64 ((x:Nat):Int))],[],vI ((X1t x:Nat):Int),[]⟩:=by
 refine Holds.of Tryz.func130 rfl (N:=8) Tryz.ntmps130 rfl fun w0 B0 S0 U0=>?_
 show T _ (Y2 8 0 w0 S0 U0 B0) ⟨[dv (.int .u64 ((x:Nat):Int))],[]⟩ _ _
 refine sR [] (T.seq (cF (b:=false) rfl (T.skip (nT (sR [hR 1 rfl rfl (rCa (Xhb x ‹_›) Tryz.func166 [] [(.tmp 6,dv (.int .u64 ((x:Nat):Int)))] 0 0)] (T.ret ?_))))))
 exact eRt 2 (.one (dI ((X1t x:Nat):Int))) [] rfl trivial
theorem X0h (n:Nat) (h2:2≤n) (hn:n≤9223372036854775807):Holds Tryz.prog 148 ⟨[vI ((n:Nat):Int)],[],vI ((half n:Nat):Int),[]⟩:=by
 refine Holds.of Tryz.func148 rfl (N:=9) Tryz.ntmps148 rfl fun w0 B0 S0 U0=>?_
 show T _ (Y2 9 0 w0 S0 U0 B0) ⟨[vI ((n:Nat):Int)],[]⟩ _ _
 have hlg:=log_le hn h2
 refine sR [] ?_
 refine sR [hR 1 rfl rfl (Yd (u1:=.int .i64 ((n:Nat):Int)) (u2:=.int .i64 1) (v:=.int .i64 ((n-1:Nat):Int)) (Ug pc) (X3 rfl) ⟨rfl,trivial⟩),hR 2 rfl rfl (Vb (u:=.int .i64 ((n-1:Nat):Int)) (v:=.int .u64 ((n-1:Nat):Int)) (H3 Tryz.underlying3 Tryz.underlying185 p3w) (X3 rfl) trivial),hR 3 rfl rfl (rCa (bits_Len (n-1) (by omega)) Tryz.func130 [] [(.tmp 5,dv (.int .u64 ((n-1:Nat):Int)))] 0 0),hR 4 rfl rfl (Yd (u1:=.int .i64 ((X1t (n-1):Nat):Int)) (u2:=.int .i64 1) (v:=.int .i64 ((Nat.log2 (n-1):Nat):Int)) (Ug (by rw [X97 (by omega),IntKind.wrap_i64];omega)) (X3 rfl) ⟨rfl,trivial⟩),hR 5 rfl rfl (Yd (u1:=.int .i64 1) (u2:=.int .i64 ((Nat.log2 (n-1):Nat):Int)) (v:=.int .i64 ((half n:Nat):Int)) (b_shl (n:=Nat.log2 (n-1)) rfl (Nat.le_trans hlg (by decide)) (shl_half hn h2)) (X3 rfl) ⟨rfl,trivial⟩)] ?_
 refine T.ret ?_
 exact eRt 2 (.one (dI ((half n:Nat):Int))) [] rfl trivial
abbrev Z2q (n:Nat):AV:=vI ((n:Nat):Int)
theorem X8j (n:Nat) (h2:2≤n) (hn:n≤9223372036854775807):Holds Tryz.prog 138 ⟨[vI ((n:Nat):Int)],[],vI ((half n:Nat):Int),[]⟩:=by
 refine Holds.of Tryz.func138 rfl (N:=12) Tryz.ntmps138 rfl fun w0 B0 S0 U0=>?_
 show T _ (Y2 12 0 w0 S0 U0 B0) ⟨[(Z2q n)],[]⟩ _ _
 refine sR [] (sR [] (T.seq (T.block ?_)))
 refine T.loop (ι:=Nat) (fun (K:Nat)=>⟨[(Z2q n),aa,vI 0,vI ((K:Nat):Int)],[]⟩) (fun (K:Nat)=>(∃ j,K=2 ^ j)∧(K<n)) (fun (K:Nat)=>n-K) (1) ⟨⟨0,rfl⟩,(by omega)⟩ (fun _ _ hG=>Yv [] (bm 4 13) rfl rfl hG) ?_
 rintro K ⟨hp,hK⟩
 show T _ _ ⟨[(Z2q n),aa,vI 0,vI ((K:Nat):Int)],[]⟩ _ _
 replace hp:∃ j,K=2 ^ j:=hp
 replace hK:K<n:=hK
 refine T.seq (sR [hR 3 rfl rfl (Yd (u1:=.int .i64 ((n:Nat):Int)) (u2:=.int .i64 ((K:Nat):Int)) (v:=.int .i64 (((n:Nat):Int)-((K:Nat):Int))) (Ug pc) (X3 rfl) trivial)] ?_)
 by_cases hq1:((K:Nat):Int)<(((n:Nat):Int)-((K:Nat):Int))
 ·refine cT (dT hq1) (T.skip (nT (T.block (xK [hR 1 rfl rfl (Yd (u1:=.int .i64 2) (u2:=.int .i64 ((K:Nat):Int)) (v:=.int .i64 ((2*K:Nat):Int)) (X9s pc) (X3 rfl) ⟨rfl,trivial⟩)] (nB ?_)))))
  refine nL (2*K) ⟨(show ∃ j,(2*K)=2 ^ j from (by obtain ⟨j,hj⟩:=hp;exact ⟨j+1,by rw [hj,Nat.pow_succ];omega⟩)),(show (2*K)<n from (by omega))⟩ (show (n-(2*K):Nat)<n-K from (by have hK0:0<K:=(by obtain ⟨j,hj⟩:=hp;rw [hj];exact Nat.pow_pos (by decide));omega)) (fun _ _ hG=>Yv [] (bm 4 13) rfl rfl hG)
 refine cF (dF hq1) (T.exit (xT (xT (xH (nT (sR [] (T.ret ?_)))))))
 exact eRt 2 (.one (dI ((K:Nat):Int))) [] (by have e1:(((half n:Nat):Int):Int)=((K:Nat):Int):=(by (rw [half_of hp hK (by omega)]));have hE:=cI e1;exact hE) trivial
theorem X73:∀ (N:Nat) (tl:Bool) (nl:Bool) (sl_:Bool) (l:List (List UInt8)) (hf:I0 szL 40 600 l),l.length=N→Holds Tryz.prog 110 ⟨[slV tl nl (kSl sl_ kU8) l],[],dv (Yk (W6 l)),[]⟩:=by
  intro N
  induction N using Nat.strongRecOn with
  | _ N ih =>
    intro tl nl sl_ l hf hN
    refine Holds.of Tryz.func110 rfl (N:=28) Tryz.ntmps110 rfl fun w0 B0 S0 U0=>?_
    show T _ (Y2 28 0 w0 S0 U0 B0) ⟨[slV tl nl (kSl sl_ kU8) l],[]⟩ _ _
    have hl40:=hf.1
    have hg0:(l.getD 0 []).length≤600:=Iu (sz:=szL) hf (by decide) 0
    refine sR [] (sR [] (sR [] (T.block (sR [] ?_))))
    by_cases hq1:((l.length:Nat):Int)=0
    ·refine cT (dT hq1) ?_
     refine sR [hR 0 rfl rfl (rCn (X3x (4:UInt8) false false false ([]:List (List UInt8)) (by first|assumption|omega|(unfold maxLen;omega)|(simp [maxLen,-List.getD_eq_getElem?_getD]<;>omega)|decide)) Tryz.func84 [] [(.const (.int .u8 4),dv (.int .u8 4)),(.const (.slice none 0 0),dv (.slice none 0 0))] 0 0 ⟨.inl ⟨rfl,rfl⟩,⟨.inr pZ5,trivial⟩⟩ ⟨rfl,⟨rfl,trivial⟩⟩)] ?_
     refine T.ret (rB ?_)
     exact eRt 2 (.one (dS (ofB (4:UInt8) ([]:List (List UInt8))))) [] p3e trivial
    refine cF (dF hq1) (sR [] ?_)
    by_cases hq2:((l.length:Nat):Int)=1
    ·refine cT (dT hq2) ?_
     refine sR [hR 1 rfl rfl (We tl nl (kSl sl_ kU8) l 0 (k:=.i64) (i:=0) Tryz.underlying136 U1 rfl rfl (by first|assumption|omega|(unfold maxLen;omega)|(simp [maxLen,-List.getD_eq_getElem?_getD]<;>omega)|decide) (X3 rfl) ⟨rfl,trivial⟩),hR 3 rfl rfl (rCa (X57 (2:UInt8) sl_ false (l.getD 0 []) (by first|assumption|omega|(unfold maxLen;omega)|(simp [maxLen,-List.getD_eq_getElem?_getD]<;>omega)|decide)) Tryz.func118 [] [(.const (.int .u8 2),dv (.int .u8 2)),(.tmp 26,slV sl_ false kU8 (l.getD 0 []))] 0 0)] ?_
     refine T.ret (rB ?_)
     exact eRt 2 (.one (dS (ofB (2:UInt8) [(l.getD 0 [])]))) [] p3j trivial
    have h2l:2≤l.length:=(by omega);have hhl:=I4 h2l;have hhp:=Jj l.length;have hfa:=Ua (Ig hf (half l.length));have hfb:=Ua (Jw hf (half l.length))
    refine cF (dF hq2) ?_
    refine sR [hR 1 rfl rfl (rCa (X0h l.length (by first|assumption|omega|(unfold maxLen;omega)|(simp [maxLen,-List.getD_eq_getElem?_getD]<;>omega)|decide) (by first|assumption|omega|(unfold maxLen;omega)|(simp [maxLen,-List.getD_eq_getElem?_getD]<;>omega)|decide)) Tryz.func148 [] [(.tmp 8,vI ((l.length:Nat):Int))] 0 0)] ?_
    refine sD [[],[],[0,1],[0,1,2],[],[],[4,5],[0,1,2,3,4,5,6],[0,1,2,3,4,5,6,7],[0,1,2,3,4,5,6,7,8]] [hR 2 rfl rfl (U7 tl nl (kSl sl_ kU8) l (l.take (half l.length)) 0 (half l.length) (lo:=none) (hi:=some (.tmp 11,((half l.length:Nat):Int))) Tryz.underlying136 U1 rfl rfl rfl rfl rfl (by first|assumption|omega|(unfold maxLen;omega)|(simp [maxLen,-List.getD_eq_getElem?_getD]<;>omega)|decide) (by first|assumption|omega|(unfold maxLen;omega)|(simp [maxLen,-List.getD_eq_getElem?_getD]<;>omega)|decide) rfl (X3 rfl) trivial),hR 3 rfl rfl (rCa (ih ((l.take (half l.length)).length) (show (l.take (half l.length)).length<N from p1o) tl nl sl_ (l.take (half l.length)) pu rfl) Tryz.func110 [] [(.tmp 12,slV tl nl (kSl sl_ kU8) (l.take (half l.length)))] 0 0),hR 6 rfl rfl (U7 tl nl (kSl sl_ kU8) l (l.drop (half l.length)) (half l.length) l.length (lo:=some (.tmp 15,((half l.length:Nat):Int))) (hi:=none) Tryz.underlying136 U1 rfl rfl rfl rfl rfl (by first|assumption|omega|(unfold maxLen;omega)|(simp [maxLen,-List.getD_eq_getElem?_getD]<;>omega)|decide) (by first|assumption|omega|(unfold maxLen;omega)|(simp [maxLen,-List.getD_eq_getElem?_getD]<;>omega)|decide) Jy (X3 rfl) trivial),hR 7 rfl rfl (rCa (ih ((l.drop (half l.length)).length) (show (l.drop (half l.length)).length<N from p1o) tl nl sl_ (l.drop (half l.length)) pu rfl) Tryz.func110 [] [(.tmp 16,slV tl nl (kSl sl_ kU8) (l.drop (half l.length)))] 0 0),hR 8 rfl rfl (rCa (X56 (3:UInt8) (W6 (l.take (half l.length))) (W6 (l.drop (half l.length))) (by first|assumption|omega|(unfold maxLen;omega)|(simp [maxLen,-List.getD_eq_getElem?_getD]<;>omega)|decide)) Tryz.func142 [] [(.const (.int .u8 3),dv (.int .u8 3)),(.tmp 13,dv (Yk (W6 (l.take (half l.length))))),(.tmp 17,dv (Yk (W6 (l.drop (half l.length)))))] 0 0)] ?_
    refine T.ret (rB ?_)
    exact eRt 2 (.one (dS (ofB (3:UInt8) [(W6 (l.take (half l.length))),(W6 (l.drop (half l.length)))]))) [] p2r trivial
theorem X1r (tl:Bool) (nl:Bool) (sl_:Bool) (l:List (List UInt8)) (hf:I0 szL 40 600 l):Holds Tryz.prog 110 ⟨[slV tl nl (kSl sl_ kU8) l],[],dv (Yk (W6 l)),[]⟩:=X73 _ tl nl sl_ l hf rfl
theorem X8k:∀ (N:Nat) (tl:Bool) (nl:Bool) (sl_:Bool) (l:List (List UInt8)) (hf:I0 szL 40 600 l),l.length=N→Holds Tryz.prog 98 ⟨[slV tl nl (kSl sl_ kU8) l],[],dv (Yk (W6 l)),[]⟩:=by
  intro N
  induction N using Nat.strongRecOn with
  | _ N ih =>
    intro tl nl sl_ l hf hN
    refine Holds.of Tryz.func98 rfl (N:=27) Tryz.ntmps98 rfl fun w0 B0 S0 U0=>?_
    show T _ (Y2 27 0 w0 S0 U0 B0) ⟨[slV tl nl (kSl sl_ kU8) l],[]⟩ _ _
    have hl40:=hf.1
    have hg0:(l.getD 0 []).length≤600:=Iu (sz:=szL) hf (by decide) 0
    refine sR [] (T.seq (sR [] ?_))
    by_cases hq1:((l.length:Nat):Int)=0
    ·refine cT (dT hq1) ?_
     refine sR [hR 0 rfl rfl (rCn (X1h (4:UInt8) false false false ([]:List (List UInt8)) (by first|assumption|omega|(unfold maxLen;omega)|(simp [maxLen,-List.getD_eq_getElem?_getD]<;>omega)|decide)) Tryz.func71 [] [(.const (.int .u8 4),dv (.int .u8 4)),(.const (.slice none 0 0),dv (.slice none 0 0))] 0 0 ⟨.inl ⟨rfl,rfl⟩,⟨.inr pZ5,trivial⟩⟩ ⟨rfl,⟨rfl,trivial⟩⟩)] ?_
     refine T.ret (rT ?_)
     exact eRt 2 (.one (dS (ofB (4:UInt8) ([]:List (List UInt8))))) [] p3e trivial
    refine cF (dF hq1) (T.skip (nT (T.seq (sR [] ?_))))
    by_cases hq2:((l.length:Nat):Int)=1
    ·refine cT (dT hq2) ?_
     refine sR [hR 1 rfl rfl (We tl nl (kSl sl_ kU8) l 0 (k:=.i64) (i:=0) Tryz.underlying136 U1 rfl rfl (by first|assumption|omega|(unfold maxLen;omega)|(simp [maxLen,-List.getD_eq_getElem?_getD]<;>omega)|decide) (X3 rfl) ⟨rfl,trivial⟩),hR 3 rfl rfl (rCa (X8m (2:UInt8) sl_ false (l.getD 0 []) (by first|assumption|omega|(unfold maxLen;omega)|(simp [maxLen,-List.getD_eq_getElem?_getD]<;>omega)|decide)) Tryz.func93 [] [(.const (.int .u8 2),dv (.int .u8 2)),(.tmp 13,slV sl_ false kU8 (l.getD 0 []))] 0 0)] ?_
     refine T.ret (rT ?_)
     exact eRt 2 (.one (dS (ofB (2:UInt8) [(l.getD 0 [])]))) [] p3j trivial
    have h2l:2≤l.length:=(by omega);have hhl:=I4 h2l;have hhp:=Jj l.length;have hfa:=Ua (Ig hf (half l.length));have hfb:=Ua (Jw hf (half l.length))
    refine cF (dF hq2) (T.skip (nT ?_))
    refine sR [hR 2 rfl rfl (rCa (X8j l.length (by first|assumption|omega|(unfold maxLen;omega)|(simp [maxLen,-List.getD_eq_getElem?_getD]<;>omega)|decide) (by first|assumption|omega|(unfold maxLen;omega)|(simp [maxLen,-List.getD_eq_getElem?_getD]<;>omega)|decide)) Tryz.func138 [] [(.tmp 16,vI ((l.length:Nat):Int))] 0 0)] ?_
    refine sD [[],[],[0,1],[0,1,2],[],[],[4,5],[0,1,2,3,4,5,6],[0,1,2,3,4,5,6,7],[0,1,2,3,4,5,6,7,8]] [hR 2 rfl rfl (U7 tl nl (kSl sl_ kU8) l (l.take (half l.length)) 0 (half l.length) (lo:=none) (hi:=some (.tmp 19,((half l.length:Nat):Int))) Tryz.underlying136 U1 rfl rfl rfl rfl rfl (by first|assumption|omega|(unfold maxLen;omega)|(simp [maxLen,-List.getD_eq_getElem?_getD]<;>omega)|decide) (by first|assumption|omega|(unfold maxLen;omega)|(simp [maxLen,-List.getD_eq_getElem?_getD]<;>omega)|decide) rfl (X3 rfl) trivial),hR 3 rfl rfl (rCa (ih ((l.take (half l.length)).length) (show (l.take (half l.length)).length<N from p1o) tl nl sl_ (l.take (half l.length)) pu rfl) Tryz.func98 [] [(.tmp 20,slV tl nl (kSl sl_ kU8) (l.take (half l.length)))] 0 0),hR 6 rfl rfl (U7 tl nl (kSl sl_ kU8) l (l.drop (half l.length)) (half l.length) l.length (lo:=some (.tmp 23,((half l.length:Nat):Int))) (hi:=none) Tryz.underlying136 U1 rfl rfl rfl rfl rfl (by first|assumption|omega|(unfold maxLen;omega)|(simp [maxLen,-List.getD_eq_getElem?_getD]<;>omega)|decide) (by first|assumption|omega|(unfold maxLen;omega)|(simp [maxLen,-List.getD_eq_getElem?_getD]<;>omega)|decide) Jy (X3 rfl) trivial),hR 7 rfl rfl (rCa (ih ((l.drop (half l.length)).length) (show (l.drop (half l.length)).length<N from p1o) tl nl sl_ (l.drop (half l.length)) pu rfl) Tryz.func98 [] [(.tmp 24,slV tl nl (kSl sl_ kU8) (l.drop (half l.length)))] 0 0),hR 8 rfl rfl (rCa (Xgb (3:UInt8) (W6 (l.take (half l.length))) (W6 (l.drop (half l.length))) (by first|assumption|omega|(unfold maxLen;omega)|(simp [maxLen,-List.getD_eq_getElem?_getD]<;>omega)|decide)) Tryz.func139 [] [(.const (.int .u8 3),dv (.int .u8 3)),(.tmp 21,dv (Yk (W6 (l.take (half l.length))))),(.tmp 25,dv (Yk (W6 (l.drop (half l.length)))))] 0 0)] ?_
    refine T.ret ?_
    exact eRt 2 (.one (dS (ofB (3:UInt8) [(W6 (l.take (half l.length))),(W6 (l.drop (half l.length)))]))) [] p2r trivial
theorem X3e (tl:Bool) (nl:Bool) (sl_:Bool) (l:List (List UInt8)) (hf:I0 szL 40 600 l):Holds Tryz.prog 98 ⟨[slV tl nl (kSl sl_ kU8) l],[],dv (Yk (W6 l)),[]⟩:=X8k _ tl nl sl_ l hf rfl
theorem Ja:Tryz.prog.info? 168=some Tryz.t168:=by kernel_rfl
theorem Xd5:Wide Tryz.prog 168 (some 2):=⟨_,_,Tryz.underlying168,.inl ⟨_,rfl⟩,Ja,rfl⟩
theorem Xbh:Cells Tryz.prog 168 2:=⟨_,Ja,rfl⟩
section
variable (l:List Xz) (i:Nat) (ys:List Xz)
abbrev Z2r:AV:=Y8 0 (Xa false) 0 l.length
abbrev Z2t:DV:=.val (.bool (ys.getD (((l.length:Nat):Int)-1-((i:Nat):Int)).toNat Yf).Vo)
abbrev Z2u:DV:=.val (Yk (ys.getD (((l.length:Nat):Int)-1-((i:Nat):Int)).toNat Yf).X9)
abbrev Z2v:AV:=vI ((i+1:Nat):Int)
end
theorem rev_Step (l:List Xz) (hl:l.length≤3000000):Holds Tryz.prog 149 ⟨[Y8 0 (Xa false) 0 l.length],[Xf 168 (Xa false) l],.tup [],[.live (Xf 168 (Xa false) l.reverse)]⟩:=by
 refine Holds.of Tryz.func149 rfl (N:=28) Tryz.ntmps149 rfl fun w0 B0 S0 U0=>?_
 show T _ (Y2 28 1 w0 S0 U0 B0) ⟨[(Z2r l)],[.live (Xf 168 (Xa false) l)]⟩ _ _
 refine sR [hR 2 rfl rfl (Yd (u1:=.int .i64 ((l.length:Nat):Int)) (u2:=.int .i64 1) (v:=.int .i64 (((l.length:Nat):Int)-1)) (Ug pc) (X3 rfl) ⟨rfl,trivial⟩)] (T.block ?_)
 refine T.loop (ι:=Nat×(List Xz)) (fun (x_:Nat×(List Xz))=>⟨[(Z2r l),aa,vI ((x_.1:Nat):Int),vI (((l.length:Nat):Int)-1-((x_.1:Nat):Int))],[.live (Xf 168 (Xa false) x_.2)]⟩) (fun (x_:Nat×(List Xz))=>(2*x_.1≤l.length)∧(revI Yf l x_.1 x_.2)) (fun (x_:Nat×(List Xz))=>l.length-x_.1) (0,l) ⟨(by omega),(rev_0 _ _)⟩ (fun _ _ hG=>Yv [0] (bm 4 13) (t2:=[(Z2r l),aa,vI 0,vI (((l.length:Nat):Int)-1)]) (congrArg (fun (q1:Int)=>([(Z2r l),aa,vI 0,vI q1]:List AV)) (show (((l.length:Nat):Int)-1-((0:Nat):Int):Int)=((l.length:Nat):Int)-1 from (by omega))) rfl hG) ?_
 rintro ⟨i,ys⟩ ⟨hi,hr⟩
 show T _ _ ⟨[(Z2r l),aa,vI ((i:Nat):Int),vI (((l.length:Nat):Int)-1-((i:Nat):Int))],[.live (Xf 168 (Xa false) ys)]⟩ _ _
 replace hi:2*i≤l.length:=hi
 replace hr:revI Yf l i ys:=hr
 have hy1:=hr.1
 refine T.seq (sR [] ?_)
 by_cases hq1:((i:Nat):Int)<(((l.length:Nat):Int)-1-((i:Nat):Int))
 ·refine cT (dT hq1) (T.skip (nT (T.seq (T.block ?_))))
  refine xD [[],[],[],[],[],[],[4,5],[4,5,6],[],[],[8,9],[8,9,10],[0,1,4,5,6,7,8,9,10,11],[0,1,4,5,6,7,8,9,10,11,12],[0,1,2,3,4,5,6,7,8,9,10,11,12,13],[0,1,2,3,4,5,6,7,8,9,10,11,12,13,14]] [hR 6 rfl rfl (Vh (k:=.i64) (l:=0) (sz:=(Xa false).sz) (off:=0) (n:=l.length) (i:=(((l.length:Nat):Int)-1-((i:Nat):Int))) (m:=(((l.length:Nat):Int)-1-((i:Nat):Int)).toNat) (o':=(((l.length:Nat):Int)-1-((i:Nat):Int)).toNat*(Xa false).sz+0) Tryz.underlying47 Ja rfl (by omega) (by omega) (by simp) (X3 rfl) trivial),hR 7 rfl rfl (X1n (l:=0) (off:=(((l.length:Nat):Int)-1-((i:Nat):Int)).toNat*(Xa false).sz+0) (i:=(((l.length:Nat):Int)-1-((i:Nat):Int)).toNat) (j:=0) (T:=168) (sz:=(Xa false).sz) (n:=ys.length) (el:=W7 (Xa false) ys) (ds:=[.d ((Z2t l i ys)),.d ((Z2u l i ys))]) Xd5 rfl (by omega) (by decide) rfl (X3 rfl) trivial),hR 10 rfl rfl (Vh (k:=.i64) (l:=0) (sz:=(Xa false).sz) (off:=0) (n:=l.length) (i:=((i:Nat):Int)) (m:=i) (o':=i*(Xa false).sz+0) Tryz.underlying47 Ja rfl rfl (by omega) (by simp) (X3 rfl) trivial),hR 11 rfl rfl (X1n (l:=0) (off:=i*(Xa false).sz+0) (i:=i) (j:=0) (T:=168) (sz:=(Xa false).sz) (n:=ys.length) (el:=W7 (Xa false) ys) (ds:=[dB (ys.getD i Yf).Vo,dS (ys.getD i Yf).X9]) Xd5 rfl (by omega) (by decide) rfl (X3 rfl) trivial),hR 12 rfl rfl (Vh (k:=.i64) (l:=0) (sz:=(Xa false).sz) (off:=0) (n:=l.length) (i:=((i:Nat):Int)) (m:=i) (o':=i*(Xa false).sz+0) Tryz.underlying47 Ja rfl rfl (by omega) (by simp) (X3 rfl) trivial),hR 13 rfl rfl (Fi 0 168 (Xa false) ys (ys.getD (((l.length:Nat):Int)-1-((i:Nat):Int)).toNat Yf) i 0 2 [(Z2t l i ys),(Z2u l i ys)] (tv:=.agg [.d ((Z2t l i ys)),.d ((Z2u l i ys))]) (off:=i*(Xa false).sz+0) Xbh (kk2 trivial) rfl rfl (by omega) (by decide) rfl (by intro j hj;replace hj:j<2:=hj;rcases j with _|_|j<;>rfl) trivial),hR 14 rfl rfl (Vh (k:=.i64) (l:=0) (sz:=(Xa false).sz) (off:=0) (n:=l.length) (i:=(((l.length:Nat):Int)-1-((i:Nat):Int))) (m:=(((l.length:Nat):Int)-1-((i:Nat):Int)).toNat) (o':=(((l.length:Nat):Int)-1-((i:Nat):Int)).toNat*(Xa false).sz+0) Tryz.underlying47 Ja rfl (by omega) (by omega) (by simp) (X3 rfl) trivial),hR 15 rfl rfl (Fi 0 168 (Xa false) (ys.set i (ys.getD (((l.length:Nat):Int)-1-((i:Nat):Int)).toNat Yf)) (ys.getD i Yf) (((l.length:Nat):Int)-1-((i:Nat):Int)).toNat 0 2 [.val (.bool (ys.getD i Yf).Vo),.val (Yk (ys.getD i Yf).X9)] (tv:=.agg [dB (ys.getD i Yf).Vo,dS (ys.getD i Yf).X9]) (off:=(((l.length:Nat):Int)-1-((i:Nat):Int)).toNat*(Xa false).sz+0) Xbh (kk2 trivial) rfl rfl (by (simp [maxLen,-List.getD_eq_getElem?_getD]<;>omega)) (by decide) rfl (by intro j hj;replace hj:j<2:=hj;rcases j with _|_|j<;>rfl) trivial)] pZ8 pZ8 pZ8 pZ8 pZ8 pZ8 ?_
  refine nB (nT ?_)
  refine xR [hR 1 rfl rfl (Yd (u1:=.int .i64 ((i:Nat):Int)) (u2:=.int .i64 1) (v:=.int .i64 ((i+1:Nat):Int)) (Wb pc) (X3 rfl) ⟨rfl,trivial⟩),hR 3 rfl rfl (Yd (u1:=.int .i64 (((l.length:Nat):Int)-1-((i:Nat):Int))) (u2:=.int .i64 1) (v:=.int .i64 ((((l.length:Nat):Int)-1-((i:Nat):Int))-1)) (Ug pc) (X3 rfl) ⟨rfl,trivial⟩)] pZ8 pZ8 ?_
  refine nL (i+1,((ys.set i (ys.getD (((l.length:Nat):Int)-1-((i:Nat):Int)).toNat Yf)).set (((l.length:Nat):Int)-1-((i:Nat):Int)).toNat (ys.getD i Yf))) ⟨(show 2*(i+1)≤l.length from (by omega)),(show revI Yf l (i+1) ((ys.set i (ys.getD (((l.length:Nat):Int)-1-((i:Nat):Int)).toNat Yf)).set (((l.length:Nat):Int)-1-((i:Nat):Int)).toNat (ys.getD i Yf)) from (Xdl hr (by omega) (by omega)))⟩ (show (l.length-(i+1):Nat)<l.length-i from (by omega)) (fun _ _ hG=>Yv [0] (bm 4 13) (t2:=[(Z2r l),aa,(Z2v i),vI ((((l.length:Nat):Int)-1-((i:Nat):Int))-1)]) (congrArg (fun (q1:Int)=>([(Z2r l),aa,(Z2v i),vI q1]:List AV)) (by omega)) rfl hG)
 refine cF (dF hq1) (T.exit (xT (xT (xH ?_))))
 exact tE (.inr rfl) [] trivial [0] rfl rfl rfl rfl rfl rfl ⟨⟨rfl,(by have e1:(ys:List Xz)=l.reverse:=(by exact Xhv hr (by omega));have hE:=congrArg (fun (q1:List Xz)=>(.live (Xf 168 (Xa false) q1):HS)) e1;exact Eq.trans pZ8 hE)⟩,trivial⟩
theorem Xiv:Cells Tryz.prog 4 1:=⟨_,X1y,rfl⟩
section
variable (l:List Bool) (i:Nat) (ys:List Bool)
abbrev Z2y:DV:=.val (.bool (ys.getD (((l.length:Nat):Int)-1-((i:Nat):Int)).toNat false))
abbrev Z2z:AV:=vI ((i+1:Nat):Int)
end
theorem rev_bool (l:List Bool) (hl:l.length≤3000000):Holds Tryz.prog 169 ⟨[Y8 0 Yg 0 l.length],[Xf 4 Yg l],.tup [],[.live (Xf 4 Yg l.reverse)]⟩:=by
 refine Holds.of Tryz.func169 rfl (N:=28) Tryz.ntmps169 rfl fun w0 B0 S0 U0=>?_
 show T _ (Y2 28 1 w0 S0 U0 B0) ⟨[Y8 0 Yg 0 l.length],[.live (Xf 4 Yg l)]⟩ _ _
 refine sR [hR 2 rfl rfl (Yd (u1:=.int .i64 ((l.length:Nat):Int)) (u2:=.int .i64 1) (v:=.int .i64 (((l.length:Nat):Int)-1)) (Ug pc) (X3 rfl) ⟨rfl,trivial⟩)] (T.block ?_)
 refine T.loop (ι:=Nat×(List Bool)) (fun (x_:Nat×(List Bool))=>⟨[Y8 0 Yg 0 l.length,aa,vI ((x_.1:Nat):Int),vI (((l.length:Nat):Int)-1-((x_.1:Nat):Int))],[.live (Xf 4 Yg x_.2)]⟩) (fun (x_:Nat×(List Bool))=>(2*x_.1≤l.length)∧(revI false l x_.1 x_.2)) (fun (x_:Nat×(List Bool))=>l.length-x_.1) (0,l) ⟨(by omega),(rev_0 _ _)⟩ (fun _ _ hG=>Yv [0] (bm 4 13) (t2:=[Y8 0 Yg 0 l.length,aa,vI 0,vI (((l.length:Nat):Int)-1)]) (congrArg (fun (q1:Int)=>([Y8 0 Yg 0 l.length,aa,vI 0,vI q1]:List AV)) (show (((l.length:Nat):Int)-1-((0:Nat):Int):Int)=((l.length:Nat):Int)-1 from (by omega))) rfl hG) ?_
 rintro ⟨i,ys⟩ ⟨hi,hr⟩
 show T _ _ ⟨[Y8 0 Yg 0 l.length,aa,vI ((i:Nat):Int),vI (((l.length:Nat):Int)-1-((i:Nat):Int))],[.live (Xf 4 Yg ys)]⟩ _ _
 replace hi:2*i≤l.length:=hi
 replace hr:revI false l i ys:=hr
 have hy1:=hr.1
 refine T.seq (sR [] ?_)
 by_cases hq1:((i:Nat):Int)<(((l.length:Nat):Int)-1-((i:Nat):Int))
 ·refine cT (dT hq1) (T.skip (nT (T.seq (T.block ?_))))
  refine xD [[],[],[],[],[],[],[4,5],[4,5,6],[],[],[8,9],[8,9,10],[0,1,4,5,6,7,8,9,10,11],[0,1,4,5,6,7,8,9,10,11,12],[0,1,2,3,4,5,6,7,8,9,10,11,12,13],[0,1,2,3,4,5,6,7,8,9,10,11,12,13,14]] [hR 6 rfl rfl (Vh (k:=.i64) (l:=0) (sz:=Yg.sz) (off:=0) (n:=l.length) (i:=(((l.length:Nat):Int)-1-((i:Nat):Int))) (m:=(((l.length:Nat):Int)-1-((i:Nat):Int)).toNat) (o':=(((l.length:Nat):Int)-1-((i:Nat):Int)).toNat*Yg.sz+0) Tryz.underlying192 X1y rfl (by omega) (by omega) (by simp) (X3 rfl) trivial),hR 7 rfl rfl (F7 (l:=0) (off:=(((l.length:Nat):Int)-1-((i:Nat):Int)).toNat*Yg.sz+0) (i:=(((l.length:Nat):Int)-1-((i:Nat):Int)).toNat) (j:=0) (T:=4) (sz:=Yg.sz) (n:=ys.length) (el:=W7 Yg ys) (c:=(Z2y l i ys)) Xfp rfl (by omega) (by decide) rfl (X3 rfl) trivial),hR 10 rfl rfl (Vh (k:=.i64) (l:=0) (sz:=Yg.sz) (off:=0) (n:=l.length) (i:=((i:Nat):Int)) (m:=i) (o':=i*Yg.sz+0) Tryz.underlying192 X1y rfl rfl (by omega) (by simp) (X3 rfl) trivial),hR 11 rfl rfl (F7 (l:=0) (off:=i*Yg.sz+0) (i:=i) (j:=0) (T:=4) (sz:=Yg.sz) (n:=ys.length) (el:=W7 Yg ys) (c:=.val (.bool (ys.getD i false))) Xfp rfl (by omega) (by decide) rfl (X3 rfl) trivial),hR 12 rfl rfl (Vh (k:=.i64) (l:=0) (sz:=Yg.sz) (off:=0) (n:=l.length) (i:=((i:Nat):Int)) (m:=i) (o':=i*Yg.sz+0) Tryz.underlying192 X1y rfl rfl (by omega) (by simp) (X3 rfl) trivial),hR 13 rfl rfl (Fi 0 4 Yg ys (ys.getD (((l.length:Nat):Int)-1-((i:Nat):Int)).toNat false) i 0 1 [(Z2y l i ys)] (tv:=.one (.d ((Z2y l i ys)))) (off:=i*Yg.sz+0) Xiv ⟨.inl rfl,trivial⟩ rfl rfl (by omega) (by decide) rfl (by intro j hj;replace hj:j<1:=hj;rcases j with _|j<;>first|rfl|omega) trivial),hR 14 rfl rfl (Vh (k:=.i64) (l:=0) (sz:=Yg.sz) (off:=0) (n:=l.length) (i:=(((l.length:Nat):Int)-1-((i:Nat):Int))) (m:=(((l.length:Nat):Int)-1-((i:Nat):Int)).toNat) (o':=(((l.length:Nat):Int)-1-((i:Nat):Int)).toNat*Yg.sz+0) Tryz.underlying192 X1y rfl (by omega) (by omega) (by simp) (X3 rfl) trivial),hR 15 rfl rfl (Fi 0 4 Yg (ys.set i (ys.getD (((l.length:Nat):Int)-1-((i:Nat):Int)).toNat false)) (ys.getD i false) (((l.length:Nat):Int)-1-((i:Nat):Int)).toNat 0 1 [.val (.bool (ys.getD i false))] (tv:=.one (dB (ys.getD i false))) (off:=(((l.length:Nat):Int)-1-((i:Nat):Int)).toNat*Yg.sz+0) Xiv ⟨.inl rfl,trivial⟩ rfl rfl (by (simp [maxLen,-List.getD_eq_getElem?_getD]<;>omega)) (by decide) rfl (by intro j hj;replace hj:j<1:=hj;rcases j with _|j<;>first|rfl|omega) trivial)] pZ8 pZ8 pZ8 pZ8 pZ8 pZ8 ?_
  refine nB (nT ?_)
  refine xR [hR 1 rfl rfl (Yd (u1:=.int .i64 ((i:Nat):Int)) (u2:=.int .i64 1) (v:=.int .i64 ((i+1:Nat):Int)) (Wb pc) (X3 rfl) ⟨rfl,trivial⟩),hR 3 rfl rfl (Yd (u1:=.int .i64 (((l.length:Nat):Int)-1-((i:Nat):Int))) (u2:=.int .i64 1) (v:=.int .i64 ((((l.length:Nat):Int)-1-((i:Nat):Int))-1)) (Ug pc) (X3 rfl) ⟨rfl,trivial⟩)] pZ8 pZ8 ?_
  refine nL (i+1,((ys.set i (ys.getD (((l.length:Nat):Int)-1-((i:Nat):Int)).toNat false)).set (((l.length:Nat):Int)-1-((i:Nat):Int)).toNat (ys.getD i false))) ⟨(show 2*(i+1)≤l.length from (by omega)),(show revI false l (i+1) ((ys.set i (ys.getD (((l.length:Nat):Int)-1-((i:Nat):Int)).toNat false)).set (((l.length:Nat):Int)-1-((i:Nat):Int)).toNat (ys.getD i false)) from (Xdl hr (by omega) (by omega)))⟩ (show (l.length-(i+1):Nat)<l.length-i from (by omega)) (fun _ _ hG=>Yv [0] (bm 4 13) (t2:=[Y8 0 Yg 0 l.length,aa,(Z2z i),vI ((((l.length:Nat):Int)-1-((i:Nat):Int))-1)]) (congrArg (fun (q1:Int)=>([Y8 0 Yg 0 l.length,aa,(Z2z i),vI q1]:List AV)) (by omega)) rfl hG)
 refine cF (dF hq1) (T.exit (xT (xT (xH ?_))))
 exact tE (.inr rfl) [] trivial [0] rfl rfl rfl rfl rfl rfl ⟨⟨rfl,(by have e1:(ys:List Bool)=l.reverse:=(by exact Xhv hr (by omega));have hE:=congrArg (fun (q1:List Bool)=>(.live (Xf 4 Yg q1):HS)) e1;exact Eq.trans pZ8 hE)⟩,trivial⟩
theorem X3u:Zero Tryz.prog 168 [.bool false,Yk []]:=⟨_,_,Ja,rfl,rfl⟩
theorem iat_60:Tryz.prog.info? 60=some Tryz.t60:=by kernel_rfl
theorem X7m:Elem Tryz.prog 47 168 2 24:=⟨Tryz.underlying47,_,_,Ja,rfl,rfl,rfl,rfl,by decide⟩
section
variable (tl:Bool) (nl:Bool) (sl_:Bool) (l:List (List UInt8)) (i:Int) (X:List (List UInt8)) (j:Nat) (Dn:List Xz)
abbrev Z32:St:=⟨[slV tl nl (kSl sl_ kU8) l,vI i,aa,aa,dv (.slice none 0 0),vI 2,aa,aa,aa,aa,aa,aa,aa,aa,aa,vB true],[]⟩
abbrev Z33:AV:=slV false false (Xa false) ([]:List Xz)
abbrev Z34:AV:=vB (decide (i≥((l.length:Nat):Int)))
abbrev Z35:St:=⟨[slV tl nl (kSl sl_ kU8) l,vI i,aa,aa,dv (.slice none 0 0),vI 2,aa,aa,aa,aa,aa,aa,aa,aa,aa,(Z34 l i)],[]⟩
abbrev Z36:List HS:=[.live (Xf 168 (Xa false) ([]:List Xz))]
abbrev Z37:AV:=vI ((j:Nat):Int)
abbrev Z38:=(Xz.mk false (W6 (X.drop (half X.length))))
abbrev Z39:=(Xz.mk true (W6 (X.take (half X.length))))
abbrev Z3a:AV:=vB (decide (((X.length:Nat):Int)>1))
abbrev Z3b:List AV:=[slV tl nl (kSl sl_ kU8) X,(Z37 j),aa,aa,aa,aa,Y8 0 (Xa false) 0 Dn.length,aa,aa,aa,aa,aa,aa,aa,aa,aa,aa,aa,(Z3a X)]
abbrev Z3c:List HS:=[.live (Xf 168 (Xa false) Dn.reverse)]
abbrev Z3d:AV:=Y8 0 (Xa false) 0 Dn.reverse.length
abbrev Z3e:List AV:=[slV tl nl (kSl sl_ kU8) X,(Z37 j),aa,aa,aa,aa,(Z3d Dn),aa,aa,aa,aa,aa,aa,aa,aa,aa,aa,aa,(Z3a X)]
abbrev Z3f:List AV:=[slV tl nl (kSl sl_ kU8) X,(Z37 j),aa,aa,(Z3d Dn),vI 0,(Z3d Dn),aa,aa,aa,aa,aa,aa,aa,aa,aa,aa,aa,(Z3a X)]
end
theorem Xea (tl:Bool) (nl:Bool) (sl_:Bool) (l:List (List UInt8)) (i:Int) (hf:I0 szL 40 600 l):Holds Tryz.prog 111 ⟨[slV tl nl (kSl sl_ kU8) l,vI i],[],.tup [.one (.d (dsl false false (Xa false) (Hv l i))),.one (dI (X0z l i))],[]⟩:=by
 refine Holds.of Tryz.func111 rfl (N:=53) Tryz.ntmps111 rfl fun w0 B0 S0 U0=>?_
 show T _ (Y2 53 0 w0 S0 U0 B0) ⟨[slV tl nl (kSl sl_ kU8) l,vI i],[]⟩ _ _
 have hl40:=hf.1
 refine sR [] (T.seq ?_)
 by_cases hq1:i<0
 ·refine sR (Xm (hN · false (dT hq1)) [3,4,5,6] (hP 7 (dT hq1)::[])) (cT (b:=true) rfl (sR [] (T.ret (rT ?_))))
  refine eN (Z32 tl nl sl_ l i) ?_
  refine X7 (s':=⟨[slV tl nl (kSl sl_ kU8) l,vI i,aa,aa,Z33,vI 2,aa,aa,aa,aa,aa,aa,aa,aa,aa,vB true],[]⟩) (fun _ _ hG=>Yt (s:=(Z32 tl nl sl_ l i)) (kk4 ⟨pZ5,⟨.inl rfl,(kk2 (kk8 trivial))⟩⟩) trivial hG) ?_
  exact eX [.t 4 (.one (.d (dsl false false (Xa false) ([]:List Xz)))),.t 5 (.one (dI 2))] ⟨⟨rfl,by kernel_rfl⟩,⟨⟨rfl,by kernel_rfl⟩,trivial⟩⟩ [] pm trivial
 refine sR (Xm (hY · (dF hq1)) [3,4,5,6] (hP 7 (dF hq1)::[])) ?_
 by_cases hq2:i≥((l.length:Nat):Int)
 ·refine cT (dT hq2) (sR [] (T.ret (rT ?_)))
  refine eN (Z35 tl nl sl_ l i) ?_
  refine X7 (s':=⟨[slV tl nl (kSl sl_ kU8) l,vI i,aa,aa,Z33,vI 2,aa,aa,aa,aa,aa,aa,aa,aa,aa,(Z34 l i)],[]⟩) (fun _ _ hG=>Yt (s:=(Z35 tl nl sl_ l i)) (kk4 ⟨pZ5,⟨.inl rfl,(kk2 (kk8 trivial))⟩⟩) trivial hG) ?_
  exact eX [.t 4 (.one (.d (dsl false false (Xa false) ([]:List Xz)))),.t 5 (.one (dI 2))] ⟨⟨rfl,by kernel_rfl⟩,⟨⟨rfl,by kernel_rfl⟩,trivial⟩⟩ [] pm trivial
 refine cF (dF hq2) (T.skip (nT (sR [] (T.seq (T.block ?_)))))
 refine tN ⟨[slV tl nl (kSl sl_ kU8) l,vI i,aa,aa,dv (.slice none 0 0),vI 0,dv (.slice none 0 0),aa,aa,aa,aa,aa,aa,aa,aa,(Z34 l i)],[]⟩ ?_
 refine Wx (s':=⟨[slV tl nl (kSl sl_ kU8) l,vI i,aa,aa,dv (.slice none 0 0),vI 0,Y8 0 (Xa false) 0 0,aa,aa,aa,aa,aa,aa,aa,aa,(Z34 l i)],Z36⟩) (fun _ _ hG=>U5 0 6 168 (Xa false) rfl rfl hG) ?_
 refine T.loop (ι:=(List (List UInt8))×Nat×(List Xz)) (fun (x_:(List (List UInt8))×Nat×(List Xz))=>⟨[slV tl nl (kSl sl_ kU8) x_.1,vI ((x_.2.1:Nat):Int),aa,aa,aa,aa,Y8 0 (Xa false) 0 x_.2.2.length],[.live (Xf 168 (Xa false) x_.2.2)]⟩) (fun (x_:(List (List UInt8))×Nat×(List Xz))=>(I0 szL 40 600 x_.1)∧(x_.2.1<x_.1.length)∧(Wj l i.toNat=Wj x_.1 x_.2.1++x_.2.2.reverse)∧(x_.2.2.length+x_.1.length≤l.length)) (fun (x_:(List (List UInt8))×Nat×(List Xz))=>x_.1.length) (l,i.toNat,([]:List Xz)) ⟨(show I0 szL 40 600 l from hf),(show i.toNat<l.length from (by omega)),(show Wj l i.toNat=Wj l i.toNat++([]:List Xz).reverse from (by simp)),(show ([]:List Xz).length+l.length≤l.length from (by simp))⟩ (fun _ _ hG=>Yv [0] (bm 7 67) (t2:=[slV tl nl (kSl sl_ kU8) l,vI i,aa,aa,aa,aa,Y8 0 (Xa false) 0 0]) (cg2 (fun (q1:Int) (q2:Nat)=>([slV tl nl (kSl sl_ kU8) l,vI q1,aa,aa,aa,aa,Y8 0 (Xa false) 0 q2]:List AV)) (show (((i.toNat:Nat):Int):Int)=i from (by omega)) (by rfl)) rfl hG) ?_
 rintro ⟨X,j,Dn⟩ ⟨hX,hj,he,hD⟩
 show T _ _ ⟨[slV tl nl (kSl sl_ kU8) X,(Z37 j),aa,aa,aa,aa,Y8 0 (Xa false) 0 Dn.length],[.live (Xf 168 (Xa false) Dn)]⟩ _ _
 replace hX:I0 szL 40 600 X:=hX
 replace hj:j<X.length:=hj
 replace he:Wj l i.toNat=Wj X j++Dn.reverse:=he
 replace hD:Dn.length+X.length≤l.length:=hD
 have hl40:=hf.1
 refine T.seq (sR [] ?_)
 by_cases hq3:((X.length:Nat):Int)>1
 ·have h2x:2≤X.length:=(by omega);have hhl:=I4 h2x;have hhp:=Jj X.length;have hfa:=Ua (Ig hX (half X.length));have hfb:=Ua (Jw hX (half X.length))
  refine cT (dT hq3) (T.skip (nT (T.block (sR [hR 2 rfl rfl (rCa (X0h X.length ‹_› (by omega)) Tryz.func148 [] [(.tmp 20,vI ((X.length:Nat):Int))] 0 0)] (sR [] ?_)))))
  by_cases hq4:((j:Nat):Int)<((half X.length:Nat):Int)
  ·refine cT (dT hq4) ?_
   refine sR [hR 3 rfl rfl (U7 tl nl (kSl sl_ kU8) X (X.drop (half X.length)) (half X.length) X.length (lo:=some (.tmp 27,((half X.length:Nat):Int))) (hi:=none) Tryz.underlying136 U1 rfl rfl rfl rfl rfl (by omega) (by omega) Jy (X3 rfl) trivial),hR 4 rfl rfl (rCa (X1r tl nl sl_ (X.drop (half X.length)) (by exact Jw ‹_› _)) Tryz.func110 [] [(.tmp 28,slV tl nl (kSl sl_ kU8) (X.drop (half X.length)))] 0 0),hR 6 rfl rfl (Yc 1 168 (Xa false) (Un false) [(Xz.mk false (W6 (X.drop (half X.length))))] [⟨0,.tmp 30,.agg [dB false,dS (W6 (X.drop (half X.length)))],0⟩] (cs:=[dB false,dS (W6 (X.drop (half X.length)))]) Tryz.underlying47 Ja rfl X3u rfl rfl rfl pd (Yr rfl rfl pd W5) pZ8 (V4 pZ8) (X3 rfl) trivial),hR 7 rfl rfl (W2 0 2 168 24 (Xa false) (Un false) Dn [(Xz.mk false (W6 (X.drop (half X.length))))] (Dn++[(Xz.mk false (W6 (X.drop (half X.length))))]) Dn.length (sy:=(.own 1 (Xa false).sz 0 [(Z38 X)].length)) (rhs:=[(1,.live (Xf 168 (Xa false) [(Z38 X)]))]) X7m (by omega) (Wv 1 168 (Xa false) [(Xz.mk false (W6 (X.drop (half X.length))))]) Jy (by (simp [maxLen,-List.getD_eq_getElem?_getD]<;>omega)) (by (simp [maxLen,-List.getD_eq_getElem?_getD]<;>omega)) (X3 rfl) trivial)] ?_
   refine xK [hR 2 rfl rfl (U7 tl nl (kSl sl_ kU8) X (X.take (half X.length)) 0 (half X.length) (lo:=none) (hi:=some (.tmp 34,((half X.length:Nat):Int))) Tryz.underlying136 U1 rfl rfl rfl rfl rfl (by omega) (by omega) rfl (X3 rfl) trivial)] (nB ?_)
   refine nL ((X.take (half X.length)),j,Dn++[(Xz.mk false (W6 (X.drop (half X.length))))]) ⟨(show I0 szL 40 600 (X.take (half X.length)) from (by exact Ig hX _)),(show j<(X.take (half X.length)).length from (by (simp only [List.length_take];omega))),(show Wj l i.toNat=Wj (X.take (half X.length)) j++(Dn++[(Xz.mk false (W6 (X.drop (half X.length))))]).reverse from (by exact Xgi he h2x (by omega))),(show (Dn++[(Xz.mk false (W6 (X.drop (half X.length))))]).length+(X.take (half X.length)).length≤l.length from p4i)⟩ (show ((X.take (half X.length)).length:Nat)<X.length from (by simp only [List.length_take,List.length_drop];omega)) (fun _ _ hG=>Wf [2] (bm 7 67) (t1:=[slV tl nl (kSl sl_ kU8) (X.take (half X.length)),(Z37 j),aa,aa,aa,aa,Y8 2 (Xa false) 0 (Dn++[(Z38 X)]).length]) (h1:=[.live (Xf 168 (Xa false) (Dn++[(Z38 X)]))]) rfl rfl hG)
  refine cF (dF hq4) ?_
  refine sR [hR 3 rfl rfl (U7 tl nl (kSl sl_ kU8) X (X.take (half X.length)) 0 (half X.length) (lo:=none) (hi:=some (.tmp 38,((half X.length:Nat):Int))) Tryz.underlying136 U1 rfl rfl rfl rfl rfl (by omega) (by omega) rfl (X3 rfl) trivial),hR 4 rfl rfl (rCa (X1r tl nl sl_ (X.take (half X.length)) (by exact Ig ‹_› _)) Tryz.func110 [] [(.tmp 39,slV tl nl (kSl sl_ kU8) (X.take (half X.length)))] 0 0),hR 6 rfl rfl (Yc 1 168 (Xa false) (Un false) [(Xz.mk true (W6 (X.take (half X.length))))] [⟨0,.tmp 41,.agg [dB true,dS (W6 (X.take (half X.length)))],0⟩] (cs:=[dB true,dS (W6 (X.take (half X.length)))]) Tryz.underlying47 Ja rfl X3u rfl rfl rfl pd (Yr rfl rfl pd W5) pZ8 (V4 pZ8) (X3 rfl) trivial),hR 7 rfl rfl (W2 0 2 168 24 (Xa false) (Un false) Dn [(Xz.mk true (W6 (X.take (half X.length))))] (Dn++[(Xz.mk true (W6 (X.take (half X.length))))]) Dn.length (sy:=(.own 1 (Xa false).sz 0 [(Z39 X)].length)) (rhs:=[(1,.live (Xf 168 (Xa false) [(Z39 X)]))]) X7m (by omega) (Wv 1 168 (Xa false) [(Xz.mk true (W6 (X.take (half X.length))))]) Jy (by (simp [maxLen,-List.getD_eq_getElem?_getD]<;>omega)) (by (simp [maxLen,-List.getD_eq_getElem?_getD]<;>omega)) (X3 rfl) trivial)] ?_
  refine xR [hR 2 rfl rfl (U7 tl nl (kSl sl_ kU8) X (X.drop (half X.length)) (half X.length) X.length (lo:=some (.tmp 45,((half X.length:Nat):Int))) (hi:=none) Tryz.underlying136 U1 rfl rfl rfl rfl rfl (by omega) (by omega) Jy (X3 rfl) trivial),hR 5 rfl rfl (Yd (u1:=.int .i64 ((j:Nat):Int)) (u2:=.int .i64 ((half X.length:Nat):Int)) (v:=.int .i64 ((j-(half X.length):Nat):Int)) (Ug pc) (X3 rfl) trivial)] pZ8 pZ8 (nB ?_)
  refine nL ((X.drop (half X.length)),j-(half X.length),Dn++[(Xz.mk true (W6 (X.take (half X.length))))]) ⟨(show I0 szL 40 600 (X.drop (half X.length)) from (by exact Jw hX _)),(show (j-(half X.length))<(X.drop (half X.length)).length from (by (simp only [List.length_drop];omega))),(show Wj l i.toNat=Wj (X.drop (half X.length)) (j-(half X.length))++(Dn++[(Xz.mk true (W6 (X.take (half X.length))))]).reverse from (by exact Xgh he h2x (by omega))),(show (Dn++[(Xz.mk true (W6 (X.take (half X.length))))]).length+(X.drop (half X.length)).length≤l.length from p4i)⟩ (show ((X.drop (half X.length)).length:Nat)<X.length from (by simp only [List.length_take,List.length_drop];omega)) (fun _ _ hG=>Wf [2] (bm 7 67) (t1:=[slV tl nl (kSl sl_ kU8) (X.drop (half X.length)),vI ((j-(half X.length):Nat):Int),aa,aa,aa,aa,Y8 2 (Xa false) 0 (Dn++[(Z39 X)]).length]) (h1:=[.live (Xf 168 (Xa false) (Dn++[(Z39 X)]))]) rfl rfl hG)
 refine cF (dF hq3) (T.exit (xT (xT (xH (nT (sR [hR 1 rfl rfl (rCa (rev_Step Dn (by omega)) Tryz.func149 [0] [(.tmp 50,Y8 0 (Xa false) 0 Dn.length)] 1 1)] ?_))))))
 refine tN ⟨(Z3b tl nl sl_ X j Dn),(Z3c Dn)⟩ ?_
 refine Wx (s':=⟨(Z3e tl nl sl_ X j Dn),(Z3c Dn)⟩) (fun _ _ hG=>Yv [0] (bm 19 262211) (t2:=(Z3b tl nl sl_ X j Dn)) (by have e1:(Dn.reverse.length:Nat)=Dn.length:=(by simp only [List.length_set,List.length_reverse]);have hE:=congrArg (fun (q1:Nat)=>([slV tl nl (kSl sl_ kU8) X,(Z37 j),aa,aa,aa,aa,Y8 0 (Xa false) 0 q1,aa,aa,aa,aa,aa,aa,aa,aa,aa,aa,aa,(Z3a X)]:List AV)) e1;exact hE) rfl hG) (sR [] (T.ret ?_))
 refine eN ⟨(Z3f tl nl sl_ X j Dn),(Z3c Dn)⟩ ?_
 refine X7 (s':=⟨[slV tl nl (kSl sl_ kU8) X,(Z37 j),aa,aa,slV false false (Xa false) Dn.reverse,vI 0,slV false false (Xa false) Dn.reverse,aa,aa,aa,aa,aa,aa,aa,aa,aa,aa,aa,(Z3a X)],[.dead]⟩) (fun _ _ hG=>Gs.freeze (s:=⟨(Z3f tl nl sl_ X j Dn),(Z3c Dn)⟩) 0 (el:=W7 (Xa false) Dn.reverse) (sz:=(Xa false).sz) (n:=Dn.reverse.length) rfl (kk4 ⟨(.inr pZ0),⟨.inl rfl,⟨(.inr pZ0),p3o⟩⟩⟩) ⟨(.inl ⟨rfl,rfl⟩),trivial⟩ hG) ?_
 exact eX [.t 4 (.one (.d (dsl false false (Xa false) Dn.reverse))),.t 5 (.one (dI 0))] ⟨⟨rfl,by kernel_rfl⟩,⟨⟨rfl,by kernel_rfl⟩,trivial⟩⟩ [] (by have e1:((Hv l i):List Xz)=Dn.reverse:=(by (have ho:okI l i:=(by simp only [okI];omega);(rw [Hv,if_pos ho,← path_end he (by omega)])));have e2:((X0z l i):Int)=0:=p4z;have hE:=congr pZ18 e2;exact hE) trivial
abbrev Z3g (j:Nat):AV:=vI ((j:Nat):Int)
theorem X8i:∀ (N:Nat) (tl:Bool) (nl:Bool) (sl_:Bool) (l:List (List UInt8)) (j:Nat) (hf:I0 szL 40 600 l) (hj:j≤1000),l.length=N→Holds Tryz.prog 140 ⟨[slV tl nl (kSl sl_ kU8) l,vI ((j:Nat):Int)],[],Y8 0 (Xa false) 0 (Wj l j).length,[.live (Xf 168 (Xa false) (Wj l j))]⟩:=by
  intro N
  induction N using Nat.strongRecOn with
  | _ N ih =>
    intro tl nl sl_ l j hf hj hN
    refine Holds.of Tryz.func140 rfl (N:=41) Tryz.ntmps140 rfl fun w0 B0 S0 U0=>?_
    show T _ (Y2 41 0 w0 S0 U0 B0) ⟨[slV tl nl (kSl sl_ kU8) l,(Z3g j)],[]⟩ _ _
    have hl40:=hf.1
    refine sR [] (T.seq (sR [] ?_))
    by_cases hq1:((l.length:Nat):Int)<2
    ·refine cT (dT hq1) (sR [] (T.ret (rT ?_)))
     refine eN ⟨[slV tl nl (kSl sl_ kU8) l,(Z3g j),aa,aa,dv (.slice none 0 0),aa,aa,aa,vB (decide (((l.length:Nat):Int)<2))],[]⟩ ?_
     refine X7 (s':=⟨[slV tl nl (kSl sl_ kU8) l,(Z3g j),aa,aa,Y8 0 (Xa false) 0 0,aa,aa,aa,vB (decide (((l.length:Nat):Int)<2))],[.live (Xf 168 (Xa false) ([]:List Xz))]⟩) (fun _ _ hG=>U5 0 4 168 (Xa false) rfl rfl hG) ?_
     exact eRt 4 (.one (.own 0 (Xa false).sz 0 0)) [0] (by have e1:((Wj l j).length:Nat)=0:=pj;have hE:=congrArg (fun (q1:Nat)=>(Y8 0 (Xa false) 0 q1:AV)) e1;exact hE) ⟨⟨rfl,(by have e1:(([]:List Xz):List Xz)=(Wj l j):=pj;have hE:=congrArg (fun (q1:List Xz)=>(.live (Xf 168 (Xa false) q1):HS)) e1;exact Eq.trans pZ8 hE)⟩,trivial⟩
    have h2l:2≤l.length:=(by omega);have hhl:=I4 h2l;have hhp:=Jj l.length;have hfa:=Ua (Ig hf (half l.length));have hfb:=Ua (Jw hf (half l.length));have hpa:=X3h _ (l.take (half l.length)) j rfl;have hpb:=X3h _ (l.drop (half l.length)) (j-half l.length) rfl;have htl:(l.take (half l.length)).length≤40:=p1p;have htd:(l.drop (half l.length)).length≤40:=X8z
    refine cF (dF hq1) (T.skip (nT ?_))
    refine sR [hR 2 rfl rfl (rCa (X8j l.length (by first|assumption|omega|(unfold maxLen;omega)|(simp [maxLen,-List.getD_eq_getElem?_getD]<;>omega)|decide) (by first|assumption|omega|(unfold maxLen;omega)|(simp [maxLen,-List.getD_eq_getElem?_getD]<;>omega)|decide)) Tryz.func138 [] [(.tmp 10,vI ((l.length:Nat):Int))] 0 0)] ?_
    refine T.seq (sR [] ?_)
    by_cases hq2:((j:Nat):Int)<((half l.length:Nat):Int)
    ·refine cT (dT hq2) ?_
     refine sD [[],[],[0,1],[],[0,1,2,3],[],[],[5,6],[0,1,2,3,4,5,6,7],[0,1,2,3,4,5,6,7,8],[0,1,2,3,4,5,6,7,8,9],[0,1,2,3,4,5,6,7,8,9,10],[0,1,2,3,4,5,6,7,8,9,10,11]] [hR 2 rfl rfl (U7 tl nl (kSl sl_ kU8) l (l.take (half l.length)) 0 (half l.length) (lo:=none) (hi:=some (.tmp 16,((half l.length:Nat):Int))) Tryz.underlying136 U1 rfl rfl rfl rfl rfl (by first|assumption|omega|(unfold maxLen;omega)|(simp [maxLen,-List.getD_eq_getElem?_getD]<;>omega)|decide) (by first|assumption|omega|(unfold maxLen;omega)|(simp [maxLen,-List.getD_eq_getElem?_getD]<;>omega)|decide) rfl (X3 rfl) trivial),hR 4 rfl rfl (rCa (ih ((l.take (half l.length)).length) (show (l.take (half l.length)).length<N from p1o) tl nl sl_ (l.take (half l.length)) j pu (by first|assumption|omega|(unfold maxLen;omega)|(simp [maxLen,-List.getD_eq_getElem?_getD]<;>omega)|decide) rfl) Tryz.func140 [0] [(.tmp 17,slV tl nl (kSl sl_ kU8) (l.take (half l.length))),(.tmp 18,(Z3g j))] 0 1),hR 7 rfl rfl (U7 tl nl (kSl sl_ kU8) l (l.drop (half l.length)) (half l.length) l.length (lo:=some (.tmp 21,((half l.length:Nat):Int))) (hi:=none) Tryz.underlying136 U1 rfl rfl rfl rfl rfl (by first|assumption|omega|(unfold maxLen;omega)|(simp [maxLen,-List.getD_eq_getElem?_getD]<;>omega)|decide) (by first|assumption|omega|(unfold maxLen;omega)|(simp [maxLen,-List.getD_eq_getElem?_getD]<;>omega)|decide) Jy (X3 rfl) trivial),hR 8 rfl rfl (rCa (X3e tl nl sl_ (l.drop (half l.length)) pu) Tryz.func98 [] [(.tmp 22,slV tl nl (kSl sl_ kU8) (l.drop (half l.length)))] 0 0),hR 10 rfl rfl (Yc 1 168 (Xa false) (Un false) [(Xz.mk false (W6 (l.drop (half l.length))))] [⟨0,.tmp 24,.agg [dB false,dS (W6 (l.drop (half l.length)))],0⟩] (cs:=[dB false,dS (W6 (l.drop (half l.length)))]) Tryz.underlying47 Ja rfl X3u rfl rfl rfl pd (Yr rfl rfl pd W5) pZ8 (V4 pZ8) (X3 rfl) trivial),hR 11 rfl rfl (W2 0 2 168 24 (Xa false) (Un false) (Wj (l.take (half l.length)) j) [(Xz.mk false (W6 (l.drop (half l.length))))] ((Wj (l.take (half l.length)) j)++[(Xz.mk false (W6 (l.drop (half l.length))))]) (Wj (l.take (half l.length)) j).length (sy:=(.own 1 (Xa false).sz 0 [(Xz.mk false (W6 (l.drop (half l.length))))].length)) (rhs:=[(1,.live (Xf 168 (Xa false) [(Xz.mk false (W6 (l.drop (half l.length))))]))]) X7m (by first|assumption|omega|(unfold maxLen;omega)|(simp [maxLen,-List.getD_eq_getElem?_getD]<;>omega)|decide) (Wv 1 168 (Xa false) [(Xz.mk false (W6 (l.drop (half l.length))))]) Jy (by first|assumption|omega|(unfold maxLen;omega)|(simp [maxLen,-List.getD_eq_getElem?_getD]<;>omega)|decide) (by first|assumption|omega|(unfold maxLen;omega)|(simp [maxLen,-List.getD_eq_getElem?_getD]<;>omega)|decide) (X3 rfl) trivial)] ?_
     refine T.ret (rT ?_)
     exact eRt 4 (.one (.own 2 (Xa false).sz 0 ((Wj (l.take (half l.length)) j)++[(Xz.mk false (W6 (l.drop (half l.length))))]).length)) [2] (by have e1:((Wj l j).length:Nat)=((Wj (l.take (half l.length)) j)++[(Xz.mk false (W6 (l.drop (half l.length))))]).length:=pj;have hE:=congrArg (fun (q1:Nat)=>(Y8 2 (Xa false) 0 q1:AV)) e1;exact hE) ⟨⟨rfl,(by have e1:((Wj (l.take (half l.length)) j)++[(Xz.mk false (W6 (l.drop (half l.length))))]:List Xz)=(Wj l j):=pj;have hE:=congrArg (fun (q1:List Xz)=>(.live (Xf 168 (Xa false) q1):HS)) e1;exact Eq.trans pZ8 hE)⟩,trivial⟩
    refine cF (dF hq2) (T.skip (nT ?_))
    refine sD [[],[],[0,1],[],[],[3,4],[0,1,2,3,4,5],[],[],[7,8],[0,1,2,3,4,5,6,7,8,9],[0,1,2,3,4,5,6,7,8,9,10],[0,1,2,3,4,5,6,7,8,9,10,11],[0,1,2,3,4,5,6,7,8,9,10,11,12],[0,1,2,3,4,5,6,7,8,9,10,11,12,13]] [hR 2 rfl rfl (U7 tl nl (kSl sl_ kU8) l (l.drop (half l.length)) (half l.length) l.length (lo:=some (.tmp 28,((half l.length:Nat):Int))) (hi:=none) Tryz.underlying136 U1 rfl rfl rfl rfl rfl (by first|assumption|omega|(unfold maxLen;omega)|(simp [maxLen,-List.getD_eq_getElem?_getD]<;>omega)|decide) (by first|assumption|omega|(unfold maxLen;omega)|(simp [maxLen,-List.getD_eq_getElem?_getD]<;>omega)|decide) Jy (X3 rfl) trivial),hR 5 rfl rfl (Yd (u1:=.int .i64 ((j:Nat):Int)) (u2:=.int .i64 ((half l.length:Nat):Int)) (v:=.int .i64 ((j-(half l.length):Nat):Int)) (Ug pc) (X3 rfl) trivial),hR 6 rfl rfl (rCa (ih ((l.drop (half l.length)).length) (show (l.drop (half l.length)).length<N from p1o) tl nl sl_ (l.drop (half l.length)) (j-(half l.length)) pu (by first|assumption|omega|(unfold maxLen;omega)|(simp [maxLen,-List.getD_eq_getElem?_getD]<;>omega)|decide) rfl) Tryz.func140 [0] [(.tmp 29,slV tl nl (kSl sl_ kU8) (l.drop (half l.length))),(.tmp 32,vI ((j-(half l.length):Nat):Int))] 0 1),hR 9 rfl rfl (U7 tl nl (kSl sl_ kU8) l (l.take (half l.length)) 0 (half l.length) (lo:=none) (hi:=some (.tmp 35,((half l.length:Nat):Int))) Tryz.underlying136 U1 rfl rfl rfl rfl rfl (by first|assumption|omega|(unfold maxLen;omega)|(simp [maxLen,-List.getD_eq_getElem?_getD]<;>omega)|decide) (by first|assumption|omega|(unfold maxLen;omega)|(simp [maxLen,-List.getD_eq_getElem?_getD]<;>omega)|decide) rfl (X3 rfl) trivial),hR 10 rfl rfl (rCa (X3e tl nl sl_ (l.take (half l.length)) pu) Tryz.func98 [] [(.tmp 36,slV tl nl (kSl sl_ kU8) (l.take (half l.length)))] 0 0),hR 12 rfl rfl (Yc 1 168 (Xa false) (Un false) [(Xz.mk true (W6 (l.take (half l.length))))] [⟨0,.tmp 38,.agg [dB true,dS (W6 (l.take (half l.length)))],0⟩] (cs:=[dB true,dS (W6 (l.take (half l.length)))]) Tryz.underlying47 Ja rfl X3u rfl rfl rfl pd (Yr rfl rfl pd W5) pZ8 (V4 pZ8) (X3 rfl) trivial),hR 13 rfl rfl (W2 0 2 168 24 (Xa false) (Un false) (Wj (l.drop (half l.length)) (j-(half l.length))) [(Xz.mk true (W6 (l.take (half l.length))))] ((Wj (l.drop (half l.length)) (j-(half l.length)))++[(Xz.mk true (W6 (l.take (half l.length))))]) (Wj (l.drop (half l.length)) (j-(half l.length))).length (sy:=(.own 1 (Xa false).sz 0 [(Xz.mk true (W6 (l.take (half l.length))))].length)) (rhs:=[(1,.live (Xf 168 (Xa false) [(Xz.mk true (W6 (l.take (half l.length))))]))]) X7m (by first|assumption|omega|(unfold maxLen;omega)|(simp [maxLen,-List.getD_eq_getElem?_getD]<;>omega)|decide) (Wv 1 168 (Xa false) [(Xz.mk true (W6 (l.take (half l.length))))]) Jy (by first|assumption|omega|(unfold maxLen;omega)|(simp [maxLen,-List.getD_eq_getElem?_getD]<;>omega)|decide) (by first|assumption|omega|(unfold maxLen;omega)|(simp [maxLen,-List.getD_eq_getElem?_getD]<;>omega)|decide) (X3 rfl) trivial)] ?_
    refine T.ret ?_
    exact eRt 4 (.one (.own 2 (Xa false).sz 0 ((Wj (l.drop (half l.length)) (j-(half l.length)))++[(Xz.mk true (W6 (l.take (half l.length))))]).length)) [2] (by have e1:((Wj l j).length:Nat)=((Wj (l.drop (half l.length)) (j-(half l.length)))++[(Xz.mk true (W6 (l.take (half l.length))))]).length:=pj;have hE:=congrArg (fun (q1:Nat)=>(Y8 2 (Xa false) 0 q1:AV)) e1;exact hE) ⟨⟨rfl,(by have e1:((Wj (l.drop (half l.length)) (j-(half l.length)))++[(Xz.mk true (W6 (l.take (half l.length))))]:List Xz)=(Wj l j):=pj;have hE:=congrArg (fun (q1:List Xz)=>(.live (Xf 168 (Xa false) q1):HS)) e1;exact Eq.trans pZ8 hE)⟩,trivial⟩
theorem Xg6 (tl:Bool) (nl:Bool) (sl_:Bool) (l:List (List UInt8)) (j:Nat) (hf:I0 szL 40 600 l) (hj:j≤1000):Holds Tryz.prog 140 ⟨[slV tl nl (kSl sl_ kU8) l,vI ((j:Nat):Int)],[],Y8 0 (Xa false) 0 (Wj l j).length,[.live (Xf 168 (Xa false) (Wj l j))]⟩:=X8i _ tl nl sl_ l j hf hj rfl
section
variable (tl:Bool) (nl:Bool) (sl_:Bool) (l:List (List UInt8)) (i:Int)
abbrev Z3h:St:=⟨[slV tl nl (kSl sl_ kU8) l,vI i,aa,aa,dv (.slice none 0 0),vI 2,aa,aa,aa,aa,aa,aa,aa,vB true],[]⟩
abbrev Z3i:AV:=slV false false (Xa false) ([]:List Xz)
abbrev Z3j:AV:=vB (decide (i≥((l.length:Nat):Int)))
abbrev Z3k:St:=⟨[slV tl nl (kSl sl_ kU8) l,vI i,aa,aa,dv (.slice none 0 0),vI 2,aa,aa,aa,aa,aa,aa,aa,(Z3j l i)],[]⟩
abbrev Z3l:List AV:=[slV tl nl (kSl sl_ kU8) l,vI i,aa,aa,dv (.slice none 0 0),vI 0,aa,aa,aa,aa,aa,aa,aa,(Z3j l i)]
abbrev Z3m:AV:=vI ((i.toNat:Nat):Int)
abbrev Z3n:List AV:=[slV tl nl (kSl sl_ kU8) l,(Z3m i),aa,aa,dv (.slice none 0 0),vI 0,aa,aa,aa,aa,aa,aa,aa,(Z3j l i)]
abbrev Z3o:St:=⟨[slV tl nl (kSl sl_ kU8) l,(Z3m i),aa,aa,Y8 0 (Xa false) 0 (Wj l i.toNat).length,vI 0,aa,aa,aa,aa,aa,aa,aa,(Z3j l i)],[.live (Xf 168 (Xa false) (Wj l i.toNat))]⟩
end
theorem Xg8 (tl:Bool) (nl:Bool) (sl_:Bool) (l:List (List UInt8)) (i:Int) (hf:I0 szL 40 600 l):Holds Tryz.prog 99 ⟨[slV tl nl (kSl sl_ kU8) l,vI i],[],.tup [.one (.d (dsl false false (Xa false) (Hv l i))),.one (dI (X0z l i))],[]⟩:=by
 refine Holds.of Tryz.func99 rfl (N:=17) Tryz.ntmps99 rfl fun w0 B0 S0 U0=>?_
 show T _ (Y2 17 0 w0 S0 U0 B0) ⟨[slV tl nl (kSl sl_ kU8) l,vI i],[]⟩ _ _
 have hl40:=hf.1
 refine sR [] (T.seq ?_)
 by_cases hq1:i<0
 ·refine sR (Xm (hN · false (dT hq1)) [3,4,5,6] (hP 7 (dT hq1)::[])) (cT (b:=true) rfl (sR [] (T.ret (rT ?_))))
  refine eN (Z3h tl nl sl_ l i) ?_
  refine X7 (s':=⟨[slV tl nl (kSl sl_ kU8) l,vI i,aa,aa,Z3i,vI 2,aa,aa,aa,aa,aa,aa,aa,vB true],[]⟩) (fun _ _ hG=>Yt (s:=(Z3h tl nl sl_ l i)) (kk4 ⟨pZ5,⟨.inl rfl,(kk8 trivial)⟩⟩) trivial hG) ?_
  exact eX [.t 4 (.one (.d (dsl false false (Xa false) ([]:List Xz)))),.t 5 (.one (dI 2))] ⟨⟨rfl,by kernel_rfl⟩,⟨⟨rfl,by kernel_rfl⟩,trivial⟩⟩ [] pm trivial
 refine sR (Xm (hY · (dF hq1)) [3,4,5,6] (hP 7 (dF hq1)::[])) ?_
 by_cases hq2:i≥((l.length:Nat):Int)
 ·refine cT (dT hq2) (sR [] (T.ret (rT ?_)))
  refine eN (Z3k tl nl sl_ l i) ?_
  refine X7 (s':=⟨[slV tl nl (kSl sl_ kU8) l,vI i,aa,aa,Z3i,vI 2,aa,aa,aa,aa,aa,aa,aa,(Z3j l i)],[]⟩) (fun _ _ hG=>Yt (s:=(Z3k tl nl sl_ l i)) (kk4 ⟨pZ5,⟨.inl rfl,(kk8 trivial)⟩⟩) trivial hG) ?_
  exact eX [.t 4 (.one (.d (dsl false false (Xa false) ([]:List Xz)))),.t 5 (.one (dI 2))] ⟨⟨rfl,by kernel_rfl⟩,⟨⟨rfl,by kernel_rfl⟩,trivial⟩⟩ [] pm trivial
 refine cF (dF hq2) (T.skip (nT ?_))
 refine tN ⟨(Z3l tl nl sl_ l i),[]⟩ ?_
 refine Wx (s':=⟨(Z3n tl nl sl_ l i),[]⟩) (fun _ _ hG=>Yv [] (bm 14 8243) (t2:=(Z3l tl nl sl_ l i)) (congrArg (fun (q1:Int)=>([slV tl nl (kSl sl_ kU8) l,vI q1,aa,aa,dv (.slice none 0 0),vI 0,aa,aa,aa,aa,aa,aa,aa,(Z3j l i)]:List AV)) (by omega)) rfl hG) (sR [hR 2 rfl rfl (rCa (Xg6 tl nl sl_ l i.toNat ‹_› (by omega)) Tryz.func140 [0] [(.tmp 14,slV tl nl (kSl sl_ kU8) l),(.tmp 15,(Z3m i))] 0 1)] (T.ret ?_))
 refine eN (Z3o tl nl sl_ l i) ?_
 refine X7 (s':=⟨[slV tl nl (kSl sl_ kU8) l,(Z3m i),aa,aa,slV false false (Xa false) (Wj l i.toNat),vI 0,aa,aa,aa,aa,aa,aa,aa,(Z3j l i)],[.dead]⟩) (fun _ _ hG=>Gs.freeze (s:=(Z3o tl nl sl_ l i)) 0 (el:=W7 (Xa false) (Wj l i.toNat)) (sz:=(Xa false).sz) (n:=(Wj l i.toNat).length) rfl (kk4 ⟨(.inr pZ0),⟨.inl rfl,(kk8 trivial)⟩⟩) ⟨(.inl ⟨rfl,rfl⟩),trivial⟩ hG) ?_
 exact eX [.t 4 (.one (.d (dsl false false (Xa false) (Wj l i.toNat)))),.t 5 (.one (dI 0))] ⟨⟨rfl,by kernel_rfl⟩,⟨⟨rfl,by kernel_rfl⟩,trivial⟩⟩ [] (by have e1:((Hv l i):List Xz)=(Wj l i.toNat):=(by (have ho:okI l i:=(by simp only [okI];omega);(rw [Hv,if_pos ho])));have e2:((X0z l i):Int)=0:=p4z;have hE:=congr pZ18 e2;exact hE) trivial
theorem zero_4:Zero Tryz.prog 4 [.bool false]:=⟨_,_,X1y,rfl,rfl⟩
theorem Xf1:Elem Tryz.prog 192 4 1 1:=⟨Tryz.underlying192,_,_,X1y,rfl,rfl,rfl,rfl,by decide⟩
section
variable (i:Int) (n:Int) (j:Nat) (m:Nat) (Dn:List Bool)
abbrev Z3q:AV:=vI ((j:Nat):Int)
abbrev Z3r:AV:=vI ((m:Nat):Int)
abbrev Z3s:AV:=vB (decide (((m:Nat):Int)<2))
abbrev Z3t:List AV:=[(Z3q j),(Z3r m),aa,aa,Y8 0 Yg 0 Dn.reverse.length,aa,aa,aa,(Z3s m)]
end
theorem Xca (i:Int) (n:Int) (hi:0≤i∧i<n) (hn:n≤9223372036854775807):Holds Tryz.prog 141 ⟨[vI i,vI n],[],Y8 0 Yg 0 (W9 i.toNat n.toNat).length,[.live (Xf 4 Yg (W9 i.toNat n.toNat))]⟩:=by
 refine Holds.of Tryz.func141 rfl (N:=31) Tryz.ntmps141 rfl fun w0 B0 S0 U0=>?_
 show T _ (Y2 31 0 w0 S0 U0 B0) ⟨[vI i,vI n],[]⟩ _ _
 refine sR [] (Xfm (T.seq ?_))
 refine T.label (nT (T.seq (T.block ?_)))
 refine tN ⟨[vI i,vI n,aa,aa,dv (.slice none 0 0)],[]⟩ ?_
 refine Wx (s':=⟨[vI i,vI n,aa,aa,Y8 0 Yg 0 0],[.live (Xf 4 Yg ([]:List Bool))]⟩) (fun _ _ hG=>U5 0 4 4 Yg rfl rfl hG) ?_
 refine T.loop (ι:=Nat×Nat×(List Bool)) (fun (x_:Nat×Nat×(List Bool))=>⟨[vI ((x_.1:Nat):Int),vI ((x_.2.1:Nat):Int),aa,aa,Y8 0 Yg 0 x_.2.2.length],[.live (Xf 4 Yg x_.2.2)]⟩) (fun (x_:Nat×Nat×(List Bool))=>(x_.2.1≤9223372036854775807)∧(x_.1<x_.2.1)∧(W9 i.toNat n.toNat=W9 x_.1 x_.2.1++x_.2.2.reverse)) (fun (x_:Nat×Nat×(List Bool))=>x_.2.1) (i.toNat,n.toNat,([]:List Bool)) ⟨(show n.toNat≤9223372036854775807 from (by omega)),(show i.toNat<n.toNat from (by omega)),(show W9 i.toNat n.toNat=W9 i.toNat n.toNat++([]:List Bool).reverse from (by simp))⟩ (fun _ _ hG=>Yv [0] (bm 5 19) (t2:=[vI i,vI n,aa,aa,Y8 0 Yg 0 0]) (cg3 (fun (q1:Int) (q2:Int) (q3:Nat)=>([vI q1,vI q2,aa,aa,Y8 0 Yg 0 q3]:List AV)) (show (((i.toNat:Nat):Int):Int)=i from (by omega)) (show (((n.toNat:Nat):Int):Int)=n from (by omega)) (by rfl)) rfl hG) ?_
 rintro ⟨j,m,Dn⟩ ⟨hm,hj,he⟩
 show T _ _ ⟨[(Z3q j),(Z3r m),aa,aa,Y8 0 Yg 0 Dn.length],[.live (Xf 4 Yg Dn)]⟩ _ _
 replace hm:m≤9223372036854775807:=hm
 replace hj:j<m:=hj
 replace he:W9 i.toNat n.toNat=W9 j m++Dn.reverse:=he
 have hDl:=sides_D he
 refine T.block (T.seq (sR [] ?_))
 by_cases hq1:((m:Nat):Int)<2
 ·refine cT (dT hq1) (T.exit (xT (xM rfl (xT (xH (nT (sR [hR 1 rfl rfl (rCa (rev_bool Dn (by omega)) Tryz.func169 [0] [(.tmp 28,Y8 0 Yg 0 Dn.length)] 1 1)] ?_)))))))
  refine tN ⟨[(Z3q j),(Z3r m),aa,aa,Y8 0 Yg 0 Dn.length,aa,aa,aa,(Z3s m)],[.live (Xf 4 Yg Dn.reverse)]⟩ ?_
  refine Wx (s':=⟨(Z3t j m Dn),[.live (Xf 4 Yg Dn.reverse)]⟩) (fun _ _ hG=>Yv [0] (bm 9 275) (t2:=[(Z3q j),(Z3r m),aa,aa,Y8 0 Yg 0 Dn.length,aa,aa,aa,(Z3s m)]) (by have e1:(Dn.reverse.length:Nat)=Dn.length:=(by simp only [List.length_set,List.length_reverse]);have hE:=congrArg (fun (q1:Nat)=>([(Z3q j),(Z3r m),aa,aa,Y8 0 Yg 0 q1,aa,aa,aa,(Z3s m)]:List AV)) e1;exact hE) rfl hG) (sR [] (T.ret (rS ?_)))
  exact eRt 4 (.one (.own 0 Yg.sz 0 Dn.reverse.length)) [0] (by have e1:((W9 i.toNat n.toNat).length:Nat)=Dn.reverse.length:=(by (rw [← Xaq he (by omega)]));have hE:=congrArg (fun (q1:Nat)=>(Y8 0 Yg 0 q1:AV)) e1;exact hE) ⟨⟨rfl,(by have e1:(Dn.reverse:List Bool)=(W9 i.toNat n.toNat):=(by exact Xaq he (by omega));have hE:=congrArg (fun (q1:List Bool)=>(.live (Xf 4 Yg q1):HS)) e1;exact Eq.trans pZ8 hE)⟩,trivial⟩
 have h2m:2≤m:=(by omega);have hhl:=I4 h2m;have hhp:=Jj m
 refine cF (dF hq1) (T.skip (nT (sR [hR 1 rfl rfl (rCa (X0h m ‹_› ‹_›) Tryz.func148 [] [(.tmp 9,(Z3r m))] 0 0)] (T.seq (sR [] (sR [] ?_))))))
 by_cases hq2:((j:Nat):Int)≥((half m:Nat):Int)
 ·refine cT (dT hq2) ?_
  refine sR [hR 1 rfl rfl (Yc 1 4 Yg X4j [true] [⟨0,.const (.bool true),.one (dB true),0⟩] (cs:=[dB true]) Tryz.underlying192 X1y rfl zero_4 rfl rfl rfl pd (Yr rfl rfl pd W5) pZ8 (V4 pZ8) (X3 rfl) ⟨rfl,trivial⟩),hR 2 rfl rfl (W2 0 2 4 1 Yg X4j Dn [true] (Dn++[true]) Dn.length (sy:=(.own 1 Yg.sz 0 [true].length)) (rhs:=[(1,.live (Xf 4 Yg [true]))]) Xf1 (by omega) (Wv 1 4 Yg [true]) Jy (by (simp [maxLen,-List.getD_eq_getElem?_getD]<;>omega)) (by (simp [maxLen,-List.getD_eq_getElem?_getD]<;>omega)) (X3 rfl) trivial)] ?_
  refine sR [hR 2 rfl rfl (Yd (u1:=.int .i64 ((j:Nat):Int)) (u2:=.int .i64 ((half m:Nat):Int)) (v:=.int .i64 ((j-(half m):Nat):Int)) (Ug pc) (X3 rfl) trivial),hR 5 rfl rfl (Yd (u1:=.int .i64 ((m:Nat):Int)) (u2:=.int .i64 ((half m:Nat):Int)) (v:=.int .i64 ((m-(half m):Nat):Int)) (Ug pc) (X3 rfl) trivial)] (T.exit (xT (xH ?_)))
  refine nL (j-(half m),m-(half m),Dn++[true]) ⟨(show (m-(half m))≤9223372036854775807 from (by omega)),(show (j-(half m))<(m-(half m)) from (by omega)),(show W9 i.toNat n.toNat=W9 (j-(half m)) (m-(half m))++(Dn++[true]).reverse from (by exact Xdc he h2m hm (by omega)))⟩ (show ((m-(half m)):Nat)<m from (by omega)) (fun _ _ hG=>Wf [2] (bm 5 19) (t1:=[vI ((j-(half m):Nat):Int),vI ((m-(half m):Nat):Int),aa,aa,Y8 2 Yg 0 (Dn++[true]).length]) (h1:=[.live (Xf 4 Yg (Dn++[true]))]) rfl rfl hG)
 refine cF (dF hq2) (T.skip (nT ?_))
 refine sR [hR 1 rfl rfl (Yc 1 4 Yg X4j [false] [⟨0,.const (.bool false),.one (dB false),0⟩] (cs:=[dB false]) Tryz.underlying192 X1y rfl zero_4 rfl rfl rfl pd (Yr rfl rfl pd W5) pZ8 (V4 pZ8) (X3 rfl) ⟨rfl,trivial⟩),hR 2 rfl rfl (W2 0 2 4 1 Yg X4j Dn [false] (Dn++[false]) Dn.length (sy:=(.own 1 Yg.sz 0 [false].length)) (rhs:=[(1,.live (Xf 4 Yg [false]))]) Xf1 (by omega) (Wv 1 4 Yg [false]) Jy (by (simp [maxLen,-List.getD_eq_getElem?_getD]<;>omega)) (by (simp [maxLen,-List.getD_eq_getElem?_getD]<;>omega)) (X3 rfl) trivial)] ?_
 refine xK [] (nB ?_)
 refine nL (j,half m,Dn++[false]) ⟨(show (half m)≤9223372036854775807 from (by omega)),(show j<(half m) from (by omega)),(show W9 i.toNat n.toNat=W9 j (half m)++(Dn++[false]).reverse from (by exact Xdd he h2m hm (by omega)))⟩ (show ((half m):Nat)<m from (by omega)) (fun _ _ hG=>Wf [2] (bm 5 19) (t1:=[(Z3q j),vI ((half m:Nat):Int),aa,aa,Y8 2 Yg 0 (Dn++[false]).length]) (h1:=[.live (Xf 4 Yg (Dn++[false]))]) rfl rfl hG)
theorem X2e:Wide Tryz.prog 60 none:=⟨_,Tryz.underlying60,(fun _ h=>by cases h),(fun _ _ h=>by cases h)⟩
section
variable (root:List UInt8) (tleaf:Bool) (nleaf:Bool) (leaf:List UInt8) (i:Int) (n:Int) (tp:Bool) (np:Bool) (p:List Xz) (k:Nat)
abbrev Z3w:AV:=slV tp np (Xa false) p
abbrev Z3x:AV:=Y8 0 Yg 0 (W9 i.toNat n.toNat).length
abbrev Z3y:AV:=vI ((p.length:Nat):Int)
abbrev Z3z:List HS:=[.live (Xf 4 Yg (W9 i.toNat n.toNat))]
abbrev Z40:St:=⟨[dv (Yk root),slV tleaf nleaf kU8 leaf,vI i,vI n,(Z3w tp np p),aa,aa,aa,aa,aa,aa,(Z3x i n),dv (Yk (climb (ofB 2 [leaf]) (p.take k))),aa,aa,aa,aa,aa,aa,aa,aa,aa,aa,aa,aa,aa,aa,aa,aa,aa,aa,aa,(Z3w tp np p),(Z3y p),vI ((k:Nat):Int)],(Z3z i n)⟩
abbrev Z42:AV:=vI ((k+1:Nat):Int)
end
theorem Xcb (root:List UInt8) (tleaf:Bool) (nleaf:Bool) (leaf:List UInt8) (i:Int) (n:Int) (tp:Bool) (np:Bool) (p:List Xz) (hp:I0 szS 70 30000 p) (hl:leaf.length≤600) (hn:n≤9223372036854775807):Holds Tryz.prog 100 ⟨[dv (Yk root),slV tleaf nleaf kU8 leaf,vI i,vI n,slV tp np (Xa false) p],[],vI (I1 root leaf i n p),[]⟩:=by
 refine Holds.of Tryz.func100 rfl (N:=62) Tryz.ntmps100 rfl fun w0 B0 S0 U0=>?_
 show T _ (Y2 62 0 w0 S0 U0 B0) ⟨[dv (Yk root),slV tleaf nleaf kU8 leaf,vI i,vI n,(Z3w tp np p)],[]⟩ _ _
 have hp70:=hp.1
 refine sR [] (T.seq ?_)
 by_cases hq1:i<0
 ·refine sR (Xm (hN · false (dT hq1)) [3,4,5] (hP 6 (dT hq1)::[])) (cT (b:=true) rfl (sR [] (T.ret (rT ?_))))
  exact eRt 10 (.one (dI 2)) [] (cI (by exact Xbf (by omega))) trivial
 refine sR (Xm (hY · (dF hq1)) [3,4,5] (hP 6 (dF hq1)::[])) ?_
 by_cases hq2:i≥n
 ·refine cT (dT hq2) (sR [] (T.ret (rT ?_)))
  exact eRt 10 (.one (dI 2)) [] (cI (by exact Xbf (by omega))) trivial
 refine cF (dF hq2) (T.skip (nT (sR [hR 2 rfl rfl (rCa (Xca i n (by omega) ‹_›) Tryz.func141 [0] [(.tmp 22,vI i),(.tmp 23,vI n)] 0 1)] (T.seq (sR [] ?_)))))
 by_cases hq3:(((W9 i.toNat n.toNat).length:Nat):Int)≠((p.length:Nat):Int)
 ·refine cT (dT hq3) (sR [] (T.ret (rT ?_)))
  exact eRt 10 (.one (dI 90)) [] (cI (by exact chk_len (by omega) (by omega))) trivial
 refine cF (dF hq3) (T.skip (nT (sR [hR 1 rfl rfl (rCa (X57 (2:UInt8) tleaf nleaf leaf (by omega)) Tryz.func118 [] [(.const (.int .u8 2),dv (.int .u8 2)),(.tmp 30,slV tleaf nleaf kU8 leaf)] 0 0)] (T.seq (sR [] (T.block ?_))))))
 refine T.loop (ι:=Nat) (fun (k:Nat)=>(Z40 root tleaf nleaf leaf i n tp np p k)) (fun (k:Nat)=>(k≤p.length)∧((W9 i.toNat n.toNat).length=p.length)∧(∀ t,t<k→(p.getD t Yf).Vo=(W9 i.toNat n.toNat).getD t false)) (fun (k:Nat)=>p.length-k) (0) ⟨(Nat.zero_le _),(by omega),(fun j hj=>absurd hj (Nat.not_lt_zero _))⟩ (fun _ _ hG=>Yv [0] (bm 35 30064777247) (t2:=[dv (Yk root),slV tleaf nleaf kU8 leaf,vI i,vI n,(Z3w tp np p),aa,aa,aa,aa,aa,aa,(Z3x i n),dv (Yk (ofB (2:UInt8) [leaf])),aa,aa,aa,aa,aa,aa,aa,aa,aa,aa,aa,aa,aa,aa,aa,aa,aa,aa,aa,(Z3w tp np p),(Z3y p),vI 0]) (congrArg (fun (q1:List UInt8)=>([dv (Yk root),slV tleaf nleaf kU8 leaf,vI i,vI n,(Z3w tp np p),aa,aa,aa,aa,aa,aa,(Z3x i n),dv (Yk q1),aa,aa,aa,aa,aa,aa,aa,aa,aa,aa,aa,aa,aa,aa,aa,aa,aa,aa,aa,(Z3w tp np p),(Z3y p),vI 0]:List AV)) (by rfl)) rfl hG) ?_
 rintro k ⟨hk,hsl,hb⟩
 show T _ _ (Z40 root tleaf nleaf leaf i n tp np p k) _ _
 replace hk:k≤p.length:=hk
 replace hsl:(W9 i.toNat n.toNat).length=p.length:=hsl
 replace hb:∀ t,t<k→(p.getD t Yf).Vo=(W9 i.toNat n.toNat).getD t false:=hb
 have hk70:(p.take k).length≤70:=by rw [List.length_take];have:=hp.1;omega
 have hcl:=Xkg (p:=p.take k) (m:=30000) (fun s hs=>hp.2 s (List.mem_of_mem_take hs)) (ofB 2 [leaf])
 have hlf:=Xeh 2 leaf
 have hgd:((p.getD k Yf).X9).length≤30000:=Iu (sz:=szS) hp (by decide) k
 refine sR [] (T.seq ?_)
 by_cases hq4:((k:Nat):Int)<((p.length:Nat):Int)
 ·refine cT (dT hq4) (T.skip (nT (T.seq (T.block (sR [hR 1 rfl rfl (We tp np (Xa false) p k (k:=.i64) (i:=((k:Nat):Int)) Tryz.underlying47 Ja rfl rfl (by omega) (X3 rfl) trivial)] (T.block ?_))))))
  refine sD [[],[0],[],[],[2,3],[2,3,4],[0,1,2,3,4,5],[0,1,2,3,4,5,6]] [hR 4 rfl rfl (Vh (k:=.i64) (l:=0) (sz:=Yg.sz) (off:=0) (n:=(W9 i.toNat n.toNat).length) (i:=((k:Nat):Int)) (m:=k) (o':=k*Yg.sz+0) Tryz.underlying192 X1y rfl rfl (by omega) (by simp) (X3 rfl) trivial),hR 5 rfl rfl (F7 (l:=0) (off:=k*Yg.sz+0) (i:=k) (j:=0) (T:=4) (sz:=Yg.sz) (n:=(W9 i.toNat n.toNat).length) (el:=W7 Yg (W9 i.toNat n.toNat)) (c:=.val (.bool ((W9 i.toNat n.toNat).getD k false))) Xfp rfl (by omega) (by decide) rfl (X3 rfl) trivial)] ?_
  by_cases hq5:(p.getD k Yf).Vo≠((W9 i.toNat n.toNat).getD k false)
  ·refine cT (dT hq5) (sR [] (T.ret (rB (rB (rT (rT (rB (rT ?_))))))))
   exact eRt 10 (.one (dI 90)) [] (cI (by exact chk_at (p:=p) (k:=k) (by omega) (by omega) ‹_›)) trivial
  refine cF (dF hq5) (sR [] ?_)
  by_cases hq6:(p.getD k Yf).Vo=true
  ·refine cT hq6 (xK [hR 3 rfl rfl (rCa (X56 (3:UInt8) (p.getD k Yf).X9 (climb (ofB 2 [leaf]) (p.take k)) (by omega)) Tryz.func142 [] [(.const (.int .u8 3),dv (.int .u8 3)),(.tmp 55,dv (Yk (p.getD k Yf).X9)),(.tmp 56,dv (Yk (climb (ofB 2 [leaf]) (p.take k))))] 0 0)] (nB (nB (nT (xK [hR 0 rfl rfl (Yd (u1:=.int .i64 ((k:Nat):Int)) (u2:=.int .i64 1) (v:=.int .i64 ((k+1:Nat):Int)) (Wb pc) (X3 rfl) ⟨rfl,trivial⟩)] ?_)))))
   refine nL (k+1) ⟨(show (k+1)≤p.length from (by omega)),(show (W9 i.toNat n.toNat).length=p.length from hsl),(show ∀ t,t<(k+1)→(p.getD t Yf).Vo=(W9 i.toNat n.toNat).getD t false from (Ut hb p1r))⟩ (show (p.length-(k+1):Nat)<p.length-k from (by omega)) (fun _ _ hG=>Yv [0] (bm 35 30064777247) (t2:=[dv (Yk root),slV tleaf nleaf kU8 leaf,vI i,vI n,(Z3w tp np p),aa,aa,aa,aa,aa,aa,(Z3x i n),dv (Yk (ofB (3:UInt8) [(p.getD k Yf).X9,(climb (ofB 2 [leaf]) (p.take k))])),aa,aa,aa,aa,aa,aa,aa,aa,aa,aa,aa,aa,aa,aa,aa,aa,aa,aa,aa,(Z3w tp np p),(Z3y p),(Z42 k)]) (by have e1:((climb (ofB 2 [leaf]) (p.take (k+1))):List UInt8)=(ofB (3:UInt8) [(p.getD k Yf).X9,(climb (ofB 2 [leaf]) (p.take k))]):=(by (have h8:(p.getD k Yf).Vo=(W9 i.toNat n.toNat).getD k false:=Classical.not_not.1 ‹_›;rw [X9n (p:=p) (k:=k) _ (by omega),X0q];(have h7:(p.getD k Yf).Vo=true:=‹_›;rw [if_pos h7])));have hE:=congrArg (fun (q1:List UInt8)=>([dv (Yk root),slV tleaf nleaf kU8 leaf,vI i,vI n,(Z3w tp np p),aa,aa,aa,aa,aa,aa,(Z3x i n),dv (Yk q1),aa,aa,aa,aa,aa,aa,aa,aa,aa,aa,aa,aa,aa,aa,aa,aa,aa,aa,aa,(Z3w tp np p),(Z3y p),(Z42 k)]:List AV)) e1;exact hE) rfl hG)
  replace hq6:=Bool.eq_false_iff.2 hq6
  refine cF hq6 (xK [hR 3 rfl rfl (rCa (X56 (3:UInt8) (climb (ofB 2 [leaf]) (p.take k)) (p.getD k Yf).X9 (by omega)) Tryz.func142 [] [(.const (.int .u8 3),dv (.int .u8 3)),(.tmp 39,dv (Yk (climb (ofB 2 [leaf]) (p.take k)))),(.tmp 41,dv (Yk (p.getD k Yf).X9))] 0 0)] (nB (nB (nT (xK [hR 0 rfl rfl (Yd (u1:=.int .i64 ((k:Nat):Int)) (u2:=.int .i64 1) (v:=.int .i64 ((k+1:Nat):Int)) (Wb pc) (X3 rfl) ⟨rfl,trivial⟩)] ?_)))))
  refine nL (k+1) ⟨(show (k+1)≤p.length from (by omega)),(show (W9 i.toNat n.toNat).length=p.length from hsl),(show ∀ t,t<(k+1)→(p.getD t Yf).Vo=(W9 i.toNat n.toNat).getD t false from (Ut hb p1r))⟩ (show (p.length-(k+1):Nat)<p.length-k from (by omega)) (fun _ _ hG=>Yv [0] (bm 35 30064777247) (t2:=[dv (Yk root),slV tleaf nleaf kU8 leaf,vI i,vI n,(Z3w tp np p),aa,aa,aa,aa,aa,aa,(Z3x i n),dv (Yk (ofB (3:UInt8) [(climb (ofB 2 [leaf]) (p.take k)),(p.getD k Yf).X9])),aa,aa,aa,aa,aa,aa,aa,aa,aa,aa,aa,aa,aa,aa,aa,aa,aa,aa,aa,(Z3w tp np p),(Z3y p),(Z42 k)]) (by have e1:((climb (ofB 2 [leaf]) (p.take (k+1))):List UInt8)=(ofB (3:UInt8) [(climb (ofB 2 [leaf]) (p.take k)),(p.getD k Yf).X9]):=(by (have h8:(p.getD k Yf).Vo=(W9 i.toNat n.toNat).getD k false:=Classical.not_not.1 ‹_›;rw [X9n (p:=p) (k:=k) _ (by omega),X0q];(have h7:(p.getD k Yf).Vo=false:=‹_›;rw [if_neg (by rw [h7];decide)])));have hE:=congrArg (fun (q1:List UInt8)=>([dv (Yk root),slV tleaf nleaf kU8 leaf,vI i,vI n,(Z3w tp np p),aa,aa,aa,aa,aa,aa,(Z3x i n),dv (Yk q1),aa,aa,aa,aa,aa,aa,aa,aa,aa,aa,aa,aa,aa,aa,aa,aa,aa,aa,aa,(Z3w tp np p),(Z3y p),(Z42 k)]:List AV)) e1;exact hE) rfl hG)
 refine cF (dF hq4) (T.exit (xT (xT (xH (nT (T.seq (sR [] ?_)))))))
 by_cases hq7:(climb (ofB 2 [leaf]) (p.take k))≠root
 ·refine cT (dT hq7) (sR [] (T.ret (rT ?_)))
  exact eRt 10 (.one (dI 90)) [] (by have e1:((I1 root leaf i n p):Int)=90:=p4g;have hE:=cI e1;exact hE) trivial
 refine cF (dF hq7) (T.skip (nT (sR [] (T.ret ?_))))
 exact eRt 10 (.one (dI 0)) [] (by have e1:((I1 root leaf i n p):Int)=0:=p4g;have hE:=cI e1;exact hE) trivial
section
variable (root:List UInt8) (tleaf:Bool) (nleaf:Bool) (leaf:List UInt8) (i:Int) (n:Int) (tp:Bool) (np:Bool) (p:List Xz) (k:Nat)
end
theorem seq_168:SEq Tryz.prog 168 (fun x:Xz=>.agg #[.bool x.Vo,Yk x.X9]):=Xfx (g:=fun x:Xz=>#[.bool x.Vo,Yk x.X9]) (bs':=fun a b=>[decide (a.Vo=b.Vo),decide (a.X9=b.X9)]) Tryz.underlying168 pZ8 pZ8 (fun a b=>⟨by decide,⟨_,_,rfl,rfl,.bool Tryz.underlying4⟩,⟨by decide,⟨_,_,rfl,rfl,.str Tryz.underlying60⟩,trivial⟩⟩) (fun a b=>by rw [Bool.eq_iff_iff];simp [Xcy])
abbrev Z4c (a:List Xz) (b:List Xz):AV:=vB (decide (((a.length:Nat):Int)≠((b.length:Nat):Int)))
theorem Xg7 (ta:Bool) (na:Bool) (sa:Bool) (tb:Bool) (nb:Bool) (sb:Bool) (a:List Xz) (b:List Xz) (hl:a.length≤9223372036854775807):Holds Tryz.prog 56 ⟨[slV ta na (Xa sa) a,slV tb nb (Xa sb) b],[],vB (decide (a=b)),[]⟩:=by
 refine Holds.of Tryz.func56 rfl (N:=26) Tryz.ntmps56 rfl fun w0 B0 S0 U0=>?_
 show T _ (Y2 26 0 w0 S0 U0 B0) ⟨[slV ta na (Xa sa) a,slV tb nb (Xa sb) b],[]⟩ _ _
 refine sR [] (T.seq (sR [] ?_))
 by_cases hq1:((a.length:Nat):Int)≠((b.length:Nat):Int)
 ·refine cT (dT hq1) (sR [] (T.ret (rT ?_)))
  exact eRt 4 (.one (dB false)) [] p3d trivial
 refine cF (dF hq1) (T.skip (nT (T.seq (sR [] (T.block ?_)))))
 refine T.loop (ι:=Nat) (fun (k:Nat)=>⟨[slV ta na (Xa sa) a,slV tb nb (Xa sb) b,aa,aa,vB false,vI ((k:Nat):Int),aa,aa,aa,aa,(Z4c a b)],[]⟩) (fun (k:Nat)=>(k≤a.length)∧(a.length=b.length)∧(∀ j,j<k→a.getD j Yf=b.getD j Yf)) (fun (k:Nat)=>a.length-k) (0) ⟨(Nat.zero_le _),(by omega),(fun j hj=>absurd hj (Nat.not_lt_zero _))⟩ (fun _ _ hG=>Yv [] (bm 11 1075) rfl rfl hG) ?_
 rintro k ⟨hk,hab,hb⟩
 show T _ _ ⟨[slV ta na (Xa sa) a,slV tb nb (Xa sb) b,aa,aa,vB false,vI ((k:Nat):Int),aa,aa,aa,aa,(Z4c a b)],[]⟩ _ _
 replace hk:k≤a.length:=hk
 replace hab:a.length=b.length:=hab
 replace hb:∀ j,j<k→a.getD j Yf=b.getD j Yf:=hb
 refine T.seq (sR [] ?_)
 by_cases hq2:((k:Nat):Int)<((a.length:Nat):Int)
 ·refine cT (dT hq2) (T.skip (nT (T.seq (T.block ?_))))
  refine sD [[],[],[0,1],[0,1,2],[],[],[4,5],[4,5,6],[0,1,2,3,4,5,6,7]] [hR 2 rfl rfl (We ta na (Xa sa) a k (k:=.i64) (i:=((k:Nat):Int)) Tryz.underlying47 Ja rfl rfl (by omega) (X3 rfl) trivial),hR 6 rfl rfl (We tb nb (Xa sb) b k (k:=.i64) (i:=((k:Nat):Int)) Tryz.underlying47 Ja rfl rfl (by omega) (X3 rfl) trivial),hR 8 rfl rfl (Jm (ax:=.tv (.agg [dB (a.getD k Yf).Vo,dS (a.getD k Yf).X9])) (ay:=.tv (.agg [dB (b.getD k Yf).Vo,dS (b.getD k Yf).X9])) (a:=(a.getD k Yf)) (b:=(b.getD k Yf)) seq_168 ⟨[.bool (a.getD k Yf).Vo,Yk (a.getD k Yf).X9],rfl,rfl⟩ ⟨[.bool (b.getD k Yf).Vo,Yk (b.getD k Yf).X9],rfl,rfl⟩ (X3 rfl) trivial)] ?_
  by_cases hq3:(a.getD k Yf)≠(b.getD k Yf)
  ·refine cT (dT hq3) (sR [] (T.ret (rB (rT (rT (rB (rT ?_)))))))
   exact eRt 4 (.one (dB false)) [] (by have e1:((decide (a=b)):Bool)=false:=(by exact dF (fun e=>by have h9:a.getD k Yf≠b.getD k Yf:=‹_›;exact h9 (by rw [e])));have hE:=cB e1;exact hE) trivial
  refine cF (dF hq3) (T.skip (nB (nT (xK [hR 1 rfl rfl (Yd (u1:=.int .i64 ((k:Nat):Int)) (u2:=.int .i64 1) (v:=.int .i64 ((k+1:Nat):Int)) (Wb pc) (X3 rfl) ⟨rfl,trivial⟩)] ?_))))
  refine nL (k+1) ⟨(show (k+1)≤a.length from (by omega)),(show a.length=b.length from hab),(show ∀ j,j<(k+1)→a.getD j Yf=b.getD j Yf from (Ut hb p1r))⟩ (show (a.length-(k+1):Nat)<a.length-k from (by omega)) (fun _ _ hG=>Yv [] (bm 11 1075) rfl rfl hG)
 refine cF (dF hq2) (T.exit (xT (xT (xH (nT (sR [] (T.ret ?_)))))))
 exact eRt 4 (.one (dB true)) [] (cB (by exact dT (Xbo (z:=Yf) (k:=k) hab (by omega) hb))) trivial
section
variable (b:List UInt8) (tl:Bool) (nl:Bool) (l:List Int) (k:Nat)
abbrev Z4d:AV:=vI ((l.length:Nat):Int)
abbrev Z4e:St:=⟨[Y8 0 kU8 0 (b++W8 (l.take k)).length,slV tl nl (Vv .i64) l,aa,aa,aa,aa,aa,slV tl nl (Vv .i64) l,(Z4d l),vI ((k:Nat):Int)],[.live (Xf 5 kU8 (b++W8 (l.take k)))]⟩
abbrev Z4g:AV:=vI ((k+1:Nat):Int)
end
theorem X0r (tb:Bool) (nb:Bool) (b:List UInt8) (tl:Bool) (nl:Bool) (l:List Int) (hb:b.length≤140737488350000) (hl:1≤l.length∧l.length≤100):Holds Tryz.prog 135 ⟨[slV tb nb kU8 b,slV tl nl (Vv .i64) l],[],Y8 0 kU8 0 (b++W8 l).length,[.live (Xf 5 kU8 (b++W8 l))]⟩:=by
 refine Holds.of Tryz.func135 rfl (N:=18) Tryz.ntmps135 rfl fun w0 B0 S0 U0=>?_
 show T _ (Y2 18 0 w0 S0 U0 B0) ⟨[slV tb nb kU8 b,slV tl nl (Vv .i64) l],[]⟩ _ _
 refine sR [] (T.seq (sR [] (T.block ?_)))
 refine Xo6 ?_
 refine Xj1 (sR [] (T.seq ?_))
 by_cases hq1:0<((l.length:Nat):Int)
 rotate_left
 ·exact absurd (by omega) hq1
 refine cT (dT hq1) (T.skip (nT (T.seq (T.block (sR [hR 0 rfl rfl (We tl nl (Vv .i64) l 0 (k:=.i64) (i:=0) Tryz.underlying24 X1z rfl rfl (by omega) (X3 rfl) trivial)] (xK [hR 2 rfl rfl (rCa (X66 tb nb b (l.getD 0 0) (by omega)) Tryz.func168 [0] [(.tmp 13,slV tb nb kU8 b),(.tmp 14,vI (l.getD 0 0))] 0 1)] (nB (nT (xK [hR 0 rfl rfl (Yd (u1:=.int .i64 0) (u2:=.int .i64 1) (v:=.int .i64 1) (Wb pc) (X3 rfl) ⟨rfl,trivial⟩)] ?_)))))))))
 refine nP ?_
 refine TL.loop (ι:=Nat) (fun (k:Nat)=>(Z4e b tl nl l k)) (fun (k:Nat)=>(1≤k∧k≤l.length)) (fun (k:Nat)=>l.length-k) (1) (by omega) (fun _ _ hG=>Yv [0] (bm 10 899) (t2:=[Y8 0 kU8 0 (b++Yy (l.getD 0 0)).length,slV tl nl (Vv .i64) l,aa,aa,aa,aa,aa,slV tl nl (Vv .i64) l,(Z4d l),vI 1]) (h2:=[.live (Xf 5 kU8 (b++Yy (l.getD 0 0)))]) (by have e1:((b++W8 (l.take 1)).length:Nat)=(b++Yy (l.getD 0 0)).length:=(by (rw [Xej (by omega)]));have hE:=congrArg (fun (q1:Nat)=>([Y8 0 kU8 0 q1,slV tl nl (Vv .i64) l,aa,aa,aa,aa,aa,slV tl nl (Vv .i64) l,(Z4d l),vI 1]:List AV)) e1;exact hE) (by have e1:((b++W8 (l.take 1)):List UInt8)=b++Yy (l.getD 0 0):=(by (rw [Xej (by omega)]));have hE:=congrArg (fun (q1:List UInt8)=>([.live (Xf 5 kU8 q1)]:List HS)) e1;exact hE) hG) ?_
 rintro k hk
 show T _ _ (Z4e b tl nl l k) _ _
 replace hk:1≤k∧k≤l.length:=hk
 have hil:=Ie (l.take k)
 have htk:(l.take k).length=k:=p1p
 refine sR [] (T.seq ?_)
 by_cases hq2:((k:Nat):Int)<((l.length:Nat):Int)
 ·refine cT (dT hq2) (T.skip (nT (T.seq (T.block (sR [hR 0 rfl rfl (We tl nl (Vv .i64) l k (k:=.i64) (i:=((k:Nat):Int)) Tryz.underlying24 X1z rfl rfl (by omega) (X3 rfl) trivial)] ?_)))))
  refine xK [hR 2 rfl rfl (Wu (X66 true false (b++W8 (l.take k)) (l.getD k 0) (by (simp [maxLen,-List.getD_eq_getElem?_getD]<;>omega))) Tryz.func168 rfl (by decide) [1] [0] (l:=[(.tmp 13,Y8 0 kU8 0 (b++W8 (l.take k)).length),(.tmp 14,vI (l.getD k 0))]) [(0,.live (Xf 5 kU8 (b++W8 (l.take k))))] rfl 0 1 rfl rfl rfl rfl rfl rfl rfl rfl rfl ⟨.inr (.inl ⟨rfl,pZv,rfl,rfl,by simp,5,(b++W8 (l.take k)).length,W7 kU8 (b++W8 (l.take k)),List.Mem.head _,pZl,fun i j=>by rw [Nat.zero_add]⟩),⟨.inl ⟨rfl,rfl⟩,trivial⟩⟩ rfl pZ6 pk (X3 rfl) trivial)] ?_
  refine nB (nT (xK [hR 0 rfl rfl (Yd (u1:=.int .i64 ((k:Nat):Int)) (u2:=.int .i64 1) (v:=.int .i64 ((k+1:Nat):Int)) (Wb pc) (X3 rfl) ⟨rfl,trivial⟩)] ?_))
  refine nL (k+1) (show 1≤(k+1)∧(k+1)≤l.length from (by omega)) (show (l.length-(k+1):Nat)<l.length-k from (by omega)) (fun _ _ hG=>Wf [1] (bm 10 899) (t1:=[Y8 1 kU8 0 (b++W8 (l.take (k+1))).length,slV tl nl (Vv .i64) l,aa,aa,aa,aa,aa,slV tl nl (Vv .i64) l,(Z4d l),(Z4g k)]) (t2:=[Y8 1 kU8 0 ((b++W8 (l.take k))++Yy (l.getD k 0)).length,slV tl nl (Vv .i64) l,aa,aa,aa,aa,aa,slV tl nl (Vv .i64) l,(Z4d l),(Z4g k)]) (h1:=[.live (Xf 5 kU8 (b++W8 (l.take (k+1))))]) (h2:=[.live (Xf 5 kU8 ((b++W8 (l.take k))++Yy (l.getD k 0)))]) (by have e1:((b++W8 (l.take (k+1))).length:Nat)=((b++W8 (l.take k))++Yy (l.getD k 0)).length:=(by (rw [X5t (by omega),List.append_assoc]));have hE:=congrArg (fun (q1:Nat)=>([Y8 1 kU8 0 q1,slV tl nl (Vv .i64) l,aa,aa,aa,aa,aa,slV tl nl (Vv .i64) l,(Z4d l),(Z4g k)]:List AV)) e1;exact hE) (by have e1:((b++W8 (l.take (k+1))):List UInt8)=(b++W8 (l.take k))++Yy (l.getD k 0):=(by (rw [X5t (by omega),List.append_assoc]));have hE:=congrArg (fun (q1:List UInt8)=>([.live (Xf 5 kU8 q1)]:List HS)) e1;exact hE) hG)
 refine cF (dF hq2) (T.exit (xT (xT (xH (nT (sR [] (T.ret ?_)))))))
 exact eRt 4 (.one (.own 0 kU8.sz 0 (b++W8 (l.take k)).length)) [0] (by have e1:((b++W8 l).length:Nat)=(b++W8 (l.take k)).length:=p54;have hE:=congrArg (fun (q1:Nat)=>(Y8 0 kU8 0 q1:AV)) e1;exact hE) ⟨⟨rfl,(by have e1:((b++W8 (l.take k)):List UInt8)=b++W8 l:=p54;have hE:=congrArg (fun (q1:List UInt8)=>(.live (Xf 5 kU8 q1):HS)) e1;exact Eq.trans pZ8 hE)⟩,trivial⟩
theorem X9p (te:Bool) (e:aE) (r:Y6) (hb:e.Xd.length≤100000000):Holds Tryz.prog 101 ⟨[.tv (.agg [dI e.X5,.d (dsl te false kU8 e.Xd)]),.tv (.agg [dI r.Xt,dI r.Xn])],[],Y8 0 kU8 0 (Vr e r).length,[.live (Xf 5 kU8 (Vr e r))]⟩:=by
 refine Holds.of Tryz.func101 rfl (N:=18) Tryz.ntmps101 rfl fun w0 B0 S0 U0=>?_
 show T _ (Y2 18 0 w0 S0 U0 B0) ⟨[.tv (.agg [dI e.X5,.d (dsl te false kU8 e.Xd)]),.tv (.agg [dI r.Xt,dI r.Xn])],[]⟩ _ _
 have hi1:=Wk e.X5
 have hi2:(W8 [e.X5]).length=8:=Ie [e.X5]
 have hi2n:(([]:List UInt8)++W8 [e.X5]).length=8:=Ie [e.X5]
 have hy:=Vf e.Xd
 refine sR [] ?_
 refine sD [[],[0],[0,1],[0,1,2],[],[4],[0,1,2,3,4,5],[],[7],[],[9],[7,8,9,10],[0,1,2,3,4,5,6,7,8,9,10,11],[0,1,2,3,4,5,6,7,8,9,10,11,12]] [hR 2 rfl rfl (Yc 2 3 (Vv .i64) (X2o .i64) [e.X5] [⟨0,.tmp 6,.one (dI e.X5),0⟩] (cs:=[dI e.X5]) Tryz.underlying24 X1z rfl X54 rfl rfl rfl pd (Yr rfl rfl pd W5) pZ8 (V4 pZ8) (X3 rfl) trivial),hR 3 rfl rfl (Wu (X0r false false ([]:List UInt8) true false [e.X5] (by (simp [maxLen,-List.getD_eq_getElem?_getD]<;>omega)) (by (simp [maxLen,-List.getD_eq_getElem?_getD]<;>omega))) Tryz.func135 rfl (by decide) [3] [2] (l:=[(.const (.slice none 0 0),dv (.slice none 0 0)),(.tmp 7,Y8 2 (Vv .i64) 0 [e.X5].length)]) [(2,.live (Xf 3 (Vv .i64) [e.X5]))] rfl 0 1 rfl rfl rfl rfl rfl rfl rfl rfl rfl ⟨.inr pZ5,⟨.inr (.inl ⟨rfl,pZv,rfl,rfl,by simp,3,[e.X5].length,W7 (Vv .i64) [e.X5],List.Mem.head _,pZl,fun i j=>by rw [Nat.zero_add]⟩),trivial⟩⟩ rfl pZ6 pk (X3 rfl) ⟨rfl,trivial⟩),hR 6 rfl rfl (Wu (X2y true false (([]:List UInt8)++W8 [e.X5]) te false e.Xd (by omega)) Tryz.func132 rfl (by decide) [4] [3] (l:=[(.tmp 8,Y8 3 kU8 0 (([]:List UInt8)++W8 [e.X5]).length),(.tmp 10,slV te false kU8 e.Xd)]) [(3,.live (Xf 5 kU8 (([]:List UInt8)++W8 [e.X5])))] rfl 0 1 rfl rfl rfl rfl rfl rfl rfl rfl rfl ⟨.inr (.inl ⟨rfl,pZv,rfl,rfl,by simp,5,(([]:List UInt8)++W8 [e.X5]).length,W7 kU8 (([]:List UInt8)++W8 [e.X5]),List.Mem.head _,pZl,fun i j=>by rw [Nat.zero_add]⟩),⟨.inl ⟨rfl,rfl⟩,trivial⟩⟩ rfl pZ6 pk (X3 rfl) trivial),hR 11 rfl rfl (Yc 5 3 (Vv .i64) (X2o .i64) [r.Xt,r.Xn] [⟨0,.tmp 13,.one (dI r.Xt),0⟩,⟨1,.tmp 15,.one (dI r.Xn),1⟩] (cs:=[dI r.Xt,dI r.Xn]) Tryz.underlying24 X1z rfl X54 rfl rfl rfl pd (Yr rfl rfl pd (Yr rfl rfl pd W5)) pZ8 (V4 pZ8) (X3 rfl) trivial),hR 12 rfl rfl (Wu (X0r true false (([]:List UInt8)++W8 [e.X5]++Yx e.Xd) true false [r.Xt,r.Xn] (by (simp [maxLen,-List.getD_eq_getElem?_getD]<;>omega)) (by (simp [maxLen,-List.getD_eq_getElem?_getD]<;>omega))) Tryz.func135 rfl (by decide) [6] [4,5] (l:=[(.tmp 11,Y8 4 kU8 0 (([]:List UInt8)++W8 [e.X5]++Yx e.Xd).length),(.tmp 16,Y8 5 (Vv .i64) 0 [r.Xt,r.Xn].length)]) [(4,.live (Xf 5 kU8 (([]:List UInt8)++W8 [e.X5]++Yx e.Xd))),(5,.live (Xf 3 (Vv .i64) [r.Xt,r.Xn]))] rfl 0 1 rfl rfl rfl rfl rfl rfl rfl rfl rfl ⟨.inr (.inl ⟨rfl,pZv,rfl,rfl,by simp,5,(([]:List UInt8)++W8 [e.X5]++Yx e.Xd).length,W7 kU8 (([]:List UInt8)++W8 [e.X5]++Yx e.Xd),List.Mem.head _,pZl,fun i j=>by rw [Nat.zero_add]⟩),⟨.inr (.inl ⟨rfl,pZv,rfl,rfl,by simp,3,[r.Xt,r.Xn].length,W7 (Vv .i64) [r.Xt,r.Xn],List.Mem.tail _ (List.Mem.head _),pZl,fun i j=>by rw [Nat.zero_add]⟩),trivial⟩⟩ rfl (by intro b hb;simp only [List.mem_cons,List.not_mem_nil,or_false] at hb;rcases hb with rfl|rfl;exact ⟨_,List.Mem.head _⟩;exact ⟨_,List.Mem.tail _ (List.Mem.head _)⟩) pk (X3 rfl) trivial)] ?_
 refine T.ret ?_
 exact eRt 4 (.one (.own 6 kU8.sz 0 (([]:List UInt8)++W8 [e.X5]++Yx e.Xd++W8 [r.Xt,r.Xn]).length)) [6] (by have e1:((Vr e r).length:Nat)=(([]:List UInt8)++W8 [e.X5]++Yx e.Xd++W8 [r.Xt,r.Xn]).length:=(by (simp [Vr,W8];done));have hE:=congrArg (fun (q1:Nat)=>(Y8 6 kU8 0 q1:AV)) e1;exact hE) ⟨⟨rfl,(by have e1:(([]:List UInt8)++W8 [e.X5]++Yx e.Xd++W8 [r.Xt,r.Xn]:List UInt8)=Vr e r:=(by (simp [Vr,W8];done));have hE:=congrArg (fun (q1:List UInt8)=>(.live (Xf 5 kU8 q1):HS)) e1;exact Eq.trans pZ8 hE)⟩,trivial⟩
end Go.Proofs.YtnaopgohccacmaaGreat.Q
