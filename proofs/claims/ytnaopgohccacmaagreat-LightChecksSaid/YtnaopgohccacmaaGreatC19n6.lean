import Derived.Test.YtnaopgohccacmaaGreatC19n5
namespace Go.Proofs.YtnaopgohccacmaaGreat.Q
open Go Go.RowKit
set_option linter.unusedVariables false
set_option linter.unusedSimpArgs false
set_option maxRecDepth 100000
set_option maxHeartbeats 4000000
theorem X6g (tb:Bool) (nb:Bool) (b:List UInt8) (n:Int) (hb:b.length≤140737488355000):Holds Tryz.prog 168 ⟨[slV tb nb kU8 b,vI n],[],Y9 0 kU8 0 (b++Yx n).length,[.live (Xe 5 kU8 (b++Yx n))]⟩:=by
 refine Holds.of Tryz.func168 rfl (N:=9) Tryz.ntmps168 rfl fun w0 B0 S0 U0=>?_
 show T _ (Y2 9 0 w0 S0 U0 B0) ⟨[slV tb nb kU8 b,vI n],[]⟩ _ _
 have hn:=u64_lt n
 refine sR [] ?_
 refine sR [hR 2 rfl rfl (Vc (u:=.int .i64 n) (v:=.int .u64 ((u64 n:Nat):Int)) (c_u64 Tryz.underlying2 Tryz.underlying179) (X3 rfl) trivial),hR 3 rfl rfl (rCa (X84 tb nb b (u64 n) 7 ‹_› ‹_› (by omega)) Tryz.func167 [0] [(.tmp 5,slV tb nb kU8 b),(.tmp 7,dv (.int .u64 ((u64 n:Nat):Int))),(.const (.int .i64 8),vI 8)] 0 1)] ?_
 refine T.ret ?_
 exact eRt 4 (.one (.own 0 kU8.sz 0 (b++(Wr (u64 n) 8)).length)) [0] p2s ⟨⟨rfl,p3l⟩,trivial⟩
theorem X33 (tb:Bool) (nb:Bool) (b:List UInt8) (n:Int) (hb:b.length≤140737488355000):Holds Tryz.prog 131 ⟨[slV tb nb kU8 b,vI n],[],Y9 0 kU8 0 (b++U7 n).length,[.live (Xe 5 kU8 (b++U7 n))]⟩:=by
 refine Holds.of Tryz.func131 rfl (N:=11) Tryz.ntmps131 rfl fun w0 B0 S0 U0=>?_
 show T _ (Y2 11 0 w0 S0 U0 B0) ⟨[slV tb nb kU8 b,vI n],[]⟩ _ _
 have hn:=Xi8 n
 refine sR [] ?_
 refine sR [hR 2 rfl rfl (X1p (k:=.i64) (a:=n) (b:=0) (X3 rfl) ⟨rfl,trivial⟩),hR 3 rfl rfl (X9a (k:=.i64) (a:=max n 0) (b:=4294967295) (X3 rfl) ⟨rfl,trivial⟩),hR 4 rfl rfl (Vc (u:=.int .i64 (min (max n 0) 4294967295)) (v:=.int .u64 ((X56 n:Nat):Int)) (H2 Tryz.underlying3 Tryz.underlying179 (by rw [IntKind.wrap_u64];unfold X56;omega)) (X3 rfl) trivial),hR 5 rfl rfl (rCa (X84 tb nb b (X56 n) 3 ‹_› (by omega) (by omega)) Tryz.func167 [0] [(.tmp 5,slV tb nb kU8 b),(.tmp 9,dv (.int .u64 ((X56 n:Nat):Int))),(.const (.int .i64 4),vI 4)] 0 1)] ?_
 refine T.ret ?_
 exact eRt 4 (.one (.own 0 kU8.sz 0 (b++(Wr (X56 n) 4)).length)) [0] p2s ⟨⟨rfl,p3i⟩,trivial⟩
theorem X34 (tb:Bool) (nb:Bool) (b:List UInt8) (tx:Bool) (nx:Bool) (x:List UInt8) (hb:b.length+x.length≤140737488355000):Holds Tryz.prog 132 ⟨[slV tb nb kU8 b,slV tx nx kU8 x],[],Y9 0 kU8 0 (b++W3 x).length,[.live (Xe 5 kU8 (b++W3 x))]⟩:=by
 refine Holds.of Tryz.func132 rfl (N:=11) Tryz.ntmps132 rfl fun w0 B0 S0 U0=>?_
 show T _ (Y2 11 0 w0 S0 U0 B0) ⟨[slV tb nb kU8 b,slV tx nx kU8 x],[]⟩ _ _
 have hcl:=Ik ((x.length:Nat):Int)
 refine sR [] ?_
 refine sR [hR 3 rfl rfl (rCa (X33 tb nb b ((x.length:Nat):Int) (by omega)) Tryz.func131 [0] [(.tmp 5,slV tb nb kU8 b),(.tmp 7,vI ((x.length:Nat):Int))] 0 1),hR 5 rfl rfl (Yy 0 1 5 1 kU8 Vr (b++U7 ((x.length:Nat):Int)) x (b++U7 ((x.length:Nat):Int)++x) (b++U7 ((x.length:Nat):Int)).length (sy:=(.d (dsl tx nx kU8 x))) (rhs:=[]) Jf (by omega) (Ji tx nx kU8 x) Jn (by (simp [maxLen,-List.getD_eq_getElem?_getD]<;>omega)) (by (simp [maxLen,-List.getD_eq_getElem?_getD]<;>omega)) (X3 rfl) trivial)] ?_
 refine T.ret ?_
 exact eRt 4 (.one (.own 1 kU8.sz 0 (b++U7 ((x.length:Nat):Int)++x).length)) [1] p2z ⟨⟨rfl,p2u⟩,trivial⟩
abbrev Z1p (n:Nat):AV:=dv (.int .u64 ((n:Nat):Int))
abbrev Z1q (m:Nat):AV:=vI ((m:Nat):Int)
abbrev Z1r (n:Nat) (j:Nat):SV:=.d (.val (.int .u8 (((UInt8.ofNat (n / 2 ^ (8*(((j:Nat):Int)-1)).toNat)).toNat:Nat):Int)))
theorem X91 (tb:Bool) (nb:Bool) (b:List UInt8) (n:Nat) (m:Nat) (hb:b.length≤140737488355000) (hn:n<18446744073709551616) (hm:m≤8):Holds Tryz.prog 122 ⟨[slV tb nb kU8 b,dv (.int .u64 ((n:Nat):Int)),vI ((m:Nat):Int)],[],Y9 0 kU8 0 (b++(Wr n m)).length,[.live (Xe 5 kU8 (b++(Wr n m)))]⟩:=by
 refine Holds.of Tryz.func122 rfl (N:=27) Tryz.ntmps122 rfl fun w0 B0 S0 U0=>?_
 show T _ (Y2 27 0 w0 S0 U0 B0) ⟨[slV tb nb kU8 b,(Z1p n),(Z1q m)],[]⟩ _ _
 refine sR [] ?_
 refine sR [hR 0 rfl rfl (Yd 0 5 kU8 Vr ([]:List UInt8) [] (cs:=[]) Tryz.underlying25 Jl rfl Io rfl rfl rfl pd W4 pZ7 (V1 pZ7) (X3 rfl) trivial),hR 2 rfl rfl (Yy 0 1 5 1 kU8 Vr ([]:List UInt8) b b ([]:List UInt8).length (sy:=(.d (dsl tb nb kU8 b))) (rhs:=[]) Jf (by omega) (Ji tb nb kU8 b) (by simp) (by (simp [maxLen,-List.getD_eq_getElem?_getD]<;>omega)) (by (simp [maxLen,-List.getD_eq_getElem?_getD]<;>omega)) (X3 rfl) trivial)] ?_
 refine T.seq ?_
 refine sR [hR 1 rfl rfl (Ye (u1:=.int .i64 ((m:Nat):Int)) (u2:=.int .i64 1) (v:=.int .i64 (((m:Nat):Int)-1)) (Ve pa) (X3 rfl) ⟨rfl,trivial⟩)] ?_
 refine T.block ?_
 refine T.loop (ι:=Nat×(List UInt8)) (fun (x_:Nat×(List UInt8))=>⟨[slV tb nb kU8 b,(Z1p n),(Z1q m),aa,aa,aa,dv (.slice none 0 0),Y9 1 kU8 0 x_.2.length,vI (((x_.1:Nat):Int)-1)],[.dead,.live (Xe 5 kU8 x_.2)]⟩) (fun (x_:Nat×(List UInt8))=>(x_.1≤m)∧(x_.2++Wr n x_.1=b++Wr n m)) (fun (x_:Nat×(List UInt8))=>x_.1) (m,b) ⟨(Nat.le_refl _),rfl⟩ (fun _ _ hG=>Vb [3,1] (bm 9 455) (t1:=[slV tb nb kU8 b,(Z1p n),(Z1q m),aa,aa,aa,dv (.slice none 0 0),Y9 1 kU8 0 b.length,vI (((m:Nat):Int)-1)]) (h1:=[.dead,.live (Xe 5 kU8 b)]) rfl rfl hG) ?_
 rintro ⟨j,acc⟩ ⟨hj,he⟩
 show T _ _ ⟨[slV tb nb kU8 b,(Z1p n),(Z1q m),aa,aa,aa,dv (.slice none 0 0),Y9 1 kU8 0 acc.length,vI (((j:Nat):Int)-1)],[.dead,.live (Xe 5 kU8 acc)]⟩ _ _
 replace hj:j≤m:=hj
 replace he:acc++Wr n j=b++Wr n m:=he
 have hacc:=X8c he
 refine T.seq ?_
 refine sR [] ?_
 by_cases hq1:(((j:Nat):Int)-1)≥0
 ·refine cT (dT hq1) ?_
  refine T.skip (nT (T.seq ?_))
  refine T.block ?_
  refine xR [hR 3 rfl rfl (Ye (u1:=.int .i64 8) (u2:=.int .i64 (((j:Nat):Int)-1)) (v:=.int .i64 (8*(((j:Nat):Int)-1))) (Xa2 pa) (X3 rfl) ⟨rfl,trivial⟩),hR 4 rfl rfl (Ye (u1:=.int .u64 ((n:Nat):Int)) (u2:=.int .i64 (8*(((j:Nat):Int)-1))) (v:=.int .u64 ((n / 2 ^ (8*(((j:Nat):Int)-1)).toNat:Nat):Int)) (Er (n:=(8*(((j:Nat):Int)-1)).toNat) (by omega) py) (X3 rfl) trivial),hR 5 rfl rfl (Vc (u:=.int .u64 ((n / 2 ^ (8*(((j:Nat):Int)-1)).toNat:Nat):Int)) (v:=.int .u8 (((UInt8.ofNat (n / 2 ^ (8*(((j:Nat):Int)-1)).toNat)).toNat:Nat):Int)) (Hn Tryz.underlying179 Tryz.underlying5) (X3 rfl) trivial),hR 6 rfl rfl (Yd 2 5 kU8 Vr [(UInt8.ofNat (n / 2 ^ (8*(((j:Nat):Int)-1)).toNat))] [⟨0,.tmp 23,.one ((Z1r n j)),0⟩] (cs:=[(Z1r n j)]) Tryz.underlying25 Jl rfl Io rfl rfl rfl pd (Yp rfl rfl pd W4) pZ7 (V1 pZ7) (X3 rfl) trivial),hR 7 rfl rfl (Yy 1 3 5 1 kU8 Vr acc [(UInt8.ofNat (n / 2 ^ (8*(((j:Nat):Int)-1)).toNat))] (acc++[(UInt8.ofNat (n / 2 ^ (8*(((j:Nat):Int)-1)).toNat))]) acc.length (sy:=(.own 2 kU8.sz 0 [(UInt8.ofNat (n / 2 ^ (8*(((j:Nat):Int)-1)).toNat))].length)) (rhs:=[(2,.live (Xe 5 kU8 [(UInt8.ofNat (n / 2 ^ (8*(((j:Nat):Int)-1)).toNat))]))]) Jf (by omega) (Wu 2 5 kU8 [(UInt8.ofNat (n / 2 ^ (8*(((j:Nat):Int)-1)).toNat))]) Jn (by (simp [maxLen,-List.getD_eq_getElem?_getD]<;>omega)) (by (simp [maxLen,-List.getD_eq_getElem?_getD]<;>omega)) (X3 rfl) trivial)] pZ7 pZ7 ?_
  refine nB ?_
  refine nT ?_
  refine xK [hR 1 rfl rfl (Ye (u1:=.int .i64 (((j:Nat):Int)-1)) (u2:=.int .i64 1) (v:=.int .i64 ((((j:Nat):Int)-1)-1)) (Ve pa) (X3 rfl) ⟨rfl,trivial⟩)] ?_
  refine nL (j-1,acc++[UInt8.ofNat (n / 2 ^ (8*(((j:Nat):Int)-1)).toNat)]) ⟨(show (j-1)≤m from (by omega)),(show (acc++[UInt8.ofNat (n / 2 ^ (8*(((j:Nat):Int)-1)).toNat)])++Wr n (j-1)=b++Wr n m from (Xdc he (by omega)))⟩ (show ((j-1):Nat)<j from (by omega)) (fun _ _ hG=>Vb [5,3] (bm 9 455) (t1:=[slV tb nb kU8 b,(Z1p n),(Z1q m),aa,aa,aa,dv (.slice none 0 0),Y9 3 kU8 0 (acc++[UInt8.ofNat (n / 2 ^ (8*(((j:Nat):Int)-1)).toNat)]).length,vI (((j-1:Nat):Int)-1)]) (t2:=[slV tb nb kU8 b,(Z1p n),(Z1q m),aa,aa,aa,dv (.slice none 0 0),Y9 3 kU8 0 (acc++[(UInt8.ofNat (n / 2 ^ (8*(((j:Nat):Int)-1)).toNat))]).length,vI ((((j:Nat):Int)-1)-1)]) (h1:=[.dead,.live (Xe 5 kU8 (acc++[UInt8.ofNat (n / 2 ^ (8*(((j:Nat):Int)-1)).toNat)]))]) (h2:=[.dead,.live (Xe 5 kU8 (acc++[(UInt8.ofNat (n / 2 ^ (8*(((j:Nat):Int)-1)).toNat))]))]) (cg2 (fun (q1:Nat) (q2:Int)=>([slV tb nb kU8 b,(Z1p n),(Z1q m),aa,aa,aa,dv (.slice none 0 0),Y9 3 kU8 0 q1,vI q2]:List AV)) (by rfl) (by omega)) (congrArg (fun (q1:List UInt8)=>([.dead,.live (Xe 5 kU8 q1)]:List HS)) (by rfl)) hG)
 refine cF (dF hq1) ?_
 refine T.exit ?_
 refine xT ?_
 refine xT ?_
 refine xH ?_
 refine nT ?_
 refine sR [] ?_
 refine T.ret ?_
 exact eRt 6 (.one (.own 1 kU8.sz 0 acc.length)) [1] (by have e1:((b++(Wr n m)).length:Nat)=acc.length:=p4u;have hE:=congrArg (fun (q1:Nat)=>(Y9 1 kU8 0 q1:AV)) e1;exact hE) ⟨⟨rfl,(by have e1:(acc:List UInt8)=b++(Wr n m):=p4u;have hE:=congrArg (fun (q1:List UInt8)=>(.live (Xe 5 kU8 q1):HS)) e1;exact Eq.trans pZ7 hE)⟩,trivial⟩
theorem Ui (tb:Bool) (nb:Bool) (b:List UInt8) (n:Int) (hb:b.length≤140737488355000):Holds Tryz.prog 63 ⟨[slV tb nb kU8 b,vI n],[],Y9 0 kU8 0 (b++Yx n).length,[.live (Xe 5 kU8 (b++Yx n))]⟩:=by
 refine Holds.of Tryz.func63 rfl (N:=9) Tryz.ntmps63 rfl fun w0 B0 S0 U0=>?_
 show T _ (Y2 9 0 w0 S0 U0 B0) ⟨[slV tb nb kU8 b,vI n],[]⟩ _ _
 have hn:=u64_lt n
 refine sR [] ?_
 refine sR [hR 2 rfl rfl (Vc (u:=.int .i64 n) (v:=.int .u64 ((u64 n:Nat):Int)) (c_u64 Tryz.underlying2 Tryz.underlying179) (X3 rfl) trivial),hR 3 rfl rfl (rCa (X91 tb nb b (u64 n) 8 ‹_› ‹_› (by omega)) Tryz.func122 [0] [(.tmp 5,slV tb nb kU8 b),(.tmp 7,dv (.int .u64 ((u64 n:Nat):Int))),(.const (.int .i64 8),vI 8)] 0 1)] ?_
 refine T.ret ?_
 exact eRt 4 (.one (.own 0 kU8.sz 0 (b++(Wr (u64 n) 8)).length)) [0] p2s ⟨⟨rfl,p3l⟩,trivial⟩
theorem E5 (tb:Bool) (nb:Bool) (b:List UInt8) (n:Int) (hb:b.length≤140737488355000):Holds Tryz.prog 66 ⟨[slV tb nb kU8 b,vI n],[],Y9 0 kU8 0 (b++U7 n).length,[.live (Xe 5 kU8 (b++U7 n))]⟩:=by
 refine Holds.of Tryz.func66 rfl (N:=11) Tryz.ntmps66 rfl fun w0 B0 S0 U0=>?_
 show T _ (Y2 11 0 w0 S0 U0 B0) ⟨[slV tb nb kU8 b,vI n],[]⟩ _ _
 have hn:=Xi8 n
 refine sR [] ?_
 refine sR [hR 2 rfl rfl (X9a (k:=.i64) (a:=n) (b:=4294967295) (X3 rfl) ⟨rfl,trivial⟩),hR 3 rfl rfl (X1p (k:=.i64) (a:=0) (b:=min n 4294967295) (X3 rfl) ⟨rfl,trivial⟩),hR 4 rfl rfl (Vc (u:=.int .i64 (max 0 (min n 4294967295))) (v:=.int .u64 ((X56 n:Nat):Int)) (H2 Tryz.underlying3 Tryz.underlying179 (by rw [IntKind.wrap_u64];unfold X56;omega)) (X3 rfl) trivial),hR 5 rfl rfl (rCa (X91 tb nb b (X56 n) 4 ‹_› (by omega) (by omega)) Tryz.func122 [0] [(.tmp 5,slV tb nb kU8 b),(.tmp 9,dv (.int .u64 ((X56 n:Nat):Int))),(.const (.int .i64 4),vI 4)] 0 1)] ?_
 refine T.ret ?_
 exact eRt 4 (.one (.own 0 kU8.sz 0 (b++(Wr (X56 n) 4)).length)) [0] p2s ⟨⟨rfl,p3i⟩,trivial⟩
theorem I9 (tb:Bool) (nb:Bool) (b:List UInt8) (tx:Bool) (nx:Bool) (x:List UInt8) (hb:b.length+x.length≤140737488355000):Holds Tryz.prog 64 ⟨[slV tb nb kU8 b,slV tx nx kU8 x],[],Y9 0 kU8 0 (b++W3 x).length,[.live (Xe 5 kU8 (b++W3 x))]⟩:=by
 refine Holds.of Tryz.func64 rfl (N:=13) Tryz.ntmps64 rfl fun w0 B0 S0 U0=>?_
 show T _ (Y2 13 0 w0 S0 U0 B0) ⟨[slV tb nb kU8 b,slV tx nx kU8 x],[]⟩ _ _
 have hcl:=Ik ((x.length:Nat):Int)
 refine sR [] ?_
 refine sR [hR 3 rfl rfl (rCa (E5 tb nb b ((x.length:Nat):Int) (by omega)) Tryz.func66 [0] [(.tmp 6,slV tb nb kU8 b),(.tmp 8,vI ((x.length:Nat):Int))] 0 1)] ?_
 refine sR [hR 2 rfl rfl (Yy 0 1 5 1 kU8 Vr (b++U7 ((x.length:Nat):Int)) x (b++U7 ((x.length:Nat):Int)++x) (b++U7 ((x.length:Nat):Int)).length (sy:=(.d (dsl tx nx kU8 x))) (rhs:=[]) Jf (by omega) (Ji tx nx kU8 x) Jn (by (simp [maxLen,-List.getD_eq_getElem?_getD]<;>omega)) (by (simp [maxLen,-List.getD_eq_getElem?_getD]<;>omega)) (X3 rfl) trivial)] ?_
 refine T.ret ?_
 exact eRt 4 (.one (.own 1 kU8.sz 0 (b++U7 ((x.length:Nat):Int)++x).length)) [1] p2z ⟨⟨rfl,p2u⟩,trivial⟩
section
variable (tb:Bool) (nb:Bool) (b:List UInt8) (k:Nat)
abbrev Z1s:AV:=vI ((b.length:Nat):Int)
abbrev Z1t:St:=⟨[slV tb nb kU8 b,aa,dv (.int .u64 ((Vd (b.take k):Nat):Int)),aa,aa,slV tb nb kU8 b,(Z1s b),vI ((k:Nat):Int)],[]⟩
abbrev Z1v:AV:=vI ((k+1:Nat):Int)
end
theorem X1d (tb:Bool) (nb:Bool) (b:List UInt8) (hb:b.length≤8):Holds Tryz.prog 146 ⟨[slV tb nb kU8 b],[],dv (.int .u64 ((Vd b:Nat):Int)),[]⟩:=by
 refine Holds.of Tryz.func146 rfl (N:=18) Tryz.ntmps146 rfl fun w0 B0 S0 U0=>?_
 show T _ (Y2 18 0 w0 S0 U0 B0) ⟨[slV tb nb kU8 b],[]⟩ _ _
 refine sR [] ?_
 refine T.seq ?_
 refine sR [] ?_
 refine T.block ?_
 refine T.loop (ι:=Nat) (fun (k:Nat)=>(Z1t tb nb b k)) (fun (k:Nat)=>(k≤b.length)) (fun (k:Nat)=>b.length-k) (0) (Nat.zero_le _) (fun _ _ hG=>Yt [] (bm 8 229) (t2:=[slV tb nb kU8 b,aa,dv (.int .u64 0),aa,aa,slV tb nb kU8 b,(Z1s b),vI 0]) (congrArg (fun (q1:Int)=>([slV tb nb kU8 b,aa,dv (.int .u64 q1),aa,aa,slV tb nb kU8 b,(Z1s b),vI 0]:List AV)) (by rfl)) rfl hG) ?_
 rintro k hk
 show T _ _ (Z1t tb nb b k) _ _
 replace hk:k≤b.length:=hk
 have hk8:Vd (b.take k)<18446744073709551616:=X1t (by simp only [List.length_take];omega)
 refine sR [] ?_
 refine T.seq ?_
 by_cases hq1:((k:Nat):Int)<((b.length:Nat):Int)
 ·have hk7:Vd (b.take k)<72057594037927936:=Xe5 (by simp only [List.length_take];omega);have hbt:=UInt8.toNat_lt (b.getD k 0)
  refine cT (dT hq1) ?_
  refine T.skip (nT (T.seq ?_))
  refine T.block ?_
  refine sR [hR 0 rfl rfl (Wd tb nb kU8 b k (k:=.i64) (i:=((k:Nat):Int)) Tryz.underlying25 Jl rfl rfl (by omega) (X3 rfl) trivial)] ?_
  refine xR [hR 1 rfl rfl (Ye (u1:=.int .u64 ((Vd (b.take k):Nat):Int)) (u2:=.int .u64 8) (v:=.int .u64 (((Vd (b.take k))*2 ^ 8:Nat):Int)) (F6 (n:=8) rfl py p43) (X3 rfl) ⟨rfl,trivial⟩),hR 3 rfl rfl (Vc (u:=.int .u8 (((b.getD k 0).toNat:Nat):Int)) (v:=.int .u64 (((b.getD k 0).toNat:Nat):Int)) (H2 Tryz.underlying5 Tryz.underlying179 p43) (X3 rfl) trivial),hR 4 rfl rfl (Ye (u1:=.int .u64 (((Vd (b.take k))*2 ^ 8:Nat):Int)) (u2:=.int .u64 (((b.getD k 0).toNat:Nat):Int)) (v:=.int .u64 ((((Vd (b.take k))*2 ^ 8) ||| (b.getD k 0).toNat:Nat):Int)) (b_orU (by omega) (by omega)) (X3 rfl) trivial)] pZ7 pZ7 ?_
  refine nB ?_
  refine nT ?_
  refine xK [hR 0 rfl rfl (Ye (u1:=.int .i64 ((k:Nat):Int)) (u2:=.int .i64 1) (v:=.int .i64 ((k+1:Nat):Int)) (Wa pa) (X3 rfl) ⟨rfl,trivial⟩)] ?_
  refine nL (k+1) (show (k+1)≤b.length from (by omega)) (show (b.length-(k+1):Nat)<b.length-k from (by omega)) (fun _ _ hG=>Yt [] (bm 8 229) (t2:=[slV tb nb kU8 b,aa,dv (.int .u64 ((((Vd (b.take k))*2 ^ 8) ||| (b.getD k 0).toNat:Nat):Int)),aa,aa,slV tb nb kU8 b,(Z1s b),(Z1v k)]) (by have e1:(((Vd (b.take (k+1)):Nat):Int):Int)=((((Vd (b.take k))*2 ^ 8) ||| (b.getD k 0).toNat:Nat):Int):=(by (rw [Xb6 (by omega)]));have hE:=congrArg (fun (q1:Int)=>([slV tb nb kU8 b,aa,dv (.int .u64 q1),aa,aa,slV tb nb kU8 b,(Z1s b),(Z1v k)]:List AV)) e1;exact hE) rfl hG)
 refine cF (dF hq1) ?_
 refine T.exit ?_
 refine xT ?_
 refine xT ?_
 refine xH ?_
 refine nT ?_
 refine sR [] ?_
 refine T.ret ?_
 exact eRt 2 (.one (.d (.val (.int .u64 ((Vd (b.take k):Nat):Int))))) [] (by have e1:(((Vd b:Nat):Int):Int)=((Vd (b.take k):Nat):Int):=pZ25;have hE:=congrArg (fun (q1:Int)=>(dv (.int .u64 q1):AV)) e1;exact hE) trivial
theorem wire_any (tb:Bool) (nb:Bool) (b:List UInt8):Holds Tryz.prog 145 ⟨[slV tb nb kU8 b],[],vI 0,[]⟩:=by
 refine Holds.of Tryz.func145 rfl (N:=3) Tryz.ntmps145 rfl fun w0 B0 S0 U0=>?_
 show T _ (Y2 3 0 w0 S0 U0 B0) ⟨[slV tb nb kU8 b],[]⟩ _ _
 refine sR [] ?_
 refine sR [] ?_
 refine T.ret ?_
 exact eRt 2 (.one (dI 0)) [] rfl trivial
theorem Xd5 (most:Int) (tb:Bool) (nb:Bool) (b:List UInt8) (hb:b.length≤4):Holds Tryz.prog 170 ⟨[vI most,slV tb nb kU8 b],[],vI (Yu most b),[]⟩:=by
 refine Holds.of Tryz.func170 rfl (N:=11) Tryz.ntmps170 rfl fun w0 B0 S0 U0=>?_
 show T _ (Y2 11 0 w0 S0 U0 B0) ⟨[vI most,slV tb nb kU8 b],[]⟩ _ _
 have hnb:=X4u hb
 refine sR [] ?_
 refine T.seq ?_
 refine sR [hR 1 rfl rfl (rCa (X1d tb nb b (by omega)) Tryz.func146 [] [(.tmp 5,slV tb nb kU8 b)] 0 0),hR 2 rfl rfl (Vc (u:=.int .u64 ((Vd b:Nat):Int)) (v:=.int .i64 ((Vd b:Nat):Int)) (H2 Tryz.underlying179 Tryz.underlying3 pa) (X3 rfl) trivial),hR 4 rfl rfl (X1p (k:=.i64) (a:=most) (b:=0) (X3 rfl) ⟨rfl,trivial⟩)] ?_
 by_cases hq1:((Vd b:Nat):Int)>(max most 0)
 ·refine cT (dT hq1) ?_
  refine sR [] ?_
  refine T.ret (rT ?_)
  exact eRt 4 (.one (dI 11)) [] (by have e1:(Yu most b:Int)=11:=(by (simp only [Yu];rw [if_pos ‹_›]));have hE:=cI e1;exact hE) trivial
 refine cF (dF hq1) ?_
 refine T.skip (nT ?_)
 refine sR [] ?_
 refine T.ret ?_
 exact eRt 4 (.one (dI 0)) [] (by have e1:(Yu most b:Int)=0:=(by (simp only [Yu];rw [if_neg ‹_›]));have hE:=cI e1;exact hE) trivial
theorem Xd6 (tb:Bool) (nb:Bool) (b:List UInt8) (hb:b.length≤140737488355328):Holds Tryz.prog 104 ⟨[slV tb nb kU8 b],[],pv 0 0,[.live (.box 195 [dU b,dI 0])]⟩:=by
 refine Holds.of Tryz.func104 rfl (N:=7) Tryz.ntmps104 rfl fun w0 B0 S0 U0=>?_
 show T _ (Y2 7 0 w0 S0 U0 B0) ⟨[slV tb nb kU8 b],[]⟩ _ _
 refine sR [] ?_
 refine sR [hR 1 rfl rfl (rCa (Fu tb nb b ‹_›) Tryz.func51 [0] [(.tmp 3,slV tb nb kU8 b)] 0 1)] ?_
 refine T.ret ?_
 refine eN ⟨[slV tb nb kU8 b,aa,pv 1 0],[.live (Xe 5 kU8 b),.live (.box 195 [.own 0 kU8.sz 0 b.length,dI 0])]⟩ ?_
 refine Xc (s':=⟨[slV tb nb kU8 b,aa,pv 1 0],[.dead,.live (.box 195 [dU b,dI 0])]⟩) (fun _ _ hG=>Gs.freeze (s:=⟨[slV tb nb kU8 b,aa,pv 1 0],[.live (Xe 5 kU8 b),.live (.box 195 [.own 0 kU8.sz 0 b.length,dI 0])]⟩) 0 (el:=W6 kU8 b) (sz:=kU8.sz) (n:=b.length) rfl ⟨.inl rfl,(kk2 trivial)⟩ ⟨(.inl ⟨rfl,rfl⟩),⟨(.inr ⟨by decide,.inr ⟨rfl,⟨pZ0,⟨.inl rfl,trivial⟩⟩⟩⟩),trivial⟩⟩ hG) ?_
 exact eRt 2 (.one (.ptr 1 0)) [1] rfl (ix trivial)
theorem Xfc:Cells Tryz.prog 25 1:=⟨_,U1,rfl⟩
theorem X6j (rest:List UInt8) (e:Int) (n:Int) (hr:rest.length≤140737488355328) (hn:0≤n) (hc:okT rest e n 0):Holds Tryz.prog 144 ⟨[pv 0 0,vI n,dv (.func (.func 145) #[] #[])],[.box 195 [dU rest,dI e]],slV false false kU8 (rest.take n.toNat),[.live (.box 195 [dU (rest.drop n.toNat),dI 0])]⟩:=by
 refine Holds.of Tryz.func144 rfl (N:=54) Tryz.ntmps144 rfl fun w0 B0 S0 U0=>?_
 show T _ (Y2 54 1 w0 S0 U0 B0) ⟨[pv 0 0,vI n,dv (.func (.func 145) #[] #[])],[.live (.box 195 [dU rest,dI e])]⟩ _ _
 have htl:(rest.take n.toNat).length≤n.toNat:=List.length_take_le _ _
 obtain ⟨hc1,hc2,hc3⟩:=hc
 have htm:(rest.take n.toNat).length=n.toNat:=by rw [List.length_take];omega
 refine sR [] ?_
 refine T.seq ?_
 refine sR (Xm hY0 [3,4,5,6,7] (hP0 8::[])) ?_
 by_cases hq1:e≠0
 ·exact absurd hc1 hq1
 refine cF (dF hq1) ?_
 refine T.skip (nT (T.seq ?_))
 refine sR [] ?_
 by_cases hq2:n>((rest.length:Nat):Int)
 ·exact absurd hc2 (by omega)
 refine cF (dF hq2) ?_
 refine T.skip (nT ?_)
 refine sR [hR 5 rfl rfl (Ua false false kU8 rest (rest.take (n).toNat) 0 (n).toNat (lo:=none) (hi:=some (.tmp 31,n)) Tryz.underlying25 Jl rfl rfl rfl rfl (by omega) (by omega) (by omega) rfl (X3 rfl) trivial)] ?_
 refine T.seq ?_
 refine sR [hR 3 rfl rfl (X7t (fs:=#[]) (cs:=#[]) (wire_any false false (rest.take (n).toNat) ) Tryz.func145 rfl (by decide) [] [] (l:=[(.tmp 35,slV false false kU8 (rest.take (n).toNat))]) [] rfl 0 0 rfl rfl rfl rfl rfl rfl rfl rfl rfl rfl rfl ⟨.inl ⟨rfl,rfl⟩,trivial⟩ rfl p4z (.inl rfl) (X3 rfl) trivial)] ?_
 refine sR [] ?_
 refine cF (b:=false) rfl ?_
 refine T.skip (nT ?_)
 refine sR [hR 6 rfl rfl (Ua false false kU8 rest (rest.drop (n).toNat) (n).toNat rest.length (lo:=some (.tmp 49,n)) (hi:=none) Tryz.underlying25 Jl rfl rfl rfl (by omega) rfl (by omega) (by omega) Jn (X3 rfl) trivial)] ?_
 refine sR [] ?_
 refine T.ret ?_
 exact eRt 6 (.one (dU (rest.take (n).toNat))) [0] p5f ⟨⟨rfl,(by have e1:((rest.drop (n).toNat):List UInt8)=(rest.drop n.toNat):=(by rfl);have hE:=congrArg (fun (q1:List UInt8)=>(.live (.box 195 [dU q1,dI 0]):HS)) e1;exact Eq.trans pZ7 hE)⟩,trivial⟩
theorem X6k (rest:List UInt8) (e:Int) (n:Int) (hr:rest.length≤140737488355328) (hn:0≤n) (hc:¬okT rest e n 0):Holds Tryz.prog 144 ⟨[pv 0 0,vI n,dv (.func (.func 145) #[] #[])],[.box 195 [dU rest,dI e]],dv (.slice none 0 0),[.live (.box 195 [dU rest,dI (rdE rest e n 0)])]⟩:=by
 refine Holds.of Tryz.func144 rfl (N:=54) Tryz.ntmps144 rfl fun w0 B0 S0 U0=>?_
 show T _ (Y2 54 1 w0 S0 U0 B0) ⟨[pv 0 0,vI n,dv (.func (.func 145) #[] #[])],[.live (.box 195 [dU rest,dI e])]⟩ _ _
 have htl:(rest.take n.toNat).length≤n.toNat:=List.length_take_le _ _
 refine sR [] ?_
 refine T.seq ?_
 refine sR (Xm hY0 [3,4,5,6,7] (hP0 8::[])) ?_
 by_cases hq1:e≠0
 ·refine cT (dT hq1) ?_
  refine sR [] ?_
  refine T.ret (rT ?_)
  exact eRt 6 (.one (.d (.val (.slice none 0 0)))) [0] rfl ⟨⟨rfl,(by have e1:(e:Int)=(rdE rest e n 0):=(by (simp only [rdE];rw [if_pos ‹_›]));have hE:=congrArg (fun (q1:Int)=>(.live (.box 195 [dU rest,dI q1]):HS)) e1;exact Eq.trans pZ7 hE)⟩,trivial⟩
 refine cF (dF hq1) ?_
 refine T.skip (nT (T.seq ?_))
 refine sR [] ?_
 by_cases hq2:n>((rest.length:Nat):Int)
 ·refine cT (dT hq2) ?_
  refine sR [] ?_
  refine sR [] ?_
  refine T.ret (rT ?_)
  exact eRt 6 (.one (.d (.val (.slice none 0 0)))) [0] rfl ⟨⟨rfl,(by have e1:(10:Int)=(rdE rest e n 0):=(by (simp only [rdE];(rw [if_neg ‹_›];rw [if_pos ‹_›])));have hE:=congrArg (fun (q1:Int)=>(.live (.box 195 [dU rest,dI q1]):HS)) e1;exact Eq.trans pZ7 hE)⟩,trivial⟩
 exact absurd ⟨by omega,by omega,rfl⟩ hc
theorem Xac (rest:List UInt8) (e:Int) (n:Int) (most:Int) (hr:rest.length≤140737488355328) (hn:n=4) (hc:okT rest e n (Yu most (rest.take n.toNat))):Holds Tryz.prog 144 ⟨[pv 0 0,vI n,dv (.func (.func 170) #[.int .i64 most] #[])],[.box 195 [dU rest,dI e]],slV false false kU8 (rest.take n.toNat),[.live (.box 195 [dU (rest.drop n.toNat),dI 0])]⟩:=by
 refine Holds.of Tryz.func144 rfl (N:=54) Tryz.ntmps144 rfl fun w0 B0 S0 U0=>?_
 show T _ (Y2 54 1 w0 S0 U0 B0) ⟨[pv 0 0,vI n,dv (.func (.func 170) #[.int .i64 most] #[])],[.live (.box 195 [dU rest,dI e])]⟩ _ _
 have htl:(rest.take n.toNat).length≤n.toNat:=List.length_take_le _ _
 obtain ⟨hc1,hc2,hc3⟩:=hc
 have htm:(rest.take n.toNat).length=n.toNat:=by rw [List.length_take];omega
 refine sR [] ?_
 refine T.seq ?_
 refine sR (Xm hY0 [3,4,5,6,7] (hP0 8::[])) ?_
 by_cases hq1:e≠0
 ·exact absurd hc1 hq1
 refine cF (dF hq1) ?_
 refine T.skip (nT (T.seq ?_))
 refine sR [] ?_
 by_cases hq2:n>((rest.length:Nat):Int)
 ·exact absurd hc2 (by omega)
 refine cF (dF hq2) ?_
 refine T.skip (nT ?_)
 refine sR [hR 5 rfl rfl (Ua false false kU8 rest (rest.take (n).toNat) 0 (n).toNat (lo:=none) (hi:=some (.tmp 31,n)) Tryz.underlying25 Jl rfl rfl rfl rfl (by omega) (by omega) (by omega) rfl (X3 rfl) trivial)] ?_
 refine T.seq ?_
 refine sR [hR 3 rfl rfl (X7t (fs:=#[.int .i64 most]) (cs:=#[]) (Xd5 most false false (rest.take (n).toNat) (by omega)) Tryz.func170 rfl (by decide) [] [] (l:=[(.tmp 35,slV false false kU8 (rest.take (n).toNat))]) [] rfl 0 0 rfl rfl rfl rfl rfl rfl rfl rfl rfl rfl rfl ⟨.inl ⟨rfl,rfl⟩,⟨.inl ⟨rfl,rfl⟩,trivial⟩⟩ rfl p4z (.inl rfl) (X3 rfl) trivial)] ?_
 refine sR [] ?_
 by_cases hq3:(Yu most (rest.take (n).toNat))≠0
 ·exact absurd hc3 hq3
 refine cF (dF hq3) ?_
 refine T.skip (nT ?_)
 refine sR [hR 6 rfl rfl (Ua false false kU8 rest (rest.drop (n).toNat) (n).toNat rest.length (lo:=some (.tmp 49,n)) (hi:=none) Tryz.underlying25 Jl rfl rfl rfl (by omega) rfl (by omega) (by omega) Jn (X3 rfl) trivial)] ?_
 refine sR [] ?_
 refine T.ret ?_
 exact eRt 6 (.one (dU (rest.take (n).toNat))) [0] p5f ⟨⟨rfl,(by have e1:((rest.drop (n).toNat):List UInt8)=(rest.drop n.toNat):=(by rfl);have e2:(Yu most (rest.take (n).toNat):Int)=0:=(by exact hc3);have hE:=congr pZ18 e2;exact Eq.trans pZ7 hE)⟩,trivial⟩
theorem Xad (rest:List UInt8) (e:Int) (n:Int) (most:Int) (hr:rest.length≤140737488355328) (hn:n=4) (hc:¬okT rest e n (Yu most (rest.take n.toNat))):Holds Tryz.prog 144 ⟨[pv 0 0,vI n,dv (.func (.func 170) #[.int .i64 most] #[])],[.box 195 [dU rest,dI e]],dv (.slice none 0 0),[.live (.box 195 [dU rest,dI (rdE rest e n (Yu most (rest.take n.toNat)))])]⟩:=by
 refine Holds.of Tryz.func144 rfl (N:=54) Tryz.ntmps144 rfl fun w0 B0 S0 U0=>?_
 show T _ (Y2 54 1 w0 S0 U0 B0) ⟨[pv 0 0,vI n,dv (.func (.func 170) #[.int .i64 most] #[])],[.live (.box 195 [dU rest,dI e])]⟩ _ _
 have htl:(rest.take n.toNat).length≤n.toNat:=List.length_take_le _ _
 refine sR [] ?_
 refine T.seq ?_
 refine sR (Xm hY0 [3,4,5,6,7] (hP0 8::[])) ?_
 by_cases hq1:e≠0
 ·refine cT (dT hq1) ?_
  refine sR [] ?_
  refine T.ret (rT ?_)
  exact eRt 6 (.one (.d (.val (.slice none 0 0)))) [0] rfl ⟨⟨rfl,(by have e1:(e:Int)=(rdE rest e n (Yu most (rest.take n.toNat))):=(by (simp only [rdE];rw [if_pos ‹_›]));have hE:=congrArg (fun (q1:Int)=>(.live (.box 195 [dU rest,dI q1]):HS)) e1;exact Eq.trans pZ7 hE)⟩,trivial⟩
 refine cF (dF hq1) ?_
 refine T.skip (nT (T.seq ?_))
 refine sR [] ?_
 by_cases hq2:n>((rest.length:Nat):Int)
 ·refine cT (dT hq2) ?_
  refine sR [] ?_
  refine sR [] ?_
  refine T.ret (rT ?_)
  exact eRt 6 (.one (.d (.val (.slice none 0 0)))) [0] rfl ⟨⟨rfl,(by have e1:(10:Int)=(rdE rest e n (Yu most (rest.take n.toNat))):=(by (simp only [rdE];(rw [if_neg ‹_›];rw [if_pos ‹_›])));have hE:=congrArg (fun (q1:Int)=>(.live (.box 195 [dU rest,dI q1]):HS)) e1;exact Eq.trans pZ7 hE)⟩,trivial⟩
 refine cF (dF hq2) ?_
 refine T.skip (nT ?_)
 refine sR [hR 5 rfl rfl (Ua false false kU8 rest (rest.take (n).toNat) 0 (n).toNat (lo:=none) (hi:=some (.tmp 31,n)) Tryz.underlying25 Jl rfl rfl rfl rfl (by omega) (by omega) (by omega) rfl (X3 rfl) trivial)] ?_
 refine T.seq ?_
 refine sR [hR 3 rfl rfl (X7t (fs:=#[.int .i64 most]) (cs:=#[]) (Xd5 most false false (rest.take (n).toNat) (by omega)) Tryz.func170 rfl (by decide) [] [] (l:=[(.tmp 35,slV false false kU8 (rest.take (n).toNat))]) [] rfl 0 0 rfl rfl rfl rfl rfl rfl rfl rfl rfl rfl rfl ⟨.inl ⟨rfl,rfl⟩,⟨.inl ⟨rfl,rfl⟩,trivial⟩⟩ rfl p4z (.inl rfl) (X3 rfl) trivial)] ?_
 refine sR [] ?_
 by_cases hq3:(Yu most (rest.take (n).toNat))≠0
 ·refine cT (dT hq3) ?_
  refine sR [] ?_
  refine T.ret (rT ?_)
  exact eRt 6 (.one (.d (.val (.slice none 0 0)))) [0] rfl ⟨⟨rfl,(by have e1:(Yu most (rest.take (n).toNat):Int)=(rdE rest e n (Yu most (rest.take n.toNat))):=(by (simp only [rdE];(rw [if_neg ‹_›];rw [if_neg ‹_›])));have hE:=congrArg (fun (q1:Int)=>(.live (.box 195 [dU rest,dI q1]):HS)) e1;exact Eq.trans pZ7 hE)⟩,trivial⟩
 exact absurd ⟨by omega,by omega,Classical.not_not.1 hq3⟩ hc
theorem rd_Int (rest:List UInt8) (e:Int) (hr:rest.length≤140737488355328):Holds Tryz.prog 105 ⟨[pv 0 0],[.box 195 [dU rest,dI e]],vI (rdI rest e),[.live (.box 195 [dU (rdR rest e 8 0),dI (rdE rest e 8 0)])]⟩:=by
 refine Holds.of Tryz.func105 rfl (N:=11) Tryz.ntmps105 rfl fun w0 B0 S0 U0=>?_
 show T _ (Y2 11 1 w0 S0 U0 B0) ⟨[pv 0 0],[.live (.box 195 [dU rest,dI e])]⟩ _ _
 have hi8:Vd (rest.take 8)<18446744073709551616:=X1t (List.length_take_le _ _)
 refine sR [] ?_
 refine T.seq ?_
 by_cases hq1:okT rest e 8 0
 ·have hk:=id hq1;simp only [okT] at hk
  refine sR [hR 1 rfl rfl (rCa (X6j rest e 8 ‹_› (by omega) ‹_›) Tryz.func144 [0] [(.tmp 4,pv 0 0),(.const (.int .i64 8),vI 8),(.func 145,dv (.func (.func 145) #[] #[]))] 1 1)] ?_
  refine sR [hR 1 rfl rfl (Xhi (s:=dU (rest.take 8)) Tryz.underlying25 (.inr (by (simp [maxLen,-List.getD_eq_getElem?_getD]<;>omega))) (X3 rfl) ⟨rfl,trivial⟩)] ?_
  refine cT (b:=true) rfl ?_
  refine sR [hR 1 rfl rfl (rCa (X1d false false (rest.take 8) (by (simp [maxLen,-List.getD_eq_getElem?_getD]<;>omega))) Tryz.func146 [] [(.tmp 8,slV false false kU8 (rest.take 8))] 0 0),hR 2 rfl rfl (Vc (u:=.int .u64 ((Vd (rest.take 8):Nat):Int)) (v:=.int .i64 (X36 (Vd (rest.take 8)))) (c_i64 ‹_› Tryz.underlying179 Tryz.underlying2) (X3 rfl) trivial)] ?_
  refine T.ret (rT ?_)
  exact eRt 2 (.one (dI (X36 (Vd (rest.take 8))))) [0] (by have e1:(rdI rest e:Int)=X36 (Vd (rest.take 8)):=(by (simp only [rdI];(rw [if_pos ‹_›];done)));have hE:=cI e1;exact hE) ⟨⟨rfl,(by have e1:((rest.drop 8):List UInt8)=(rdR rest e 8 0):=(by (rw [X95 ‹_›];rfl));have e2:(0:Int)=(rdE rest e 8 0):=(by (rw [X96 ‹_›]));have hE:=congr pZ18 e2;exact Eq.trans pZ7 hE)⟩,trivial⟩
 refine sR [hR 1 rfl rfl (rCa (X6k rest e 8 ‹_› (by omega) ‹_›) Tryz.func144 [0] [(.tmp 4,pv 0 0),(.const (.int .i64 8),vI 8),(.func 145,dv (.func (.func 145) #[] #[]))] 1 1)] ?_
 refine sR [hR 1 rfl rfl (Ye (u1:=.slice none 0 0) (u2:=.slice none 0 0) (v:=.bool false) (Xbo Tryz.underlying25) (X3 rfl) ⟨rfl,trivial⟩)] ?_
 refine cF (b:=false) rfl ?_
 refine T.skip (nT ?_)
 refine sR [] ?_
 refine T.ret ?_
 exact eRt 2 (.one (dI 0)) [0] (by have e1:(rdI rest e:Int)=0:=(by (simp only [rdI];(rw [if_neg ‹_›];done)));have hE:=cI e1;exact hE) ⟨⟨rfl,(by have e1:(rest:List UInt8)=(rdR rest e 8 0):=(by (rw [Xg4 ‹_›]));have hE:=congrArg (fun (q1:List UInt8)=>(.live (.box 195 [dU q1,dI (rdE rest e 8 0)]):HS)) e1;exact Eq.trans pZ7 hE)⟩,trivial⟩
theorem X93 (rest:List UInt8) (e:Int) (most:Int) (hr:rest.length≤140737488355328):Holds Tryz.prog 147 ⟨[pv 0 0,vI most],[.box 195 [dU rest,dI e]],vI ((rdC rest e most:Nat):Int),[.live (.box 195 [dU (rdR rest e 4 (Yu most (rest.take 4))),dI (rdE rest e 4 (Yu most (rest.take 4)))])]⟩:=by
 refine Holds.of Tryz.func147 rfl (N:=15) Tryz.ntmps147 rfl fun w0 B0 S0 U0=>?_
 show T _ (Y2 15 1 w0 S0 U0 B0) ⟨[pv 0 0,vI most],[.live (.box 195 [dU rest,dI e])]⟩ _ _
 have hi4:Vd (rest.take 4)<4294967296:=X4u (List.length_take_le _ _)
 refine sR [] ?_
 refine T.seq ?_
 by_cases hq1:okT rest e 4 (Yu most (rest.take 4))
 ·have hk:=id hq1;simp only [okT] at hk
  refine sR [hR 2 rfl rfl (X9b (fs:=[(.tmp 7,.int .i64 most)]) (cs:=[]) rfl rfl (X3 rfl) trivial),hR 3 rfl rfl (rCa (Xac rest e 4 most ‹_› (by omega) ‹_›) Tryz.func144 [0] [(.tmp 6,pv 0 0),(.const (.int .i64 4),vI 4),(.tmp 8,dv (.func (.func 170) #[.int .i64 most] #[]))] 1 1)] ?_
  refine sR [hR 1 rfl rfl (Xhi (s:=dU (rest.take 4)) Tryz.underlying25 (.inr (by (simp [maxLen,-List.getD_eq_getElem?_getD]<;>omega))) (X3 rfl) ⟨rfl,trivial⟩)] ?_
  refine cT (b:=true) rfl ?_
  refine sR [hR 1 rfl rfl (rCa (X1d false false (rest.take 4) (by (simp [maxLen,-List.getD_eq_getElem?_getD]<;>omega))) Tryz.func146 [] [(.tmp 12,slV false false kU8 (rest.take 4))] 0 0),hR 2 rfl rfl (Vc (u:=.int .u64 ((Vd (rest.take 4):Nat):Int)) (v:=.int .i64 ((Vd (rest.take 4):Nat):Int)) (H2 Tryz.underlying179 Tryz.underlying3 pa) (X3 rfl) trivial)] ?_
  refine T.ret (rT ?_)
  exact eRt 4 (.one (dI ((Vd (rest.take 4):Nat):Int))) [0] (by have e1:(((rdC rest e most:Nat):Int):Int)=((Vd (rest.take 4):Nat):Int):=(by (simp only [rdC];(rw [if_pos ‹_›];done)));have hE:=cI e1;exact hE) ⟨⟨rfl,(by have e1:((rest.drop 4):List UInt8)=(rdR rest e 4 (Yu most (rest.take 4))):=(by (rw [X95 ‹_›];rfl));have e2:(0:Int)=(rdE rest e 4 (Yu most (rest.take 4))):=(by (rw [X96 ‹_›]));have hE:=congr pZ18 e2;exact Eq.trans pZ7 hE)⟩,trivial⟩
 refine sR [hR 2 rfl rfl (X9b (fs:=[(.tmp 7,.int .i64 most)]) (cs:=[]) rfl rfl (X3 rfl) trivial),hR 3 rfl rfl (rCa (Xad rest e 4 most ‹_› (by omega) ‹_›) Tryz.func144 [0] [(.tmp 6,pv 0 0),(.const (.int .i64 4),vI 4),(.tmp 8,dv (.func (.func 170) #[.int .i64 most] #[]))] 1 1)] ?_
 refine sR [hR 1 rfl rfl (Ye (u1:=.slice none 0 0) (u2:=.slice none 0 0) (v:=.bool false) (Xbo Tryz.underlying25) (X3 rfl) ⟨rfl,trivial⟩)] ?_
 refine cF (b:=false) rfl ?_
 refine T.skip (nT ?_)
 refine sR [] ?_
 refine T.ret ?_
 exact eRt 4 (.one (dI 0)) [0] (by have e1:(((rdC rest e most:Nat):Int):Int)=0:=(by (simp only [rdC];(rw [if_neg ‹_›];rfl)));have hE:=cI e1;exact hE) ⟨⟨rfl,(by have e1:(rest:List UInt8)=(rdR rest e 4 (Yu most (rest.take 4))):=(by (rw [Xg4 ‹_›]));have hE:=congrArg (fun (q1:List UInt8)=>(.live (.box 195 [dU q1,dI (rdE rest e 4 (Yu most (rest.take 4)))]):HS)) e1;exact Eq.trans pZ7 hE)⟩,trivial⟩
theorem Xg3 (rest:List UInt8) (e:Int) (hr:rest.length≤140737488355328):Holds Tryz.prog 107 ⟨[pv 0 0],[.box 195 [dU rest,dI e]],.tup [],[.live (.box 195 [dU rest,dI (rdX rest e)])]⟩:=by
 refine Holds.of Tryz.func107 rfl (N:=22) Tryz.ntmps107 rfl fun w0 B0 S0 U0=>?_
 show T _ (Y2 22 1 w0 S0 U0 B0) ⟨[pv 0 0],[.live (.box 195 [dU rest,dI e])]⟩ _ _
 by_cases hq1:e=0
 ·refine sR (Xm hY1 [3,4,5,6,7] (hP1 8::(Xm (hY · (dT hq1)) [10,11,12,13,14,15] (hP 16 (dT hq1)::[])))) ?_
  by_cases hq2:((rest.length:Nat):Int)>0
  ·refine cT (dT hq2) ?_
   refine xK [] ?_
   exact tE (.inr rfl) [] trivial [0] rfl rfl rfl rfl rfl rfl ⟨⟨rfl,(by have e1:(13:Int)=(rdX rest e):=(by (simp only [rdX];rw [if_pos ⟨by assumption,by assumption⟩]));have hE:=congrArg (fun (q1:Int)=>(.live (.box 195 [dU rest,dI q1]):HS)) e1;exact Eq.trans pZ7 hE)⟩,trivial⟩
  refine cF (dF hq2) ?_
  refine T.skip ?_
  exact tE (.inr rfl) [] trivial [0] rfl rfl rfl rfl rfl rfl ⟨⟨rfl,(by have e1:(e:Int)=(rdX rest e):=(by (simp only [rdX];rw [if_neg (fun h=>by exact absurd h.2 ‹_›)]));have hE:=congrArg (fun (q1:Int)=>(.live (.box 195 [dU rest,dI q1]):HS)) e1;exact Eq.trans pZ7 hE)⟩,trivial⟩
 refine sR (Xm hY1 [3,4,5,6,7] (hP1 8::(Xm (hN · true (dF hq1)) [10,11,12,13,14,15] (hP 16 (dF hq1)::[])))) ?_
 refine cF (b:=false) rfl ?_
 refine T.skip ?_
 exact tE (.inr rfl) [] trivial [0] rfl rfl rfl rfl rfl rfl ⟨⟨rfl,(by have e1:(e:Int)=(rdX rest e):=(by (simp only [rdX];rw [if_neg (fun h=>by exact absurd h.1 ‹_›)]));have hE:=congrArg (fun (q1:Int)=>(.live (.box 195 [dU rest,dI q1]):HS)) e1;exact Eq.trans pZ7 hE)⟩,trivial⟩
theorem X92 (rest:List UInt8) (e:Int):Holds Tryz.prog 108 ⟨[pv 0 0],[.box 195 [dU rest,dI e]],vI e,[.live (.box 195 [dU rest,dI e])]⟩:=by
 refine Holds.of Tryz.func108 rfl (N:=9) Tryz.ntmps108 rfl fun w0 B0 S0 U0=>?_
 show T _ (Y2 9 1 w0 S0 U0 B0) ⟨[pv 0 0],[.live (.box 195 [dU rest,dI e])]⟩ _ _
 refine sR [] ?_
 refine T.seq ?_
 refine sR [] ?_
 refine cF (b:=false) rfl ?_
 refine T.skip (nT ?_)
 refine sR [] ?_
 refine T.ret ?_
 exact eRt 2 (.one (dI e)) [0] rfl (ix trivial)
end Go.Proofs.YtnaopgohccacmaaGreat.Q
