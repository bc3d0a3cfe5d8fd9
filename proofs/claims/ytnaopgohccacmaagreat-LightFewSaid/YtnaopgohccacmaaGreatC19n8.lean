import Derived.Test.YtnaopgohccacmaaGreatC19n5
namespace Go.Proofs.YtnaopgohccacmaaGreat.Q
open Go Go.RowKit
set_option linter.unusedVariables false
set_option linter.unusedSimpArgs false
set_option maxRecDepth 100000
set_option maxHeartbeats 4000000
theorem X6e (tb:Bool) (nb:Bool) (b:List UInt8) (n:Int) (hb:b.length≤140737488355000):Holds Tryz.prog 168 ⟨[slV tb nb kU8 b,vI n],[],Xx 0 kU8 0 (b++Yp n).length,[.live (Xc 5 kU8 (b++Yp n))]⟩:=by
 refine Holds.of Tryz.func168 rfl (N:=9) Tryz.ntmps168 rfl fun w0 B0 S0 U0=>?_
 show T _ (Y2 9 0 w0 S0 U0 B0) ⟨[slV tb nb kU8 b,vI n],[]⟩ _ _
 have hn:=X8a n
 refine sR [] (sR [hR 2 rfl rfl (Vb (u:=.int .i64 n) (v:=.int .u64 ((u64 n:Nat):Int)) (c_u64 Tryz.underlying2 Tryz.underlying179) (X2 rfl) trivial),hR 3 rfl rfl (rCa (X88 tb nb b (u64 n) 7 ‹_› ‹_› (by omega)) Tryz.func167 [0] [(.tmp 5,slV tb nb kU8 b),(.tmp 7,dv (.int .u64 ((u64 n:Nat):Int))),(.const (.int .i64 8),vI 8)] 0 1)] (T.ret ?_))
 exact eRt 4 (.one (.own 0 kU8.sz 0 (b++(Wh (u64 n) 8)).length)) [0] p2c ⟨⟨rfl,pZ31⟩,trivial⟩
theorem X3a (tb:Bool) (nb:Bool) (b:List UInt8) (n:Int) (hb:b.length≤140737488355000):Holds Tryz.prog 131 ⟨[slV tb nb kU8 b,vI n],[],Xx 0 kU8 0 (b++V3 n).length,[.live (Xc 5 kU8 (b++V3 n))]⟩:=by
 refine Holds.of Tryz.func131 rfl (N:=11) Tryz.ntmps131 rfl fun w0 B0 S0 U0=>?_
 show T _ (Y2 11 0 w0 S0 U0 B0) ⟨[slV tb nb kU8 b,vI n],[]⟩ _ _
 have hn:=X5b n
 refine sR [] (sR [hR 2 rfl rfl (X3h (k:=.i64) (a:=n) (b:=0) (X2 rfl) ⟨rfl,trivial⟩),hR 3 rfl rfl (X9b (k:=.i64) (a:=max n 0) (b:=4294967295) (X2 rfl) ⟨rfl,trivial⟩),hR 4 rfl rfl (Vb (u:=.int .i64 (min (max n 0) 4294967295)) (v:=.int .u64 ((Fe n:Nat):Int)) (Ha Tryz.underlying3 Tryz.underlying179 (by rw [IntKind.wrap_u64];unfold Fe;omega)) (X2 rfl) trivial),hR 5 rfl rfl (rCa (X88 tb nb b (Fe n) 3 ‹_› (by omega) (by omega)) Tryz.func167 [0] [(.tmp 5,slV tb nb kU8 b),(.tmp 9,dv (.int .u64 ((Fe n:Nat):Int))),(.const (.int .i64 4),vI 4)] 0 1)] (T.ret ?_))
 exact eRt 4 (.one (.own 0 kU8.sz 0 (b++(Wh (Fe n) 4)).length)) [0] p2c ⟨⟨rfl,p2z⟩,trivial⟩
theorem X3b (tb:Bool) (nb:Bool) (b:List UInt8) (tx:Bool) (nx:Bool) (x:List UInt8) (hb:b.length+x.length≤140737488355000):Holds Tryz.prog 132 ⟨[slV tb nb kU8 b,slV tx nx kU8 x],[],Xx 0 kU8 0 (b++Yo x).length,[.live (Xc 5 kU8 (b++Yo x))]⟩:=by
 refine Holds.of Tryz.func132 rfl (N:=11) Tryz.ntmps132 rfl fun w0 B0 S0 U0=>?_
 show T _ (Y2 11 0 w0 S0 U0 B0) ⟨[slV tb nb kU8 b,slV tx nx kU8 x],[]⟩ _ _
 have hcl:=U9 ((x.length:Nat):Int)
 refine sR [] ?_
 refine sR [hR 3 rfl rfl (rCa (X3a tb nb b ((x.length:Nat):Int) (by omega)) Tryz.func131 [0] [(.tmp 5,slV tb nb kU8 b),(.tmp 7,vI ((x.length:Nat):Int))] 0 1),hR 5 rfl rfl (Yv 0 1 5 1 kU8 Vk (b++V3 ((x.length:Nat):Int)) x (b++V3 ((x.length:Nat):Int)++x) (b++V3 ((x.length:Nat):Int)).length (sy:=(.d (dsl tx nx kU8 x))) (rhs:=[]) Jb (by omega) (Uv tx nx kU8 x) px (by (simp [maxLen,-List.getD_eq_getElem?_getD]<;>omega)) (by (simp [maxLen,-List.getD_eq_getElem?_getD]<;>omega)) (X2 rfl) trivial)] ?_
 refine T.ret ?_
 exact eRt 4 (.one (.own 1 kU8.sz 0 (b++V3 ((x.length:Nat):Int)++x).length)) [1] p2h ⟨⟨rfl,p2d⟩,trivial⟩
abbrev Z1p (n:Nat):AV:=dv (.int .u64 ((n:Nat):Int))
abbrev Z1q (m:Nat):AV:=vI ((m:Nat):Int)
abbrev Z1r (n:Nat) (j:Nat):SV:=.d (.val (.int .u8 (((UInt8.ofNat (n / 2 ^ (8*(((j:Nat):Int)-1)).toNat)).toNat:Nat):Int)))
theorem X92 (tb:Bool) (nb:Bool) (b:List UInt8) (n:Nat) (m:Nat) (hb:b.length≤140737488355000) (hn:n<18446744073709551616) (hm:m≤8):Holds Tryz.prog 122 ⟨[slV tb nb kU8 b,dv (.int .u64 ((n:Nat):Int)),vI ((m:Nat):Int)],[],Xx 0 kU8 0 (b++(Wh n m)).length,[.live (Xc 5 kU8 (b++(Wh n m)))]⟩:=by
 refine Holds.of Tryz.func122 rfl (N:=27) Tryz.ntmps122 rfl fun w0 B0 S0 U0=>?_
 show T _ (Y2 27 0 w0 S0 U0 B0) ⟨[slV tb nb kU8 b,(Z1p n),(Z1q m)],[]⟩ _ _
 refine sR [] ?_
 refine sR [hR 0 rfl rfl (Y7 0 5 kU8 Vk ([]:List UInt8) [] (cs:=[]) Tryz.underlying25 Jh rfl Iu rfl rfl rfl pb W3 pZ4 (V2 pZ4) (X2 rfl) trivial),hR 2 rfl rfl (Yv 0 1 5 1 kU8 Vk ([]:List UInt8) b b ([]:List UInt8).length (sy:=(.d (dsl tb nb kU8 b))) (rhs:=[]) Jb (by omega) (Uv tb nb kU8 b) (by simp) (by (simp [maxLen,-List.getD_eq_getElem?_getD]<;>omega)) (by (simp [maxLen,-List.getD_eq_getElem?_getD]<;>omega)) (X2 rfl) trivial)] ?_
 refine T.seq (sR [hR 1 rfl rfl (Yb (u1:=.int .i64 ((m:Nat):Int)) (u2:=.int .i64 1) (v:=.int .i64 (((m:Nat):Int)-1)) (Vy pZ9) (X2 rfl) ⟨rfl,trivial⟩)] (T.block ?_))
 refine T.loop (ι:=Nat×(List UInt8)) (fun (x_:Nat×(List UInt8))=>⟨[slV tb nb kU8 b,(Z1p n),(Z1q m),aa,aa,aa,dv (.slice none 0 0),Xx 1 kU8 0 x_.2.length,vI (((x_.1:Nat):Int)-1)],[.dead,.live (Xc 5 kU8 x_.2)]⟩) (fun (x_:Nat×(List UInt8))=>(x_.1≤m)∧(x_.2++Wh n x_.1=b++Wh n m)) (fun (x_:Nat×(List UInt8))=>x_.1) (m,b) ⟨(Nat.le_refl _),rfl⟩ (fun _ _ hG=>Wf [3,1] (bm 9 455) (t1:=[slV tb nb kU8 b,(Z1p n),(Z1q m),aa,aa,aa,dv (.slice none 0 0),Xx 1 kU8 0 b.length,vI (((m:Nat):Int)-1)]) (h1:=[.dead,.live (Xc 5 kU8 b)]) rfl rfl hG) ?_
 rintro ⟨j,acc⟩ ⟨hj,he⟩
 show T _ _ ⟨[slV tb nb kU8 b,(Z1p n),(Z1q m),aa,aa,aa,dv (.slice none 0 0),Xx 1 kU8 0 acc.length,vI (((j:Nat):Int)-1)],[.dead,.live (Xc 5 kU8 acc)]⟩ _ _
 replace hj:j≤m:=hj
 replace he:acc++Wh n j=b++Wh n m:=he
 have hacc:=X8h he
 refine T.seq (sR [] ?_)
 by_cases hq1:(((j:Nat):Int)-1)≥0
 ·refine cT (dT hq1) (T.skip (nT (T.seq (T.block ?_))))
  refine xR [hR 3 rfl rfl (Yb (u1:=.int .i64 8) (u2:=.int .i64 (((j:Nat):Int)-1)) (v:=.int .i64 (8*(((j:Nat):Int)-1))) (Xc8 pZ9) (X2 rfl) ⟨rfl,trivial⟩),hR 4 rfl rfl (Yb (u1:=.int .u64 ((n:Nat):Int)) (u2:=.int .i64 (8*(((j:Nat):Int)-1))) (v:=.int .u64 ((n / 2 ^ (8*(((j:Nat):Int)-1)).toNat:Nat):Int)) (Ez (n:=(8*(((j:Nat):Int)-1)).toNat) (by omega) pn) (X2 rfl) trivial),hR 5 rfl rfl (Vb (u:=.int .u64 ((n / 2 ^ (8*(((j:Nat):Int)-1)).toNat:Nat):Int)) (v:=.int .u8 (((UInt8.ofNat (n / 2 ^ (8*(((j:Nat):Int)-1)).toNat)).toNat:Nat):Int)) (F6 Tryz.underlying179 Tryz.underlying5) (X2 rfl) trivial),hR 6 rfl rfl (Y7 2 5 kU8 Vk [(UInt8.ofNat (n / 2 ^ (8*(((j:Nat):Int)-1)).toNat))] [⟨0,.tmp 23,.one ((Z1r n j)),0⟩] (cs:=[(Z1r n j)]) Tryz.underlying25 Jh rfl Iu rfl rfl rfl pb (Ym rfl rfl pb W3) pZ4 (V2 pZ4) (X2 rfl) trivial),hR 7 rfl rfl (Yv 1 3 5 1 kU8 Vk acc [(UInt8.ofNat (n / 2 ^ (8*(((j:Nat):Int)-1)).toNat))] (acc++[(UInt8.ofNat (n / 2 ^ (8*(((j:Nat):Int)-1)).toNat))]) acc.length (sy:=(.own 2 kU8.sz 0 [(UInt8.ofNat (n / 2 ^ (8*(((j:Nat):Int)-1)).toNat))].length)) (rhs:=[(2,.live (Xc 5 kU8 [(UInt8.ofNat (n / 2 ^ (8*(((j:Nat):Int)-1)).toNat))]))]) Jb (by omega) (V0 2 5 kU8 [(UInt8.ofNat (n / 2 ^ (8*(((j:Nat):Int)-1)).toNat))]) px (by (simp [maxLen,-List.getD_eq_getElem?_getD]<;>omega)) (by (simp [maxLen,-List.getD_eq_getElem?_getD]<;>omega)) (X2 rfl) trivial)] pZ4 pZ4 ?_
  refine nB (nT (xK [hR 1 rfl rfl (Yb (u1:=.int .i64 (((j:Nat):Int)-1)) (u2:=.int .i64 1) (v:=.int .i64 ((((j:Nat):Int)-1)-1)) (Vy pZ9) (X2 rfl) ⟨rfl,trivial⟩)] ?_))
  refine nL (j-1,acc++[UInt8.ofNat (n / 2 ^ (8*(((j:Nat):Int)-1)).toNat)]) ⟨(show (j-1)≤m from (by omega)),(show (acc++[UInt8.ofNat (n / 2 ^ (8*(((j:Nat):Int)-1)).toNat)])++Wh n (j-1)=b++Wh n m from (Xe6 he (by omega)))⟩ (show ((j-1):Nat)<j from (by omega)) (fun _ _ hG=>Wf [5,3] (bm 9 455) (t1:=[slV tb nb kU8 b,(Z1p n),(Z1q m),aa,aa,aa,dv (.slice none 0 0),Xx 3 kU8 0 (acc++[UInt8.ofNat (n / 2 ^ (8*(((j:Nat):Int)-1)).toNat)]).length,vI (((j-1:Nat):Int)-1)]) (t2:=[slV tb nb kU8 b,(Z1p n),(Z1q m),aa,aa,aa,dv (.slice none 0 0),Xx 3 kU8 0 (acc++[(UInt8.ofNat (n / 2 ^ (8*(((j:Nat):Int)-1)).toNat))]).length,vI ((((j:Nat):Int)-1)-1)]) (h1:=[.dead,.live (Xc 5 kU8 (acc++[UInt8.ofNat (n / 2 ^ (8*(((j:Nat):Int)-1)).toNat)]))]) (h2:=[.dead,.live (Xc 5 kU8 (acc++[(UInt8.ofNat (n / 2 ^ (8*(((j:Nat):Int)-1)).toNat))]))]) (cg2 (fun (q1:Nat) (q2:Int)=>([slV tb nb kU8 b,(Z1p n),(Z1q m),aa,aa,aa,dv (.slice none 0 0),Xx 3 kU8 0 q1,vI q2]:List AV)) (by rfl) (by omega)) (congrArg (fun (q1:List UInt8)=>([.dead,.live (Xc 5 kU8 q1)]:List HS)) (by rfl)) hG)
 refine cF (dF hq1) (T.exit (xT (xT (xH (nT (sR [] (T.ret ?_)))))))
 exact eRt 6 (.one (.own 1 kU8.sz 0 acc.length)) [1] (by have e1:((b++(Wh n m)).length:Nat)=acc.length:=p4g;have hE:=congrArg (fun (q1:Nat)=>(Xx 1 kU8 0 q1:AV)) e1;exact hE) ⟨⟨rfl,(by have e1:(acc:List UInt8)=b++(Wh n m):=p4g;have hE:=congrArg (fun (q1:List UInt8)=>(.live (Xc 5 kU8 q1):HS)) e1;exact Eq.trans pZ4 hE)⟩,trivial⟩
theorem U7 (tb:Bool) (nb:Bool) (b:List UInt8) (n:Int) (hb:b.length≤140737488355000):Holds Tryz.prog 63 ⟨[slV tb nb kU8 b,vI n],[],Xx 0 kU8 0 (b++Yp n).length,[.live (Xc 5 kU8 (b++Yp n))]⟩:=by
 refine Holds.of Tryz.func63 rfl (N:=9) Tryz.ntmps63 rfl fun w0 B0 S0 U0=>?_
 show T _ (Y2 9 0 w0 S0 U0 B0) ⟨[slV tb nb kU8 b,vI n],[]⟩ _ _
 have hn:=X8a n
 refine sR [] (sR [hR 2 rfl rfl (Vb (u:=.int .i64 n) (v:=.int .u64 ((u64 n:Nat):Int)) (c_u64 Tryz.underlying2 Tryz.underlying179) (X2 rfl) trivial),hR 3 rfl rfl (rCa (X92 tb nb b (u64 n) 8 ‹_› ‹_› (by omega)) Tryz.func122 [0] [(.tmp 5,slV tb nb kU8 b),(.tmp 7,dv (.int .u64 ((u64 n:Nat):Int))),(.const (.int .i64 8),vI 8)] 0 1)] (T.ret ?_))
 exact eRt 4 (.one (.own 0 kU8.sz 0 (b++(Wh (u64 n) 8)).length)) [0] p2c ⟨⟨rfl,pZ31⟩,trivial⟩
theorem Ee (tb:Bool) (nb:Bool) (b:List UInt8) (n:Int) (hb:b.length≤140737488355000):Holds Tryz.prog 66 ⟨[slV tb nb kU8 b,vI n],[],Xx 0 kU8 0 (b++V3 n).length,[.live (Xc 5 kU8 (b++V3 n))]⟩:=by
 refine Holds.of Tryz.func66 rfl (N:=11) Tryz.ntmps66 rfl fun w0 B0 S0 U0=>?_
 show T _ (Y2 11 0 w0 S0 U0 B0) ⟨[slV tb nb kU8 b,vI n],[]⟩ _ _
 have hn:=X5b n
 refine sR [] (sR [hR 2 rfl rfl (X9b (k:=.i64) (a:=n) (b:=4294967295) (X2 rfl) ⟨rfl,trivial⟩),hR 3 rfl rfl (X3h (k:=.i64) (a:=0) (b:=min n 4294967295) (X2 rfl) ⟨rfl,trivial⟩),hR 4 rfl rfl (Vb (u:=.int .i64 (max 0 (min n 4294967295))) (v:=.int .u64 ((Fe n:Nat):Int)) (Ha Tryz.underlying3 Tryz.underlying179 (by rw [IntKind.wrap_u64];unfold Fe;omega)) (X2 rfl) trivial),hR 5 rfl rfl (rCa (X92 tb nb b (Fe n) 4 ‹_› (by omega) (by omega)) Tryz.func122 [0] [(.tmp 5,slV tb nb kU8 b),(.tmp 9,dv (.int .u64 ((Fe n:Nat):Int))),(.const (.int .i64 4),vI 4)] 0 1)] (T.ret ?_))
 exact eRt 4 (.one (.own 0 kU8.sz 0 (b++(Wh (Fe n) 4)).length)) [0] p2c ⟨⟨rfl,p2z⟩,trivial⟩
theorem Ie (tb:Bool) (nb:Bool) (b:List UInt8) (tx:Bool) (nx:Bool) (x:List UInt8) (hb:b.length+x.length≤140737488355000):Holds Tryz.prog 64 ⟨[slV tb nb kU8 b,slV tx nx kU8 x],[],Xx 0 kU8 0 (b++Yo x).length,[.live (Xc 5 kU8 (b++Yo x))]⟩:=by
 refine Holds.of Tryz.func64 rfl (N:=13) Tryz.ntmps64 rfl fun w0 B0 S0 U0=>?_
 show T _ (Y2 13 0 w0 S0 U0 B0) ⟨[slV tb nb kU8 b,slV tx nx kU8 x],[]⟩ _ _
 have hcl:=U9 ((x.length:Nat):Int)
 refine sR [] (sR [hR 3 rfl rfl (rCa (Ee tb nb b ((x.length:Nat):Int) (by omega)) Tryz.func66 [0] [(.tmp 6,slV tb nb kU8 b),(.tmp 8,vI ((x.length:Nat):Int))] 0 1)] ?_)
 refine sR [hR 2 rfl rfl (Yv 0 1 5 1 kU8 Vk (b++V3 ((x.length:Nat):Int)) x (b++V3 ((x.length:Nat):Int)++x) (b++V3 ((x.length:Nat):Int)).length (sy:=(.d (dsl tx nx kU8 x))) (rhs:=[]) Jb (by omega) (Uv tx nx kU8 x) px (by (simp [maxLen,-List.getD_eq_getElem?_getD]<;>omega)) (by (simp [maxLen,-List.getD_eq_getElem?_getD]<;>omega)) (X2 rfl) trivial)] ?_
 refine T.ret ?_
 exact eRt 4 (.one (.own 1 kU8.sz 0 (b++V3 ((x.length:Nat):Int)++x).length)) [1] p2h ⟨⟨rfl,p2d⟩,trivial⟩
section
variable (tb:Bool) (nb:Bool) (b:List UInt8) (k:Nat)
abbrev Z1s:AV:=vI ((b.length:Nat):Int)
abbrev Z1t:St:=⟨[slV tb nb kU8 b,aa,dv (.int .u64 ((V1 (b.take k):Nat):Int)),aa,aa,slV tb nb kU8 b,(Z1s b),vI ((k:Nat):Int)],[]⟩
abbrev Z1v:AV:=vI ((k+1:Nat):Int)
end
theorem X19 (tb:Bool) (nb:Bool) (b:List UInt8) (hb:b.length≤8):Holds Tryz.prog 146 ⟨[slV tb nb kU8 b],[],dv (.int .u64 ((V1 b:Nat):Int)),[]⟩:=by
 refine Holds.of Tryz.func146 rfl (N:=18) Tryz.ntmps146 rfl fun w0 B0 S0 U0=>?_
 show T _ (Y2 18 0 w0 S0 U0 B0) ⟨[slV tb nb kU8 b],[]⟩ _ _
 refine sR [] (T.seq (sR [] (T.block ?_)))
 refine T.loop (ι:=Nat) (fun (k:Nat)=>(Z1t tb nb b k)) (fun (k:Nat)=>(k≤b.length)) (fun (k:Nat)=>b.length-k) (0) (Nat.zero_le _) (fun _ _ hG=>Yu [] (bm 8 229) (t2:=[slV tb nb kU8 b,aa,dv (.int .u64 0),aa,aa,slV tb nb kU8 b,(Z1s b),vI 0]) (congrArg (fun (q1:Int)=>([slV tb nb kU8 b,aa,dv (.int .u64 q1),aa,aa,slV tb nb kU8 b,(Z1s b),vI 0]:List AV)) (by rfl)) rfl hG) ?_
 rintro k hk
 show T _ _ (Z1t tb nb b k) _ _
 replace hk:k≤b.length:=hk
 have hk8:V1 (b.take k)<18446744073709551616:=X1u (by simp only [List.length_take];omega)
 refine sR [] (T.seq ?_)
 by_cases hq1:((k:Nat):Int)<((b.length:Nat):Int)
 ·have hk7:V1 (b.take k)<72057594037927936:=Xf3 (by simp only [List.length_take];omega);have hbt:=UInt8.toNat_lt (b.getD k 0)
  refine cT (dT hq1) (T.skip (nT (T.seq (T.block (sR [hR 0 rfl rfl (Wi tb nb kU8 b k (k:=.i64) (i:=((k:Nat):Int)) Tryz.underlying25 Jh rfl rfl (by omega) (X2 rfl) trivial)] ?_)))))
  refine xR [hR 1 rfl rfl (Yb (u1:=.int .u64 ((V1 (b.take k):Nat):Int)) (u2:=.int .u64 8) (v:=.int .u64 (((V1 (b.take k))*2 ^ 8:Nat):Int)) (Ff (n:=8) rfl pn p3n) (X2 rfl) ⟨rfl,trivial⟩),hR 3 rfl rfl (Vb (u:=.int .u8 (((b.getD k 0).toNat:Nat):Int)) (v:=.int .u64 (((b.getD k 0).toNat:Nat):Int)) (Ha Tryz.underlying5 Tryz.underlying179 p3n) (X2 rfl) trivial),hR 4 rfl rfl (Yb (u1:=.int .u64 (((V1 (b.take k))*2 ^ 8:Nat):Int)) (u2:=.int .u64 (((b.getD k 0).toNat:Nat):Int)) (v:=.int .u64 ((((V1 (b.take k))*2 ^ 8) ||| (b.getD k 0).toNat:Nat):Int)) (b_orU (by omega) (by omega)) (X2 rfl) trivial)] pZ4 pZ4 (nB (nT ?_))
  refine xK [hR 0 rfl rfl (Yb (u1:=.int .i64 ((k:Nat):Int)) (u2:=.int .i64 1) (v:=.int .i64 ((k+1:Nat):Int)) (Wb pZ9) (X2 rfl) ⟨rfl,trivial⟩)] ?_
  refine nL (k+1) (show (k+1)≤b.length from (by omega)) (show (b.length-(k+1):Nat)<b.length-k from (by omega)) (fun _ _ hG=>Yu [] (bm 8 229) (t2:=[slV tb nb kU8 b,aa,dv (.int .u64 ((((V1 (b.take k))*2 ^ 8) ||| (b.getD k 0).toNat:Nat):Int)),aa,aa,slV tb nb kU8 b,(Z1s b),(Z1v k)]) (by have e1:(((V1 (b.take (k+1)):Nat):Int):Int)=((((V1 (b.take k))*2 ^ 8) ||| (b.getD k 0).toNat:Nat):Int):=(by (rw [Xbl (by omega)]));have hE:=congrArg (fun (q1:Int)=>([slV tb nb kU8 b,aa,dv (.int .u64 q1),aa,aa,slV tb nb kU8 b,(Z1s b),(Z1v k)]:List AV)) e1;exact hE) rfl hG)
 refine cF (dF hq1) (T.exit (xT (xT (xH (nT (sR [] (T.ret ?_)))))))
 exact eRt 2 (.one (.d (.val (.int .u64 ((V1 (b.take k):Nat):Int))))) [] (by have e1:(((V1 b:Nat):Int):Int)=((V1 (b.take k):Nat):Int):=p1q;have hE:=congrArg (fun (q1:Int)=>(dv (.int .u64 q1):AV)) e1;exact hE) trivial
theorem wire_any (tb:Bool) (nb:Bool) (b:List UInt8):Holds Tryz.prog 145 ⟨[slV tb nb kU8 b],[],vI 0,[]⟩:=by
 refine Holds.of Tryz.func145 rfl (N:=3) Tryz.ntmps145 rfl fun w0 B0 S0 U0=>?_
 show T _ (Y2 3 0 w0 S0 U0 B0) ⟨[slV tb nb kU8 b],[]⟩ _ _
 refine sR [] (sR [] (T.ret ?_))
 exact eRt 2 (.one (dI 0)) [] rfl trivial
theorem Xdz (most:Int) (tb:Bool) (nb:Bool) (b:List UInt8) (hb:b.length≤4):Holds Tryz.prog 170 ⟨[vI most,slV tb nb kU8 b],[],vI (Yq most b),[]⟩:=by
 refine Holds.of Tryz.func170 rfl (N:=11) Tryz.ntmps170 rfl fun w0 B0 S0 U0=>?_
 show T _ (Y2 11 0 w0 S0 U0 B0) ⟨[vI most,slV tb nb kU8 b],[]⟩ _ _
 have hnb:=X4w hb
 refine sR [] (T.seq (sR [hR 1 rfl rfl (rCa (X19 tb nb b (by omega)) Tryz.func146 [] [(.tmp 5,slV tb nb kU8 b)] 0 0),hR 2 rfl rfl (Vb (u:=.int .u64 ((V1 b:Nat):Int)) (v:=.int .i64 ((V1 b:Nat):Int)) (Ha Tryz.underlying179 Tryz.underlying3 pZ9) (X2 rfl) trivial),hR 4 rfl rfl (X3h (k:=.i64) (a:=most) (b:=0) (X2 rfl) ⟨rfl,trivial⟩)] ?_))
 by_cases hq1:((V1 b:Nat):Int)>(max most 0)
 ·refine cT (dT hq1) (sR [] (T.ret (rT ?_)))
  exact eRt 4 (.one (dI 11)) [] (by have e1:(Yq most b:Int)=11:=(by (simp only [Yq];rw [if_pos ‹_›]));have hE:=cI e1;exact hE) trivial
 refine cF (dF hq1) (T.skip (nT (sR [] (T.ret ?_))))
 exact eRt 4 (.one (dI 0)) [] (by have e1:(Yq most b:Int)=0:=(by (simp only [Yq];rw [if_neg ‹_›]));have hE:=cI e1;exact hE) trivial
theorem Xe0 (tb:Bool) (nb:Bool) (b:List UInt8) (hb:b.length≤140737488355328):Holds Tryz.prog 104 ⟨[slV tb nb kU8 b],[],pv 0 0,[.live (.box 195 [dU b,dI 0])]⟩:=by
 refine Holds.of Tryz.func104 rfl (N:=7) Tryz.ntmps104 rfl fun w0 B0 S0 U0=>?_
 show T _ (Y2 7 0 w0 S0 U0 B0) ⟨[slV tb nb kU8 b],[]⟩ _ _
 refine sR [] (sR [hR 1 rfl rfl (rCa (E4 tb nb b ‹_›) Tryz.func51 [0] [(.tmp 3,slV tb nb kU8 b)] 0 1)] (T.ret ?_))
 refine eN ⟨[slV tb nb kU8 b,aa,pv 1 0],[.live (Xc 5 kU8 b),.live (.box 195 [.own 0 kU8.sz 0 b.length,dI 0])]⟩ ?_
 refine Xa (s':=⟨[slV tb nb kU8 b,aa,pv 1 0],[.dead,.live (.box 195 [dU b,dI 0])]⟩) (fun _ _ hG=>Gs.freeze (s:=⟨[slV tb nb kU8 b,aa,pv 1 0],[.live (Xc 5 kU8 b),.live (.box 195 [.own 0 kU8.sz 0 b.length,dI 0])]⟩) 0 (el:=W5 kU8 b) (sz:=kU8.sz) (n:=b.length) rfl ⟨.inl rfl,(kk2 trivial)⟩ ⟨(.inl ⟨rfl,rfl⟩),⟨(.inr ⟨by decide,.inr ⟨rfl,⟨pZ0,⟨.inl rfl,trivial⟩⟩⟩⟩),trivial⟩⟩ hG) ?_
 exact eRt 2 (.one (.ptr 1 0)) [1] rfl (ix trivial)
theorem Xgd:Cells Tryz.prog 25 1:=⟨_,Vw,rfl⟩
theorem X6f (rest:List UInt8) (e:Int) (n:Int) (hr:rest.length≤140737488355328) (hn:0≤n) (hc:okT rest e n 0):Holds Tryz.prog 144 ⟨[pv 0 0,vI n,dv (.func (.func 145) #[] #[])],[.box 195 [dU rest,dI e]],slV false false kU8 (rest.take n.toNat),[.live (.box 195 [dU (rest.drop n.toNat),dI 0])]⟩:=by
 refine Holds.of Tryz.func144 rfl (N:=54) Tryz.ntmps144 rfl fun w0 B0 S0 U0=>?_
 show T _ (Y2 54 1 w0 S0 U0 B0) ⟨[pv 0 0,vI n,dv (.func (.func 145) #[] #[])],[.live (.box 195 [dU rest,dI e])]⟩ _ _
 have htl:(rest.take n.toNat).length≤n.toNat:=List.length_take_le _ _
 obtain ⟨hc1,hc2,hc3⟩:=hc
 have htm:(rest.take n.toNat).length=n.toNat:=by rw [List.length_take];omega
 refine sR [] (T.seq (sR (Xl hY0 [3,4,5,6,7] (hP0 8::[])) ?_))
 by_cases hq1:e≠0
 ·exact absurd hc1 hq1
 refine cF (dF hq1) (T.skip (nT (T.seq (sR [] ?_))))
 by_cases hq2:n>((rest.length:Nat):Int)
 ·exact absurd hc2 (by omega)
 refine cF (dF hq2) (T.skip (nT (sR [hR 5 rfl rfl (U1 false false kU8 rest (rest.take (n).toNat) 0 (n).toNat (lo:=none) (hi:=some (.tmp 31,n)) Tryz.underlying25 Jh rfl rfl rfl rfl (by omega) (by omega) (by omega) rfl (X2 rfl) trivial)] (T.seq (sR [hR 3 rfl rfl (X7u (fs:=#[]) (cs:=#[]) (wire_any false false (rest.take (n).toNat) ) Tryz.func145 rfl (by decide) [] [] (l:=[(.tmp 35,slV false false kU8 (rest.take (n).toNat))]) [] rfl 0 0 rfl rfl rfl rfl rfl rfl rfl rfl rfl rfl rfl ⟨.inl ⟨rfl,rfl⟩,trivial⟩ rfl p3k (.inl rfl) (X2 rfl) trivial)] (sR [] (cF (b:=false) rfl (T.skip (nT ?_)))))))))
 refine sR [hR 6 rfl rfl (U1 false false kU8 rest (rest.drop (n).toNat) (n).toNat rest.length (lo:=some (.tmp 49,n)) (hi:=none) Tryz.underlying25 Jh rfl rfl rfl (by omega) rfl (by omega) (by omega) px (X2 rfl) trivial)] (sR [] (T.ret ?_))
 exact eRt 6 (.one (dU (rest.take (n).toNat))) [0] p4y ⟨⟨rfl,(by have e1:((rest.drop (n).toNat):List UInt8)=(rest.drop n.toNat):=(by rfl);have hE:=congrArg (fun (q1:List UInt8)=>(.live (.box 195 [dU q1,dI 0]):HS)) e1;exact Eq.trans pZ4 hE)⟩,trivial⟩
theorem X6g (rest:List UInt8) (e:Int) (n:Int) (hr:rest.length≤140737488355328) (hn:0≤n) (hc:¬okT rest e n 0):Holds Tryz.prog 144 ⟨[pv 0 0,vI n,dv (.func (.func 145) #[] #[])],[.box 195 [dU rest,dI e]],dv (.slice none 0 0),[.live (.box 195 [dU rest,dI (rdE rest e n 0)])]⟩:=by
 refine Holds.of Tryz.func144 rfl (N:=54) Tryz.ntmps144 rfl fun w0 B0 S0 U0=>?_
 show T _ (Y2 54 1 w0 S0 U0 B0) ⟨[pv 0 0,vI n,dv (.func (.func 145) #[] #[])],[.live (.box 195 [dU rest,dI e])]⟩ _ _
 have htl:(rest.take n.toNat).length≤n.toNat:=List.length_take_le _ _
 refine sR [] (T.seq (sR (Xl hY0 [3,4,5,6,7] (hP0 8::[])) ?_))
 by_cases hq1:e≠0
 ·refine cT (dT hq1) (sR [] (T.ret (rT ?_)))
  exact eRt 6 (.one (.d (.val (.slice none 0 0)))) [0] rfl ⟨⟨rfl,(by have e1:(e:Int)=(rdE rest e n 0):=(by (simp only [rdE];rw [if_pos ‹_›]));have hE:=congrArg (fun (q1:Int)=>(.live (.box 195 [dU rest,dI q1]):HS)) e1;exact Eq.trans pZ4 hE)⟩,trivial⟩
 refine cF (dF hq1) (T.skip (nT (T.seq (sR [] ?_))))
 by_cases hq2:n>((rest.length:Nat):Int)
 ·refine cT (dT hq2) (sR [] (sR [] (T.ret (rT ?_))))
  exact eRt 6 (.one (.d (.val (.slice none 0 0)))) [0] rfl ⟨⟨rfl,(by have e1:(10:Int)=(rdE rest e n 0):=(by (simp only [rdE];(rw [if_neg ‹_›];rw [if_pos ‹_›])));have hE:=congrArg (fun (q1:Int)=>(.live (.box 195 [dU rest,dI q1]):HS)) e1;exact Eq.trans pZ4 hE)⟩,trivial⟩
 exact absurd ⟨by omega,by omega,rfl⟩ hc
theorem Xaj (rest:List UInt8) (e:Int) (n:Int) (most:Int) (hr:rest.length≤140737488355328) (hn:n=4) (hc:okT rest e n (Yq most (rest.take n.toNat))):Holds Tryz.prog 144 ⟨[pv 0 0,vI n,dv (.func (.func 170) #[.int .i64 most] #[])],[.box 195 [dU rest,dI e]],slV false false kU8 (rest.take n.toNat),[.live (.box 195 [dU (rest.drop n.toNat),dI 0])]⟩:=by
 refine Holds.of Tryz.func144 rfl (N:=54) Tryz.ntmps144 rfl fun w0 B0 S0 U0=>?_
 show T _ (Y2 54 1 w0 S0 U0 B0) ⟨[pv 0 0,vI n,dv (.func (.func 170) #[.int .i64 most] #[])],[.live (.box 195 [dU rest,dI e])]⟩ _ _
 have htl:(rest.take n.toNat).length≤n.toNat:=List.length_take_le _ _
 obtain ⟨hc1,hc2,hc3⟩:=hc
 have htm:(rest.take n.toNat).length=n.toNat:=by rw [List.length_take];omega
 refine sR [] (T.seq (sR (Xl hY0 [3,4,5,6,7] (hP0 8::[])) ?_))
 by_cases hq1:e≠0
 ·exact absurd hc1 hq1
 refine cF (dF hq1) (T.skip (nT (T.seq (sR [] ?_))))
 by_cases hq2:n>((rest.length:Nat):Int)
 ·exact absurd hc2 (by omega)
 refine cF (dF hq2) (T.skip (nT (sR [hR 5 rfl rfl (U1 false false kU8 rest (rest.take (n).toNat) 0 (n).toNat (lo:=none) (hi:=some (.tmp 31,n)) Tryz.underlying25 Jh rfl rfl rfl rfl (by omega) (by omega) (by omega) rfl (X2 rfl) trivial)] (T.seq (sR [hR 3 rfl rfl (X7u (fs:=#[.int .i64 most]) (cs:=#[]) (Xdz most false false (rest.take (n).toNat) (by omega)) Tryz.func170 rfl (by decide) [] [] (l:=[(.tmp 35,slV false false kU8 (rest.take (n).toNat))]) [] rfl 0 0 rfl rfl rfl rfl rfl rfl rfl rfl rfl rfl rfl ⟨.inl ⟨rfl,rfl⟩,⟨.inl ⟨rfl,rfl⟩,trivial⟩⟩ rfl p3k (.inl rfl) (X2 rfl) trivial)] (sR [] ?_))))))
 by_cases hq3:(Yq most (rest.take (n).toNat))≠0
 ·exact absurd hc3 hq3
 refine cF (dF hq3) (T.skip (nT (sR [hR 6 rfl rfl (U1 false false kU8 rest (rest.drop (n).toNat) (n).toNat rest.length (lo:=some (.tmp 49,n)) (hi:=none) Tryz.underlying25 Jh rfl rfl rfl (by omega) rfl (by omega) (by omega) px (X2 rfl) trivial)] (sR [] (T.ret ?_)))))
 exact eRt 6 (.one (dU (rest.take (n).toNat))) [0] p4y ⟨⟨rfl,(by have e1:((rest.drop (n).toNat):List UInt8)=(rest.drop n.toNat):=(by rfl);have e2:(Yq most (rest.take (n).toNat):Int)=0:=(by exact hc3);have hE:=congr pZ10 e2;exact Eq.trans pZ4 hE)⟩,trivial⟩
theorem Xak (rest:List UInt8) (e:Int) (n:Int) (most:Int) (hr:rest.length≤140737488355328) (hn:n=4) (hc:¬okT rest e n (Yq most (rest.take n.toNat))):Holds Tryz.prog 144 ⟨[pv 0 0,vI n,dv (.func (.func 170) #[.int .i64 most] #[])],[.box 195 [dU rest,dI e]],dv (.slice none 0 0),[.live (.box 195 [dU rest,dI (rdE rest e n (Yq most (rest.take n.toNat)))])]⟩:=by
 refine Holds.of Tryz.func144 rfl (N:=54) Tryz.ntmps144 rfl fun w0 B0 S0 U0=>?_
 show T _ (Y2 54 1 w0 S0 U0 B0) ⟨[pv 0 0,vI n,dv (.func (.func 170) #[.int .i64 most] #[])],[.live (.box 195 [dU rest,dI e])]⟩ _ _
 have htl:(rest.take n.toNat).length≤n.toNat:=List.length_take_le _ _
 refine sR [] (T.seq (sR (Xl hY0 [3,4,5,6,7] (hP0 8::[])) ?_))
 by_cases hq1:e≠0
 ·refine cT (dT hq1) (sR [] (T.ret (rT ?_)))
  exact eRt 6 (.one (.d (.val (.slice none 0 0)))) [0] rfl ⟨⟨rfl,(by have e1:(e:Int)=(rdE rest e n (Yq most (rest.take n.toNat))):=(by (simp only [rdE];rw [if_pos ‹_›]));have hE:=congrArg (fun (q1:Int)=>(.live (.box 195 [dU rest,dI q1]):HS)) e1;exact Eq.trans pZ4 hE)⟩,trivial⟩
 refine cF (dF hq1) (T.skip (nT (T.seq (sR [] ?_))))
 by_cases hq2:n>((rest.length:Nat):Int)
 ·refine cT (dT hq2) (sR [] (sR [] (T.ret (rT ?_))))
  exact eRt 6 (.one (.d (.val (.slice none 0 0)))) [0] rfl ⟨⟨rfl,(by have e1:(10:Int)=(rdE rest e n (Yq most (rest.take n.toNat))):=(by (simp only [rdE];(rw [if_neg ‹_›];rw [if_pos ‹_›])));have hE:=congrArg (fun (q1:Int)=>(.live (.box 195 [dU rest,dI q1]):HS)) e1;exact Eq.trans pZ4 hE)⟩,trivial⟩
 refine cF (dF hq2) (T.skip (nT (sR [hR 5 rfl rfl (U1 false false kU8 rest (rest.take (n).toNat) 0 (n).toNat (lo:=none) (hi:=some (.tmp 31,n)) Tryz.underlying25 Jh rfl rfl rfl rfl (by omega) (by omega) (by omega) rfl (X2 rfl) trivial)] (T.seq (sR [hR 3 rfl rfl (X7u (fs:=#[.int .i64 most]) (cs:=#[]) (Xdz most false false (rest.take (n).toNat) (by omega)) Tryz.func170 rfl (by decide) [] [] (l:=[(.tmp 35,slV false false kU8 (rest.take (n).toNat))]) [] rfl 0 0 rfl rfl rfl rfl rfl rfl rfl rfl rfl rfl rfl ⟨.inl ⟨rfl,rfl⟩,⟨.inl ⟨rfl,rfl⟩,trivial⟩⟩ rfl p3k (.inl rfl) (X2 rfl) trivial)] (sR [] ?_))))))
 by_cases hq3:(Yq most (rest.take (n).toNat))≠0
 ·refine cT (dT hq3) (sR [] (T.ret (rT ?_)))
  exact eRt 6 (.one (.d (.val (.slice none 0 0)))) [0] rfl ⟨⟨rfl,(by have e1:(Yq most (rest.take (n).toNat):Int)=(rdE rest e n (Yq most (rest.take n.toNat))):=(by (simp only [rdE];(rw [if_neg ‹_›];rw [if_neg ‹_›])));have hE:=congrArg (fun (q1:Int)=>(.live (.box 195 [dU rest,dI q1]):HS)) e1;exact Eq.trans pZ4 hE)⟩,trivial⟩
 exact absurd ⟨by omega,by omega,Classical.not_not.1 hq3⟩ hc
theorem rd_Int (rest:List UInt8) (e:Int) (hr:rest.length≤140737488355328):Holds Tryz.prog 105 ⟨[pv 0 0],[.box 195 [dU rest,dI e]],vI (rdI rest e),[.live (.box 195 [dU (rdR rest e 8 0),dI (rdE rest e 8 0)])]⟩:=by
 refine Holds.of Tryz.func105 rfl (N:=11) Tryz.ntmps105 rfl fun w0 B0 S0 U0=>?_
 show T _ (Y2 11 1 w0 S0 U0 B0) ⟨[pv 0 0],[.live (.box 195 [dU rest,dI e])]⟩ _ _
 have hi8:V1 (rest.take 8)<18446744073709551616:=X1u (List.length_take_le _ _)
 refine sR [] (T.seq ?_)
 by_cases hq1:okT rest e 8 0
 ·have hk:=id hq1;simp only [okT] at hk
  refine sR [hR 1 rfl rfl (rCa (X6f rest e 8 ‹_› (by omega) ‹_›) Tryz.func144 [0] [(.tmp 4,pv 0 0),(.const (.int .i64 8),vI 8),(.func 145,dv (.func (.func 145) #[] #[]))] 1 1)] ?_
  refine sR [hR 1 rfl rfl (Xiy (s:=dU (rest.take 8)) Tryz.underlying25 (.inr (by (simp [maxLen,-List.getD_eq_getElem?_getD]<;>omega))) (X2 rfl) ⟨rfl,trivial⟩)] ?_
  refine cT (b:=true) rfl ?_
  refine sR [hR 1 rfl rfl (rCa (X19 false false (rest.take 8) (by (simp [maxLen,-List.getD_eq_getElem?_getD]<;>omega))) Tryz.func146 [] [(.tmp 8,slV false false kU8 (rest.take 8))] 0 0),hR 2 rfl rfl (Vb (u:=.int .u64 ((V1 (rest.take 8):Nat):Int)) (v:=.int .i64 (X0x (V1 (rest.take 8)))) (c_i64 ‹_› Tryz.underlying179 Tryz.underlying2) (X2 rfl) trivial)] ?_
  refine T.ret (rT ?_)
  exact eRt 2 (.one (dI (X0x (V1 (rest.take 8))))) [0] (by have e1:(rdI rest e:Int)=X0x (V1 (rest.take 8)):=(by (simp only [rdI];(rw [if_pos ‹_›];done)));have hE:=cI e1;exact hE) ⟨⟨rfl,(by have e1:((rest.drop 8):List UInt8)=(rdR rest e 8 0):=(by (rw [X3w ‹_›];rfl));have e2:(0:Int)=(rdE rest e 8 0):=(by (rw [X3x ‹_›]));have hE:=congr pZ10 e2;exact Eq.trans pZ4 hE)⟩,trivial⟩
 refine sR [hR 1 rfl rfl (rCa (X6g rest e 8 ‹_› (by omega) ‹_›) Tryz.func144 [0] [(.tmp 4,pv 0 0),(.const (.int .i64 8),vI 8),(.func 145,dv (.func (.func 145) #[] #[]))] 1 1)] (sR [hR 1 rfl rfl (Yb (u1:=.slice none 0 0) (u2:=.slice none 0 0) (v:=.bool false) (Xc7 Tryz.underlying25) (X2 rfl) ⟨rfl,trivial⟩)] (cF (b:=false) rfl (T.skip (nT (sR [] (T.ret ?_))))))
 exact eRt 2 (.one (dI 0)) [0] (by have e1:(rdI rest e:Int)=0:=(by (simp only [rdI];(rw [if_neg ‹_›];done)));have hE:=cI e1;exact hE) ⟨⟨rfl,(by have e1:(rest:List UInt8)=(rdR rest e 8 0):=(by (rw [Xhd ‹_›]));have hE:=congrArg (fun (q1:List UInt8)=>(.live (.box 195 [dU q1,dI (rdE rest e 8 0)]):HS)) e1;exact Eq.trans pZ4 hE)⟩,trivial⟩
theorem X95 (rest:List UInt8) (e:Int) (most:Int) (hr:rest.length≤140737488355328):Holds Tryz.prog 147 ⟨[pv 0 0,vI most],[.box 195 [dU rest,dI e]],vI ((rdC rest e most:Nat):Int),[.live (.box 195 [dU (rdR rest e 4 (Yq most (rest.take 4))),dI (rdE rest e 4 (Yq most (rest.take 4)))])]⟩:=by
 refine Holds.of Tryz.func147 rfl (N:=15) Tryz.ntmps147 rfl fun w0 B0 S0 U0=>?_
 show T _ (Y2 15 1 w0 S0 U0 B0) ⟨[pv 0 0,vI most],[.live (.box 195 [dU rest,dI e])]⟩ _ _
 have hi4:V1 (rest.take 4)<4294967296:=X4w (List.length_take_le _ _)
 refine sR [] (T.seq ?_)
 by_cases hq1:okT rest e 4 (Yq most (rest.take 4))
 ·have hk:=id hq1;simp only [okT] at hk
  refine sR [hR 2 rfl rfl (X9c (fs:=[(.tmp 7,.int .i64 most)]) (cs:=[]) rfl rfl (X2 rfl) trivial),hR 3 rfl rfl (rCa (Xaj rest e 4 most ‹_› (by omega) ‹_›) Tryz.func144 [0] [(.tmp 6,pv 0 0),(.const (.int .i64 4),vI 4),(.tmp 8,dv (.func (.func 170) #[.int .i64 most] #[]))] 1 1)] ?_
  refine sR [hR 1 rfl rfl (Xiy (s:=dU (rest.take 4)) Tryz.underlying25 (.inr (by (simp [maxLen,-List.getD_eq_getElem?_getD]<;>omega))) (X2 rfl) ⟨rfl,trivial⟩)] ?_
  refine cT (b:=true) rfl ?_
  refine sR [hR 1 rfl rfl (rCa (X19 false false (rest.take 4) (by (simp [maxLen,-List.getD_eq_getElem?_getD]<;>omega))) Tryz.func146 [] [(.tmp 12,slV false false kU8 (rest.take 4))] 0 0),hR 2 rfl rfl (Vb (u:=.int .u64 ((V1 (rest.take 4):Nat):Int)) (v:=.int .i64 ((V1 (rest.take 4):Nat):Int)) (Ha Tryz.underlying179 Tryz.underlying3 pZ9) (X2 rfl) trivial)] ?_
  refine T.ret (rT ?_)
  exact eRt 4 (.one (dI ((V1 (rest.take 4):Nat):Int))) [0] (by have e1:(((rdC rest e most:Nat):Int):Int)=((V1 (rest.take 4):Nat):Int):=(by (simp only [rdC];(rw [if_pos ‹_›];done)));have hE:=cI e1;exact hE) ⟨⟨rfl,(by have e1:((rest.drop 4):List UInt8)=(rdR rest e 4 (Yq most (rest.take 4))):=(by (rw [X3w ‹_›];rfl));have e2:(0:Int)=(rdE rest e 4 (Yq most (rest.take 4))):=(by (rw [X3x ‹_›]));have hE:=congr pZ10 e2;exact Eq.trans pZ4 hE)⟩,trivial⟩
 refine sR [hR 2 rfl rfl (X9c (fs:=[(.tmp 7,.int .i64 most)]) (cs:=[]) rfl rfl (X2 rfl) trivial),hR 3 rfl rfl (rCa (Xak rest e 4 most ‹_› (by omega) ‹_›) Tryz.func144 [0] [(.tmp 6,pv 0 0),(.const (.int .i64 4),vI 4),(.tmp 8,dv (.func (.func 170) #[.int .i64 most] #[]))] 1 1)] (sR [hR 1 rfl rfl (Yb (u1:=.slice none 0 0) (u2:=.slice none 0 0) (v:=.bool false) (Xc7 Tryz.underlying25) (X2 rfl) ⟨rfl,trivial⟩)] (cF (b:=false) rfl (T.skip (nT (sR [] (T.ret ?_))))))
 exact eRt 4 (.one (dI 0)) [0] (by have e1:(((rdC rest e most:Nat):Int):Int)=0:=(by (simp only [rdC];(rw [if_neg ‹_›];rfl)));have hE:=cI e1;exact hE) ⟨⟨rfl,(by have e1:(rest:List UInt8)=(rdR rest e 4 (Yq most (rest.take 4))):=(by (rw [Xhd ‹_›]));have hE:=congrArg (fun (q1:List UInt8)=>(.live (.box 195 [dU q1,dI (rdE rest e 4 (Yq most (rest.take 4)))]):HS)) e1;exact Eq.trans pZ4 hE)⟩,trivial⟩
theorem Xhc (rest:List UInt8) (e:Int) (hr:rest.length≤140737488355328):Holds Tryz.prog 107 ⟨[pv 0 0],[.box 195 [dU rest,dI e]],.tup [],[.live (.box 195 [dU rest,dI (rdX rest e)])]⟩:=by
 refine Holds.of Tryz.func107 rfl (N:=22) Tryz.ntmps107 rfl fun w0 B0 S0 U0=>?_
 show T _ (Y2 22 1 w0 S0 U0 B0) ⟨[pv 0 0],[.live (.box 195 [dU rest,dI e])]⟩ _ _
 by_cases hq1:e=0
 ·refine sR (Xl hY1 [3,4,5,6,7] (hP1 8::(Xl (hY · (dT hq1)) [10,11,12,13,14,15] (hP 16 (dT hq1)::[])))) ?_
  by_cases hq2:((rest.length:Nat):Int)>0
  ·refine cT (dT hq2) (xK [] ?_)
   exact tE (.inr rfl) [] trivial [0] rfl rfl rfl rfl rfl rfl ⟨⟨rfl,(by have e1:(13:Int)=(rdX rest e):=(by (simp only [rdX];rw [if_pos ⟨by assumption,by assumption⟩]));have hE:=congrArg (fun (q1:Int)=>(.live (.box 195 [dU rest,dI q1]):HS)) e1;exact Eq.trans pZ4 hE)⟩,trivial⟩
  refine cF (dF hq2) (T.skip ?_)
  exact tE (.inr rfl) [] trivial [0] rfl rfl rfl rfl rfl rfl ⟨⟨rfl,(by have e1:(e:Int)=(rdX rest e):=(by (simp only [rdX];rw [if_neg (fun h=>by exact absurd h.2 ‹_›)]));have hE:=congrArg (fun (q1:Int)=>(.live (.box 195 [dU rest,dI q1]):HS)) e1;exact Eq.trans pZ4 hE)⟩,trivial⟩
 refine sR (Xl hY1 [3,4,5,6,7] (hP1 8::(Xl (hN · true (dF hq1)) [10,11,12,13,14,15] (hP 16 (dF hq1)::[])))) (cF (b:=false) rfl (T.skip ?_))
 exact tE (.inr rfl) [] trivial [0] rfl rfl rfl rfl rfl rfl ⟨⟨rfl,(by have e1:(e:Int)=(rdX rest e):=(by (simp only [rdX];rw [if_neg (fun h=>by exact absurd h.1 ‹_›)]));have hE:=congrArg (fun (q1:Int)=>(.live (.box 195 [dU rest,dI q1]):HS)) e1;exact Eq.trans pZ4 hE)⟩,trivial⟩
theorem X94 (rest:List UInt8) (e:Int):Holds Tryz.prog 108 ⟨[pv 0 0],[.box 195 [dU rest,dI e]],vI e,[.live (.box 195 [dU rest,dI e])]⟩:=by
 refine Holds.of Tryz.func108 rfl (N:=9) Tryz.ntmps108 rfl fun w0 B0 S0 U0=>?_
 show T _ (Y2 9 1 w0 S0 U0 B0) ⟨[pv 0 0],[.live (.box 195 [dU rest,dI e])]⟩ _ _
 refine sR [] (T.seq (sR [] (cF (b:=false) rfl (T.skip (nT (sR [] (T.ret ?_)))))))
 exact eRt 2 (.one (dI e)) [0] rfl (ix trivial)
abbrev Z1w (rest:List UInt8) (e:Int) (most:Int):HS:=.live (.box 195 [dU (rdR rest e 4 (Yq most (rest.take 4))),dI (rdE rest e 4 (Yq most (rest.take 4)))])
theorem X1l (rest:List UInt8) (e:Int) (most:Int) (hr:rest.length≤140737488355328):Holds Tryz.prog 106 ⟨[pv 0 0,vI most],[.box 195 [dU rest,dI e]],Xx 1 kU8 0 (rdY rest e most).length,[.live (.box 195 [dU (U4 rest e most),dI (Va rest e most)]),.live (Xc 5 kU8 (rdY rest e most))]⟩:=by
 refine Holds.of Tryz.func106 rfl (N:=36) Tryz.ntmps106 rfl fun w0 B0 S0 U0=>?_
 show T _ (Y2 36 1 w0 S0 U0 B0) ⟨[pv 0 0,vI most],[.live (.box 195 [dU rest,dI e])]⟩ _ _
 have hrc:=rdC_lt rest e most
 have hrl:=Uh rest e 4 (Yq most (rest.take 4))
 refine sR [] (T.seq (sR [] (cF (b:=false) rfl (T.skip (nT (sR [] (sR [hR 2 rfl rfl (rCa (X95 rest e most ‹_›) Tryz.func147 [0] [(.tmp 14,pv 0 0),(.tmp 15,vI most)] 1 1)] (T.seq (sR [] ?_)))))))))
 by_cases hq1:(rdE rest e 4 (Yq most (rest.take 4)))≠0
 ·have hy:=rdY_fail hq1
  refine cT (dT hq1) (sR [] (T.ret (rT ?_)))
  refine eN ⟨[pv 0 0,vI most,aa,aa,dv (.slice none 0 0),slV false false kU8 rest,vI ((rdC rest e most:Nat):Int),aa,aa,vB false,aa,aa,aa,aa,aa,aa,aa,aa,aa,aa,aa,vB (decide ((rdE rest e 4 (Yq most (rest.take 4)))≠0))],[(Z1w rest e most)]⟩ ?_
  refine Xa (s':=⟨[pv 0 0,vI most,aa,aa,Xx 1 kU8 0 0,slV false false kU8 rest,vI ((rdC rest e most:Nat):Int),aa,aa,vB false,aa,aa,aa,aa,aa,aa,aa,aa,aa,aa,aa,vB (decide ((rdE rest e 4 (Yq most (rest.take 4)))≠0))],[(Z1w rest e most),.live (Xc 5 kU8 ([]:List UInt8))]⟩) (fun _ _ hG=>Vs 1 4 5 kU8 rfl rfl hG) ?_
  exact eRt 4 (.one (.own 1 kU8.sz 0 0)) [0,1] (by have e1:((rdY rest e most).length:Nat)=0:=(by (rw [hy.1];rfl));have hE:=congrArg (fun (q1:Nat)=>(Xx 1 kU8 0 q1:AV)) e1;exact hE) ⟨⟨rfl,(by have e1:((rdR rest e 4 (Yq most (rest.take 4))):List UInt8)=(U4 rest e most):=(by (rw [hy.2.1,hy.2.2.2]));have e2:((rdE rest e 4 (Yq most (rest.take 4))):Int)=(Va rest e most):=(by (rw [hy.2.2.1];done));have hE:=congr pZ10 e2;exact Eq.trans pZ4 hE)⟩,⟨⟨rfl,p2w⟩,trivial⟩⟩
 have hz:=Classical.not_not.1 hq1
 refine cF (dF hq1) (T.skip (nT ?_))
 by_cases hq2:okT (rdR rest e 4 (Yq most (rest.take 4))) (rdE rest e 4 (Yq most (rest.take 4))) ((rdC rest e most:Nat):Int) 0
 ·have hy:=rdY_ok hz hq2
  refine sR [hR 2 rfl rfl (rCa (X6f (rdR rest e 4 (Yq most (rest.take 4))) (rdE rest e 4 (Yq most (rest.take 4))) ((rdC rest e most:Nat):Int) (by omega) (by omega) ‹_›) Tryz.func144 [0] [(.tmp 22,pv 0 0),(.tmp 23,vI ((rdC rest e most:Nat):Int)),(.func 145,dv (.func (.func 145) #[] #[]))] 1 1)] (T.seq (sR [] (cF (b:=false) rfl (T.skip (nT ?_)))))
  refine sR [hR 1 rfl rfl (rCa (E4 false false ((rdR rest e 4 (Yq most (rest.take 4))).take ((rdC rest e most:Nat):Int).toNat) (by (simp [maxLen,-List.getD_eq_getElem?_getD]<;>omega))) Tryz.func51 [1] [(.tmp 34,slV false false kU8 ((rdR rest e 4 (Yq most (rest.take 4))).take ((rdC rest e most:Nat):Int).toNat))] 0 1)] ?_
  refine T.ret ?_
  exact eRt 4 (.one (.own 1 kU8.sz 0 ((rdR rest e 4 (Yq most (rest.take 4))).take ((rdC rest e most:Nat):Int).toNat).length)) [0,1] (by have e1:((rdY rest e most).length:Nat)=((rdR rest e 4 (Yq most (rest.take 4))).take ((rdC rest e most:Nat):Int).toNat).length:=(by (rw [hy.1];done));have hE:=congrArg (fun (q1:Nat)=>(Xx 1 kU8 0 q1:AV)) e1;exact hE) ⟨⟨rfl,(by have e1:(((rdR rest e 4 (Yq most (rest.take 4))).drop ((rdC rest e most:Nat):Int).toNat):List UInt8)=(U4 rest e most):=(by (rw [hy.2.1];done));have e2:(0:Int)=(Va rest e most):=(by (rw [hy.2.2];done));have hE:=congr pZ10 e2;exact Eq.trans pZ4 hE)⟩,⟨⟨rfl,(by have e1:(((rdR rest e 4 (Yq most (rest.take 4))).take ((rdC rest e most:Nat):Int).toNat):List UInt8)=(rdY rest e most):=(by (rw [hy.1];done));have hE:=congrArg (fun (q1:List UInt8)=>(.live (Xc 5 kU8 q1):HS)) e1;exact Eq.trans pZ4 hE)⟩,trivial⟩⟩
 have hy:=Xkl hz hq2
 refine sR [hR 2 rfl rfl (rCa (X6g (rdR rest e 4 (Yq most (rest.take 4))) (rdE rest e 4 (Yq most (rest.take 4))) ((rdC rest e most:Nat):Int) (by omega) (by omega) ‹_›) Tryz.func144 [0] [(.tmp 22,pv 0 0),(.tmp 23,vI ((rdC rest e most:Nat):Int)),(.func 145,dv (.func (.func 145) #[] #[]))] 1 1)] (T.seq (sR [] ?_))
 by_cases hq3:(rdE (rdR rest e 4 (Yq most (rest.take 4))) (rdE rest e 4 (Yq most (rest.take 4))) ((rdC rest e most:Nat):Int) 0)≠0
 ·refine cT (dT hq3) (xK [] (nT ?_))
  refine sR [hR 1 rfl rfl (rCn (E4 false false ([]:List UInt8) (by (simp [maxLen,-List.getD_eq_getElem?_getD]<;>omega))) Tryz.func51 [1] [(.tmp 34,dv (.slice none 0 0))] 0 1 ⟨.inr pZ8,trivial⟩ trivial)] ?_
  refine T.ret ?_
  exact eRt 4 (.one (.own 1 kU8.sz 0 ([]:List UInt8).length)) [0,1] (by have e1:((rdY rest e most).length:Nat)=([]:List UInt8).length:=(by (rw [hy.1];done));have hE:=congrArg (fun (q1:Nat)=>(Xx 1 kU8 0 q1:AV)) e1;exact hE) ⟨⟨rfl,(by have e1:(rest:List UInt8)=(U4 rest e most):=(by (rw [hy.2.1];done));have e2:((rdE (rdR rest e 4 (Yq most (rest.take 4))) (rdE rest e 4 (Yq most (rest.take 4))) ((rdC rest e most:Nat):Int) 0):Int)=(Va rest e most):=(by (rw [hy.2.2];done));have hE:=congr pZ10 e2;exact Eq.trans pZ4 hE)⟩,⟨⟨rfl,p2w⟩,trivial⟩⟩
 exact absurd (Xhe hq2) hq3
section
variable (B:List UInt8) (a:Nat) (m:Nat) (e:Int) (k:Nat)
abbrev Z1x:AV:=vI ((m:Nat):Int)
abbrev Z1y:List HS:=[.live (.box 156 [dU B,dI ((a:Nat):Int),dI e])]
abbrev Z1z:AV:=vB (decide (((m:Nat):Int)>(((B.length:Nat):Int)-((a:Nat):Int))))
abbrev Z20:List AV:=[pv 0 0,(Z1x m),aa,aa,dv (.int .u64 0),vB false,dv (.int .u64 ((V1 ((B.drop a).take k):Nat):Int)),vI ((k:Nat):Int),aa,aa,aa,aa,aa,aa,aa,aa,aa,aa,aa,(Z1z B a m)]
abbrev Z22:AV:=vI ((k+1:Nat):Int)
end
theorem X4q (B:List UInt8) (a:Nat) (e:Int) (m:Nat) (ha:a≤B.length) (hB:B.length≤140737488350000) (hm:m≤8):Holds Tryz.prog 136 ⟨[pv 0 0,vI ((m:Nat):Int)],[.box 156 [dU B,dI ((a:Nat):Int),dI e]],.tup [.one (.d (.val (.int .u64 ((rfN B a m:Nat):Int)))),.one (dB (decide (a+m≤B.length)))],[.live (.box 156 [dU B,dI ((a:Nat):Int),dI e])]⟩:=by
 refine Holds.of Tryz.func136 rfl (N:=42) Tryz.ntmps136 rfl fun w0 B0 S0 U0=>?_
 show T _ (Y2 42 1 w0 S0 U0 B0) ⟨[pv 0 0,(Z1x m)],(Z1y B a e)⟩ _ _
 refine sR [] (T.seq ?_)
 refine sD [[],[],[1],[1,2],[1,2,3],[1,2,3,4],[],[6],[6,7],[6,7,8],[1,2,3,4,5,6,7,8,9],[0,1,2,3,4,5,6,7,8,9,10]] [hR 10 rfl rfl (Yb (u1:=.int .i64 ((B.length:Nat):Int)) (u2:=.int .i64 ((a:Nat):Int)) (v:=.int .i64 (((B.length:Nat):Int)-((a:Nat):Int))) (Vy pZ9) (X2 rfl) trivial)] ?_
 by_cases hq1:((m:Nat):Int)>(((B.length:Nat):Int)-((a:Nat):Int))
 ·refine cT (dT hq1) (sR [] (T.ret (rT ?_)))
  exact eX [.t 4 (.one (.d (.val (.int .u64 0)))),.t 5 (.one (dB false))] ⟨⟨rfl,by kernel_rfl⟩,⟨⟨rfl,by kernel_rfl⟩,trivial⟩⟩ [0] (by have e1:(((rfN B a m:Nat):Int):Int)=0:=(by (simp only [rfN];rw [if_neg (by omega)];rfl));have e2:((decide (a+m≤B.length)):Bool)=false:=(by exact dF (by omega));have hE:=congr p4b e2;exact hE) (ix trivial)
 refine cF (dF hq1) (T.skip (nT (sR [] (T.seq (sR [] (T.block ?_))))))
 refine T.loop (ι:=Nat) (fun (k:Nat)=>⟨(Z20 B a m k),(Z1y B a e)⟩) (fun (k:Nat)=>(k≤m)) (fun (k:Nat)=>m-k) (0) (Nat.zero_le _) (fun _ _ hG=>Yu [0] (bm 20 524531) (t2:=[pv 0 0,(Z1x m),aa,aa,dv (.int .u64 0),vB false,dv (.int .u64 0),vI 0,aa,aa,aa,aa,aa,aa,aa,aa,aa,aa,aa,(Z1z B a m)]) (congrArg (fun (q1:Int)=>([pv 0 0,(Z1x m),aa,aa,dv (.int .u64 0),vB false,dv (.int .u64 q1),vI 0,aa,aa,aa,aa,aa,aa,aa,aa,aa,aa,aa,(Z1z B a m)]:List AV)) (by rfl)) rfl hG) ?_
 rintro k hk
 show T _ _ ⟨(Z20 B a m k),(Z1y B a e)⟩ _ _
 replace hk:k≤m:=hk
 have hk8:V1 ((B.drop a).take k)<18446744073709551616:=X1u (Nat.le_trans (List.length_take_le _ _) (by omega))
 refine T.seq (sR [] ?_)
 by_cases hq2:((k:Nat):Int)<((m:Nat):Int)
 ·have hk7:V1 ((B.drop a).take k)<72057594037927936:=Xf3 (Nat.le_trans (List.length_take_le _ _) (by omega));have hbt:=UInt8.toNat_lt (B.getD (a+k) 0)
  refine cT (dT hq2) (T.skip (nT (T.seq (T.block ?_))))
  refine xD [[],[0],[],[2],[2,3],[2,3,4],[],[6],[6,7],[6,7,8],[],[6,7,8,9,10],[2,3,4,5,6,7,8,9,10,11],[2,3,4,5,6,7,8,9,10,11,12],[2,3,4,5,6,7,8,9,10,11,12,13],[0,1,2,3,4,5,6,7,8,9,10,11,12,13,14],[0,1,2,3,4,5,6,7,8,9,10,11,12,13,14,15]] [hR 1 rfl rfl (Yb (u1:=.int .u64 ((V1 ((B.drop a).take k):Nat):Int)) (u2:=.int .u64 8) (v:=.int .u64 (((V1 ((B.drop a).take k))*2 ^ 8:Nat):Int)) (Ff (n:=8) rfl pn p3n) (X2 rfl) ⟨rfl,trivial⟩),hR 11 rfl rfl (Yb (u1:=.int .i64 ((a:Nat):Int)) (u2:=.int .i64 ((k:Nat):Int)) (v:=.int .i64 ((a+k:Nat):Int)) (Wb pZ9) (X2 rfl) trivial),hR 12 rfl rfl (Wi false false kU8 B (a+k) (k:=.i64) (i:=((a+k:Nat):Int)) Tryz.underlying25 Jh rfl rfl (by omega) (X2 rfl) trivial),hR 14 rfl rfl (Vb (u:=.int .u8 (((B.getD (a+k) 0).toNat:Nat):Int)) (v:=.int .u64 (((B.getD (a+k) 0).toNat:Nat):Int)) (Ha Tryz.underlying5 Tryz.underlying179 p3n) (X2 rfl) trivial),hR 15 rfl rfl (Yb (u1:=.int .u64 (((V1 ((B.drop a).take k))*2 ^ 8:Nat):Int)) (u2:=.int .u64 (((B.getD (a+k) 0).toNat:Nat):Int)) (v:=.int .u64 ((((V1 ((B.drop a).take k))*2 ^ 8) ||| (B.getD (a+k) 0).toNat:Nat):Int)) (b_orU (by omega) (by omega)) (X2 rfl) trivial)] pZ4 pZ4 pZ4 pZ4 pZ4 pZ4 ?_
  refine nB (nT (xK [hR 1 rfl rfl (Yb (u1:=.int .i64 ((k:Nat):Int)) (u2:=.int .i64 1) (v:=.int .i64 ((k+1:Nat):Int)) (Wb pZ9) (X2 rfl) ⟨rfl,trivial⟩)] ?_))
  refine nL (k+1) (show (k+1)≤m from (by omega)) (show (m-(k+1):Nat)<m-k from (by omega)) (fun _ _ hG=>Yu [0] (bm 20 524531) (t2:=[pv 0 0,(Z1x m),aa,aa,dv (.int .u64 0),vB false,dv (.int .u64 ((((V1 ((B.drop a).take k))*2 ^ 8) ||| (B.getD (a+k) 0).toNat:Nat):Int)),(Z22 k),aa,aa,aa,aa,aa,aa,aa,aa,aa,aa,aa,(Z1z B a m)]) (by have e1:(((V1 ((B.drop a).take (k+1)):Nat):Int):Int)=((((V1 ((B.drop a).take k))*2 ^ 8) ||| (B.getD (a+k) 0).toNat:Nat):Int):=(by (rw [Xhl (by omega)]));have hE:=congrArg (fun (q1:Int)=>([pv 0 0,(Z1x m),aa,aa,dv (.int .u64 0),vB false,dv (.int .u64 q1),(Z22 k),aa,aa,aa,aa,aa,aa,aa,aa,aa,aa,aa,(Z1z B a m)]:List AV)) e1;exact hE) rfl hG)
 refine cF (dF hq2) (T.exit (xT (xT (xH (nT (sR [] (T.ret ?_)))))))
 exact eX [.t 4 (.one (.d (.val (.int .u64 ((V1 ((B.drop a).take k):Nat):Int))))),.t 5 (.one (dB true))] ⟨⟨rfl,by kernel_rfl⟩,⟨⟨rfl,by kernel_rfl⟩,trivial⟩⟩ [0] (by have e1:(((rfN B a m:Nat):Int):Int)=((V1 ((B.drop a).take k):Nat):Int):=(by (have hke:k=m:=(by omega);subst hke;rw [Xcg (by omega)]));have e2:((decide (a+m≤B.length)):Bool)=true:=(by exact dT (by omega));have hE:=congr p4b e2;exact hE) (ix trivial)
theorem Xha (B:List UInt8) (a:Nat) (e:Int) (ha:a≤B.length) (hB:B.length≤140737488350000):Holds Tryz.prog 94 ⟨[pv 0 0],[.box 156 [dU B,dI ((a:Nat):Int),dI e]],vI (rdI (B.drop a) e),[.live (.box 156 [dU B,dI ((rfA B a e 8 0:Nat):Int),dI (rdE (B.drop a) e 8 0)])]⟩:=by
 refine Holds.of Tryz.func94 rfl (N:=29) Tryz.ntmps94 rfl fun w0 B0 S0 U0=>?_
 show T _ (Y2 29 1 w0 S0 U0 B0) ⟨[pv 0 0],[.live (.box 156 [dU B,dI ((a:Nat):Int),dI e])]⟩ _ _
 have hn8:=rfN_lt B a (m:=8) (by decide)
 refine sR [] (T.seq (sR [] ?_))
 by_cases hq1:e≠0
 ·have hr:=rf_e (B:=B) (a:=a) hq1 8 0
  refine cT (dT hq1) (sR [] (T.ret (rT ?_)))
  exact eRt 2 (.one (dI 0)) [0] p3o ⟨⟨rfl,(by have e1:(((a:Nat):Int):Int)=((rfA B a e 8 0:Nat):Int):=p4q;have e2:(e:Int)=(rdE (B.drop a) e 8 0):=p51;have hE:=congr p33 e2;exact Eq.trans pZ4 hE)⟩,trivial⟩
 refine cF (dF hq1) (T.skip (nT (sR [hR 1 rfl rfl (rCa (X4q B a e 8 ‹_› ‹_› (by omega)) Tryz.func136 [0] [(.tmp 11,pv 0 0),(.const (.int .i64 8),vI 8)] 1 1)] (T.seq (sR [] ?_)))))
 by_cases hq2:a+8≤B.length
 ·have hr:=rf_ok (n:=8) (k:=8) (m:=0) rfl ‹_› hq2 rfl
  refine cF (cn (dT hq2)) (T.skip (nT (sR [hR 4 rfl rfl (Yb (u1:=.int .i64 ((a:Nat):Int)) (u2:=.int .i64 8) (v:=.int .i64 ((a+8:Nat):Int)) (Wb pZ9) (X2 rfl) ⟨rfl,trivial⟩)] (sR [hR 1 rfl rfl (Vb (u:=.int .u64 ((rfN B a 8:Nat):Int)) (v:=.int .i64 (X0x (rfN B a 8))) (c_i64 ‹_› Tryz.underlying179 Tryz.underlying2) (X2 rfl) trivial)] (T.ret ?_)))))
  exact eRt 2 (.one (dI (X0x (rfN B a 8)))) [0] (by have e1:(rdI (B.drop a) e:Int)=X0x (rfN B a 8):=(by (simp only [rdI];(rw [if_pos hr.1,← Xcg ‹_›];done)));have hE:=cI e1;exact hE) ⟨⟨rfl,(by have e1:(((a+8:Nat):Int):Int)=((rfA B a e 8 0:Nat):Int):=(by (rw [X8s hr.1];rfl));have e2:(e:Int)=(rdE (B.drop a) e 8 0):=(by (rw [hr.2];omega));have hE:=congr p33 e2;exact Eq.trans pZ4 hE)⟩,trivial⟩
 have hr:=Xee (n:=8) (k:=8) rfl ‹_› hq2 ha 0
 refine cT (cn (dF hq2)) (sR [] (sR [] (T.ret (rT ?_))))
 exact eRt 2 (.one (dI 0)) [0] p3o ⟨⟨rfl,(by have e1:(((a:Nat):Int):Int)=((rfA B a e 8 0:Nat):Int):=p4q;have e2:(10:Int)=(rdE (B.drop a) e 8 0):=p51;have hE:=congr p33 e2;exact Eq.trans pZ4 hE)⟩,trivial⟩
abbrev Z24 (B:List UInt8):SV:=dU B
abbrev Z25:TV:=.one (dI 0)
theorem Xcn (B:List UInt8) (a:Nat) (e:Int) (most:Int) (ha:a≤B.length) (hB:B.length≤140737488350000):Holds Tryz.prog 137 ⟨[pv 0 0,vI most],[.box 156 [dU B,dI ((a:Nat):Int),dI e]],vI ((rdC (B.drop a) e most:Nat):Int),[.live (.box 156 [dU B,dI ((rfA B a e 4 (Yq most ((B.drop a).take 4)):Nat):Int),dI (rdE (B.drop a) e 4 (Yq most ((B.drop a).take 4)))])]⟩:=by
 refine Holds.of Tryz.func137 rfl (N:=39) Tryz.ntmps137 rfl fun w0 B0 S0 U0=>?_
 show T _ (Y2 39 1 w0 S0 U0 B0) ⟨[pv 0 0,vI most],[.live (.box 156 [(Z24 B),dI ((a:Nat):Int),dI e])]⟩ _ _
 have hn4:=rfN_lt4 B a
 refine sR [] (T.seq (sR [] ?_))
 by_cases hq1:e≠0
 ·have hr:=rf_e (B:=B) (a:=a) hq1 4 (Yq most ((B.drop a).take 4))
  refine cT (dT hq1) (sR [] (T.ret (rT ?_)))
  exact eRt 4 (Z25) [0] pZ22 ⟨⟨rfl,(by have e1:(((a:Nat):Int):Int)=((rfA B a e 4 (Yq most ((B.drop a).take 4)):Nat):Int):=p4q;have e2:(e:Int)=(rdE (B.drop a) e 4 (Yq most ((B.drop a).take 4))):=p51;have hE:=congr pZ26 e2;exact Eq.trans pZ4 hE)⟩,trivial⟩
 refine cF (dF hq1) (T.skip (nT (sR [hR 1 rfl rfl (rCa (X4q B a e 4 ‹_› ‹_› (by omega)) Tryz.func136 [0] [(.tmp 13,pv 0 0),(.const (.int .i64 4),vI 4)] 1 1)] (T.seq (sR [] ?_)))))
 by_cases hq2:a+4≤B.length
 ·refine cF (cn (dT hq2)) (T.skip (nT (T.seq (sR [hR 1 rfl rfl (Vb (u:=.int .u64 ((rfN B a 4:Nat):Int)) (v:=.int .i64 ((rfN B a 4:Nat):Int)) (Ha Tryz.underlying179 Tryz.underlying3 pZ9) (X2 rfl) trivial),hR 3 rfl rfl (X3h (k:=.i64) (a:=0) (b:=most) (X2 rfl) ⟨rfl,trivial⟩)] ?_))))
  by_cases hq3:((rfN B a 4:Nat):Int)>(max 0 most)
  ·have hr:=rf_m (n:=4) (k:=4) (c:=11) (m:=(Yq most ((B.drop a).take 4))) rfl ‹_› ‹_› (by rw [lim_of ‹_›,if_pos ‹_›]) (by decide)
   refine cT (dT hq3) (sR [] (sR [] (T.ret (rT ?_))))
   exact eRt 4 (Z25) [0] pZ22 ⟨⟨rfl,(by have e1:(((a:Nat):Int):Int)=((rfA B a e 4 (Yq most ((B.drop a).take 4)):Nat):Int):=p4q;have e2:(11:Int)=(rdE (B.drop a) e 4 (Yq most ((B.drop a).take 4))):=p51;have hE:=congr pZ26 e2;exact Eq.trans pZ4 hE)⟩,trivial⟩
  have hr:=rf_ok (n:=4) (k:=4) (m:=(Yq most ((B.drop a).take 4))) rfl ‹_› ‹_› (by rw [lim_of ‹_›,if_neg ‹_›])
  refine cF (dF hq3) (T.skip (nT (sR [hR 4 rfl rfl (Yb (u1:=.int .i64 ((a:Nat):Int)) (u2:=.int .i64 4) (v:=.int .i64 ((a+4:Nat):Int)) (Wb pZ9) (X2 rfl) ⟨rfl,trivial⟩)] (sR [hR 1 rfl rfl (Vb (u:=.int .u64 ((rfN B a 4:Nat):Int)) (v:=.int .i64 ((rfN B a 4:Nat):Int)) (Ha Tryz.underlying179 Tryz.underlying3 pZ9) (X2 rfl) trivial)] (T.ret ?_)))))
  exact eRt 4 (.one (dI ((rfN B a 4:Nat):Int))) [0] (by have e1:(((rdC (B.drop a) e most:Nat):Int):Int)=((rfN B a 4:Nat):Int):=(by (simp only [rdC];(rw [if_pos hr.1,← Xcg ‹_›];done)));have hE:=cI e1;exact hE) ⟨⟨rfl,(by have e1:(((a+4:Nat):Int):Int)=((rfA B a e 4 (Yq most ((B.drop a).take 4)):Nat):Int):=(by (rw [X8s hr.1];rfl));have e2:(e:Int)=(rdE (B.drop a) e 4 (Yq most ((B.drop a).take 4))):=(by (rw [hr.2];omega));have hE:=congr pZ26 e2;exact Eq.trans pZ4 hE)⟩,trivial⟩
 have hr:=Xee (n:=4) (k:=4) rfl ‹_› hq2 ha (Yq most ((B.drop a).take 4))
 refine cT (cn (dF hq2)) (sR [] (sR [] (T.ret (rT ?_))))
 exact eRt 4 (Z25) [0] pZ22 ⟨⟨rfl,(by have e1:(((a:Nat):Int):Int)=((rfA B a e 4 (Yq most ((B.drop a).take 4)):Nat):Int):=p4q;have e2:(10:Int)=(rdE (B.drop a) e 4 (Yq most ((B.drop a).take 4))):=p51;have hE:=congr pZ26 e2;exact Eq.trans pZ4 hE)⟩,trivial⟩
abbrev Z26 (a:Nat):SV:=dI ((a:Nat):Int)
theorem Xhb (B:List UInt8) (a:Nat) (e:Int) (ha:a≤B.length) (hB:B.length≤140737488350000):Holds Tryz.prog 96 ⟨[pv 0 0],[.box 156 [dU B,dI ((a:Nat):Int),dI e]],.tup [],[.live (.box 156 [dU B,dI ((a:Nat):Int),dI (rdX (B.drop a) e)])]⟩:=by
 refine Holds.of Tryz.func96 rfl (N:=22) Tryz.ntmps96 rfl fun w0 B0 S0 U0=>?_
 show T _ (Y2 22 1 w0 S0 U0 B0) ⟨[pv 0 0],[.live (.box 156 [dU B,(Z26 a),dI e])]⟩ _ _
 by_cases hq1:e=0
 ·refine sD [[],[0],[0,1],[0,1,2],[0,1,2,3],[0,1,2,3,4],[0,1,2,3,4,5],[0,1,2,3,4,5,6],[0,1,2,3,4,5,6,7],[0,1,2,3,4,5,6,7,8],[0,1,2,3,4,5],[0,1,2,3,4,5,10],[0,1,2,3,4,5,10,11],[0,1,2,3,4,5,10,11,12],[0,1,2,3,4,5,10,11,12,13],[0,1,2,3,4,5,6,7,8,9,10,11,12,13,14],[0,1,2,3,4,5,6,7,8,9,10,11,12,13,14,15]] (Xl (hY · (dT hq1)) [6,7,8,9,10,11,12,13,14,15] (hP 16 (dT hq1)::[])) ?_
  by_cases hq2:((a:Nat):Int)<((B.length:Nat):Int)
  ·refine cT (dT hq2) (xK [] ?_)
   exact tE (.inr rfl) [] trivial [0] rfl rfl rfl rfl rfl rfl ⟨⟨rfl,(by have e1:(13:Int)=(rdX (B.drop a) e):=(by (simp only [rdX,List.length_drop];rw [if_pos ⟨by assumption,by omega⟩]));have hE:=congrArg (fun (q1:Int)=>(.live (.box 156 [dU B,(Z26 a),dI q1]):HS)) e1;exact Eq.trans pZ4 hE)⟩,trivial⟩
  refine cF (dF hq2) (T.skip ?_)
  exact tE (.inr rfl) [] trivial [0] rfl rfl rfl rfl rfl rfl ⟨⟨rfl,(by have e1:(e:Int)=(rdX (B.drop a) e):=(by (simp only [rdX,List.length_drop];rw [if_neg (fun h=>by (have:=h.2;omega))]));have hE:=congrArg (fun (q1:Int)=>(.live (.box 156 [dU B,(Z26 a),dI q1]):HS)) e1;exact Eq.trans pZ4 hE)⟩,trivial⟩
 refine sD [[],[0],[0,1],[0,1,2],[0,1,2,3],[0,1,2,3,4],[0,1,2,3,4,5],[0,1,2,3,4,5,6],[0,1,2,3,4,5,6,7],[0,1,2,3,4,5,6,7,8],[0,1,2,3,4,5],[0,1,2,3,4,5,10],[0,1,2,3,4,5,10,11],[0,1,2,3,4,5,10,11,12],[0,1,2,3,4,5,10,11,12,13],[0,1,2,3,4,5,6,7,8,9,10,11,12,13,14],[0,1,2,3,4,5,6,7,8,9,10,11,12,13,14,15]] (Xl (hN · true (dF hq1)) [6,7,8,9,10,11,12,13,14,15] (hP 16 (dF hq1)::[])) (cF (b:=false) rfl (T.skip ?_))
 exact tE (.inr rfl) [] trivial [0] rfl rfl rfl rfl rfl rfl ⟨⟨rfl,(by have e1:(e:Int)=(rdX (B.drop a) e):=(by (simp only [rdX,List.length_drop];rw [if_neg (fun h=>by exact absurd h.1 ‹_›)]));have hE:=congrArg (fun (q1:Int)=>(.live (.box 156 [dU B,(Z26 a),dI q1]):HS)) e1;exact Eq.trans pZ4 hE)⟩,trivial⟩
section
variable (B:List UInt8) (a:Nat) (e:Int) (most:Int)
abbrev Z27:SV:=dU B
abbrev Z28:AV:=vI ((a:Nat):Int)
abbrev Z29:AV:=vI ((rdC (B.drop a) e most:Nat):Int)
abbrev Z2a:AV:=vB (decide (((rdC (B.drop a) e most:Nat):Int)>(((B.length:Nat):Int)-((rfA B a e 4 (Yq most ((B.drop a).take 4)):Nat):Int))))
abbrev Z2b:AV:=vB (decide ((rdE (B.drop a) e 4 (Yq most ((B.drop a).take 4)))≠0))
abbrev Z2c:HS:=.live (.box 156 [(Z27 B),dI ((rfA B a e 4 (Yq most ((B.drop a).take 4)):Nat):Int),dI (rdE (B.drop a) e 4 (Yq most ((B.drop a).take 4)))])
abbrev Z2d:=(rfA B a e 4 (Yq most ((B.drop a).take 4)))
end
theorem X4p (B:List UInt8) (a:Nat) (e:Int) (most:Int) (ha:a≤B.length) (hB:B.length≤140737488350000):Holds Tryz.prog 95 ⟨[pv 0 0,vI most],[.box 156 [dU B,dI ((a:Nat):Int),dI e]],Xx 1 kU8 0 (rdY (B.drop a) e most).length,[.live (.box 156 [dU B,dI ((Ht B a e most:Nat):Int),dI (Va (B.drop a) e most)]),.live (Xc 5 kU8 (rdY (B.drop a) e most))]⟩:=by
 refine Holds.of Tryz.func95 rfl (N:=72) Tryz.ntmps95 rfl fun w0 B0 S0 U0=>?_
 show T _ (Y2 72 1 w0 S0 U0 B0) ⟨[pv 0 0,vI most],[.live (.box 156 [(Z27 B),dI ((a:Nat):Int),dI e])]⟩ _ _
 have hrc:=rdC_lt (B.drop a) e most
 have hra:=rfA_le (B:=B) (a:=a) (e:=e) (n:=4) (m:=(Yq most ((B.drop a).take 4))) ha
 refine sR [] (sR [] (sR [hR 2 rfl rfl (rCa (Xcn B a e most ‹_› ‹_›) Tryz.func137 [0] [(.tmp 12,pv 0 0),(.tmp 13,vI most)] 1 1)] (T.seq ?_)))
 by_cases hq1:(rdE (B.drop a) e 4 (Yq most ((B.drop a).take 4)))=0
 ·refine sD [[],[0],[0,1],[0,1,2],[0,1,2,3],[0,1,2,3,4],[0,1,2,3,4,5],[0,1,2,3,4,5],[0,1,2,3,4,5,7],[0,1,2,3,4,5,7,8],[0,1,2,3,4,5,7,8,9],[0,1,2,3,4,5,7,8,9,10],[0,1,2,3,4,5],[0,1,2,3,4,5,12],[0,1,2,3,4,5,12,13],[0,1,2,3,4,5,12,13,14],[0,1,2,3,4,5,7,8,9,10,11,12,13,14,15],[0,1,2,3,4,5,6,7,8,9,10,11,12,13,14,15,16],[0,1,2,3,4,5,6,7,8,9,10,11,12,13,14,15,16,17]] (Xl (hY · (dT hq1)) [6,7,8,9,10,11,12,13,14,15] (hS 16 (oY rfl rfl rfl rfl (X2 rfl) (dT hq1) (Yb (u1:=.int .i64 ((B.length:Nat):Int)) (u2:=.int .i64 ((rfA B a e 4 (Yq most ((B.drop a).take 4)):Nat):Int)) (v:=.int .i64 (((B.length:Nat):Int)-((rfA B a e 4 (Yq most ((B.drop a).take 4)):Nat):Int))) (Vy pZ9) (X2 rfl) p1h))::(hY 17 (dT hq1)::(hP 18 (dT hq1)::[])))) ?_
  by_cases hq2:((rdC (B.drop a) e most:Nat):Int)>(((B.length:Nat):Int)-((rfA B a e 4 (Yq most ((B.drop a).take 4)):Nat):Int))
  ·have hy:=Xkh ‹_› hq2 ha
   refine cT (dT hq2) (sR [] (xK [] (nT (T.seq (sR [] (cT (b:=true) rfl (sR [] (T.ret (rT ?_)))))))))
   refine eN ⟨[pv 0 0,vI most,aa,aa,dv (.slice none 0 0),(Z28 a),(Z29 B a e most),aa,aa,aa,aa,aa,aa,aa,aa,aa,aa,aa,aa,aa,aa,aa,aa,aa,aa,aa,aa,aa,aa,aa,aa,aa,aa,(Z2a B a e most),aa,aa,aa,aa,aa,aa,aa,aa,aa,aa,aa,vB true],[.live (.box 156 [(Z27 B),dI ((a:Nat):Int),dI 10])]⟩ ?_
   refine Xa (s':=⟨[pv 0 0,vI most,aa,aa,Xx 1 kU8 0 0,(Z28 a),(Z29 B a e most),aa,aa,aa,aa,aa,aa,aa,aa,aa,aa,aa,aa,aa,aa,aa,aa,aa,aa,aa,aa,aa,aa,aa,aa,aa,aa,(Z2a B a e most),aa,aa,aa,aa,aa,aa,aa,aa,aa,aa,aa,vB true],[.live (.box 156 [(Z27 B),dI ((a:Nat):Int),dI 10]),.live (Xc 5 kU8 ([]:List UInt8))]⟩) (fun _ _ hG=>Vs 1 4 5 kU8 rfl rfl hG) ?_
   exact eRt 4 (.one (.own 1 kU8.sz 0 0)) [0,1] p39 ⟨⟨rfl,(by have e1:(((a:Nat):Int):Int)=((Ht B a e most:Nat):Int):=(by omega);have e2:(10:Int)=(Va (B.drop a) e most):=(by omega);have hE:=congr (congrArg (fun (q1:Int) (q2:Int)=>(.live (.box 156 [(Z27 B),dI q1,dI q2]):HS)) e1) e2;exact Eq.trans pZ4 hE)⟩,⟨⟨rfl,p2u⟩,trivial⟩⟩
  have hy:=rfY_ok ‹_› hq2 ha
  refine cF (dF hq2) (T.skip (nT (T.seq (sR [] ?_))))
  by_cases hq3:(rdE (B.drop a) e 4 (Yq most ((B.drop a).take 4)))≠0
  ·refine cT (dT hq3) (sR [] (T.ret (rT ?_)))
   refine eN ⟨[pv 0 0,vI most,aa,aa,dv (.slice none 0 0),(Z28 a),(Z29 B a e most),aa,aa,aa,aa,aa,aa,aa,aa,aa,aa,aa,aa,aa,aa,aa,aa,aa,aa,aa,aa,aa,aa,aa,aa,aa,aa,(Z2a B a e most),aa,aa,aa,aa,aa,aa,aa,aa,aa,aa,aa,(Z2b B a e most)],[(Z2c B a e most)]⟩ ?_
   refine Xa (s':=⟨[pv 0 0,vI most,aa,aa,Xx 1 kU8 0 0,(Z28 a),(Z29 B a e most),aa,aa,aa,aa,aa,aa,aa,aa,aa,aa,aa,aa,aa,aa,aa,aa,aa,aa,aa,aa,aa,aa,aa,aa,aa,aa,(Z2a B a e most),aa,aa,aa,aa,aa,aa,aa,aa,aa,aa,aa,(Z2b B a e most)],[(Z2c B a e most),.live (Xc 5 kU8 ([]:List UInt8))]⟩) (fun _ _ hG=>Vs 1 4 5 kU8 rfl rfl hG) ?_
   exact eRt 4 (.one (.own 1 kU8.sz 0 0)) [0,1] (congrArg (fun (q1:Nat)=>(Xx 1 kU8 0 q1:AV)) (show ((rdY (B.drop a) e most).length:Nat)=0 from (by omega))) ⟨⟨rfl,p1j⟩,⟨⟨rfl,(by have e1:(([]:List UInt8):List UInt8)=(rdY (B.drop a) e most):=(by omega);have hE:=congrArg (fun (q1:List UInt8)=>(.live (Xc 5 kU8 q1):HS)) e1;exact Eq.trans pZ4 hE)⟩,trivial⟩⟩
  refine cF (dF hq3) (T.skip (nT ?_))
  refine sD [[],[],[1],[1,2],[1,2,3],[],[5],[5,6],[5,6,7],[],[9],[9,10],[9,10,11],[],[9,10,11,12,13],[1,2,3,4,5,6,7,8,9,10,11,12,13,14],[0,1,2,3,4,5,6,7,8,9,10,11,12,13,14,15],[0,1,2,3,4,5,6,7,8,9,10,11,12,13,14,15,16]] [hR 0 rfl rfl (Y7 1 5 kU8 Vk ([]:List UInt8) [] (cs:=[]) Tryz.underlying25 Jh rfl Iu rfl rfl rfl pb W3 pZ4 (V2 pZ4) (X2 rfl) trivial),hR 14 rfl rfl (Yb (u1:=.int .i64 ((rfA B a e 4 (Yq most ((B.drop a).take 4)):Nat):Int)) (u2:=.int .i64 ((rdC (B.drop a) e most:Nat):Int)) (v:=.int .i64 (((rfA B a e 4 (Yq most ((B.drop a).take 4)))+(rdC (B.drop a) e most):Nat):Int)) (Wb pZ9) (X2 rfl) trivial),hR 15 rfl rfl (U1 false false kU8 B ((B.take ((rfA B a e 4 (Yq most ((B.drop a).take 4)))+(rdC (B.drop a) e most))).drop (rfA B a e 4 (Yq most ((B.drop a).take 4)))) (rfA B a e 4 (Yq most ((B.drop a).take 4))) ((rfA B a e 4 (Yq most ((B.drop a).take 4)))+(rdC (B.drop a) e most)) (lo:=some (.tmp 54,((rfA B a e 4 (Yq most ((B.drop a).take 4)):Nat):Int))) (hi:=some (.tmp 60,(((rfA B a e 4 (Yq most ((B.drop a).take 4)))+(rdC (B.drop a) e most):Nat):Int))) Tryz.underlying25 Jh rfl rfl rfl rfl rfl (by omega) (by omega) rfl (X2 rfl) trivial),hR 16 rfl rfl (Yv 1 2 5 1 kU8 Vk ([]:List UInt8) ((B.take ((rfA B a e 4 (Yq most ((B.drop a).take 4)))+(rdC (B.drop a) e most))).drop (rfA B a e 4 (Yq most ((B.drop a).take 4)))) ((B.take ((rfA B a e 4 (Yq most ((B.drop a).take 4)))+(rdC (B.drop a) e most))).drop (rfA B a e 4 (Yq most ((B.drop a).take 4)))) ([]:List UInt8).length (sy:=(dU ((B.take ((Z2d B a e most)+(rdC (B.drop a) e most))).drop (Z2d B a e most)))) (rhs:=[]) Jb (by omega) (Uv false false kU8 ((B.take ((rfA B a e 4 (Yq most ((B.drop a).take 4)))+(rdC (B.drop a) e most))).drop (rfA B a e 4 (Yq most ((B.drop a).take 4))))) (by simp) (by (simp [maxLen,-List.getD_eq_getElem?_getD]<;>omega)) (by (simp [maxLen,-List.getD_eq_getElem?_getD]<;>omega)) (X2 rfl) trivial)] ?_
  refine sR [hR 5 rfl rfl (Yb (u1:=.int .i64 ((rfA B a e 4 (Yq most ((B.drop a).take 4)):Nat):Int)) (u2:=.int .i64 ((rdC (B.drop a) e most:Nat):Int)) (v:=.int .i64 (((rfA B a e 4 (Yq most ((B.drop a).take 4)))+(rdC (B.drop a) e most):Nat):Int)) (Wb pZ9) (X2 rfl) trivial)] (sR [] (T.ret ?_))
  exact eRt 4 (.one (.own 2 kU8.sz 0 ((B.take ((Z2d B a e most)+(rdC (B.drop a) e most))).drop (Z2d B a e most)).length)) [0,2] (by have e1:((rdY (B.drop a) e most).length:Nat)=((B.take ((rfA B a e 4 (Yq most ((B.drop a).take 4)))+(rdC (B.drop a) e most))).drop (rfA B a e 4 (Yq most ((B.drop a).take 4)))).length:=(by (rw [hy.2.2.2.1,hy.1,hy.2.1];done));have hE:=congrArg (fun (q1:Nat)=>(Xx 2 kU8 0 q1:AV)) e1;exact hE) ⟨⟨rfl,p1f⟩,⟨⟨rfl,(by have e1:(((B.take ((rfA B a e 4 (Yq most ((B.drop a).take 4)))+(rdC (B.drop a) e most))).drop (rfA B a e 4 (Yq most ((B.drop a).take 4)))):List UInt8)=(rdY (B.drop a) e most):=(by (rw [hy.2.2.2.1,hy.1,hy.2.1];done));have hE:=congrArg (fun (q1:List UInt8)=>(.live (Xc 5 kU8 q1):HS)) e1;exact Eq.trans pZ4 hE)⟩,trivial⟩⟩
 have hy:=rfY_fail hq1
 refine sD [[],[0],[0,1],[0,1,2],[0,1,2,3],[0,1,2,3,4],[0,1,2,3,4,5],[0,1,2,3,4,5],[0,1,2,3,4,5,7],[0,1,2,3,4,5,7,8],[0,1,2,3,4,5,7,8,9],[0,1,2,3,4,5,7,8,9,10],[0,1,2,3,4,5],[0,1,2,3,4,5,12],[0,1,2,3,4,5,12,13],[0,1,2,3,4,5,12,13,14],[0,1,2,3,4,5,7,8,9,10,11,12,13,14,15],[0,1,2,3,4,5,6,7,8,9,10,11,12,13,14,15,16],[0,1,2,3,4,5,6,7,8,9,10,11,12,13,14,15,16,17]] (Xl (hN · true (dF hq1)) [6,7,8,9,10,11,12,13,14,15,16,17] (hP 18 (dF hq1)::[])) (cF (b:=false) rfl (T.skip (nT (T.seq (sR [] ?_)))))
 by_cases hq4:(rdE (B.drop a) e 4 (Yq most ((B.drop a).take 4)))≠0
 ·refine cT (dT hq4) (sR [] (T.ret (rT ?_)))
  refine eN ⟨[pv 0 0,vI most,aa,aa,dv (.slice none 0 0),(Z28 a),(Z29 B a e most),aa,aa,aa,aa,aa,aa,aa,aa,aa,aa,aa,aa,aa,aa,aa,aa,aa,aa,aa,aa,aa,aa,aa,aa,aa,aa,vB false,aa,aa,aa,aa,aa,aa,aa,aa,aa,aa,aa,(Z2b B a e most)],[(Z2c B a e most)]⟩ ?_
  refine Xa (s':=⟨[pv 0 0,vI most,aa,aa,Xx 1 kU8 0 0,(Z28 a),(Z29 B a e most),aa,aa,aa,aa,aa,aa,aa,aa,aa,aa,aa,aa,aa,aa,aa,aa,aa,aa,aa,aa,aa,aa,aa,aa,aa,aa,vB false,aa,aa,aa,aa,aa,aa,aa,aa,aa,aa,aa,(Z2b B a e most)],[(Z2c B a e most),.live (Xc 5 kU8 ([]:List UInt8))]⟩) (fun _ _ hG=>Vs 1 4 5 kU8 rfl rfl hG) ?_
  exact eRt 4 (.one (.own 1 kU8.sz 0 0)) [0,1] p39 ⟨⟨rfl,p1j⟩,⟨⟨rfl,p2u⟩,trivial⟩⟩
 refine cF (dF hq4) (T.skip (nT ?_))
 refine sD [[],[],[1],[1,2],[1,2,3],[],[5],[5,6],[5,6,7],[],[9],[9,10],[9,10,11],[],[9,10,11,12,13],[1,2,3,4,5,6,7,8,9,10,11,12,13,14],[0,1,2,3,4,5,6,7,8,9,10,11,12,13,14,15],[0,1,2,3,4,5,6,7,8,9,10,11,12,13,14,15,16]] [hR 0 rfl rfl (Y7 1 5 kU8 Vk ([]:List UInt8) [] (cs:=[]) Tryz.underlying25 Jh rfl Iu rfl rfl rfl pb W3 pZ4 (V2 pZ4) (X2 rfl) trivial),hR 14 rfl rfl (Yb (u1:=.int .i64 ((rfA B a e 4 (Yq most ((B.drop a).take 4)):Nat):Int)) (u2:=.int .i64 ((rdC (B.drop a) e most:Nat):Int)) (v:=.int .i64 (((rfA B a e 4 (Yq most ((B.drop a).take 4)))+(rdC (B.drop a) e most):Nat):Int)) (Wb pZ9) (X2 rfl) trivial),hR 15 rfl rfl (U1 false false kU8 B ((B.take ((rfA B a e 4 (Yq most ((B.drop a).take 4)))+(rdC (B.drop a) e most))).drop (rfA B a e 4 (Yq most ((B.drop a).take 4)))) (rfA B a e 4 (Yq most ((B.drop a).take 4))) ((rfA B a e 4 (Yq most ((B.drop a).take 4)))+(rdC (B.drop a) e most)) (lo:=some (.tmp 54,((rfA B a e 4 (Yq most ((B.drop a).take 4)):Nat):Int))) (hi:=some (.tmp 60,(((rfA B a e 4 (Yq most ((B.drop a).take 4)))+(rdC (B.drop a) e most):Nat):Int))) Tryz.underlying25 Jh rfl rfl rfl rfl rfl (by omega) (by omega) rfl (X2 rfl) trivial),hR 16 rfl rfl (Yv 1 2 5 1 kU8 Vk ([]:List UInt8) ((B.take ((rfA B a e 4 (Yq most ((B.drop a).take 4)))+(rdC (B.drop a) e most))).drop (rfA B a e 4 (Yq most ((B.drop a).take 4)))) ((B.take ((rfA B a e 4 (Yq most ((B.drop a).take 4)))+(rdC (B.drop a) e most))).drop (rfA B a e 4 (Yq most ((B.drop a).take 4)))) ([]:List UInt8).length (sy:=(dU ((B.take ((Z2d B a e most)+(rdC (B.drop a) e most))).drop (Z2d B a e most)))) (rhs:=[]) Jb (by omega) (Uv false false kU8 ((B.take ((rfA B a e 4 (Yq most ((B.drop a).take 4)))+(rdC (B.drop a) e most))).drop (rfA B a e 4 (Yq most ((B.drop a).take 4))))) (by simp) (by omega) (by omega) (X2 rfl) trivial)] ?_
 refine sR [hR 5 rfl rfl (Yb (u1:=.int .i64 ((rfA B a e 4 (Yq most ((B.drop a).take 4)):Nat):Int)) (u2:=.int .i64 ((rdC (B.drop a) e most:Nat):Int)) (v:=.int .i64 (((rfA B a e 4 (Yq most ((B.drop a).take 4)))+(rdC (B.drop a) e most):Nat):Int)) (Wb pZ9) (X2 rfl) trivial)] (sR [] (T.ret ?_))
 exact eRt 4 (.one (.own 2 kU8.sz 0 ((B.take ((Z2d B a e most)+(rdC (B.drop a) e most))).drop (Z2d B a e most)).length)) [0,2] (congrArg (fun (q1:Nat)=>(Xx 2 kU8 0 q1:AV)) (show ((rdY (B.drop a) e most).length:Nat)=((B.take ((rfA B a e 4 (Yq most ((B.drop a).take 4)))+(rdC (B.drop a) e most))).drop (rfA B a e 4 (Yq most ((B.drop a).take 4)))).length from (by omega))) ⟨⟨rfl,p1f⟩,⟨⟨rfl,(by have e1:(((B.take ((rfA B a e 4 (Yq most ((B.drop a).take 4)))+(rdC (B.drop a) e most))).drop (rfA B a e 4 (Yq most ((B.drop a).take 4)))):List UInt8)=(rdY (B.drop a) e most):=(by omega);have hE:=congrArg (fun (q1:List UInt8)=>(.live (Xc 5 kU8 q1):HS)) e1;exact Eq.trans pZ4 hE)⟩,trivial⟩⟩
section
variable (t:UInt8) (tl:Bool) (nl:Bool) (sl_:Bool) (l:List (List UInt8)) (k:Nat) (k2:Nat)
abbrev Z2e:AV:=dv (.int .u8 ((t.toNat:Nat):Int))
abbrev Z2f:AV:=slV tl nl (kSl sl_ kU8) l
abbrev Z2g:AV:=vI ((l.length:Nat):Int)
abbrev Z2h:St:=⟨[(Z2e t),(Z2f tl nl sl_ l),aa,aa,dv (Yn []),vI ((szP (l.take k):Nat):Int),aa,aa,aa,aa,aa,(Z2f tl nl sl_ l),(Z2g l),vI ((k:Nat):Int)],[]⟩
abbrev Z2j:AV:=vI ((k+1:Nat):Int)
abbrev Z2l:St:=⟨[(Z2e t),(Z2f tl nl sl_ l),aa,aa,aa,aa,aa,aa,Xx 0 kU8 0 (ofR t l.length (l.take k2)).length,aa,aa,(Z2f tl nl sl_ l),(Z2g l),aa,aa,aa,aa,aa,aa,aa,aa,aa,aa,aa,aa,aa,aa,aa,aa,aa,aa,aa,(Z2f tl nl sl_ l),(Z2g l),vI ((k2:Nat):Int)],[.live (Xc 5 kU8 (ofR t l.length (l.take k2)))]⟩
abbrev Z2m:AV:=vI ((k2+1:Nat):Int)
end
theorem X4b (t:UInt8) (tl:Bool) (nl:Bool) (sl_:Bool) (l:List (List UInt8)) (hs:szP l≤140737488354000):Holds Tryz.prog 84 ⟨[dv (.int .u8 ((t.toNat:Nat):Int)),slV tl nl (kSl sl_ kU8) l],[],dv (Yn (ofB t l)),[]⟩:=by
 refine Holds.of Tryz.func84 rfl (N:=44) Tryz.ntmps84 rfl fun w0 B0 S0 U0=>?_
 show T _ (Y2 44 0 w0 S0 U0 B0) ⟨[(Z2e t),(Z2f tl nl sl_ l)],[]⟩ _ _
 have hcn:=X2n l
 have hcl:=U9 ((l.length:Nat):Int)
 have hall:=Ei t l
 refine sR [] (sR [] (T.seq (sR [] (T.block ?_))))
 refine T.loop (ι:=Nat) (fun (k:Nat)=>(Z2h t tl nl sl_ l k)) (fun (k:Nat)=>(k≤l.length)) (fun (k:Nat)=>l.length-k) (0) (Nat.zero_le _) (fun _ _ hG=>Yu [] (bm 14 14387) (t2:=[(Z2e t),(Z2f tl nl sl_ l),aa,aa,dv (Yn []),vI 5,aa,aa,aa,aa,aa,(Z2f tl nl sl_ l),(Z2g l),vI 0]) (congrArg (fun (q1:Int)=>([(Z2e t),(Z2f tl nl sl_ l),aa,aa,dv (Yn []),vI q1,aa,aa,aa,aa,aa,(Z2f tl nl sl_ l),(Z2g l),vI 0]:List AV)) (by rfl)) rfl hG) ?_
 rintro k hk
 show T _ _ (Z2h t tl nl sl_ l k) _ _
 replace hk:k≤l.length:=hk
 have hsz0:=X00 l k
 refine sR [] (T.seq ?_)
 by_cases hq1:((k:Nat):Int)<((l.length:Nat):Int)
 ·have hkl:k<l.length:=(by omega);have hsk:=X4c hkl;have hst:=X00 l (k+1)
  refine cT (dT hq1) (T.skip (nT (T.seq (T.block (sR [hR 0 rfl rfl (Wi tl nl (kSl sl_ kU8) l k (k:=.i64) (i:=((k:Nat):Int)) Tryz.underlying136 Vw rfl rfl ‹_› (X2 rfl) trivial)] ?_)))))
  refine xR [hR 3 rfl rfl (Yb (u1:=.int .i64 4) (u2:=.int .i64 (((l.getD k []).length:Nat):Int)) (v:=.int .i64 ((4+(l.getD k []).length:Nat):Int)) (Wb pZ9) (X2 rfl) ⟨rfl,trivial⟩),hR 4 rfl rfl (Yb (u1:=.int .i64 ((szP (l.take k):Nat):Int)) (u2:=.int .i64 ((4+(l.getD k []).length:Nat):Int)) (v:=.int .i64 (((szP (l.take k))+(4+(l.getD k []).length):Nat):Int)) (Wb pZ9) (X2 rfl) trivial)] pZ4 pZ4 (nB (nT (xK [hR 0 rfl rfl (Yb (u1:=.int .i64 ((k:Nat):Int)) (u2:=.int .i64 1) (v:=.int .i64 ((k+1:Nat):Int)) (Wb pZ9) (X2 rfl) ⟨rfl,trivial⟩)] ?_)))
  refine nL (k+1) (show (k+1)≤l.length from (by omega)) (show (l.length-(k+1):Nat)<l.length-k from (by omega)) (fun _ _ hG=>Yu [] (bm 14 14387) (t2:=[(Z2e t),(Z2f tl nl sl_ l),aa,aa,dv (Yn []),vI (((szP (l.take k))+(4+(l.getD k []).length):Nat):Int),aa,aa,aa,aa,aa,(Z2f tl nl sl_ l),(Z2g l),(Z2j k)]) (by have e1:(((szP (l.take (k+1)):Nat):Int):Int)=(((szP (l.take k))+(4+(l.getD k []).length):Nat):Int):=(by (rw [X4c hkl]));have hE:=congrArg (fun (q1:Int)=>([(Z2e t),(Z2f tl nl sl_ l),aa,aa,dv (Yn []),vI q1,aa,aa,aa,aa,aa,(Z2f tl nl sl_ l),(Z2g l),(Z2j k)]:List AV)) e1;exact hE) rfl hG)
 refine cF (dF hq1) (T.exit (xT (xT (xH (nT ?_)))))
 refine sR [hR 1 rfl rfl (q_make 0 5 1 kU8 ([]:List UInt8) 0 (szP (l.take k)) (p:=0) (q:=((szP (l.take k):Nat):Int)) Jb Iu rfl rfl (by omega) (by omega) (by (unfold maxLen;omega)) (by intro j hj;replace hj:j<1:=hj;rcases j with _|j<;>first|rfl|omega) (by simp) (X2 rfl) ⟨rfl,trivial⟩),hR 3 rfl rfl (Y7 1 5 kU8 Vk [t] [⟨0,.tmp 25,.one (.d (.val (.int .u8 ((t.toNat:Nat):Int)))),0⟩] (cs:=[.d (.val (.int .u8 ((t.toNat:Nat):Int)))]) Tryz.underlying25 Jh rfl Iu rfl rfl rfl pb (Ym rfl rfl pb W3) pZ4 (V2 pZ4) (X2 rfl) trivial),hR 4 rfl rfl (Yv 0 2 5 1 kU8 Vk ([]:List UInt8) [t] [t] ([]:List UInt8).length (sy:=(.own 1 kU8.sz 0 [t].length)) (rhs:=[(1,.live (Xc 5 kU8 [t]))]) Jb (by omega) (V0 1 5 kU8 [t]) (by simp) (by (simp [maxLen,-List.getD_eq_getElem?_getD]<;>omega)) (by (simp [maxLen,-List.getD_eq_getElem?_getD]<;>omega)) (X2 rfl) trivial)] ?_
 refine sR [hR 3 rfl rfl (Wt (X3a true false [t] ((l.length:Nat):Int) (by (simp [maxLen,-List.getD_eq_getElem?_getD]<;>omega))) Tryz.func131 rfl (by decide) [3] [2] (l:=[(.tmp 28,Xx 2 kU8 0 [t].length),(.tmp 30,(Z2g l))]) [(2,.live (Xc 5 kU8 [t]))] rfl 0 1 rfl rfl rfl rfl rfl rfl rfl rfl rfl ⟨.inr (.inl ⟨rfl,pZs,rfl,rfl,by simp,5,[t].length,W5 kU8 [t],List.Mem.head _,pf,fun i j=>by rw [Nat.zero_add]⟩),⟨.inl ⟨rfl,rfl⟩,trivial⟩⟩ rfl pZ3 ph (X2 rfl) trivial)] ?_
 refine T.seq (sR [] (T.block ?_))
 refine T.loop (ι:=Nat) (fun (k2:Nat)=>(Z2l t tl nl sl_ l k2)) (fun (k2:Nat)=>(k2≤l.length)) (fun (k2:Nat)=>l.length-k2) (0) (Nat.zero_le _) (fun _ _ hG=>Wf [3] (bm 35 30064777475) (t1:=[(Z2e t),(Z2f tl nl sl_ l),aa,aa,aa,aa,aa,aa,Xx 3 kU8 0 (ofR t l.length (l.take 0)).length,aa,aa,(Z2f tl nl sl_ l),(Z2g l),aa,aa,aa,aa,aa,aa,aa,aa,aa,aa,aa,aa,aa,aa,aa,aa,aa,aa,aa,(Z2f tl nl sl_ l),(Z2g l),vI 0]) (t2:=[(Z2e t),(Z2f tl nl sl_ l),aa,aa,aa,aa,aa,aa,Xx 3 kU8 0 ([t]++V3 ((l.length:Nat):Int)).length,aa,aa,(Z2f tl nl sl_ l),(Z2g l),aa,aa,aa,aa,aa,aa,aa,aa,aa,aa,aa,aa,aa,aa,aa,aa,aa,aa,aa,(Z2f tl nl sl_ l),(Z2g l),vI 0]) (h1:=[.live (Xc 5 kU8 (ofR t l.length (l.take 0)))]) (h2:=[.live (Xc 5 kU8 ([t]++V3 ((l.length:Nat):Int)))]) (congrArg (fun (q1:Nat)=>([(Z2e t),(Z2f tl nl sl_ l),aa,aa,aa,aa,aa,aa,Xx 3 kU8 0 q1,aa,aa,(Z2f tl nl sl_ l),(Z2g l),aa,aa,aa,aa,aa,aa,aa,aa,aa,aa,aa,aa,aa,aa,aa,aa,aa,aa,aa,(Z2f tl nl sl_ l),(Z2g l),vI 0]:List AV)) (by rfl)) p1v hG) ?_
 rintro k2 hk2
 show T _ _ (Z2l t tl nl sl_ l k2) _ _
 replace hk2:k2≤l.length:=hk2
 have hol:=Xcy t l.length (l.take k2)
 have hsz0:=X00 l k2
 refine sR [] (T.seq ?_)
 by_cases hq2:((k2:Nat):Int)<((l.length:Nat):Int)
 ·have hkl:k2<l.length:=(by omega);have hsk:=X4c hkl;have hst:=X00 l (k2+1)
  refine cT (dT hq2) (T.skip (nT (T.seq (T.block (sR [hR 0 rfl rfl (Wi tl nl (kSl sl_ kU8) l k2 (k:=.i64) (i:=((k2:Nat):Int)) Tryz.underlying136 Vw rfl rfl ‹_› (X2 rfl) trivial)] ?_)))))
  refine xK [hR 2 rfl rfl (Wt (X3b true false (ofR t l.length (l.take k2)) sl_ false (l.getD k2 []) (by omega)) Tryz.func132 rfl (by decide) [1] [0] (l:=[(.tmp 38,Xx 0 kU8 0 (ofR t l.length (l.take k2)).length),(.tmp 39,slV sl_ false kU8 (l.getD k2 []))]) [(0,.live (Xc 5 kU8 (ofR t l.length (l.take k2))))] rfl 0 1 rfl rfl rfl rfl rfl rfl rfl rfl rfl ⟨.inr (.inl ⟨rfl,pZs,rfl,rfl,by simp,5,(ofR t l.length (l.take k2)).length,W5 kU8 (ofR t l.length (l.take k2)),List.Mem.head _,pf,fun i j=>by rw [Nat.zero_add]⟩),⟨.inl ⟨rfl,rfl⟩,trivial⟩⟩ rfl pZ3 ph (X2 rfl) trivial)] (nB (nT ?_))
  refine xK [hR 0 rfl rfl (Yb (u1:=.int .i64 ((k2:Nat):Int)) (u2:=.int .i64 1) (v:=.int .i64 ((k2+1:Nat):Int)) (Wb pZ9) (X2 rfl) ⟨rfl,trivial⟩)] ?_
  refine nL (k2+1) (show (k2+1)≤l.length from (by omega)) (show (l.length-(k2+1):Nat)<l.length-k2 from (by omega)) (fun _ _ hG=>Wf [1] (bm 35 30064777475) (t1:=[(Z2e t),(Z2f tl nl sl_ l),aa,aa,aa,aa,aa,aa,Xx 1 kU8 0 (ofR t l.length (l.take (k2+1))).length,aa,aa,(Z2f tl nl sl_ l),(Z2g l),aa,aa,aa,aa,aa,aa,aa,aa,aa,aa,aa,aa,aa,aa,aa,aa,aa,aa,aa,(Z2f tl nl sl_ l),(Z2g l),(Z2m k2)]) (t2:=[(Z2e t),(Z2f tl nl sl_ l),aa,aa,aa,aa,aa,aa,Xx 1 kU8 0 ((ofR t l.length (l.take k2))++Yo (l.getD k2 [])).length,aa,aa,(Z2f tl nl sl_ l),(Z2g l),aa,aa,aa,aa,aa,aa,aa,aa,aa,aa,aa,aa,aa,aa,aa,aa,aa,aa,aa,(Z2f tl nl sl_ l),(Z2g l),(Z2m k2)]) (h1:=[.live (Xc 5 kU8 (ofR t l.length (l.take (k2+1))))]) (h2:=[.live (Xc 5 kU8 ((ofR t l.length (l.take k2))++Yo (l.getD k2 [])))]) (by have e1:((ofR t l.length (l.take (k2+1))).length:Nat)=((ofR t l.length (l.take k2))++Yo (l.getD k2 [])).length:=(by (rw [X4t hkl]));have hE:=congrArg (fun (q1:Nat)=>([(Z2e t),(Z2f tl nl sl_ l),aa,aa,aa,aa,aa,aa,Xx 1 kU8 0 q1,aa,aa,(Z2f tl nl sl_ l),(Z2g l),aa,aa,aa,aa,aa,aa,aa,aa,aa,aa,aa,aa,aa,aa,aa,aa,aa,aa,aa,(Z2f tl nl sl_ l),(Z2g l),(Z2m k2)]:List AV)) e1;exact hE) (by have e1:((ofR t l.length (l.take (k2+1))):List UInt8)=(ofR t l.length (l.take k2))++Yo (l.getD k2 []):=(by (rw [X4t hkl]));have hE:=congrArg (fun (q1:List UInt8)=>([.live (Xc 5 kU8 q1)]:List HS)) e1;exact hE) hG)
 refine cF (dF hq2) (T.exit (xT (xT (xH (nT (sR [hR 1 rfl rfl (Fj () (ofR t l.length (l.take k2)) (ys:=(.own 0 kU8.sz 0 (ofR t l.length (l.take k2)).length)) (rhs:=[(0,.live (Xc 5 kU8 (ofR t l.length (l.take k2))))]) Tryz.underlying25 Tryz.underlying5 Tryz.underlying60 (V0 0 5 kU8 (ofR t l.length (l.take k2))) (X2 rfl) trivial)] (T.ret ?_)))))))
 exact eRt 4 (.one (dS (ofR t l.length (l.take k2)))) [] (by have e1:((ofB t l):List UInt8)=(ofR t l.length (l.take k2)):=(by (have hke:k2=l.length:=(by omega);rw [hke,Xj5]));have hE:=congrArg (fun (q1:List UInt8)=>(dv (Yn q1):AV)) e1;exact hE) trivial
theorem E8:Zero Tryz.prog 25 [.slice none 0 0]:=⟨_,_,Vw,rfl,rfl⟩
theorem X5q (t:UInt8) (tb:Bool) (nb:Bool) (b:List UInt8) (hb:b.length≤140737488350000):Holds Tryz.prog 118 ⟨[dv (.int .u8 ((t.toNat:Nat):Int)),slV tb nb kU8 b],[],dv (Yn (ofB t [b])),[]⟩:=by
 refine Holds.of Tryz.func118 rfl (N:=9) Tryz.ntmps118 rfl fun w0 B0 S0 U0=>?_
 show T _ (Y2 9 0 w0 S0 U0 B0) ⟨[dv (.int .u8 ((t.toNat:Nat):Int)),slV tb nb kU8 b],[]⟩ _ _
 have hs1:szP [b]=5+(4+b.length):=rfl
 refine sR [] ?_
 refine sR [hR 2 rfl rfl (Y7 0 25 (kSl tb kU8) (X23 tb kU8) [b] [⟨0,.tmp 6,.one (.d (dsl tb nb kU8 b)),0⟩] (cs:=[.d (dsl tb nb kU8 b)]) Tryz.underlying136 Vw rfl E8 rfl rfl rfl pb (Ym rfl rfl pb W3) pZ4 ⟨pZ20,trivial⟩ (X2 rfl) trivial),hR 3 rfl rfl (Wt (X4b t true false tb [b] (by omega)) Tryz.func84 rfl (by decide) [] [0] (l:=[(.tmp 5,dv (.int .u8 ((t.toNat:Nat):Int))),(.tmp 7,Xx 0 (kSl false kU8) 0 [b].length)]) [(0,.live (Xc 25 (kSl tb kU8) [b]))] rfl 0 0 rfl rfl rfl rfl rfl rfl rfl rfl rfl ⟨.inl ⟨rfl,rfl⟩,⟨.inr (.inl ⟨rfl,pZs,rfl,rfl,by simp,25,[b].length,W5 (kSl tb kU8) [b],List.Mem.head _,pf,fun i j=>by rw [Nat.zero_add]⟩),trivial⟩⟩ rfl pZ3 p2o (X2 rfl) trivial)] ?_
 refine T.ret ?_
 exact eRt 4 (.one (dS (ofB t [b]))) [] rfl trivial
theorem X5p (t:UInt8) (a:List UInt8) (b:List UInt8) (hb:a.length+b.length≤140737488350000):Holds Tryz.prog 142 ⟨[dv (.int .u8 ((t.toNat:Nat):Int)),dv (Yn a),dv (Yn b)],[],dv (Yn (ofB t [a,b])),[]⟩:=by
 refine Holds.of Tryz.func142 rfl (N:=14) Tryz.ntmps142 rfl fun w0 B0 S0 U0=>?_
 show T _ (Y2 14 0 w0 S0 U0 B0) ⟨[dv (.int .u8 ((t.toNat:Nat):Int)),dv (Yn a),dv (Yn b)],[]⟩ _ _
 have hs1:szP [a,b]=5+(4+a.length)+(4+b.length):=rfl
 refine sR [] ?_
 refine sR [hR 2 rfl rfl (I4 (l:=a) Tryz.underlying60 Tryz.underlying25 Tryz.underlying5 (X2 rfl) trivial),hR 4 rfl rfl (I4 (l:=b) Tryz.underlying60 Tryz.underlying25 Tryz.underlying5 (X2 rfl) trivial),hR 5 rfl rfl (Y7 0 25 (kSl false kU8) (X23 false kU8) [a,b] [⟨0,.tmp 9,.one (.d (dsl false true kU8 a)),0⟩,⟨1,.tmp 11,.one (.d (dsl false true kU8 b)),1⟩] (cs:=[.d (dsl false true kU8 a),.d (dsl false true kU8 b)]) Tryz.underlying136 Vw rfl E8 rfl rfl rfl pb (Ym rfl rfl pb (Ym rfl rfl pb W3)) pZ4 ⟨pZ20,⟨pZ20,trivial⟩⟩ (X2 rfl) trivial),hR 6 rfl rfl (Wt (X4b t true false false [a,b] (by omega)) Tryz.func84 rfl (by decide) [] [0] (l:=[(.tmp 7,dv (.int .u8 ((t.toNat:Nat):Int))),(.tmp 12,Xx 0 (kSl false kU8) 0 [a,b].length)]) [(0,.live (Xc 25 (kSl false kU8) [a,b]))] rfl 0 0 rfl rfl rfl rfl rfl rfl rfl rfl rfl ⟨.inl ⟨rfl,rfl⟩,⟨.inr (.inl ⟨rfl,pZs,rfl,rfl,by simp,25,[a,b].length,W5 (kSl false kU8) [a,b],List.Mem.head _,pf,fun i j=>by rw [Nat.zero_add]⟩),trivial⟩⟩ rfl pZ3 p2o (X2 rfl) trivial)] ?_
 refine T.ret ?_
 exact eRt 6 (.one (dS (ofB t [a,b]))) [] rfl trivial
abbrev Z2n (t:UInt8):AV:=dv (.int .u8 ((t.toNat:Nat):Int))
abbrev Z2o (t:UInt8) (l:List (List UInt8)) (k:Nat):=(ofR t l.length (l.take k))
abbrev Z2p (k:Nat):AV:=vI ((k+1:Nat):Int)
theorem X1j (t:UInt8) (tl:Bool) (nl:Bool) (sl_:Bool) (l:List (List UInt8)) (hs:szP l≤140737488354000):Holds Tryz.prog 71 ⟨[dv (.int .u8 ((t.toNat:Nat):Int)),slV tl nl (kSl sl_ kU8) l],[],dv (Yn (ofB t l)),[]⟩:=by
 refine Holds.of Tryz.func71 rfl (N:=26) Tryz.ntmps71 rfl fun w0 B0 S0 U0=>?_
 show T _ (Y2 26 0 w0 S0 U0 B0) ⟨[(Z2n t),slV tl nl (kSl sl_ kU8) l],[]⟩ _ _
 have hcn:=X2n l
 have hcl:=U9 ((l.length:Nat):Int)
 have hall:=Ei t l
 refine sR [] ?_
 refine sR [hR 1 rfl rfl (Y7 0 5 kU8 Vk [t] [⟨0,.tmp 7,.one (.d (.val (.int .u8 ((t.toNat:Nat):Int)))),0⟩] (cs:=[.d (.val (.int .u8 ((t.toNat:Nat):Int)))]) Tryz.underlying25 Jh rfl Iu rfl rfl rfl pb (Ym rfl rfl pb W3) pZ4 (V2 pZ4) (X2 rfl) trivial),hR 4 rfl rfl (Wt (Ee true false [t] ((l.length:Nat):Int) (by (simp [maxLen,-List.getD_eq_getElem?_getD]<;>omega))) Tryz.func66 rfl (by decide) [1] [0] (l:=[(.tmp 8,Xx 0 kU8 0 [t].length),(.tmp 10,vI ((l.length:Nat):Int))]) [(0,.live (Xc 5 kU8 [t]))] rfl 0 1 rfl rfl rfl rfl rfl rfl rfl rfl rfl ⟨.inr (.inl ⟨rfl,pZs,rfl,rfl,by simp,5,[t].length,W5 kU8 [t],List.Mem.head _,pf,fun i j=>by rw [Nat.zero_add]⟩),⟨.inl ⟨rfl,rfl⟩,trivial⟩⟩ rfl pZ3 ph (X2 rfl) trivial)] ?_
 refine T.seq (sR [] (T.block ?_))
 refine T.loop (ι:=Nat) (fun (k:Nat)=>⟨[(Z2n t),slV tl nl (kSl sl_ kU8) l,aa,aa,aa,Xx 0 kU8 0 (Z2o t l k).length,vI ((k:Nat):Int)],[.live (Xc 5 kU8 (Z2o t l k))]⟩) (fun (k:Nat)=>(k≤l.length)) (fun (k:Nat)=>l.length-k) (0) (Nat.zero_le _) (fun _ _ hG=>Wf [1] (bm 7 99) (t1:=[(Z2n t),slV tl nl (kSl sl_ kU8) l,aa,aa,aa,Xx 1 kU8 0 (ofR t l.length (l.take 0)).length,vI 0]) (t2:=[(Z2n t),slV tl nl (kSl sl_ kU8) l,aa,aa,aa,Xx 1 kU8 0 ([t]++V3 ((l.length:Nat):Int)).length,vI 0]) (h1:=[.live (Xc 5 kU8 (ofR t l.length (l.take 0)))]) (h2:=[.live (Xc 5 kU8 ([t]++V3 ((l.length:Nat):Int)))]) (congrArg (fun (q1:Nat)=>([(Z2n t),slV tl nl (kSl sl_ kU8) l,aa,aa,aa,Xx 1 kU8 0 q1,vI 0]:List AV)) (by rfl)) p1v hG) ?_
 rintro k hk
 show T _ _ ⟨[(Z2n t),slV tl nl (kSl sl_ kU8) l,aa,aa,aa,Xx 0 kU8 0 (Z2o t l k).length,vI ((k:Nat):Int)],[.live (Xc 5 kU8 (Z2o t l k))]⟩ _ _
 replace hk:k≤l.length:=hk
 have hol:=Xcy t l.length (l.take k)
 have hsz0:=X00 l k
 refine T.seq (sR [] ?_)
 by_cases hq1:((k:Nat):Int)<((l.length:Nat):Int)
 ·have hkl:k<l.length:=(by omega);have hsk:=X4c hkl;have hst:=X00 l (k+1)
  refine cT (dT hq1) (T.skip (nT (T.seq (T.block ?_))))
  refine xR [hR 3 rfl rfl (Wi tl nl (kSl sl_ kU8) l k (k:=.i64) (i:=((k:Nat):Int)) Tryz.underlying136 Vw rfl rfl ‹_› (X2 rfl) trivial),hR 5 rfl rfl (Wt (Ie true false (ofR t l.length (l.take k)) sl_ false (l.getD k []) (by omega)) Tryz.func64 rfl (by decide) [1] [0] (l:=[(.tmp 18,Xx 0 kU8 0 (Z2o t l k).length),(.tmp 22,slV sl_ false kU8 (l.getD k []))]) [(0,.live (Xc 5 kU8 (Z2o t l k)))] rfl 0 1 rfl rfl rfl rfl rfl rfl rfl rfl rfl ⟨.inr (.inl ⟨rfl,pZs,rfl,rfl,by simp,5,(ofR t l.length (l.take k)).length,W5 kU8 (ofR t l.length (l.take k)),List.Mem.head _,pf,fun i j=>by rw [Nat.zero_add]⟩),⟨.inl ⟨rfl,rfl⟩,trivial⟩⟩ rfl pZ3 ph (X2 rfl) trivial)] pZ4 pZ4 ?_
  refine nB (nT (xK [hR 1 rfl rfl (Yb (u1:=.int .i64 ((k:Nat):Int)) (u2:=.int .i64 1) (v:=.int .i64 ((k+1:Nat):Int)) (Wb pZ9) (X2 rfl) ⟨rfl,trivial⟩)] ?_))
  refine nL (k+1) (show (k+1)≤l.length from (by omega)) (show (l.length-(k+1):Nat)<l.length-k from (by omega)) (fun _ _ hG=>Wf [1] (bm 7 99) (t1:=[(Z2n t),slV tl nl (kSl sl_ kU8) l,aa,aa,aa,Xx 1 kU8 0 (ofR t l.length (l.take (k+1))).length,(Z2p k)]) (t2:=[(Z2n t),slV tl nl (kSl sl_ kU8) l,aa,aa,aa,Xx 1 kU8 0 ((Z2o t l k)++Yo (l.getD k [])).length,(Z2p k)]) (h1:=[.live (Xc 5 kU8 (ofR t l.length (l.take (k+1))))]) (h2:=[.live (Xc 5 kU8 ((Z2o t l k)++Yo (l.getD k [])))]) (by have e1:((ofR t l.length (l.take (k+1))).length:Nat)=((ofR t l.length (l.take k))++Yo (l.getD k [])).length:=(by (rw [X4t hkl]));have hE:=congrArg (fun (q1:Nat)=>([(Z2n t),slV tl nl (kSl sl_ kU8) l,aa,aa,aa,Xx 1 kU8 0 q1,(Z2p k)]:List AV)) e1;exact hE) (by have e1:((ofR t l.length (l.take (k+1))):List UInt8)=(ofR t l.length (l.take k))++Yo (l.getD k []):=(by (rw [X4t hkl]));have hE:=congrArg (fun (q1:List UInt8)=>([.live (Xc 5 kU8 q1)]:List HS)) e1;exact hE) hG)
 refine cF (dF hq1) (T.exit (xT (xT (xH (nT (sR [hR 1 rfl rfl (Fj () (ofR t l.length (l.take k)) (ys:=(.own 0 kU8.sz 0 (Z2o t l k).length)) (rhs:=[(0,.live (Xc 5 kU8 (Z2o t l k)))]) Tryz.underlying25 Tryz.underlying5 Tryz.underlying60 (V0 0 5 kU8 (ofR t l.length (l.take k))) (X2 rfl) trivial)] (T.ret ?_)))))))
 exact eRt 4 (.one (dS (Z2o t l k))) [] (by have e1:((ofB t l):List UInt8)=(ofR t l.length (l.take k)):=(by (have hke:k=l.length:=(by omega);rw [hke,Xj5]));have hE:=congrArg (fun (q1:List UInt8)=>(dv (Yn q1):AV)) e1;exact hE) trivial
theorem X91 (t:UInt8) (tb:Bool) (nb:Bool) (b:List UInt8) (hb:b.length≤140737488350000):Holds Tryz.prog 93 ⟨[dv (.int .u8 ((t.toNat:Nat):Int)),slV tb nb kU8 b],[],dv (Yn (ofB t [b])),[]⟩:=by
 refine Holds.of Tryz.func93 rfl (N:=9) Tryz.ntmps93 rfl fun w0 B0 S0 U0=>?_
 show T _ (Y2 9 0 w0 S0 U0 B0) ⟨[dv (.int .u8 ((t.toNat:Nat):Int)),slV tb nb kU8 b],[]⟩ _ _
 have hs1:szP [b]=5+(4+b.length):=rfl
 refine sR [] ?_
 refine sR [hR 2 rfl rfl (Y7 0 25 (kSl tb kU8) (X23 tb kU8) [b] [⟨0,.tmp 6,.one (.d (dsl tb nb kU8 b)),0⟩] (cs:=[.d (dsl tb nb kU8 b)]) Tryz.underlying136 Vw rfl E8 rfl rfl rfl pb (Ym rfl rfl pb W3) pZ4 ⟨pZ20,trivial⟩ (X2 rfl) trivial),hR 3 rfl rfl (Wt (X1j t true false tb [b] (by omega)) Tryz.func71 rfl (by decide) [] [0] (l:=[(.tmp 5,dv (.int .u8 ((t.toNat:Nat):Int))),(.tmp 7,Xx 0 (kSl false kU8) 0 [b].length)]) [(0,.live (Xc 25 (kSl tb kU8) [b]))] rfl 0 0 rfl rfl rfl rfl rfl rfl rfl rfl rfl ⟨.inl ⟨rfl,rfl⟩,⟨.inr (.inl ⟨rfl,pZs,rfl,rfl,by simp,25,[b].length,W5 (kSl tb kU8) [b],List.Mem.head _,pf,fun i j=>by rw [Nat.zero_add]⟩),trivial⟩⟩ rfl pZ3 p2o (X2 rfl) trivial)] ?_
 refine T.ret ?_
 exact eRt 4 (.one (dS (ofB t [b]))) [] rfl trivial
theorem Xh9 (t:UInt8) (a:List UInt8) (b:List UInt8) (hb:a.length+b.length≤140737488350000):Holds Tryz.prog 139 ⟨[dv (.int .u8 ((t.toNat:Nat):Int)),dv (Yn a),dv (Yn b)],[],dv (Yn (ofB t [a,b])),[]⟩:=by
 refine Holds.of Tryz.func139 rfl (N:=14) Tryz.ntmps139 rfl fun w0 B0 S0 U0=>?_
 show T _ (Y2 14 0 w0 S0 U0 B0) ⟨[dv (.int .u8 ((t.toNat:Nat):Int)),dv (Yn a),dv (Yn b)],[]⟩ _ _
 have hs1:szP [a,b]=5+(4+a.length)+(4+b.length):=rfl
 refine sR [] ?_
 refine sR [hR 2 rfl rfl (I4 (l:=a) Tryz.underlying60 Tryz.underlying25 Tryz.underlying5 (X2 rfl) trivial),hR 4 rfl rfl (I4 (l:=b) Tryz.underlying60 Tryz.underlying25 Tryz.underlying5 (X2 rfl) trivial),hR 5 rfl rfl (Y7 0 25 (kSl false kU8) (X23 false kU8) [a,b] [⟨0,.tmp 9,.one (.d (dsl false true kU8 a)),0⟩,⟨1,.tmp 11,.one (.d (dsl false true kU8 b)),1⟩] (cs:=[.d (dsl false true kU8 a),.d (dsl false true kU8 b)]) Tryz.underlying136 Vw rfl E8 rfl rfl rfl pb (Ym rfl rfl pb (Ym rfl rfl pb W3)) pZ4 ⟨pZ20,⟨pZ20,trivial⟩⟩ (X2 rfl) trivial),hR 6 rfl rfl (Wt (X1j t true false false [a,b] (by omega)) Tryz.func71 rfl (by decide) [] [0] (l:=[(.tmp 7,dv (.int .u8 ((t.toNat:Nat):Int))),(.tmp 12,Xx 0 (kSl false kU8) 0 [a,b].length)]) [(0,.live (Xc 25 (kSl false kU8) [a,b]))] rfl 0 0 rfl rfl rfl rfl rfl rfl rfl rfl rfl ⟨.inl ⟨rfl,rfl⟩,⟨.inr (.inl ⟨rfl,pZs,rfl,rfl,by simp,25,[a,b].length,W5 (kSl false kU8) [a,b],List.Mem.head _,pf,fun i j=>by rw [Nat.zero_add]⟩),trivial⟩⟩ rfl pZ3 p2o (X2 rfl) trivial)] ?_
 refine T.ret ?_
 exact eRt 6 (.one (dS (ofB t [a,b]))) [] rfl trivial
theorem Xia (x:Nat) (hx:x<18446744073709551616):Holds Tryz.prog 166 ⟨[dv (.int .u64 ((x:Nat):Int))],[],vI ((X1y x:Nat):Int),[]⟩:=by
 refine Holds.of Tryz.func166 rfl (N:=25) Tryz.ntmps166 rfl fun w0 B0 S0 U0=>?_
 show T _ (Y2 25 0 w0 S0 U0 B0) ⟨[dv (.int .u64 ((x:Nat):Int))],[]⟩ _ _
 have hb8:=fun (y:Nat)=>UInt8.toNat_lt (Yk.getD (UInt8.ofNat y).toNat 0)
 refine sR [] (T.seq (sR [] ?_))
 by_cases hq1:((x:Nat):Int)≥4294967296
 ·have hd32:=Fx (x:=x) (s:=32) (by omega)
  refine cT (dT hq1) (sR [hR 1 rfl rfl (Yb (u1:=.int .u64 ((x:Nat):Int)) (u2:=.int .u64 32) (v:=.int .u64 ((x / 2 ^ 32:Nat):Int)) (Ez (n:=32) rfl pn) (X2 rfl) ⟨rfl,trivial⟩)] (xK [] (nT (T.seq (sR [] ?_)))))
  by_cases hq2:((x / 2 ^ 32:Nat):Int)≥65536
  ·have hd16:=Fx (x:=x / 2 ^ 32) (s:=16) (by omega)
   refine cT (dT hq2) (sR [hR 1 rfl rfl (Yb (u1:=.int .u64 ((x / 2 ^ 32:Nat):Int)) (u2:=.int .u64 16) (v:=.int .u64 (((x / 2 ^ 32) / 2 ^ 16:Nat):Int)) (Ez (n:=16) rfl pn) (X2 rfl) ⟨rfl,trivial⟩)] (xK [hR 1 rfl rfl (Yb (u1:=.int .i64 32) (u2:=.int .i64 16) (v:=.int .i64 48) (Wb pZ9) (X2 rfl) ⟨rfl,trivial⟩)] (nT (T.seq (sR [] ?_)))))
   by_cases hq3:(((x / 2 ^ 32) / 2 ^ 16:Nat):Int)≥256
   ·have hd8:=Fx (x:=(x / 2 ^ 32) / 2 ^ 16) (s:=8) (by omega)
    refine cT (dT hq3) (sR [hR 1 rfl rfl (Yb (u1:=.int .u64 (((x / 2 ^ 32) / 2 ^ 16:Nat):Int)) (u2:=.int .u64 8) (v:=.int .u64 ((((x / 2 ^ 32) / 2 ^ 16) / 2 ^ 8:Nat):Int)) (Ez (n:=8) rfl pn) (X2 rfl) ⟨rfl,trivial⟩)] (xK [hR 1 rfl rfl (Yb (u1:=.int .i64 48) (u2:=.int .i64 8) (v:=.int .i64 56) (Wb pZ9) (X2 rfl) ⟨rfl,trivial⟩)] (nT ?_)))
    refine sR [hR 2 rfl rfl (Vb (u:=.int .u64 ((((x / 2 ^ 32) / 2 ^ 16) / 2 ^ 8:Nat):Int)) (v:=.int .u8 (((UInt8.ofNat (((x / 2 ^ 32) / 2 ^ 16) / 2 ^ 8)).toNat:Nat):Int)) (F6 Tryz.underlying179 Tryz.underlying5) (X2 rfl) trivial),hR 3 rfl rfl (If (k:=.u8) (l:=Yk) (m:=(UInt8.ofNat (((x / 2 ^ 32) / 2 ^ 16) / 2 ^ 8)).toNat) (b:=(Yk.getD (UInt8.ofNat (((x / 2 ^ 32) / 2 ^ 16) / 2 ^ 8)).toNat 0)) (i:=(((UInt8.ofNat (((x / 2 ^ 32) / 2 ^ 16) / 2 ^ 8)).toNat:Nat):Int)) Tryz.underlying9 rfl pZ24 rfl (X2 rfl) ⟨rfl,trivial⟩),hR 4 rfl rfl (Vb (u:=.int .u8 (((Yk.getD (UInt8.ofNat (((x / 2 ^ 32) / 2 ^ 16) / 2 ^ 8)).toNat 0).toNat:Nat):Int)) (v:=.int .i64 (((Yk.getD (UInt8.ofNat (((x / 2 ^ 32) / 2 ^ 16) / 2 ^ 8)).toNat 0).toNat:Nat):Int)) (Ha Tryz.underlying5 Tryz.underlying3 p3m) (X2 rfl) trivial),hR 5 rfl rfl (Yb (u1:=.int .i64 56) (u2:=.int .i64 (((Yk.getD (UInt8.ofNat (((x / 2 ^ 32) / 2 ^ 16) / 2 ^ 8)).toNat 0).toNat:Nat):Int)) (v:=.int .i64 ((56+(Yk.getD (UInt8.ofNat (((x / 2 ^ 32) / 2 ^ 16) / 2 ^ 8)).toNat 0).toNat:Nat):Int)) (Wb p3m) (X2 rfl) trivial)] ?_
    refine T.ret ?_
    exact eRt 2 (.one (dI ((56+(Yk.getD (UInt8.ofNat (((x / 2 ^ 32) / 2 ^ 16) / 2 ^ 8)).toNat 0).toNat:Nat):Int))) [] (by have e1:(((X1y x:Nat):Int):Int)=((56+(Yk.getD (UInt8.ofNat (((x / 2 ^ 32) / 2 ^ 16) / 2 ^ 8)).toNat 0).toNat:Nat):Int):=p2i;have hE:=cI e1;exact hE) trivial
   refine cF (dF hq3) (T.skip (nT ?_))
   refine sR [hR 2 rfl rfl (Vb (u:=.int .u64 (((x / 2 ^ 32) / 2 ^ 16:Nat):Int)) (v:=.int .u8 (((UInt8.ofNat ((x / 2 ^ 32) / 2 ^ 16)).toNat:Nat):Int)) (F6 Tryz.underlying179 Tryz.underlying5) (X2 rfl) trivial),hR 3 rfl rfl (If (k:=.u8) (l:=Yk) (m:=(UInt8.ofNat ((x / 2 ^ 32) / 2 ^ 16)).toNat) (b:=(Yk.getD (UInt8.ofNat ((x / 2 ^ 32) / 2 ^ 16)).toNat 0)) (i:=(((UInt8.ofNat ((x / 2 ^ 32) / 2 ^ 16)).toNat:Nat):Int)) Tryz.underlying9 rfl pZ24 rfl (X2 rfl) ⟨rfl,trivial⟩),hR 4 rfl rfl (Vb (u:=.int .u8 (((Yk.getD (UInt8.ofNat ((x / 2 ^ 32) / 2 ^ 16)).toNat 0).toNat:Nat):Int)) (v:=.int .i64 (((Yk.getD (UInt8.ofNat ((x / 2 ^ 32) / 2 ^ 16)).toNat 0).toNat:Nat):Int)) (Ha Tryz.underlying5 Tryz.underlying3 p3r) (X2 rfl) trivial),hR 5 rfl rfl (Yb (u1:=.int .i64 48) (u2:=.int .i64 (((Yk.getD (UInt8.ofNat ((x / 2 ^ 32) / 2 ^ 16)).toNat 0).toNat:Nat):Int)) (v:=.int .i64 ((48+(Yk.getD (UInt8.ofNat ((x / 2 ^ 32) / 2 ^ 16)).toNat 0).toNat:Nat):Int)) (Wb p3r) (X2 rfl) trivial)] ?_
   refine T.ret ?_
   exact eRt 2 (.one (dI ((48+(Yk.getD (UInt8.ofNat ((x / 2 ^ 32) / 2 ^ 16)).toNat 0).toNat:Nat):Int))) [] (by have e1:(((X1y x:Nat):Int):Int)=((48+(Yk.getD (UInt8.ofNat ((x / 2 ^ 32) / 2 ^ 16)).toNat 0).toNat:Nat):Int):=p2i;have hE:=cI e1;exact hE) trivial
  refine cF (dF hq2) (T.skip (nT (T.seq (sR [] ?_))))
  by_cases hq4:((x / 2 ^ 32:Nat):Int)≥256
  ·have hd8:=Fx (x:=x / 2 ^ 32) (s:=8) (by omega)
   refine cT (dT hq4) (sR [hR 1 rfl rfl (Yb (u1:=.int .u64 ((x / 2 ^ 32:Nat):Int)) (u2:=.int .u64 8) (v:=.int .u64 (((x / 2 ^ 32) / 2 ^ 8:Nat):Int)) (Ez (n:=8) rfl pn) (X2 rfl) ⟨rfl,trivial⟩)] (xK [hR 1 rfl rfl (Yb (u1:=.int .i64 32) (u2:=.int .i64 8) (v:=.int .i64 40) (Wb pZ9) (X2 rfl) ⟨rfl,trivial⟩)] (nT ?_)))
   refine sR [hR 2 rfl rfl (Vb (u:=.int .u64 (((x / 2 ^ 32) / 2 ^ 8:Nat):Int)) (v:=.int .u8 (((UInt8.ofNat ((x / 2 ^ 32) / 2 ^ 8)).toNat:Nat):Int)) (F6 Tryz.underlying179 Tryz.underlying5) (X2 rfl) trivial),hR 3 rfl rfl (If (k:=.u8) (l:=Yk) (m:=(UInt8.ofNat ((x / 2 ^ 32) / 2 ^ 8)).toNat) (b:=(Yk.getD (UInt8.ofNat ((x / 2 ^ 32) / 2 ^ 8)).toNat 0)) (i:=(((UInt8.ofNat ((x / 2 ^ 32) / 2 ^ 8)).toNat:Nat):Int)) Tryz.underlying9 rfl pZ24 rfl (X2 rfl) ⟨rfl,trivial⟩),hR 4 rfl rfl (Vb (u:=.int .u8 (((Yk.getD (UInt8.ofNat ((x / 2 ^ 32) / 2 ^ 8)).toNat 0).toNat:Nat):Int)) (v:=.int .i64 (((Yk.getD (UInt8.ofNat ((x / 2 ^ 32) / 2 ^ 8)).toNat 0).toNat:Nat):Int)) (Ha Tryz.underlying5 Tryz.underlying3 p3s) (X2 rfl) trivial),hR 5 rfl rfl (Yb (u1:=.int .i64 40) (u2:=.int .i64 (((Yk.getD (UInt8.ofNat ((x / 2 ^ 32) / 2 ^ 8)).toNat 0).toNat:Nat):Int)) (v:=.int .i64 ((40+(Yk.getD (UInt8.ofNat ((x / 2 ^ 32) / 2 ^ 8)).toNat 0).toNat:Nat):Int)) (Wb p3s) (X2 rfl) trivial)] ?_
   refine T.ret ?_
   exact eRt 2 (.one (dI ((40+(Yk.getD (UInt8.ofNat ((x / 2 ^ 32) / 2 ^ 8)).toNat 0).toNat:Nat):Int))) [] (by have e1:(((X1y x:Nat):Int):Int)=((40+(Yk.getD (UInt8.ofNat ((x / 2 ^ 32) / 2 ^ 8)).toNat 0).toNat:Nat):Int):=p2i;have hE:=cI e1;exact hE) trivial
  refine cF (dF hq4) (T.skip (nT ?_))
  refine sR [hR 2 rfl rfl (Vb (u:=.int .u64 ((x / 2 ^ 32:Nat):Int)) (v:=.int .u8 (((UInt8.ofNat (x / 2 ^ 32)).toNat:Nat):Int)) (F6 Tryz.underlying179 Tryz.underlying5) (X2 rfl) trivial),hR 3 rfl rfl (If (k:=.u8) (l:=Yk) (m:=(UInt8.ofNat (x / 2 ^ 32)).toNat) (b:=(Yk.getD (UInt8.ofNat (x / 2 ^ 32)).toNat 0)) (i:=(((UInt8.ofNat (x / 2 ^ 32)).toNat:Nat):Int)) Tryz.underlying9 rfl pZ24 rfl (X2 rfl) ⟨rfl,trivial⟩),hR 4 rfl rfl (Vb (u:=.int .u8 (((Yk.getD (UInt8.ofNat (x / 2 ^ 32)).toNat 0).toNat:Nat):Int)) (v:=.int .i64 (((Yk.getD (UInt8.ofNat (x / 2 ^ 32)).toNat 0).toNat:Nat):Int)) (Ha Tryz.underlying5 Tryz.underlying3 p43) (X2 rfl) trivial),hR 5 rfl rfl (Yb (u1:=.int .i64 32) (u2:=.int .i64 (((Yk.getD (UInt8.ofNat (x / 2 ^ 32)).toNat 0).toNat:Nat):Int)) (v:=.int .i64 ((32+(Yk.getD (UInt8.ofNat (x / 2 ^ 32)).toNat 0).toNat:Nat):Int)) (Wb p43) (X2 rfl) trivial)] ?_
  refine T.ret ?_
  exact eRt 2 (.one (dI ((32+(Yk.getD (UInt8.ofNat (x / 2 ^ 32)).toNat 0).toNat:Nat):Int))) [] (by have e1:(((X1y x:Nat):Int):Int)=((32+(Yk.getD (UInt8.ofNat (x / 2 ^ 32)).toNat 0).toNat:Nat):Int):=p2i;have hE:=cI e1;exact hE) trivial
 refine cF (dF hq1) (T.skip (nT (T.seq (sR [] ?_))))
 by_cases hq5:((x:Nat):Int)≥65536
 ·have hd16:=Fx (x:=x) (s:=16) (by omega)
  refine cT (dT hq5) (sR [hR 1 rfl rfl (Yb (u1:=.int .u64 ((x:Nat):Int)) (u2:=.int .u64 16) (v:=.int .u64 ((x / 2 ^ 16:Nat):Int)) (Ez (n:=16) rfl pn) (X2 rfl) ⟨rfl,trivial⟩)] (xK [hR 1 rfl rfl (Yb (u1:=.int .i64 0) (u2:=.int .i64 16) (v:=.int .i64 16) (Wb pZ9) (X2 rfl) ⟨rfl,trivial⟩)] (nT (T.seq (sR [] ?_)))))
  by_cases hq6:((x / 2 ^ 16:Nat):Int)≥256
  ·have hd8:=Fx (x:=x / 2 ^ 16) (s:=8) (by omega)
   refine cT (dT hq6) (sR [hR 1 rfl rfl (Yb (u1:=.int .u64 ((x / 2 ^ 16:Nat):Int)) (u2:=.int .u64 8) (v:=.int .u64 (((x / 2 ^ 16) / 2 ^ 8:Nat):Int)) (Ez (n:=8) rfl pn) (X2 rfl) ⟨rfl,trivial⟩)] (xK [hR 1 rfl rfl (Yb (u1:=.int .i64 16) (u2:=.int .i64 8) (v:=.int .i64 24) (Wb pZ9) (X2 rfl) ⟨rfl,trivial⟩)] (nT ?_)))
   refine sR [hR 2 rfl rfl (Vb (u:=.int .u64 (((x / 2 ^ 16) / 2 ^ 8:Nat):Int)) (v:=.int .u8 (((UInt8.ofNat ((x / 2 ^ 16) / 2 ^ 8)).toNat:Nat):Int)) (F6 Tryz.underlying179 Tryz.underlying5) (X2 rfl) trivial),hR 3 rfl rfl (If (k:=.u8) (l:=Yk) (m:=(UInt8.ofNat ((x / 2 ^ 16) / 2 ^ 8)).toNat) (b:=(Yk.getD (UInt8.ofNat ((x / 2 ^ 16) / 2 ^ 8)).toNat 0)) (i:=(((UInt8.ofNat ((x / 2 ^ 16) / 2 ^ 8)).toNat:Nat):Int)) Tryz.underlying9 rfl pZ24 rfl (X2 rfl) ⟨rfl,trivial⟩),hR 4 rfl rfl (Vb (u:=.int .u8 (((Yk.getD (UInt8.ofNat ((x / 2 ^ 16) / 2 ^ 8)).toNat 0).toNat:Nat):Int)) (v:=.int .i64 (((Yk.getD (UInt8.ofNat ((x / 2 ^ 16) / 2 ^ 8)).toNat 0).toNat:Nat):Int)) (Ha Tryz.underlying5 Tryz.underlying3 p3t) (X2 rfl) trivial),hR 5 rfl rfl (Yb (u1:=.int .i64 24) (u2:=.int .i64 (((Yk.getD (UInt8.ofNat ((x / 2 ^ 16) / 2 ^ 8)).toNat 0).toNat:Nat):Int)) (v:=.int .i64 ((24+(Yk.getD (UInt8.ofNat ((x / 2 ^ 16) / 2 ^ 8)).toNat 0).toNat:Nat):Int)) (Wb p3t) (X2 rfl) trivial)] ?_
   refine T.ret ?_
   exact eRt 2 (.one (dI ((24+(Yk.getD (UInt8.ofNat ((x / 2 ^ 16) / 2 ^ 8)).toNat 0).toNat:Nat):Int))) [] (by have e1:(((X1y x:Nat):Int):Int)=((24+(Yk.getD (UInt8.ofNat ((x / 2 ^ 16) / 2 ^ 8)).toNat 0).toNat:Nat):Int):=p2i;have hE:=cI e1;exact hE) trivial
  refine cF (dF hq6) (T.skip (nT ?_))
  refine sR [hR 2 rfl rfl (Vb (u:=.int .u64 ((x / 2 ^ 16:Nat):Int)) (v:=.int .u8 (((UInt8.ofNat (x / 2 ^ 16)).toNat:Nat):Int)) (F6 Tryz.underlying179 Tryz.underlying5) (X2 rfl) trivial),hR 3 rfl rfl (If (k:=.u8) (l:=Yk) (m:=(UInt8.ofNat (x / 2 ^ 16)).toNat) (b:=(Yk.getD (UInt8.ofNat (x / 2 ^ 16)).toNat 0)) (i:=(((UInt8.ofNat (x / 2 ^ 16)).toNat:Nat):Int)) Tryz.underlying9 rfl pZ24 rfl (X2 rfl) ⟨rfl,trivial⟩),hR 4 rfl rfl (Vb (u:=.int .u8 (((Yk.getD (UInt8.ofNat (x / 2 ^ 16)).toNat 0).toNat:Nat):Int)) (v:=.int .i64 (((Yk.getD (UInt8.ofNat (x / 2 ^ 16)).toNat 0).toNat:Nat):Int)) (Ha Tryz.underlying5 Tryz.underlying3 p44) (X2 rfl) trivial),hR 5 rfl rfl (Yb (u1:=.int .i64 16) (u2:=.int .i64 (((Yk.getD (UInt8.ofNat (x / 2 ^ 16)).toNat 0).toNat:Nat):Int)) (v:=.int .i64 ((16+(Yk.getD (UInt8.ofNat (x / 2 ^ 16)).toNat 0).toNat:Nat):Int)) (Wb p44) (X2 rfl) trivial)] ?_
  refine T.ret ?_
  exact eRt 2 (.one (dI ((16+(Yk.getD (UInt8.ofNat (x / 2 ^ 16)).toNat 0).toNat:Nat):Int))) [] (by have e1:(((X1y x:Nat):Int):Int)=((16+(Yk.getD (UInt8.ofNat (x / 2 ^ 16)).toNat 0).toNat:Nat):Int):=p2i;have hE:=cI e1;exact hE) trivial
 refine cF (dF hq5) (T.skip (nT (T.seq (sR [] ?_))))
 by_cases hq7:((x:Nat):Int)≥256
 ·have hd8:=Fx (x:=x) (s:=8) (by omega)
  refine cT (dT hq7) (sR [hR 1 rfl rfl (Yb (u1:=.int .u64 ((x:Nat):Int)) (u2:=.int .u64 8) (v:=.int .u64 ((x / 2 ^ 8:Nat):Int)) (Ez (n:=8) rfl pn) (X2 rfl) ⟨rfl,trivial⟩)] (xK [hR 1 rfl rfl (Yb (u1:=.int .i64 0) (u2:=.int .i64 8) (v:=.int .i64 8) (Wb pZ9) (X2 rfl) ⟨rfl,trivial⟩)] (nT ?_)))
  refine sR [hR 2 rfl rfl (Vb (u:=.int .u64 ((x / 2 ^ 8:Nat):Int)) (v:=.int .u8 (((UInt8.ofNat (x / 2 ^ 8)).toNat:Nat):Int)) (F6 Tryz.underlying179 Tryz.underlying5) (X2 rfl) trivial),hR 3 rfl rfl (If (k:=.u8) (l:=Yk) (m:=(UInt8.ofNat (x / 2 ^ 8)).toNat) (b:=(Yk.getD (UInt8.ofNat (x / 2 ^ 8)).toNat 0)) (i:=(((UInt8.ofNat (x / 2 ^ 8)).toNat:Nat):Int)) Tryz.underlying9 rfl pZ24 rfl (X2 rfl) ⟨rfl,trivial⟩),hR 4 rfl rfl (Vb (u:=.int .u8 (((Yk.getD (UInt8.ofNat (x / 2 ^ 8)).toNat 0).toNat:Nat):Int)) (v:=.int .i64 (((Yk.getD (UInt8.ofNat (x / 2 ^ 8)).toNat 0).toNat:Nat):Int)) (Ha Tryz.underlying5 Tryz.underlying3 p46) (X2 rfl) trivial),hR 5 rfl rfl (Yb (u1:=.int .i64 8) (u2:=.int .i64 (((Yk.getD (UInt8.ofNat (x / 2 ^ 8)).toNat 0).toNat:Nat):Int)) (v:=.int .i64 ((8+(Yk.getD (UInt8.ofNat (x / 2 ^ 8)).toNat 0).toNat:Nat):Int)) (Wb p46) (X2 rfl) trivial)] ?_
  refine T.ret ?_
  exact eRt 2 (.one (dI ((8+(Yk.getD (UInt8.ofNat (x / 2 ^ 8)).toNat 0).toNat:Nat):Int))) [] (by have e1:(((X1y x:Nat):Int):Int)=((8+(Yk.getD (UInt8.ofNat (x / 2 ^ 8)).toNat 0).toNat:Nat):Int):=p2i;have hE:=cI e1;exact hE) trivial
 refine cF (dF hq7) (T.skip (nT ?_))
 refine sR [hR 2 rfl rfl (Vb (u:=.int .u64 ((x:Nat):Int)) (v:=.int .u8 (((UInt8.ofNat x).toNat:Nat):Int)) (F6 Tryz.underlying179 Tryz.underlying5) (X2 rfl) trivial),hR 3 rfl rfl (If (k:=.u8) (l:=Yk) (m:=(UInt8.ofNat x).toNat) (b:=(Yk.getD (UInt8.ofNat x).toNat 0)) (i:=(((UInt8.ofNat x).toNat:Nat):Int)) Tryz.underlying9 rfl pZ24 rfl (X2 rfl) ⟨rfl,trivial⟩),hR 4 rfl rfl (Vb (u:=.int .u8 (((Yk.getD (UInt8.ofNat x).toNat 0).toNat:Nat):Int)) (v:=.int .i64 (((Yk.getD (UInt8.ofNat x).toNat 0).toNat:Nat):Int)) (Ha Tryz.underlying5 Tryz.underlying3 p4f) (X2 rfl) trivial),hR 5 rfl rfl (Yb (u1:=.int .i64 0) (u2:=.int .i64 (((Yk.getD (UInt8.ofNat x).toNat 0).toNat:Nat):Int)) (v:=.int .i64 ((0+(Yk.getD (UInt8.ofNat x).toNat 0).toNat:Nat):Int)) (Wb p4f) (X2 rfl) trivial)] ?_
 refine T.ret ?_
 exact eRt 2 (.one (dI ((0+(Yk.getD (UInt8.ofNat x).toNat 0).toNat:Nat):Int))) [] (by have e1:(((X1y x:Nat):Int):Int)=((0+(Yk.getD (UInt8.ofNat x).toNat 0).toNat:Nat):Int):=p2i;have hE:=cI e1;exact hE) trivial
theorem bits_Len (x:Nat) (hx:x<18446744073709551616):Holds Tryz.prog 130 ⟨[dv (.int .u64 ((x:Nat):Int))],[],vI ((X1y x:Nat):Int),[]⟩:=by
 refine Holds.of Tryz.func130 rfl (N:=8) Tryz.ntmps130 rfl fun w0 B0 S0 U0=>?_
 show T _ (Y2 8 0 w0 S0 U0 B0) ⟨[dv (.int .u64 ((x:Nat):Int))],[]⟩ _ _
 refine sR [] (T.seq (cF (b:=false) rfl (T.skip (nT (sR [hR 1 rfl rfl (rCa (Xia x ‹_›) Tryz.func166 [] [(.tmp 6,dv (.int .u64 ((x:Nat):Int)))] 0 0)] (T.ret ?_))))))
 exact eRt 2 (.one (dI ((X1y x:Nat):Int))) [] rfl trivial
theorem X0l (n:Nat) (h2:2≤n) (hn:n≤9223372036854775807):Holds Tryz.prog 148 ⟨[vI ((n:Nat):Int)],[],vI ((half n:Nat):Int),[]⟩:=by
 refine Holds.of Tryz.func148 rfl (N:=9) Tryz.ntmps148 rfl fun w0 B0 S0 U0=>?_
 show T _ (Y2 9 0 w0 S0 U0 B0) ⟨[vI ((n:Nat):Int)],[]⟩ _ _
 have hlg:=log_le hn h2
 refine sR [] ?_
 refine sR [hR 1 rfl rfl (Yb (u1:=.int .i64 ((n:Nat):Int)) (u2:=.int .i64 1) (v:=.int .i64 ((n-1:Nat):Int)) (Vy pZ9) (X2 rfl) ⟨rfl,trivial⟩),hR 2 rfl rfl (Vb (u:=.int .i64 ((n-1:Nat):Int)) (v:=.int .u64 ((n-1:Nat):Int)) (Ha Tryz.underlying3 Tryz.underlying185 p3n) (X2 rfl) trivial),hR 3 rfl rfl (rCa (bits_Len (n-1) (by omega)) Tryz.func130 [] [(.tmp 5,dv (.int .u64 ((n-1:Nat):Int)))] 0 0),hR 4 rfl rfl (Yb (u1:=.int .i64 ((X1y (n-1):Nat):Int)) (u2:=.int .i64 1) (v:=.int .i64 ((Nat.log2 (n-1):Nat):Int)) (Vy (by rw [X9m (by omega),IntKind.wrap_i64];omega)) (X2 rfl) ⟨rfl,trivial⟩),hR 5 rfl rfl (Yb (u1:=.int .i64 1) (u2:=.int .i64 ((Nat.log2 (n-1):Nat):Int)) (v:=.int .i64 ((half n:Nat):Int)) (b_shl (n:=Nat.log2 (n-1)) rfl (Nat.le_trans hlg (by decide)) (shl_half hn h2)) (X2 rfl) ⟨rfl,trivial⟩)] ?_
 refine T.ret ?_
 exact eRt 2 (.one (dI ((half n:Nat):Int))) [] rfl trivial
abbrev Z2q (n:Nat):AV:=vI ((n:Nat):Int)
theorem X8z (n:Nat) (h2:2≤n) (hn:n≤9223372036854775807):Holds Tryz.prog 138 ⟨[vI ((n:Nat):Int)],[],vI ((half n:Nat):Int),[]⟩:=by
 refine Holds.of Tryz.func138 rfl (N:=12) Tryz.ntmps138 rfl fun w0 B0 S0 U0=>?_
 show T _ (Y2 12 0 w0 S0 U0 B0) ⟨[(Z2q n)],[]⟩ _ _
 refine sR [] (sR [] (T.seq (T.block ?_)))
 refine T.loop (ι:=Nat) (fun (K:Nat)=>⟨[(Z2q n),aa,vI 0,vI ((K:Nat):Int)],[]⟩) (fun (K:Nat)=>(∃ j,K=2 ^ j)∧(K<n)) (fun (K:Nat)=>n-K) (1) ⟨⟨0,rfl⟩,(by omega)⟩ (fun _ _ hG=>Yu [] (bm 4 13) rfl rfl hG) ?_
 rintro K ⟨hp,hK⟩
 show T _ _ ⟨[(Z2q n),aa,vI 0,vI ((K:Nat):Int)],[]⟩ _ _
 replace hp:∃ j,K=2 ^ j:=hp
 replace hK:K<n:=hK
 refine T.seq (sR [hR 3 rfl rfl (Yb (u1:=.int .i64 ((n:Nat):Int)) (u2:=.int .i64 ((K:Nat):Int)) (v:=.int .i64 (((n:Nat):Int)-((K:Nat):Int))) (Vy pZ9) (X2 rfl) trivial)] ?_)
 by_cases hq1:((K:Nat):Int)<(((n:Nat):Int)-((K:Nat):Int))
 ·refine cT (dT hq1) (T.skip (nT (T.block (xK [hR 1 rfl rfl (Yb (u1:=.int .i64 2) (u2:=.int .i64 ((K:Nat):Int)) (v:=.int .i64 ((2*K:Nat):Int)) (Xc8 pZ9) (X2 rfl) ⟨rfl,trivial⟩)] (nB ?_)))))
  refine nL (2*K) ⟨(show ∃ j,(2*K)=2 ^ j from (by obtain ⟨j,hj⟩:=hp;exact ⟨j+1,by rw [hj,Nat.pow_succ];omega⟩)),(show (2*K)<n from (by omega))⟩ (show (n-(2*K):Nat)<n-K from (by have hK0:0<K:=(by obtain ⟨j,hj⟩:=hp;rw [hj];exact Nat.pow_pos (by decide));omega)) (fun _ _ hG=>Yu [] (bm 4 13) rfl rfl hG)
 refine cF (dF hq1) (T.exit (xT (xT (xH (nT (sR [] (T.ret ?_)))))))
 exact eRt 2 (.one (dI ((K:Nat):Int))) [] (by have e1:(((half n:Nat):Int):Int)=((K:Nat):Int):=(by (rw [half_of hp hK (by omega)]));have hE:=cI e1;exact hE) trivial
end Go.Proofs.YtnaopgohccacmaaGreat.Q
