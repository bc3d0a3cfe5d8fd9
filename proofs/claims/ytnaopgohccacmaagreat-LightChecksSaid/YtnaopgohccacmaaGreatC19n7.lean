import Derived.Test.YtnaopgohccacmaaGreatC19n6
namespace Go.Proofs.YtnaopgohccacmaaGreat.Q
open Go Go.RowKit
set_option linter.unusedVariables false
set_option linter.unusedSimpArgs false
set_option maxRecDepth 100000
set_option maxHeartbeats 4000000
abbrev Z1w (rest:List UInt8) (e:Int) (most:Int):HS:=.live (.box 195 [dU (rdR rest e 4 (Yu most (rest.take 4))),dI (rdE rest e 4 (Yu most (rest.take 4)))])
theorem X1m (rest:List UInt8) (e:Int) (most:Int) (hr:rest.length≤140737488355328):Holds Tryz.prog 106 ⟨[pv 0 0,vI most],[.box 195 [dU rest,dI e]],Y9 1 kU8 0 (rdY rest e most).length,[.live (.box 195 [dU (Vw rest e most),dI (V5 rest e most)]),.live (Xe 5 kU8 (rdY rest e most))]⟩:=by
 refine Holds.of Tryz.func106 rfl (N:=36) Tryz.ntmps106 rfl fun w0 B0 S0 U0=>?_
 show T _ (Y2 36 1 w0 S0 U0 B0) ⟨[pv 0 0,vI most],[.live (.box 195 [dU rest,dI e])]⟩ _ _
 have hrc:=rdC_lt rest e most
 have hrl:=U3 rest e 4 (Yu most (rest.take 4))
 refine sR [] ?_
 refine T.seq ?_
 refine sR [] ?_
 refine cF (b:=false) rfl ?_
 refine T.skip (nT ?_)
 refine sR [] ?_
 refine sR [hR 2 rfl rfl (rCa (X93 rest e most ‹_›) Tryz.func147 [0] [(.tmp 14,pv 0 0),(.tmp 15,vI most)] 1 1)] ?_
 refine T.seq ?_
 refine sR [] ?_
 by_cases hq1:(rdE rest e 4 (Yu most (rest.take 4)))≠0
 ·have hy:=rdY_fail hq1
  refine cT (dT hq1) ?_
  refine sR [] ?_
  refine T.ret (rT ?_)
  refine eN ⟨[pv 0 0,vI most,aa,aa,dv (.slice none 0 0),slV false false kU8 rest,vI ((rdC rest e most:Nat):Int),aa,aa,vB false,aa,aa,aa,aa,aa,aa,aa,aa,aa,aa,aa,vB (decide ((rdE rest e 4 (Yu most (rest.take 4)))≠0))],[(Z1w rest e most)]⟩ ?_
  refine Xc (s':=⟨[pv 0 0,vI most,aa,aa,Y9 1 kU8 0 0,slV false false kU8 rest,vI ((rdC rest e most:Nat):Int),aa,aa,vB false,aa,aa,aa,aa,aa,aa,aa,aa,aa,aa,aa,vB (decide ((rdE rest e 4 (Yu most (rest.take 4)))≠0))],[(Z1w rest e most),.live (Xe 5 kU8 ([]:List UInt8))]⟩) (fun _ _ hG=>Vy 1 4 5 kU8 rfl rfl hG) ?_
  exact eRt 4 (.one (.own 1 kU8.sz 0 0)) [0,1] (by have e1:((rdY rest e most).length:Nat)=0:=(by (rw [hy.1];rfl));have hE:=congrArg (fun (q1:Nat)=>(Y9 1 kU8 0 q1:AV)) e1;exact hE) ⟨⟨rfl,(by have e1:((rdR rest e 4 (Yu most (rest.take 4))):List UInt8)=(Vw rest e most):=(by (rw [hy.2.1,hy.2.2.2]));have e2:((rdE rest e 4 (Yu most (rest.take 4))):Int)=(V5 rest e most):=(by (rw [hy.2.2.1];done));have hE:=congr pZ18 e2;exact Eq.trans pZ7 hE)⟩,⟨⟨rfl,p3f⟩,trivial⟩⟩
 have hz:=Classical.not_not.1 hq1
 refine cF (dF hq1) ?_
 refine T.skip (nT ?_)
 by_cases hq2:okT (rdR rest e 4 (Yu most (rest.take 4))) (rdE rest e 4 (Yu most (rest.take 4))) ((rdC rest e most:Nat):Int) 0
 ·have hy:=rdY_ok hz hq2
  refine sR [hR 2 rfl rfl (rCa (X6j (rdR rest e 4 (Yu most (rest.take 4))) (rdE rest e 4 (Yu most (rest.take 4))) ((rdC rest e most:Nat):Int) (by omega) (by omega) ‹_›) Tryz.func144 [0] [(.tmp 22,pv 0 0),(.tmp 23,vI ((rdC rest e most:Nat):Int)),(.func 145,dv (.func (.func 145) #[] #[]))] 1 1)] ?_
  refine T.seq ?_
  refine sR [] ?_
  refine cF (b:=false) rfl ?_
  refine T.skip (nT ?_)
  refine sR [hR 1 rfl rfl (rCa (Fu false false ((rdR rest e 4 (Yu most (rest.take 4))).take ((rdC rest e most:Nat):Int).toNat) (by (simp [maxLen,-List.getD_eq_getElem?_getD]<;>omega))) Tryz.func51 [1] [(.tmp 34,slV false false kU8 ((rdR rest e 4 (Yu most (rest.take 4))).take ((rdC rest e most:Nat):Int).toNat))] 0 1)] ?_
  refine T.ret ?_
  exact eRt 4 (.one (.own 1 kU8.sz 0 ((rdR rest e 4 (Yu most (rest.take 4))).take ((rdC rest e most:Nat):Int).toNat).length)) [0,1] (by have e1:((rdY rest e most).length:Nat)=((rdR rest e 4 (Yu most (rest.take 4))).take ((rdC rest e most:Nat):Int).toNat).length:=(by (rw [hy.1];done));have hE:=congrArg (fun (q1:Nat)=>(Y9 1 kU8 0 q1:AV)) e1;exact hE) ⟨⟨rfl,(by have e1:(((rdR rest e 4 (Yu most (rest.take 4))).drop ((rdC rest e most:Nat):Int).toNat):List UInt8)=(Vw rest e most):=(by (rw [hy.2.1];done));have e2:(0:Int)=(V5 rest e most):=(by (rw [hy.2.2];done));have hE:=congr pZ18 e2;exact Eq.trans pZ7 hE)⟩,⟨⟨rfl,(by have e1:(((rdR rest e 4 (Yu most (rest.take 4))).take ((rdC rest e most:Nat):Int).toNat):List UInt8)=(rdY rest e most):=(by (rw [hy.1];done));have hE:=congrArg (fun (q1:List UInt8)=>(.live (Xe 5 kU8 q1):HS)) e1;exact Eq.trans pZ7 hE)⟩,trivial⟩⟩
 have hy:=Xj1 hz hq2
 refine sR [hR 2 rfl rfl (rCa (X6k (rdR rest e 4 (Yu most (rest.take 4))) (rdE rest e 4 (Yu most (rest.take 4))) ((rdC rest e most:Nat):Int) (by omega) (by omega) ‹_›) Tryz.func144 [0] [(.tmp 22,pv 0 0),(.tmp 23,vI ((rdC rest e most:Nat):Int)),(.func 145,dv (.func (.func 145) #[] #[]))] 1 1)] ?_
 refine T.seq ?_
 refine sR [] ?_
 by_cases hq3:(rdE (rdR rest e 4 (Yu most (rest.take 4))) (rdE rest e 4 (Yu most (rest.take 4))) ((rdC rest e most:Nat):Int) 0)≠0
 ·refine cT (dT hq3) ?_
  refine xK [] ?_
  refine nT ?_
  refine sR [hR 1 rfl rfl (rCn (Fu false false ([]:List UInt8) (by (simp [maxLen,-List.getD_eq_getElem?_getD]<;>omega))) Tryz.func51 [1] [(.tmp 34,dv (.slice none 0 0))] 0 1 ⟨.inr pZ5,trivial⟩ trivial)] ?_
  refine T.ret ?_
  exact eRt 4 (.one (.own 1 kU8.sz 0 ([]:List UInt8).length)) [0,1] (by have e1:((rdY rest e most).length:Nat)=([]:List UInt8).length:=(by (rw [hy.1];done));have hE:=congrArg (fun (q1:Nat)=>(Y9 1 kU8 0 q1:AV)) e1;exact hE) ⟨⟨rfl,(by have e1:(rest:List UInt8)=(Vw rest e most):=(by (rw [hy.2.1];done));have e2:((rdE (rdR rest e 4 (Yu most (rest.take 4))) (rdE rest e 4 (Yu most (rest.take 4))) ((rdC rest e most:Nat):Int) 0):Int)=(V5 rest e most):=(by (rw [hy.2.2];done));have hE:=congr pZ18 e2;exact Eq.trans pZ7 hE)⟩,⟨⟨rfl,p3f⟩,trivial⟩⟩
 exact absurd (Xg5 hq2) hq3
section
variable (B:List UInt8) (a:Nat) (m:Nat) (e:Int) (k:Nat)
abbrev Z1x:AV:=vI ((m:Nat):Int)
abbrev Z1y:List HS:=[.live (.box 156 [dU B,dI ((a:Nat):Int),dI e])]
abbrev Z1z:AV:=vB (decide (((m:Nat):Int)>(((B.length:Nat):Int)-((a:Nat):Int))))
abbrev Z20:List AV:=[pv 0 0,(Z1x m),aa,aa,dv (.int .u64 0),vB false,dv (.int .u64 ((Vd ((B.drop a).take k):Nat):Int)),vI ((k:Nat):Int),aa,aa,aa,aa,aa,aa,aa,aa,aa,aa,aa,(Z1z B a m)]
abbrev Z22:AV:=vI ((k+1:Nat):Int)
end
theorem X4o (B:List UInt8) (a:Nat) (e:Int) (m:Nat) (ha:a≤B.length) (hB:B.length≤140737488350000) (hm:m≤8):Holds Tryz.prog 136 ⟨[pv 0 0,vI ((m:Nat):Int)],[.box 156 [dU B,dI ((a:Nat):Int),dI e]],.tup [.one (.d (.val (.int .u64 ((rfN B a m:Nat):Int)))),.one (dB (decide (a+m≤B.length)))],[.live (.box 156 [dU B,dI ((a:Nat):Int),dI e])]⟩:=by
 refine Holds.of Tryz.func136 rfl (N:=42) Tryz.ntmps136 rfl fun w0 B0 S0 U0=>?_
 show T _ (Y2 42 1 w0 S0 U0 B0) ⟨[pv 0 0,(Z1x m)],(Z1y B a e)⟩ _ _
 refine sR [] ?_
 refine T.seq ?_
 refine sD [[],[],[1],[1,2],[1,2,3],[1,2,3,4],[],[6],[6,7],[6,7,8],[1,2,3,4,5,6,7,8,9],[0,1,2,3,4,5,6,7,8,9,10]] [hR 10 rfl rfl (Ye (u1:=.int .i64 ((B.length:Nat):Int)) (u2:=.int .i64 ((a:Nat):Int)) (v:=.int .i64 (((B.length:Nat):Int)-((a:Nat):Int))) (Ve pa) (X3 rfl) trivial)] ?_
 by_cases hq1:((m:Nat):Int)>(((B.length:Nat):Int)-((a:Nat):Int))
 ·refine cT (dT hq1) ?_
  refine sR [] ?_
  refine T.ret (rT ?_)
  exact eX [.t 4 (.one (.d (.val (.int .u64 0)))),.t 5 (.one (dB false))] ⟨⟨rfl,by kernel_rfl⟩,⟨⟨rfl,by kernel_rfl⟩,trivial⟩⟩ [0] (by have e1:(((rfN B a m:Nat):Int):Int)=0:=(by (simp only [rfN];rw [if_neg (by omega)];rfl));have e2:((decide (a+m≤B.length)):Bool)=false:=(by exact dF (by omega));have hE:=congr p4m e2;exact hE) (ix trivial)
 refine cF (dF hq1) ?_
 refine T.skip (nT ?_)
 refine sR [] ?_
 refine T.seq ?_
 refine sR [] ?_
 refine T.block ?_
 refine T.loop (ι:=Nat) (fun (k:Nat)=>⟨(Z20 B a m k),(Z1y B a e)⟩) (fun (k:Nat)=>(k≤m)) (fun (k:Nat)=>m-k) (0) (Nat.zero_le _) (fun _ _ hG=>Yt [0] (bm 20 524531) (t2:=[pv 0 0,(Z1x m),aa,aa,dv (.int .u64 0),vB false,dv (.int .u64 0),vI 0,aa,aa,aa,aa,aa,aa,aa,aa,aa,aa,aa,(Z1z B a m)]) (congrArg (fun (q1:Int)=>([pv 0 0,(Z1x m),aa,aa,dv (.int .u64 0),vB false,dv (.int .u64 q1),vI 0,aa,aa,aa,aa,aa,aa,aa,aa,aa,aa,aa,(Z1z B a m)]:List AV)) (by rfl)) rfl hG) ?_
 rintro k hk
 show T _ _ ⟨(Z20 B a m k),(Z1y B a e)⟩ _ _
 replace hk:k≤m:=hk
 have hk8:Vd ((B.drop a).take k)<18446744073709551616:=X1t (Nat.le_trans (List.length_take_le _ _) (by omega))
 refine T.seq ?_
 refine sR [] ?_
 by_cases hq2:((k:Nat):Int)<((m:Nat):Int)
 ·have hk7:Vd ((B.drop a).take k)<72057594037927936:=Xe5 (Nat.le_trans (List.length_take_le _ _) (by omega));have hbt:=UInt8.toNat_lt (B.getD (a+k) 0)
  refine cT (dT hq2) ?_
  refine T.skip (nT (T.seq ?_))
  refine T.block ?_
  refine xD [[],[0],[],[2],[2,3],[2,3,4],[],[6],[6,7],[6,7,8],[],[6,7,8,9,10],[2,3,4,5,6,7,8,9,10,11],[2,3,4,5,6,7,8,9,10,11,12],[2,3,4,5,6,7,8,9,10,11,12,13],[0,1,2,3,4,5,6,7,8,9,10,11,12,13,14],[0,1,2,3,4,5,6,7,8,9,10,11,12,13,14,15]] [hR 1 rfl rfl (Ye (u1:=.int .u64 ((Vd ((B.drop a).take k):Nat):Int)) (u2:=.int .u64 8) (v:=.int .u64 (((Vd ((B.drop a).take k))*2 ^ 8:Nat):Int)) (F6 (n:=8) rfl py p43) (X3 rfl) ⟨rfl,trivial⟩),hR 11 rfl rfl (Ye (u1:=.int .i64 ((a:Nat):Int)) (u2:=.int .i64 ((k:Nat):Int)) (v:=.int .i64 ((a+k:Nat):Int)) (Wa pa) (X3 rfl) trivial),hR 12 rfl rfl (Wd false false kU8 B (a+k) (k:=.i64) (i:=((a+k:Nat):Int)) Tryz.underlying25 Jl rfl rfl (by omega) (X3 rfl) trivial),hR 14 rfl rfl (Vc (u:=.int .u8 (((B.getD (a+k) 0).toNat:Nat):Int)) (v:=.int .u64 (((B.getD (a+k) 0).toNat:Nat):Int)) (H2 Tryz.underlying5 Tryz.underlying179 p43) (X3 rfl) trivial),hR 15 rfl rfl (Ye (u1:=.int .u64 (((Vd ((B.drop a).take k))*2 ^ 8:Nat):Int)) (u2:=.int .u64 (((B.getD (a+k) 0).toNat:Nat):Int)) (v:=.int .u64 ((((Vd ((B.drop a).take k))*2 ^ 8) ||| (B.getD (a+k) 0).toNat:Nat):Int)) (b_orU (by omega) (by omega)) (X3 rfl) trivial)] pZ7 pZ7 pZ7 pZ7 pZ7 pZ7 ?_
  refine nB ?_
  refine nT ?_
  refine xK [hR 1 rfl rfl (Ye (u1:=.int .i64 ((k:Nat):Int)) (u2:=.int .i64 1) (v:=.int .i64 ((k+1:Nat):Int)) (Wa pa) (X3 rfl) ⟨rfl,trivial⟩)] ?_
  refine nL (k+1) (show (k+1)≤m from (by omega)) (show (m-(k+1):Nat)<m-k from (by omega)) (fun _ _ hG=>Yt [0] (bm 20 524531) (t2:=[pv 0 0,(Z1x m),aa,aa,dv (.int .u64 0),vB false,dv (.int .u64 ((((Vd ((B.drop a).take k))*2 ^ 8) ||| (B.getD (a+k) 0).toNat:Nat):Int)),(Z22 k),aa,aa,aa,aa,aa,aa,aa,aa,aa,aa,aa,(Z1z B a m)]) (by have e1:(((Vd ((B.drop a).take (k+1)):Nat):Int):Int)=((((Vd ((B.drop a).take k))*2 ^ 8) ||| (B.getD (a+k) 0).toNat:Nat):Int):=(by (rw [Xgc (by omega)]));have hE:=congrArg (fun (q1:Int)=>([pv 0 0,(Z1x m),aa,aa,dv (.int .u64 0),vB false,dv (.int .u64 q1),(Z22 k),aa,aa,aa,aa,aa,aa,aa,aa,aa,aa,aa,(Z1z B a m)]:List AV)) e1;exact hE) rfl hG)
 refine cF (dF hq2) ?_
 refine T.exit ?_
 refine xT ?_
 refine xT ?_
 refine xH ?_
 refine nT ?_
 refine sR [] ?_
 refine T.ret ?_
 exact eX [.t 4 (.one (.d (.val (.int .u64 ((Vd ((B.drop a).take k):Nat):Int))))),.t 5 (.one (dB true))] ⟨⟨rfl,by kernel_rfl⟩,⟨⟨rfl,by kernel_rfl⟩,trivial⟩⟩ [0] (by have e1:(((rfN B a m:Nat):Int):Int)=((Vd ((B.drop a).take k):Nat):Int):=(by (have hke:k=m:=(by omega);subst hke;rw [Xbw (by omega)]));have e2:((decide (a+m≤B.length)):Bool)=true:=(by exact dT (by omega));have hE:=congr p4m e2;exact hE) (ix trivial)
theorem X8z (B:List UInt8) (a:Nat) (e:Int) (ha:a≤B.length) (hB:B.length≤140737488350000):Holds Tryz.prog 94 ⟨[pv 0 0],[.box 156 [dU B,dI ((a:Nat):Int),dI e]],vI (rdI (B.drop a) e),[.live (.box 156 [dU B,dI ((rfA B a e 8 0:Nat):Int),dI (rdE (B.drop a) e 8 0)])]⟩:=by
 refine Holds.of Tryz.func94 rfl (N:=29) Tryz.ntmps94 rfl fun w0 B0 S0 U0=>?_
 show T _ (Y2 29 1 w0 S0 U0 B0) ⟨[pv 0 0],[.live (.box 156 [dU B,dI ((a:Nat):Int),dI e])]⟩ _ _
 have hn8:=rfN_lt B a (m:=8) (by decide)
 refine sR [] ?_
 refine T.seq ?_
 refine sR [] ?_
 by_cases hq1:e≠0
 ·have hr:=rf_e (B:=B) (a:=a) hq1 8 0
  refine cT (dT hq1) ?_
  refine sR [] ?_
  refine T.ret (rT ?_)
  exact eRt 2 (.one (dI 0)) [0] p44 ⟨⟨rfl,(by have e1:(((a:Nat):Int):Int)=((rfA B a e 8 0:Nat):Int):=p58;have e2:(e:Int)=(rdE (B.drop a) e 8 0):=p5j;have hE:=congr p2m e2;exact Eq.trans pZ7 hE)⟩,trivial⟩
 refine cF (dF hq1) ?_
 refine T.skip (nT ?_)
 refine sR [hR 1 rfl rfl (rCa (X4o B a e 8 ‹_› ‹_› (by omega)) Tryz.func136 [0] [(.tmp 11,pv 0 0),(.const (.int .i64 8),vI 8)] 1 1)] ?_
 refine T.seq ?_
 refine sR [] ?_
 by_cases hq2:a+8≤B.length
 ·have hr:=rf_ok (n:=8) (k:=8) (m:=0) rfl ‹_› hq2 rfl
  refine cF (cn (dT hq2)) ?_
  refine T.skip (nT ?_)
  refine sR [hR 4 rfl rfl (Ye (u1:=.int .i64 ((a:Nat):Int)) (u2:=.int .i64 8) (v:=.int .i64 ((a+8:Nat):Int)) (Wa pa) (X3 rfl) ⟨rfl,trivial⟩)] ?_
  refine sR [hR 1 rfl rfl (Vc (u:=.int .u64 ((rfN B a 8:Nat):Int)) (v:=.int .i64 (X36 (rfN B a 8))) (c_i64 ‹_› Tryz.underlying179 Tryz.underlying2) (X3 rfl) trivial)] ?_
  refine T.ret ?_
  exact eRt 2 (.one (dI (X36 (rfN B a 8)))) [0] (by have e1:(rdI (B.drop a) e:Int)=X36 (rfN B a 8):=(by (simp only [rdI];(rw [if_pos hr.1,← Xbw ‹_›];done)));have hE:=cI e1;exact hE) ⟨⟨rfl,(by have e1:(((a+8:Nat):Int):Int)=((rfA B a e 8 0:Nat):Int):=(by (rw [X8o hr.1];rfl));have e2:(e:Int)=(rdE (B.drop a) e 8 0):=(by (rw [hr.2];omega));have hE:=congr p2m e2;exact Eq.trans pZ7 hE)⟩,trivial⟩
 have hr:=Xdj (n:=8) (k:=8) rfl ‹_› hq2 ha 0
 refine cT (cn (dF hq2)) ?_
 refine sR [] ?_
 refine sR [] ?_
 refine T.ret (rT ?_)
 exact eRt 2 (.one (dI 0)) [0] p44 ⟨⟨rfl,(by have e1:(((a:Nat):Int):Int)=((rfA B a e 8 0:Nat):Int):=p58;have e2:(10:Int)=(rdE (B.drop a) e 8 0):=p5j;have hE:=congr p2m e2;exact Eq.trans pZ7 hE)⟩,trivial⟩
abbrev Z24 (B:List UInt8):SV:=dU B
abbrev Z25:TV:=.one (dI 0)
theorem X4n (B:List UInt8) (a:Nat) (e:Int) (most:Int) (ha:a≤B.length) (hB:B.length≤140737488350000):Holds Tryz.prog 137 ⟨[pv 0 0,vI most],[.box 156 [dU B,dI ((a:Nat):Int),dI e]],vI ((rdC (B.drop a) e most:Nat):Int),[.live (.box 156 [dU B,dI ((rfA B a e 4 (Yu most ((B.drop a).take 4)):Nat):Int),dI (rdE (B.drop a) e 4 (Yu most ((B.drop a).take 4)))])]⟩:=by
 refine Holds.of Tryz.func137 rfl (N:=39) Tryz.ntmps137 rfl fun w0 B0 S0 U0=>?_
 show T _ (Y2 39 1 w0 S0 U0 B0) ⟨[pv 0 0,vI most],[.live (.box 156 [(Z24 B),dI ((a:Nat):Int),dI e])]⟩ _ _
 have hn4:=rfN_lt4 B a
 refine sR [] ?_
 refine T.seq ?_
 refine sR [] ?_
 by_cases hq1:e≠0
 ·have hr:=rf_e (B:=B) (a:=a) hq1 4 (Yu most ((B.drop a).take 4))
  refine cT (dT hq1) ?_
  refine sR [] ?_
  refine T.ret (rT ?_)
  exact eRt 4 (Z25) [0] p2h ⟨⟨rfl,(by have e1:(((a:Nat):Int):Int)=((rfA B a e 4 (Yu most ((B.drop a).take 4)):Nat):Int):=p58;have e2:(e:Int)=(rdE (B.drop a) e 4 (Yu most ((B.drop a).take 4))):=p5j;have hE:=congr p2k e2;exact Eq.trans pZ7 hE)⟩,trivial⟩
 refine cF (dF hq1) ?_
 refine T.skip (nT ?_)
 refine sR [hR 1 rfl rfl (rCa (X4o B a e 4 ‹_› ‹_› (by omega)) Tryz.func136 [0] [(.tmp 13,pv 0 0),(.const (.int .i64 4),vI 4)] 1 1)] ?_
 refine T.seq ?_
 refine sR [] ?_
 by_cases hq2:a+4≤B.length
 ·refine cF (cn (dT hq2)) ?_
  refine T.skip (nT (T.seq ?_))
  refine sR [hR 1 rfl rfl (Vc (u:=.int .u64 ((rfN B a 4:Nat):Int)) (v:=.int .i64 ((rfN B a 4:Nat):Int)) (H2 Tryz.underlying179 Tryz.underlying3 pa) (X3 rfl) trivial),hR 3 rfl rfl (X1p (k:=.i64) (a:=0) (b:=most) (X3 rfl) ⟨rfl,trivial⟩)] ?_
  by_cases hq3:((rfN B a 4:Nat):Int)>(max 0 most)
  ·have hr:=rf_m (n:=4) (k:=4) (c:=11) (m:=(Yu most ((B.drop a).take 4))) rfl ‹_› ‹_› (by rw [lim_of ‹_›,if_pos ‹_›]) (by decide)
   refine cT (dT hq3) ?_
   refine sR [] ?_
   refine sR [] ?_
   refine T.ret (rT ?_)
   exact eRt 4 (Z25) [0] p2h ⟨⟨rfl,(by have e1:(((a:Nat):Int):Int)=((rfA B a e 4 (Yu most ((B.drop a).take 4)):Nat):Int):=p58;have e2:(11:Int)=(rdE (B.drop a) e 4 (Yu most ((B.drop a).take 4))):=p5j;have hE:=congr p2k e2;exact Eq.trans pZ7 hE)⟩,trivial⟩
  have hr:=rf_ok (n:=4) (k:=4) (m:=(Yu most ((B.drop a).take 4))) rfl ‹_› ‹_› (by rw [lim_of ‹_›,if_neg ‹_›])
  refine cF (dF hq3) ?_
  refine T.skip (nT ?_)
  refine sR [hR 4 rfl rfl (Ye (u1:=.int .i64 ((a:Nat):Int)) (u2:=.int .i64 4) (v:=.int .i64 ((a+4:Nat):Int)) (Wa pa) (X3 rfl) ⟨rfl,trivial⟩)] ?_
  refine sR [hR 1 rfl rfl (Vc (u:=.int .u64 ((rfN B a 4:Nat):Int)) (v:=.int .i64 ((rfN B a 4:Nat):Int)) (H2 Tryz.underlying179 Tryz.underlying3 pa) (X3 rfl) trivial)] ?_
  refine T.ret ?_
  exact eRt 4 (.one (dI ((rfN B a 4:Nat):Int))) [0] (by have e1:(((rdC (B.drop a) e most:Nat):Int):Int)=((rfN B a 4:Nat):Int):=(by (simp only [rdC];(rw [if_pos hr.1,← Xbw ‹_›];done)));have hE:=cI e1;exact hE) ⟨⟨rfl,(by have e1:(((a+4:Nat):Int):Int)=((rfA B a e 4 (Yu most ((B.drop a).take 4)):Nat):Int):=(by (rw [X8o hr.1];rfl));have e2:(e:Int)=(rdE (B.drop a) e 4 (Yu most ((B.drop a).take 4))):=(by (rw [hr.2];omega));have hE:=congr p2k e2;exact Eq.trans pZ7 hE)⟩,trivial⟩
 have hr:=Xdj (n:=4) (k:=4) rfl ‹_› hq2 ha (Yu most ((B.drop a).take 4))
 refine cT (cn (dF hq2)) ?_
 refine sR [] ?_
 refine sR [] ?_
 refine T.ret (rT ?_)
 exact eRt 4 (Z25) [0] p2h ⟨⟨rfl,(by have e1:(((a:Nat):Int):Int)=((rfA B a e 4 (Yu most ((B.drop a).take 4)):Nat):Int):=p58;have e2:(10:Int)=(rdE (B.drop a) e 4 (Yu most ((B.drop a).take 4))):=p5j;have hE:=congr p2k e2;exact Eq.trans pZ7 hE)⟩,trivial⟩
abbrev Z26 (a:Nat):SV:=dI ((a:Nat):Int)
theorem X90 (B:List UInt8) (a:Nat) (e:Int) (ha:a≤B.length) (hB:B.length≤140737488350000):Holds Tryz.prog 96 ⟨[pv 0 0],[.box 156 [dU B,dI ((a:Nat):Int),dI e]],.tup [],[.live (.box 156 [dU B,dI ((a:Nat):Int),dI (rdX (B.drop a) e)])]⟩:=by
 refine Holds.of Tryz.func96 rfl (N:=22) Tryz.ntmps96 rfl fun w0 B0 S0 U0=>?_
 show T _ (Y2 22 1 w0 S0 U0 B0) ⟨[pv 0 0],[.live (.box 156 [dU B,(Z26 a),dI e])]⟩ _ _
 by_cases hq1:e=0
 ·refine sD [[],[0],[0,1],[0,1,2],[0,1,2,3],[0,1,2,3,4],[0,1,2,3,4,5],[0,1,2,3,4,5,6],[0,1,2,3,4,5,6,7],[0,1,2,3,4,5,6,7,8],[0,1,2,3,4,5],[0,1,2,3,4,5,10],[0,1,2,3,4,5,10,11],[0,1,2,3,4,5,10,11,12],[0,1,2,3,4,5,10,11,12,13],[0,1,2,3,4,5,6,7,8,9,10,11,12,13,14],[0,1,2,3,4,5,6,7,8,9,10,11,12,13,14,15]] (Xm (hY · (dT hq1)) [6,7,8,9,10,11,12,13,14,15] (hP 16 (dT hq1)::[])) ?_
  by_cases hq2:((a:Nat):Int)<((B.length:Nat):Int)
  ·refine cT (dT hq2) ?_
   refine xK [] ?_
   exact tE (.inr rfl) [] trivial [0] rfl rfl rfl rfl rfl rfl ⟨⟨rfl,(by have e1:(13:Int)=(rdX (B.drop a) e):=(by (simp only [rdX,List.length_drop];rw [if_pos ⟨by assumption,by omega⟩]));have hE:=congrArg (fun (q1:Int)=>(.live (.box 156 [dU B,(Z26 a),dI q1]):HS)) e1;exact Eq.trans pZ7 hE)⟩,trivial⟩
  refine cF (dF hq2) ?_
  refine T.skip ?_
  exact tE (.inr rfl) [] trivial [0] rfl rfl rfl rfl rfl rfl ⟨⟨rfl,(by have e1:(e:Int)=(rdX (B.drop a) e):=(by (simp only [rdX,List.length_drop];rw [if_neg (fun h=>by (have:=h.2;omega))]));have hE:=congrArg (fun (q1:Int)=>(.live (.box 156 [dU B,(Z26 a),dI q1]):HS)) e1;exact Eq.trans pZ7 hE)⟩,trivial⟩
 refine sD [[],[0],[0,1],[0,1,2],[0,1,2,3],[0,1,2,3,4],[0,1,2,3,4,5],[0,1,2,3,4,5,6],[0,1,2,3,4,5,6,7],[0,1,2,3,4,5,6,7,8],[0,1,2,3,4,5],[0,1,2,3,4,5,10],[0,1,2,3,4,5,10,11],[0,1,2,3,4,5,10,11,12],[0,1,2,3,4,5,10,11,12,13],[0,1,2,3,4,5,6,7,8,9,10,11,12,13,14],[0,1,2,3,4,5,6,7,8,9,10,11,12,13,14,15]] (Xm (hN · true (dF hq1)) [6,7,8,9,10,11,12,13,14,15] (hP 16 (dF hq1)::[])) ?_
 refine cF (b:=false) rfl ?_
 refine T.skip ?_
 exact tE (.inr rfl) [] trivial [0] rfl rfl rfl rfl rfl rfl ⟨⟨rfl,(by have e1:(e:Int)=(rdX (B.drop a) e):=(by (simp only [rdX,List.length_drop];rw [if_neg (fun h=>by exact absurd h.1 ‹_›)]));have hE:=congrArg (fun (q1:Int)=>(.live (.box 156 [dU B,(Z26 a),dI q1]):HS)) e1;exact Eq.trans pZ7 hE)⟩,trivial⟩
section
variable (B:List UInt8) (a:Nat) (e:Int) (most:Int)
abbrev Z27:SV:=dU B
abbrev Z28:AV:=vI ((a:Nat):Int)
abbrev Z29:AV:=vI ((rdC (B.drop a) e most:Nat):Int)
abbrev Z2a:AV:=vB (decide (((rdC (B.drop a) e most:Nat):Int)>(((B.length:Nat):Int)-((rfA B a e 4 (Yu most ((B.drop a).take 4)):Nat):Int))))
abbrev Z2b:AV:=vB (decide ((rdE (B.drop a) e 4 (Yu most ((B.drop a).take 4)))≠0))
abbrev Z2c:HS:=.live (.box 156 [(Z27 B),dI ((rfA B a e 4 (Yu most ((B.drop a).take 4)):Nat):Int),dI (rdE (B.drop a) e 4 (Yu most ((B.drop a).take 4)))])
abbrev Z2d:=(rfA B a e 4 (Yu most ((B.drop a).take 4)))
end
theorem X0e (B:List UInt8) (a:Nat) (e:Int) (most:Int) (ha:a≤B.length) (hB:B.length≤140737488350000):Holds Tryz.prog 95 ⟨[pv 0 0,vI most],[.box 156 [dU B,dI ((a:Nat):Int),dI e]],Y9 1 kU8 0 (rdY (B.drop a) e most).length,[.live (.box 156 [dU B,dI ((H6 B a e most:Nat):Int),dI (V5 (B.drop a) e most)]),.live (Xe 5 kU8 (rdY (B.drop a) e most))]⟩:=by
 refine Holds.of Tryz.func95 rfl (N:=72) Tryz.ntmps95 rfl fun w0 B0 S0 U0=>?_
 show T _ (Y2 72 1 w0 S0 U0 B0) ⟨[pv 0 0,vI most],[.live (.box 156 [(Z27 B),dI ((a:Nat):Int),dI e])]⟩ _ _
 have hrc:=rdC_lt (B.drop a) e most
 have hra:=Xfu (B:=B) (a:=a) (e:=e) (n:=4) (m:=(Yu most ((B.drop a).take 4))) ha
 refine sR [] ?_
 refine sR [] ?_
 refine sR [hR 2 rfl rfl (rCa (X4n B a e most ‹_› ‹_›) Tryz.func137 [0] [(.tmp 12,pv 0 0),(.tmp 13,vI most)] 1 1)] ?_
 refine T.seq ?_
 by_cases hq1:(rdE (B.drop a) e 4 (Yu most ((B.drop a).take 4)))=0
 ·refine sD [[],[0],[0,1],[0,1,2],[0,1,2,3],[0,1,2,3,4],[0,1,2,3,4,5],[0,1,2,3,4,5],[0,1,2,3,4,5,7],[0,1,2,3,4,5,7,8],[0,1,2,3,4,5,7,8,9],[0,1,2,3,4,5,7,8,9,10],[0,1,2,3,4,5],[0,1,2,3,4,5,12],[0,1,2,3,4,5,12,13],[0,1,2,3,4,5,12,13,14],[0,1,2,3,4,5,7,8,9,10,11,12,13,14,15],[0,1,2,3,4,5,6,7,8,9,10,11,12,13,14,15,16],[0,1,2,3,4,5,6,7,8,9,10,11,12,13,14,15,16,17]] (Xm (hY · (dT hq1)) [6,7,8,9,10,11,12,13,14,15] (hS 16 (oY rfl rfl rfl rfl (X3 rfl) (dT hq1) (Ye (u1:=.int .i64 ((B.length:Nat):Int)) (u2:=.int .i64 ((rfA B a e 4 (Yu most ((B.drop a).take 4)):Nat):Int)) (v:=.int .i64 (((B.length:Nat):Int)-((rfA B a e 4 (Yu most ((B.drop a).take 4)):Nat):Int))) (Ve pa) (X3 rfl) F2))::(hY 17 (dT hq1)::(hP 18 (dT hq1)::[])))) ?_
  by_cases hq2:((rdC (B.drop a) e most:Nat):Int)>(((B.length:Nat):Int)-((rfA B a e 4 (Yu most ((B.drop a).take 4)):Nat):Int))
  ·have hy:=Xix ‹_› hq2 ha
   refine cT (dT hq2) ?_
   refine sR [] ?_
   refine xK [] ?_
   refine nT (T.seq ?_)
   refine sR [] ?_
   refine cT (b:=true) rfl ?_
   refine sR [] ?_
   refine T.ret (rT ?_)
   refine eN ⟨[pv 0 0,vI most,aa,aa,dv (.slice none 0 0),(Z28 a),(Z29 B a e most),aa,aa,aa,aa,aa,aa,aa,aa,aa,aa,aa,aa,aa,aa,aa,aa,aa,aa,aa,aa,aa,aa,aa,aa,aa,aa,(Z2a B a e most),aa,aa,aa,aa,aa,aa,aa,aa,aa,aa,aa,vB true],[.live (.box 156 [(Z27 B),dI ((a:Nat):Int),dI 10])]⟩ ?_
   refine Xc (s':=⟨[pv 0 0,vI most,aa,aa,Y9 1 kU8 0 0,(Z28 a),(Z29 B a e most),aa,aa,aa,aa,aa,aa,aa,aa,aa,aa,aa,aa,aa,aa,aa,aa,aa,aa,aa,aa,aa,aa,aa,aa,aa,aa,(Z2a B a e most),aa,aa,aa,aa,aa,aa,aa,aa,aa,aa,aa,vB true],[.live (.box 156 [(Z27 B),dI ((a:Nat):Int),dI 10]),.live (Xe 5 kU8 ([]:List UInt8))]⟩) (fun _ _ hG=>Vy 1 4 5 kU8 rfl rfl hG) ?_
   exact eRt 4 (.one (.own 1 kU8.sz 0 0)) [0,1] p3s ⟨⟨rfl,(by have e1:(((a:Nat):Int):Int)=((H6 B a e most:Nat):Int):=(by omega);have e2:(10:Int)=(V5 (B.drop a) e most):=(by omega);have hE:=congr (congrArg (fun (q1:Int) (q2:Int)=>(.live (.box 156 [(Z27 B),dI q1,dI q2]):HS)) e1) e2;exact Eq.trans pZ7 hE)⟩,⟨⟨rfl,p3d⟩,trivial⟩⟩
  have hy:=rfY_ok ‹_› hq2 ha
  refine cF (dF hq2) ?_
  refine T.skip (nT (T.seq ?_))
  refine sR [] ?_
  by_cases hq3:(rdE (B.drop a) e 4 (Yu most ((B.drop a).take 4)))≠0
  ·refine cT (dT hq3) ?_
   refine sR [] ?_
   refine T.ret (rT ?_)
   refine eN ⟨[pv 0 0,vI most,aa,aa,dv (.slice none 0 0),(Z28 a),(Z29 B a e most),aa,aa,aa,aa,aa,aa,aa,aa,aa,aa,aa,aa,aa,aa,aa,aa,aa,aa,aa,aa,aa,aa,aa,aa,aa,aa,(Z2a B a e most),aa,aa,aa,aa,aa,aa,aa,aa,aa,aa,aa,(Z2b B a e most)],[(Z2c B a e most)]⟩ ?_
   refine Xc (s':=⟨[pv 0 0,vI most,aa,aa,Y9 1 kU8 0 0,(Z28 a),(Z29 B a e most),aa,aa,aa,aa,aa,aa,aa,aa,aa,aa,aa,aa,aa,aa,aa,aa,aa,aa,aa,aa,aa,aa,aa,aa,aa,aa,(Z2a B a e most),aa,aa,aa,aa,aa,aa,aa,aa,aa,aa,aa,(Z2b B a e most)],[(Z2c B a e most),.live (Xe 5 kU8 ([]:List UInt8))]⟩) (fun _ _ hG=>Vy 1 4 5 kU8 rfl rfl hG) ?_
   exact eRt 4 (.one (.own 1 kU8.sz 0 0)) [0,1] (congrArg (fun (q1:Nat)=>(Y9 1 kU8 0 q1:AV)) (show ((rdY (B.drop a) e most).length:Nat)=0 from (by omega))) ⟨⟨rfl,p1w⟩,⟨⟨rfl,(by have e1:(([]:List UInt8):List UInt8)=(rdY (B.drop a) e most):=(by omega);have hE:=congrArg (fun (q1:List UInt8)=>(.live (Xe 5 kU8 q1):HS)) e1;exact Eq.trans pZ7 hE)⟩,trivial⟩⟩
  refine cF (dF hq3) ?_
  refine T.skip (nT ?_)
  refine sD [[],[],[1],[1,2],[1,2,3],[],[5],[5,6],[5,6,7],[],[9],[9,10],[9,10,11],[],[9,10,11,12,13],[1,2,3,4,5,6,7,8,9,10,11,12,13,14],[0,1,2,3,4,5,6,7,8,9,10,11,12,13,14,15],[0,1,2,3,4,5,6,7,8,9,10,11,12,13,14,15,16]] [hR 0 rfl rfl (Yd 1 5 kU8 Vr ([]:List UInt8) [] (cs:=[]) Tryz.underlying25 Jl rfl Io rfl rfl rfl pd W4 pZ7 (V1 pZ7) (X3 rfl) trivial),hR 14 rfl rfl (Ye (u1:=.int .i64 ((rfA B a e 4 (Yu most ((B.drop a).take 4)):Nat):Int)) (u2:=.int .i64 ((rdC (B.drop a) e most:Nat):Int)) (v:=.int .i64 (((rfA B a e 4 (Yu most ((B.drop a).take 4)))+(rdC (B.drop a) e most):Nat):Int)) (Wa pa) (X3 rfl) trivial),hR 15 rfl rfl (Ua false false kU8 B ((B.take ((rfA B a e 4 (Yu most ((B.drop a).take 4)))+(rdC (B.drop a) e most))).drop (rfA B a e 4 (Yu most ((B.drop a).take 4)))) (rfA B a e 4 (Yu most ((B.drop a).take 4))) ((rfA B a e 4 (Yu most ((B.drop a).take 4)))+(rdC (B.drop a) e most)) (lo:=some (.tmp 54,((rfA B a e 4 (Yu most ((B.drop a).take 4)):Nat):Int))) (hi:=some (.tmp 60,(((rfA B a e 4 (Yu most ((B.drop a).take 4)))+(rdC (B.drop a) e most):Nat):Int))) Tryz.underlying25 Jl rfl rfl rfl rfl rfl (by omega) (by omega) rfl (X3 rfl) trivial),hR 16 rfl rfl (Yy 1 2 5 1 kU8 Vr ([]:List UInt8) ((B.take ((rfA B a e 4 (Yu most ((B.drop a).take 4)))+(rdC (B.drop a) e most))).drop (rfA B a e 4 (Yu most ((B.drop a).take 4)))) ((B.take ((rfA B a e 4 (Yu most ((B.drop a).take 4)))+(rdC (B.drop a) e most))).drop (rfA B a e 4 (Yu most ((B.drop a).take 4)))) ([]:List UInt8).length (sy:=(dU ((B.take ((Z2d B a e most)+(rdC (B.drop a) e most))).drop (Z2d B a e most)))) (rhs:=[]) Jf (by omega) (Ji false false kU8 ((B.take ((rfA B a e 4 (Yu most ((B.drop a).take 4)))+(rdC (B.drop a) e most))).drop (rfA B a e 4 (Yu most ((B.drop a).take 4))))) (by simp) (by (simp [maxLen,-List.getD_eq_getElem?_getD]<;>omega)) (by (simp [maxLen,-List.getD_eq_getElem?_getD]<;>omega)) (X3 rfl) trivial)] ?_
  refine sR [hR 5 rfl rfl (Ye (u1:=.int .i64 ((rfA B a e 4 (Yu most ((B.drop a).take 4)):Nat):Int)) (u2:=.int .i64 ((rdC (B.drop a) e most:Nat):Int)) (v:=.int .i64 (((rfA B a e 4 (Yu most ((B.drop a).take 4)))+(rdC (B.drop a) e most):Nat):Int)) (Wa pa) (X3 rfl) trivial)] ?_
  refine sR [] ?_
  refine T.ret ?_
  exact eRt 4 (.one (.own 2 kU8.sz 0 ((B.take ((Z2d B a e most)+(rdC (B.drop a) e most))).drop (Z2d B a e most)).length)) [0,2] (by have e1:((rdY (B.drop a) e most).length:Nat)=((B.take ((rfA B a e 4 (Yu most ((B.drop a).take 4)))+(rdC (B.drop a) e most))).drop (rfA B a e 4 (Yu most ((B.drop a).take 4)))).length:=(by (rw [hy.2.2.2.1,hy.1,hy.2.1];done));have hE:=congrArg (fun (q1:Nat)=>(Y9 2 kU8 0 q1:AV)) e1;exact hE) ⟨⟨rfl,p1s⟩,⟨⟨rfl,(by have e1:(((B.take ((rfA B a e 4 (Yu most ((B.drop a).take 4)))+(rdC (B.drop a) e most))).drop (rfA B a e 4 (Yu most ((B.drop a).take 4)))):List UInt8)=(rdY (B.drop a) e most):=(by (rw [hy.2.2.2.1,hy.1,hy.2.1];done));have hE:=congrArg (fun (q1:List UInt8)=>(.live (Xe 5 kU8 q1):HS)) e1;exact Eq.trans pZ7 hE)⟩,trivial⟩⟩
 have hy:=rfY_fail hq1
 refine sD [[],[0],[0,1],[0,1,2],[0,1,2,3],[0,1,2,3,4],[0,1,2,3,4,5],[0,1,2,3,4,5],[0,1,2,3,4,5,7],[0,1,2,3,4,5,7,8],[0,1,2,3,4,5,7,8,9],[0,1,2,3,4,5,7,8,9,10],[0,1,2,3,4,5],[0,1,2,3,4,5,12],[0,1,2,3,4,5,12,13],[0,1,2,3,4,5,12,13,14],[0,1,2,3,4,5,7,8,9,10,11,12,13,14,15],[0,1,2,3,4,5,6,7,8,9,10,11,12,13,14,15,16],[0,1,2,3,4,5,6,7,8,9,10,11,12,13,14,15,16,17]] (Xm (hN · true (dF hq1)) [6,7,8,9,10,11,12,13,14,15,16,17] (hP 18 (dF hq1)::[])) ?_
 refine cF (b:=false) rfl ?_
 refine T.skip (nT (T.seq ?_))
 refine sR [] ?_
 by_cases hq4:(rdE (B.drop a) e 4 (Yu most ((B.drop a).take 4)))≠0
 ·refine cT (dT hq4) ?_
  refine sR [] ?_
  refine T.ret (rT ?_)
  refine eN ⟨[pv 0 0,vI most,aa,aa,dv (.slice none 0 0),(Z28 a),(Z29 B a e most),aa,aa,aa,aa,aa,aa,aa,aa,aa,aa,aa,aa,aa,aa,aa,aa,aa,aa,aa,aa,aa,aa,aa,aa,aa,aa,vB false,aa,aa,aa,aa,aa,aa,aa,aa,aa,aa,aa,(Z2b B a e most)],[(Z2c B a e most)]⟩ ?_
  refine Xc (s':=⟨[pv 0 0,vI most,aa,aa,Y9 1 kU8 0 0,(Z28 a),(Z29 B a e most),aa,aa,aa,aa,aa,aa,aa,aa,aa,aa,aa,aa,aa,aa,aa,aa,aa,aa,aa,aa,aa,aa,aa,aa,aa,aa,vB false,aa,aa,aa,aa,aa,aa,aa,aa,aa,aa,aa,(Z2b B a e most)],[(Z2c B a e most),.live (Xe 5 kU8 ([]:List UInt8))]⟩) (fun _ _ hG=>Vy 1 4 5 kU8 rfl rfl hG) ?_
  exact eRt 4 (.one (.own 1 kU8.sz 0 0)) [0,1] p3s ⟨⟨rfl,p1w⟩,⟨⟨rfl,p3d⟩,trivial⟩⟩
 refine cF (dF hq4) ?_
 refine T.skip (nT ?_)
 refine sD [[],[],[1],[1,2],[1,2,3],[],[5],[5,6],[5,6,7],[],[9],[9,10],[9,10,11],[],[9,10,11,12,13],[1,2,3,4,5,6,7,8,9,10,11,12,13,14],[0,1,2,3,4,5,6,7,8,9,10,11,12,13,14,15],[0,1,2,3,4,5,6,7,8,9,10,11,12,13,14,15,16]] [hR 0 rfl rfl (Yd 1 5 kU8 Vr ([]:List UInt8) [] (cs:=[]) Tryz.underlying25 Jl rfl Io rfl rfl rfl pd W4 pZ7 (V1 pZ7) (X3 rfl) trivial),hR 14 rfl rfl (Ye (u1:=.int .i64 ((rfA B a e 4 (Yu most ((B.drop a).take 4)):Nat):Int)) (u2:=.int .i64 ((rdC (B.drop a) e most:Nat):Int)) (v:=.int .i64 (((rfA B a e 4 (Yu most ((B.drop a).take 4)))+(rdC (B.drop a) e most):Nat):Int)) (Wa pa) (X3 rfl) trivial),hR 15 rfl rfl (Ua false false kU8 B ((B.take ((rfA B a e 4 (Yu most ((B.drop a).take 4)))+(rdC (B.drop a) e most))).drop (rfA B a e 4 (Yu most ((B.drop a).take 4)))) (rfA B a e 4 (Yu most ((B.drop a).take 4))) ((rfA B a e 4 (Yu most ((B.drop a).take 4)))+(rdC (B.drop a) e most)) (lo:=some (.tmp 54,((rfA B a e 4 (Yu most ((B.drop a).take 4)):Nat):Int))) (hi:=some (.tmp 60,(((rfA B a e 4 (Yu most ((B.drop a).take 4)))+(rdC (B.drop a) e most):Nat):Int))) Tryz.underlying25 Jl rfl rfl rfl rfl rfl (by omega) (by omega) rfl (X3 rfl) trivial),hR 16 rfl rfl (Yy 1 2 5 1 kU8 Vr ([]:List UInt8) ((B.take ((rfA B a e 4 (Yu most ((B.drop a).take 4)))+(rdC (B.drop a) e most))).drop (rfA B a e 4 (Yu most ((B.drop a).take 4)))) ((B.take ((rfA B a e 4 (Yu most ((B.drop a).take 4)))+(rdC (B.drop a) e most))).drop (rfA B a e 4 (Yu most ((B.drop a).take 4)))) ([]:List UInt8).length (sy:=(dU ((B.take ((Z2d B a e most)+(rdC (B.drop a) e most))).drop (Z2d B a e most)))) (rhs:=[]) Jf (by omega) (Ji false false kU8 ((B.take ((rfA B a e 4 (Yu most ((B.drop a).take 4)))+(rdC (B.drop a) e most))).drop (rfA B a e 4 (Yu most ((B.drop a).take 4))))) (by simp) (by omega) (by omega) (X3 rfl) trivial)] ?_
 refine sR [hR 5 rfl rfl (Ye (u1:=.int .i64 ((rfA B a e 4 (Yu most ((B.drop a).take 4)):Nat):Int)) (u2:=.int .i64 ((rdC (B.drop a) e most:Nat):Int)) (v:=.int .i64 (((rfA B a e 4 (Yu most ((B.drop a).take 4)))+(rdC (B.drop a) e most):Nat):Int)) (Wa pa) (X3 rfl) trivial)] ?_
 refine sR [] ?_
 refine T.ret ?_
 exact eRt 4 (.one (.own 2 kU8.sz 0 ((B.take ((Z2d B a e most)+(rdC (B.drop a) e most))).drop (Z2d B a e most)).length)) [0,2] (congrArg (fun (q1:Nat)=>(Y9 2 kU8 0 q1:AV)) (show ((rdY (B.drop a) e most).length:Nat)=((B.take ((rfA B a e 4 (Yu most ((B.drop a).take 4)))+(rdC (B.drop a) e most))).drop (rfA B a e 4 (Yu most ((B.drop a).take 4)))).length from (by omega))) ⟨⟨rfl,p1s⟩,⟨⟨rfl,(by have e1:(((B.take ((rfA B a e 4 (Yu most ((B.drop a).take 4)))+(rdC (B.drop a) e most))).drop (rfA B a e 4 (Yu most ((B.drop a).take 4)))):List UInt8)=(rdY (B.drop a) e most):=(by omega);have hE:=congrArg (fun (q1:List UInt8)=>(.live (Xe 5 kU8 q1):HS)) e1;exact Eq.trans pZ7 hE)⟩,trivial⟩⟩
end Go.Proofs.YtnaopgohccacmaaGreat.Q
