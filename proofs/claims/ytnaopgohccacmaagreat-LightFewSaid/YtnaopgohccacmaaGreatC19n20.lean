import Derived.Test.YtnaopgohccacmaaGreatC19n16
namespace Go.Proofs.YtnaopgohccacmaaGreat.Q
open Go Go.RowKit
set_option linter.unusedVariables false
set_option linter.unusedSimpArgs false
set_option maxRecDepth 100000
set_option maxHeartbeats 4000000
theorem iat_119:Tryz.prog.info? 119=some Tryz.t119:=by kernel_rfl
theorem Jt:Wide Tryz.prog 119 (some 9):=⟨_,_,Tryz.underlying119,.inl ⟨_,rfl⟩,iat_119,rfl⟩
abbrev Z7j:TV:=.one (dB true)
abbrev Z7k:TV:=.agg [dB true,dB true,dB false,dB true,dB false,dB false,dB false,dB false,dB false]
theorem X4m (k:Int):Holds Tryz.prog 62 ⟨[vI k],[],.tup [.agg [dB (Xk k).Y9,dB (Xk k).Xu,dB (Xk k).Xr,dB (Xk k).Xe,dB (Xk k).Xd,dB (Xk k).X3,dB (Xk k).Xt,dB (Xk k).Y8,dB (Xk k).X5],.one (dB (decide (okK k)))],[]⟩:=by
 refine Holds.of Tryz.func62 rfl (N:=37) Tryz.ntmps62 rfl fun w0 B0 S0 U0=>?_
 show T _ (Y2 37 0 w0 S0 U0 B0) ⟨[vI k],[]⟩ _ _
 refine sR [] (T.seq (sR [] (T.block (sR [] ?_))))
 by_cases hq1:k=1
 ·refine cT (dT hq1) (sR [] (T.ret (rB (rT ?_))))
  exact eX [.c 2 0 119 0 119 [dB false,dB false,dB true,dB false,dB true,dB false,dB false,dB false,dB false] (.agg [dB false,dB false,dB true,dB false,dB true,dB false,dB false,dB false,dB false]),.t 3 (Z7j)] ⟨⟨rfl,rfl,by kernel_rfl,by kernel_rfl,.inl ⟨9,Jt,rfl,Nat.le_of_ble_eq_true rfl⟩⟩,⟨⟨rfl,by kernel_rfl⟩,trivial⟩⟩ [] (gc2 (show (Xk k)=⟨false,false,true,false,true,false,false,false,false⟩ from Es) (show ((decide (okK k)):Bool)=true from Es) (fun qq0 (q10:Bool)=>(.tup [.agg [dB (qq0.Y9),dB (qq0.Xu),dB (qq0.Xr),dB (qq0.Xe),dB (qq0.Xd),dB (qq0.X3),dB (qq0.Xt),dB (qq0.Y8),dB (qq0.X5)],.one (dB q10)]:AV))) trivial
 refine cF (dF hq1) (sR [] ?_)
 by_cases hq2:k=2
 ·refine cT (dT hq2) (sR [] (T.ret (rB (rT ?_))))
  exact eX [.c 2 0 119 0 119 [dB true,dB true,dB false,dB true,dB false,dB false,dB true,dB false,dB false] (.agg [dB true,dB true,dB false,dB true,dB false,dB false,dB true,dB false,dB false]),.t 3 (Z7j)] ⟨⟨rfl,rfl,by kernel_rfl,by kernel_rfl,.inl ⟨9,Jt,rfl,Nat.le_of_ble_eq_true rfl⟩⟩,⟨⟨rfl,by kernel_rfl⟩,trivial⟩⟩ [] (gc2 (show (Xk k)=⟨true,true,false,true,false,false,true,false,false⟩ from Es) (show ((decide (okK k)):Bool)=true from Es) (fun qq0 (q10:Bool)=>(.tup [.agg [dB (qq0.Y9),dB (qq0.Xu),dB (qq0.Xr),dB (qq0.Xe),dB (qq0.Xd),dB (qq0.X3),dB (qq0.Xt),dB (qq0.Y8),dB (qq0.X5)],.one (dB q10)]:AV))) trivial
 refine cF (dF hq2) (T.seq (sR [] ?_))
 by_cases hq3:k=3
 ·refine cT (dT hq3) (T.skip (nT (cT (dT hq3) (sR [] (T.ret (rB (rT ?_)))))))
  exact eX [.c 2 0 119 0 119 [dB true,dB true,dB false,dB true,dB false,dB false,dB false,dB false,dB false] (Z7k),.t 3 (Z7j)] ⟨⟨rfl,rfl,by kernel_rfl,by kernel_rfl,.inl ⟨9,Jt,rfl,Nat.le_of_ble_eq_true rfl⟩⟩,⟨⟨rfl,by kernel_rfl⟩,trivial⟩⟩ [] p1l trivial
 refine cF (dF hq3) (xK [] (nT ?_))
 by_cases hq4:k=4
 ·refine cT (dT hq4) (sR [] (T.ret (rB (rT ?_))))
  exact eX [.c 2 0 119 0 119 [dB true,dB true,dB false,dB true,dB false,dB false,dB false,dB false,dB false] (Z7k),.t 3 (Z7j)] ⟨⟨rfl,rfl,by kernel_rfl,by kernel_rfl,.inl ⟨9,Jt,rfl,Nat.le_of_ble_eq_true rfl⟩⟩,⟨⟨rfl,by kernel_rfl⟩,trivial⟩⟩ [] p1l trivial
 refine cF (dF hq4) (sR [] ?_)
 by_cases hq5:k=5
 ·refine cT (dT hq5) (sR [] (T.ret (rB (rT ?_))))
  exact eX [.c 2 0 119 0 119 [dB false,dB true,dB false,dB true,dB false,dB false,dB false,dB false,dB false] (.agg [dB false,dB true,dB false,dB true,dB false,dB false,dB false,dB false,dB false]),.t 3 (Z7j)] ⟨⟨rfl,rfl,by kernel_rfl,by kernel_rfl,.inl ⟨9,Jt,rfl,Nat.le_of_ble_eq_true rfl⟩⟩,⟨⟨rfl,by kernel_rfl⟩,trivial⟩⟩ [] (gc2 (show (Xk k)=⟨false,true,false,true,false,false,false,false,false⟩ from Es) (show ((decide (okK k)):Bool)=true from Es) (fun qq0 (q10:Bool)=>(.tup [.agg [dB (qq0.Y9),dB (qq0.Xu),dB (qq0.Xr),dB (qq0.Xe),dB (qq0.Xd),dB (qq0.X3),dB (qq0.Xt),dB (qq0.Y8),dB (qq0.X5)],.one (dB q10)]:AV))) trivial
 refine cF (dF hq5) (sR [] ?_)
 by_cases hq6:k=6
 ·refine cT (dT hq6) (sR [] (T.ret (rB (rT ?_))))
  exact eX [.c 2 0 119 0 119 [dB true,dB true,dB false,dB false,dB false,dB false,dB true,dB false,dB true] (.agg [dB true,dB true,dB false,dB false,dB false,dB false,dB true,dB false,dB true]),.t 3 (Z7j)] ⟨⟨rfl,rfl,by kernel_rfl,by kernel_rfl,.inl ⟨9,Jt,rfl,Nat.le_of_ble_eq_true rfl⟩⟩,⟨⟨rfl,by kernel_rfl⟩,trivial⟩⟩ [] (gc2 (show (Xk k)=⟨true,true,false,false,false,false,true,false,true⟩ from Es) (show ((decide (okK k)):Bool)=true from Es) (fun qq0 (q10:Bool)=>(.tup [.agg [dB (qq0.Y9),dB (qq0.Xu),dB (qq0.Xr),dB (qq0.Xe),dB (qq0.Xd),dB (qq0.X3),dB (qq0.Xt),dB (qq0.Y8),dB (qq0.X5)],.one (dB q10)]:AV))) trivial
 refine cF (dF hq6) (sR [] ?_)
 by_cases hq7:k=7
 ·refine cT (dT hq7) (sR [] (T.ret (rB (rT ?_))))
  exact eX [.c 2 0 119 0 119 [dB true,dB false,dB false,dB false,dB false,dB false,dB true,dB true,dB false] (.agg [dB true,dB false,dB false,dB false,dB false,dB false,dB true,dB true,dB false]),.t 3 (Z7j)] ⟨⟨rfl,rfl,by kernel_rfl,by kernel_rfl,.inl ⟨9,Jt,rfl,Nat.le_of_ble_eq_true rfl⟩⟩,⟨⟨rfl,by kernel_rfl⟩,trivial⟩⟩ [] (gc2 (show (Xk k)=⟨true,false,false,false,false,false,true,true,false⟩ from Es) (show ((decide (okK k)):Bool)=true from Es) (fun qq0 (q10:Bool)=>(.tup [.agg [dB (qq0.Y9),dB (qq0.Xu),dB (qq0.Xr),dB (qq0.Xe),dB (qq0.Xd),dB (qq0.X3),dB (qq0.Xt),dB (qq0.Y8),dB (qq0.X5)],.one (dB q10)]:AV))) trivial
 refine cF (dF hq7) (sR [] ?_)
 by_cases hq8:k=8
 ·refine cT (dT hq8) (sR [] (T.ret (rB (rT ?_))))
  exact eX [.c 2 0 119 0 119 [dB true,dB false,dB true,dB false,dB false,dB true,dB false,dB false,dB false] (.agg [dB true,dB false,dB true,dB false,dB false,dB true,dB false,dB false,dB false]),.t 3 (Z7j)] ⟨⟨rfl,rfl,by kernel_rfl,by kernel_rfl,.inl ⟨9,Jt,rfl,Nat.le_of_ble_eq_true rfl⟩⟩,⟨⟨rfl,by kernel_rfl⟩,trivial⟩⟩ [] (gc2 (show (Xk k)=⟨true,false,true,false,false,true,false,false,false⟩ from Es) (show ((decide (okK k)):Bool)=true from Es) (fun qq0 (q10:Bool)=>(.tup [.agg [dB (qq0.Y9),dB (qq0.Xu),dB (qq0.Xr),dB (qq0.Xe),dB (qq0.Xd),dB (qq0.X3),dB (qq0.Xt),dB (qq0.Y8),dB (qq0.X5)],.one (dB q10)]:AV))) trivial
 refine cF (dF hq8) (sR [] ?_)
 by_cases hq9:k=9
 ·refine cT (dT hq9) (sR [] (T.ret (rB (rT ?_))))
  exact eX [.c 2 0 119 0 119 [dB false,dB true,dB false,dB false,dB false,dB false,dB false,dB false,dB false] (.agg [dB false,dB true,dB false,dB false,dB false,dB false,dB false,dB false,dB false]),.t 3 (Z7j)] ⟨⟨rfl,rfl,by kernel_rfl,by kernel_rfl,.inl ⟨9,Jt,rfl,Nat.le_of_ble_eq_true rfl⟩⟩,⟨⟨rfl,by kernel_rfl⟩,trivial⟩⟩ [] (gc2 (show (Xk k)=⟨false,true,false,false,false,false,false,false,false⟩ from Es) (show ((decide (okK k)):Bool)=true from Es) (fun qq0 (q10:Bool)=>(.tup [.agg [dB (qq0.Y9),dB (qq0.Xu),dB (qq0.Xr),dB (qq0.Xe),dB (qq0.Xd),dB (qq0.X3),dB (qq0.Xt),dB (qq0.Y8),dB (qq0.X5)],.one (dB q10)]:AV))) trivial
 refine cF (dF hq9) (sR [] ?_)
 by_cases hq10:k=10
 ·refine cT (dT hq10) (sR [] (T.ret (rB (rT ?_))))
  exact eX [.c 2 0 119 0 119 [dB false,dB false,dB false,dB false,dB false,dB false,dB false,dB false,dB true] (.agg [dB false,dB false,dB false,dB false,dB false,dB false,dB false,dB false,dB true]),.t 3 (Z7j)] ⟨⟨rfl,rfl,by kernel_rfl,by kernel_rfl,.inl ⟨9,Jt,rfl,Nat.le_of_ble_eq_true rfl⟩⟩,⟨⟨rfl,by kernel_rfl⟩,trivial⟩⟩ [] (gc2 (show (Xk k)=⟨false,false,false,false,false,false,false,false,true⟩ from Es) (show ((decide (okK k)):Bool)=true from Es) (fun qq0 (q10:Bool)=>(.tup [.agg [dB (qq0.Y9),dB (qq0.Xu),dB (qq0.Xr),dB (qq0.Xe),dB (qq0.Xd),dB (qq0.X3),dB (qq0.Xt),dB (qq0.Y8),dB (qq0.X5)],.one (dB q10)]:AV))) trivial
 refine cF (dF hq10) (sR [] ?_)
 by_cases hq11:k=11
 ·refine cT (dT hq11) (sR [] (T.ret (rB (rT ?_))))
  exact eX [.c 2 0 119 0 119 [dB false,dB true,dB false,dB false,dB true,dB false,dB true,dB false,dB false] (.agg [dB false,dB true,dB false,dB false,dB true,dB false,dB true,dB false,dB false]),.t 3 (Z7j)] ⟨⟨rfl,rfl,by kernel_rfl,by kernel_rfl,.inl ⟨9,Jt,rfl,Nat.le_of_ble_eq_true rfl⟩⟩,⟨⟨rfl,by kernel_rfl⟩,trivial⟩⟩ [] (gc2 (show (Xk k)=⟨false,true,false,false,true,false,true,false,false⟩ from Es) (show ((decide (okK k)):Bool)=true from Es) (fun qq0 (q10:Bool)=>(.tup [.agg [dB (qq0.Y9),dB (qq0.Xu),dB (qq0.Xr),dB (qq0.Xe),dB (qq0.Xd),dB (qq0.X3),dB (qq0.Xt),dB (qq0.Y8),dB (qq0.X5)],.one (dB q10)]:AV))) trivial
 refine cF (dF hq11) (T.skip (nB (nT (sR [] (T.ret ?_)))))
 exact eX [.c 2 0 119 0 119 [dB false,dB false,dB false,dB false,dB false,dB false,dB false,dB false,dB false] (.agg [dB false,dB false,dB false,dB false,dB false,dB false,dB false,dB false,dB false]),.t 3 (.one (dB false))] ⟨⟨rfl,rfl,by kernel_rfl,by kernel_rfl,.inl ⟨9,Jt,rfl,Nat.le_of_ble_eq_true rfl⟩⟩,⟨⟨rfl,by kernel_rfl⟩,trivial⟩⟩ [] (gc2 (show (Xk k)=⟨false,false,false,false,false,false,false,false,false⟩ from Es) (by exact dF (by unfold okK;omega)) (fun qq0 (q10:Bool)=>(.tup [.agg [dB (qq0.Y9),dB (qq0.Xu),dB (qq0.Xr),dB (qq0.Xe),dB (qq0.Xd),dB (qq0.X3),dB (qq0.Xt),dB (qq0.Y8),dB (qq0.X5)],.one (dB q10)]:AV))) trivial
abbrev Z7l:TV:=.one (dI 1)
abbrev Z7m:TV:=.one (dI 0)
theorem Xch (k:Int):Holds Tryz.prog 119 ⟨[vI k],[],.tup [.one (dI (X26 k)),.one (dI (X14 k))],[]⟩:=by
 refine Holds.of Tryz.func119 rfl (N:=15) Tryz.ntmps119 rfl fun w0 B0 S0 U0=>?_
 show T _ (Y2 15 0 w0 S0 U0 B0) ⟨[vI k],[]⟩ _ _
 refine sR [] (sR [] (T.seq (sR [] (T.block (sR [] ?_)))))
 by_cases hq1:k=6
 ·refine cT (dT hq1) (sR [] (xK [] (nB (nT (sR [] (T.ret ?_))))))
  exact eX [.t 2 (Z7l),.t 3 (Z7m)] ⟨⟨rfl,by kernel_rfl⟩,⟨⟨rfl,by kernel_rfl⟩,trivial⟩⟩ [] (by have e1:(X26 k:Int)=1:=p2n;have e2:(X14 k:Int)=0:=p2n;have hE:=congr pZ29 e2;exact hE) trivial
 refine cF (dF hq1) (sR [] ?_)
 by_cases hq2:k=7
 ·refine cT (dT hq2) (xK [] (nB (nT (sR [] (T.ret ?_)))))
  exact eX [.t 2 (Z7l),.t 3 (Z7l)] ⟨⟨rfl,by kernel_rfl⟩,⟨⟨rfl,by kernel_rfl⟩,trivial⟩⟩ [] (by have e1:(X26 k:Int)=1:=p2n;have e2:(X14 k:Int)=1:=p2n;have hE:=congr pZ29 e2;exact hE) trivial
 refine cF (dF hq2) (sR [] ?_)
 by_cases hq3:k=9
 ·refine cT (dT hq3) (xK [] (nB (nT (sR [] (T.ret ?_)))))
  exact eX [.t 2 (Z7m),.t 3 (Z7m)] ⟨⟨rfl,by kernel_rfl⟩,⟨⟨rfl,by kernel_rfl⟩,trivial⟩⟩ [] (by have e1:(X26 k:Int)=0:=p2n;have e2:(X14 k:Int)=0:=p2n;have hE:=congr pZ29 e2;exact hE) trivial
 refine cF (dF hq3) (T.skip (nB (nT (sR [] (T.ret ?_)))))
 exact eX [.t 2 (Z7m),.t 3 (Z7l)] ⟨⟨rfl,by kernel_rfl⟩,⟨⟨rfl,by kernel_rfl⟩,trivial⟩⟩ [] (by have e1:(X26 k:Int)=0:=p2n;have e2:(X14 k:Int)=1:=p2n;have hE:=congr pZ29 e2;exact hE) trivial
theorem Vz (n:Int) (had:Bool) (lo:Int):Holds Tryz.prog 120 ⟨[vI n,vB had,vI lo],[],vB (decide (Fu n had lo)),[]⟩:=by
 refine Holds.of Tryz.func120 rfl (N:=18) Tryz.ntmps120 rfl fun w0 B0 S0 U0=>?_
 show T _ (Y2 18 0 w0 S0 U0 B0) ⟨[vI n,vB had,vI lo],[]⟩ _ _
 refine sR [] (T.seq (sR [] ?_))
 by_cases hq1:had=true
 ·refine cF (cn hq1) (T.skip (nT ?_))
  by_cases hq2:n≥lo
  ·refine sR [hY 4 (dT hq2),hY 5 (dT hq2),hP 6 (dT hq2)] (T.ret ?_)
   exact eRt 6 (.one (dB (decide (n≤1099511627776)))) [] (by have e1:((decide (Fu n had lo)):Bool)=(decide (n≤1099511627776)):=(by (simp [Fu, *];done));have hE:=cB e1;exact hE) trivial
  refine sR [hN 4 true (dF hq2),hN 5 true (dF hq2),hP 6 (dF hq2)] (T.ret ?_)
  exact eRt 6 (.one (dB false)) [] (by have e1:((decide (Fu n had lo)):Bool)=false:=(by (simp [Fu, *];done));have hE:=cB e1;exact hE) trivial
 replace hq1:=Bool.eq_false_iff.2 hq1
 refine cT (cn hq1) (sR [] (T.ret (rT ?_)))
 exact eRt 6 (.one (dB (decide (n=0)))) [] (by have e1:((decide (Fu n had lo)):Bool)=(decide (n=0)):=(by (simp [Fu, *];done));have hE:=cB e1;exact hE) trivial
section
variable (tm:Bool) (m:aM) (h:aH) (k:Nat)
abbrev Z7n:List SV:=[dI m.X0,dI m.Y9,dI m.Xu,dI m.Xr,dI m.W0,dS m.Xe,.d (dsl tm false kU8 m.Xd),dI m.X3.Y0,dI m.X3.Xq,.d (dsl tm false (kE tm) m.Xt),.d (dsl tm false (kE tm) m.Y8),.d (dsl tm false (kC tm) m.X5)]
abbrev Z7o:AV:=.tv (.agg (Z7n tm m))
abbrev Z7p:List SV:=[dB h.Y9,dB h.Xu,dB h.Xr,dB h.Xe,dB h.Xd,dB h.X3,dB h.Xt,dB h.Y8,dB h.X5]
abbrev Z7q:AV:=.tv (.agg (Z7p h))
abbrev Z7r:List AV:=[(Z7o tm m),(Z7q h),pv 0 0,pv 1 0,vB false,vI (if h.Xt=true then 7 else 0),aa,aa,aa,vB h.Xt]
abbrev Z7s:List HS:=[.live (.box 78 (Z7n tm m)),.live (.box 119 (Z7p h))]
abbrev Z7t:List AV:=[(Z7o tm m),(Z7q h),pv 0 0,pv 1 0,vB false,vI 7,aa,aa,aa,vB h.Xt]
abbrev Z7u:List AV:=[(Z7o tm m),(Z7q h),pv 0 0,pv 1 0,vB false,vI 0,aa,aa,aa,vB h.Xt]
abbrev Z7v:AV:=vI (maxB m.X0 h)
abbrev Z7w:AV:=vB (decide (m.X0=2))
abbrev Z7x:List AV:=[(Z7o tm m),(Z7q h),pv 0 0,pv 1 0,vB false,(Z7v m h),aa,aa,aa,vB h.Xt,aa,aa,(Z7w m)]
abbrev Z7y:List AV:=[(Z7o tm m),(Z7q h),pv 0 0,pv 1 0,vB false,vI 4,aa,aa,aa,vB h.Xt,aa,aa,(Z7w m)]
abbrev Z7z:List AV:=[(Z7o tm m),(Z7q h),pv 0 0,pv 1 0,vB false,vI (if h.Xt=true then 7 else 0),aa,aa,aa,vB h.Xt,aa,aa,(Z7w m)]
abbrev Z80:List AV:=[(Z7o tm m),(Z7q h),pv 0 0,pv 1 0,vB false,(Z7v m h),vI (maxP h),aa,aa,vB h.Xt,aa,aa,(Z7w m),aa,vB h.Y8]
abbrev Z81:List AV:=[(Z7o tm m),(Z7q h),pv 0 0,pv 1 0,vB false,(Z7v m h),vI 8,aa,aa,vB h.Xt,aa,aa,(Z7w m),aa,vB h.Y8]
abbrev Z82:List AV:=[(Z7o tm m),(Z7q h),pv 0 0,pv 1 0,vB false,(Z7v m h),vI 0,aa,aa,vB h.Xt,aa,aa,(Z7w m),aa,vB h.Y8]
abbrev Z83:TV:=.one (dB false)
abbrev Z84:AV:=vB (decide (((m.Y8.length:Nat):Int)>(maxP h)))
abbrev Z85:AV:=vB (decide (((m.X5.length:Nat):Int)>8))
abbrev Z86:St:=⟨[(Z7o tm m),(Z7q h),pv 0 0,pv 1 0,vB false,(Z7v m h),vI (maxP h),vI ((k:Nat):Int),aa,vB h.Xt,aa,aa,(Z7w m),aa,vB h.Y8,aa,aa,aa,aa,aa,aa,aa,aa,aa,aa,aa,(Z84 m h),aa,aa,aa,aa,aa,aa,aa,aa,aa,aa,aa,aa,aa,aa,aa,aa,aa,aa,aa,aa,aa,aa,aa,aa,aa,(Z85 m)],(Z7s tm m h)⟩
abbrev Z89:TV:=.one (dB true)
abbrev Z8a:AV:=vB (decide (((m.X5.length:Nat):Int)>0))
end
theorem Wz (tm:Bool) (m:aM) (h:aH) (hq:m.Xt.length≤9223372036854775807) (hr:m.Y8.length≤9223372036854775807) (hc:m.X5.length≤9223372036854775807):Holds Tryz.prog 121 ⟨[.tv (.agg [dI m.X0,dI m.Y9,dI m.Xu,dI m.Xr,dI m.W0,dS m.Xe,.d (dsl tm false kU8 m.Xd),dI m.X3.Y0,dI m.X3.Xq,.d (dsl tm false (kE tm) m.Xt),.d (dsl tm false (kE tm) m.Y8),.d (dsl tm false (kC tm) m.X5)]),.tv (.agg [dB h.Y9,dB h.Xu,dB h.Xr,dB h.Xe,dB h.Xd,dB h.X3,dB h.Xt,dB h.Y8,dB h.X5])],[],vB (decide (Ev m h)),[]⟩:=by
 refine Holds.of Tryz.func121 rfl (N:=68) Tryz.ntmps121 rfl fun w0 B0 S0 U0=>?_
 show T _ (Y2 68 0 w0 S0 U0 B0) ⟨[(Z7o tm m),(Z7q h)],[]⟩ _ _
 refine sR [] (sR [] ?_)
 refine H5 ⟨(Z7r tm m h),(Z7s tm m h)⟩ ?_ ?_
 ·refine sR [] ?_
  by_cases hq1:h.Xt=true
  ·refine cT hq1 (xK [] ?_)
   refine eN ⟨(Z7t tm m h),(Z7s tm m h)⟩ ?_
   refine Xa (s':=⟨(Z7r tm m h),(Z7s tm m h)⟩) (fun _ _ hG=>Yu [0,1] (bm 10 575) (t2:=(Z7t tm m h)) (congrArg (fun (q1:Int)=>([(Z7o tm m),(Z7q h),pv 0 0,pv 1 0,vB false,vI q1,aa,aa,aa,vB h.Xt]:List AV)) (by exact if_pos ‹_›)) rfl hG) ?_
   exact nJ
  replace hq1:=Bool.eq_false_iff.2 hq1
  refine cF hq1 (T.skip ?_)
  refine eN ⟨(Z7u tm m h),(Z7s tm m h)⟩ ?_
  refine Xa (s':=⟨(Z7r tm m h),(Z7s tm m h)⟩) (fun _ _ hG=>Yu [0,1] (bm 10 575) (t2:=(Z7u tm m h)) (congrArg (fun (q1:Int)=>([(Z7o tm m),(Z7q h),pv 0 0,pv 1 0,vB false,vI q1,aa,aa,aa,vB h.Xt]:List AV)) (by exact if_neg (nbB ‹_›))) rfl hG) ?_
  exact nJ
 refine H5 ⟨(Z7x tm m h),(Z7s tm m h)⟩ ?_ ?_
 ·refine sR [] ?_
  by_cases hq2:m.X0=2
  ·refine cT (dT hq2) (xK [] ?_)
   refine eN ⟨(Z7y tm m h),(Z7s tm m h)⟩ ?_
   refine Xa (s':=⟨(Z7x tm m h),(Z7s tm m h)⟩) (fun _ _ hG=>Yu [0,1] (bm 13 4671) (t2:=(Z7y tm m h)) (congrArg (fun (q1:Int)=>([(Z7o tm m),(Z7q h),pv 0 0,pv 1 0,vB false,vI q1,aa,aa,aa,vB h.Xt,aa,aa,(Z7w m)]:List AV)) (by exact if_pos ‹_›)) rfl hG) ?_
   exact nJ
  refine cF (dF hq2) (T.skip ?_)
  refine eN ⟨(Z7z tm m h),(Z7s tm m h)⟩ ?_
  refine Xa (s':=⟨(Z7x tm m h),(Z7s tm m h)⟩) (fun _ _ hG=>Yu [0,1] (bm 13 4671) (t2:=(Z7z tm m h)) (congrArg (fun (q1:Int)=>([(Z7o tm m),(Z7q h),pv 0 0,pv 1 0,vB false,vI q1,aa,aa,aa,vB h.Xt,aa,aa,(Z7w m)]:List AV)) (by exact if_neg ‹_›)) rfl hG) ?_
  exact nJ
 refine sR [] ?_
 refine H5 ⟨(Z80 tm m h),(Z7s tm m h)⟩ ?_ ?_
 ·refine sR [] ?_
  by_cases hq3:h.Y8=true
  ·refine cT hq3 (xK [] ?_)
   refine eN ⟨(Z81 tm m h),(Z7s tm m h)⟩ ?_
   refine Xa (s':=⟨(Z80 tm m h),(Z7s tm m h)⟩) (fun _ _ hG=>Yu [0,1] (bm 15 21119) (t2:=(Z81 tm m h)) (congrArg (fun (q1:Int)=>([(Z7o tm m),(Z7q h),pv 0 0,pv 1 0,vB false,(Z7v m h),vI q1,aa,aa,vB h.Xt,aa,aa,(Z7w m),aa,vB h.Y8]:List AV)) (by exact if_pos ‹_›)) rfl hG) ?_
   exact nJ
  replace hq3:=Bool.eq_false_iff.2 hq3
  refine cF hq3 (T.skip ?_)
  refine eN ⟨(Z82 tm m h),(Z7s tm m h)⟩ ?_
  refine Xa (s':=⟨(Z80 tm m h),(Z7s tm m h)⟩) (fun _ _ hG=>Yu [0,1] (bm 15 21119) (t2:=(Z82 tm m h)) (congrArg (fun (q1:Int)=>([(Z7o tm m),(Z7q h),pv 0 0,pv 1 0,vB false,(Z7v m h),vI q1,aa,aa,vB h.Xt,aa,aa,(Z7w m),aa,vB h.Y8]:List AV)) (by exact if_neg (nbB ‹_›))) rfl hG) ?_
  exact nJ
 refine T.seq ?_
 by_cases hq4:((m.Xt.length:Nat):Int)>(maxB m.X0 h)
 ·refine sR (Xl (hN · false (dT hq4)) [6,7,8,9,10] (hP 11 (dT hq4)::[])) (cT (b:=true) rfl (sR [] (T.ret (rT ?_))))
  exact eRt 4 (Z83) [] (cB (by (refine dF (fun h9=>?_);exact absurd h9.1 (by omega)))) trivial
 refine sR (Xl (hY · (dF hq4)) [6,7,8,9,10] (hP 11 (dF hq4)::[])) ?_
 by_cases hq5:((m.Y8.length:Nat):Int)>(maxP h)
 ·refine cT (dT hq5) (sR [] (T.ret (rT ?_)))
  exact eRt 4 (Z83) [] (cB (by (refine dF (fun h9=>?_);exact absurd h9.2.1 (by omega)))) trivial
 refine cF (dF hq5) (T.skip (nT (T.seq ?_)))
 by_cases hq6:m.X0=10
 ·by_cases hq7:((m.X5.length:Nat):Int)≠1
  ·refine sR (Xl (hY · (dT hq6)) [4,5,6,7] (hP 8 (dT hq6)::(Xl (hN · false (dT hq7)) [10,11,12,13] (hU 14::(hU 15::(hU 16::(hU 17::(hN 18 false (dT hq7)::(hP 19 (dT hq7)::(Xl hN0 [21,22,23,24] (hP1 25::[]))))))))))) (cT (b:=true) rfl (sR [] (T.ret (rT ?_))))
   exact eRt 4 (Z83) [] (cB (by (refine dF (fun h9=>?_);exact h9.2.2.1 ⟨by assumption,by assumption⟩))) trivial
  by_cases hq8:h.X5=true
  ·refine sR (Xl (hY · (dT hq6)) [4,5,6,7] (hP 8 (dT hq6)::(Xl (hY · (dF hq7)) [10,11,12,13] (Xl (hN · true (cn hq8)) [14,15,16,17] (hS 18 (oY rfl rfl rfl rfl (X2 rfl) (dF hq7) (Wv (b:=(!h.X5)) (av:=vB false) (X2 rfl) ⟨rfl,trivial⟩ (cn hq8)))::(hP 19 (dF hq7)::(Xl hY0 [21,22,23,24] (hP0 25::[])))))))) ?_
   by_cases hq9:((m.X5.length:Nat):Int)>8
   ·refine cT (dT hq9) (sR [] (T.ret (rT ?_)))
    exact eRt 4 (Z83) [] (cB (by (refine dF (fun h9=>?_);exact absurd h9.2.2.2.2.1 (by omega)))) trivial
   refine cF (dF hq9) (T.skip (nT (T.seq (sR [] (T.block ?_)))))
   refine T.loop (ι:=Nat) (fun (k:Nat)=>(Z86 tm m h k)) (fun (k:Nat)=>(k≤m.X5.length)∧(∀ j,j<k→(m.X5.getD j zC).Xi.length≤7)) (fun (k:Nat)=>m.X5.length-k) (0) ⟨(Nat.zero_le _),(fun j hj=>absurd hj (Nat.not_lt_zero _))⟩ (fun _ _ hG=>Yu [0,1] (bm 53 4503599694500607) rfl rfl hG) ?_
   rintro k ⟨hk,hb⟩
   show T _ _ (Z86 tm m h k) _ _
   replace hk:k≤m.X5.length:=hk
   replace hb:∀ j,j<k→(m.X5.getD j zC).Xi.length≤7:=hb
   refine T.seq (sR [] ?_)
   by_cases hq10:((k:Nat):Int)<((m.X5.length:Nat):Int)
   ·refine cT (dT hq10) (T.skip (nT (T.seq (T.block (sR [hR 3 rfl rfl (Wi tm false (kC tm) m.X5 k (k:=.i64) (i:=((k:Nat):Int)) Tryz.underlying76 Eu rfl rfl (by omega) (X2 rfl) trivial)] ?_)))))
    by_cases hq11:(((m.X5.getD k zC).Xi.length:Nat):Int)>7
    ·refine cT (dT hq11) (sR [] (T.ret (rB (rT (rT (rB (rT ?_)))))))
     exact eRt 4 (Z83) [] (cB (by (refine dF (fun h9=>?_);exact absurd (h9.2.2.2.2.2 _ (Vc (z:=zC) (k:=k) (by omega))) (by omega)))) trivial
    refine cF (dF hq11) (T.skip (nB (nT (xK [hR 1 rfl rfl (Yb (u1:=.int .i64 ((k:Nat):Int)) (u2:=.int .i64 1) (v:=.int .i64 ((k+1:Nat):Int)) (Wb pZ9) (X2 rfl) ⟨rfl,trivial⟩)] ?_))))
    refine nL (k+1) ⟨(show (k+1)≤m.X5.length from (by omega)),(show ∀ j,j<(k+1)→(m.X5.getD j zC).Xi.length≤7 from (Im hb (by omega)))⟩ (show (m.X5.length-(k+1):Nat)<m.X5.length-k from (by omega)) (fun _ _ hG=>Yu [0,1] (bm 53 4503599694500607) rfl rfl hG)
   refine cF (dF hq10) (T.exit (xT (xT (xH (nT (sR [] (T.ret ?_)))))))
   exact eRt 4 (Z89) [] (cB (by (refine dT ⟨by omega,by omega,(fun h8=>by exact absurd h8.2 ‹_›),(fun h8=>by exact absurd ‹_› h8.1),by omega,X28 hb (by omega)⟩))) trivial
  replace hq8:=Bool.eq_false_iff.2 hq8
  by_cases hq12:((m.X5.length:Nat):Int)>0
  ·refine sR (Xl (hY · (dT hq6)) [4,5,6,7] (hP 8 (dT hq6)::(Xl (hY · (dF hq7)) [10,11,12,13] (Xl (hY · (cn hq8)) [14,15,16,17] (hS 18 (oY rfl rfl rfl rfl (X2 rfl) (dF hq7) (Wc (b:=(!h.X5)) (av:=(Z8a m)) (X2 rfl) trivial (cn hq8)))::(hP 19 (dF hq7)::(Xl (hN · false (dT hq12)) [21,22,23,24] (hP 25 (dT hq12)::[])))))))) (cT (b:=true) rfl (sR [] (T.ret (rT ?_))))
   exact eRt 4 (Z83) [] (cB (by (refine dF (fun h9=>?_);exact h9.2.2.2.1 ⟨(by exact nbB ‹_›),by assumption⟩))) trivial
  refine sR (Xl (hY · (dT hq6)) [4,5,6,7] (hP 8 (dT hq6)::(Xl (hY · (dF hq7)) [10,11,12,13] (Xl (hY · (cn hq8)) [14,15,16,17] (hS 18 (oY rfl rfl rfl rfl (X2 rfl) (dF hq7) (Wc (b:=(!h.X5)) (av:=(Z8a m)) (X2 rfl) trivial (cn hq8)))::(hP 19 (dF hq7)::(Xl (hY · (dF hq12)) [21,22,23,24] (hP 25 (dF hq12)::[])))))))) ?_
  by_cases hq13:((m.X5.length:Nat):Int)>8
  ·refine cT (dT hq13) (sR [] (T.ret (rT ?_)))
   exact eRt 4 (Z83) [] (cB (by (refine dF (fun h9=>?_);exact absurd h9.2.2.2.2.1 (by omega)))) trivial
  refine cF (dF hq13) (T.skip (nT (T.seq (sR [] (T.block ?_)))))
  refine T.loop (ι:=Nat) (fun (k:Nat)=>(Z86 tm m h k)) (fun (k:Nat)=>(k≤m.X5.length)∧(∀ j,j<k→(m.X5.getD j zC).Xi.length≤7)) (fun (k:Nat)=>m.X5.length-k) (0) ⟨(Nat.zero_le _),(fun j hj=>absurd hj (Nat.not_lt_zero _))⟩ (fun _ _ hG=>Yu [0,1] (bm 53 4503599694500607) rfl rfl hG) ?_
  rintro k ⟨hk,hb⟩
  show T _ _ (Z86 tm m h k) _ _
  replace hk:k≤m.X5.length:=hk
  replace hb:∀ j,j<k→(m.X5.getD j zC).Xi.length≤7:=hb
  refine T.seq (sR [] ?_)
  by_cases hq14:((k:Nat):Int)<((m.X5.length:Nat):Int)
  ·refine cT (dT hq14) (T.skip (nT (T.seq (T.block (sR [hR 3 rfl rfl (Wi tm false (kC tm) m.X5 k (k:=.i64) (i:=((k:Nat):Int)) Tryz.underlying76 Eu rfl rfl (by omega) (X2 rfl) trivial)] ?_)))))
   by_cases hq15:(((m.X5.getD k zC).Xi.length:Nat):Int)>7
   ·refine cT (dT hq15) (sR [] (T.ret (rB (rT (rT (rB (rT ?_)))))))
    exact eRt 4 (Z83) [] (cB (by (refine dF (fun h9=>?_);exact absurd h9.2.2.2.2.1 (by omega)))) trivial
   refine cF (dF hq15) (T.skip (nB (nT (xK [hR 1 rfl rfl (Yb (u1:=.int .i64 ((k:Nat):Int)) (u2:=.int .i64 1) (v:=.int .i64 ((k+1:Nat):Int)) (Wb pZ9) (X2 rfl) ⟨rfl,trivial⟩)] ?_))))
   refine nL (k+1) ⟨(show (k+1)≤m.X5.length from (by omega)),(show ∀ j,j<(k+1)→(m.X5.getD j zC).Xi.length≤7 from (Im hb (by omega)))⟩ (show (m.X5.length-(k+1):Nat)<m.X5.length-k from (by omega)) (fun _ _ hG=>Yu [0,1] (bm 53 4503599694500607) rfl rfl hG)
  refine cF (dF hq14) (T.exit (xT (xT (xH (nT (sR [] (T.ret ?_)))))))
  exact eRt 4 (Z89) [] (cB (by (refine dT ⟨by omega,by omega,(fun h8=>by exact absurd h8.2 ‹_›),(fun h8=>by exact absurd h8.2 ‹_›),by omega,X28 hb (by omega)⟩))) trivial
 by_cases hq16:h.X5=true
 ·refine sR (Xl (hN · true (dF hq6)) [4,5,6,7] (hP 8 (dF hq6)::(Xl hY0 [10,11,12,13] (Xl (hN · true (cn hq16)) [14,15,16,17] (hS 18 (oY (b:=false) rfl rfl rfl rfl (X2 rfl) rfl (Wv (b:=(!h.X5)) (av:=vB false) (X2 rfl) ⟨rfl,trivial⟩ (cn hq16)))::(hP0 19::(Xl hY0 [21,22,23,24] (hP0 25::[])))))))) ?_
  by_cases hq17:((m.X5.length:Nat):Int)>8
  ·refine cT (dT hq17) (sR [] (T.ret (rT ?_)))
   exact eRt 4 (Z83) [] (cB (by (refine dF (fun h9=>?_);exact absurd h9.2.2.2.2.1 (by omega)))) trivial
  refine cF (dF hq17) (T.skip (nT (T.seq (sR [] (T.block ?_)))))
  refine T.loop (ι:=Nat) (fun (k:Nat)=>(Z86 tm m h k)) (fun (k:Nat)=>(k≤m.X5.length)∧(∀ j,j<k→(m.X5.getD j zC).Xi.length≤7)) (fun (k:Nat)=>m.X5.length-k) (0) ⟨(Nat.zero_le _),(fun j hj=>absurd hj (Nat.not_lt_zero _))⟩ (fun _ _ hG=>Yu [0,1] (bm 53 4503599694500607) rfl rfl hG) ?_
  rintro k ⟨hk,hb⟩
  show T _ _ (Z86 tm m h k) _ _
  replace hk:k≤m.X5.length:=hk
  replace hb:∀ j,j<k→(m.X5.getD j zC).Xi.length≤7:=hb
  refine T.seq (sR [] ?_)
  by_cases hq18:((k:Nat):Int)<((m.X5.length:Nat):Int)
  ·refine cT (dT hq18) (T.skip (nT (T.seq (T.block (sR [hR 3 rfl rfl (Wi tm false (kC tm) m.X5 k (k:=.i64) (i:=((k:Nat):Int)) Tryz.underlying76 Eu rfl rfl (by omega) (X2 rfl) trivial)] ?_)))))
   by_cases hq19:(((m.X5.getD k zC).Xi.length:Nat):Int)>7
   ·refine cT (dT hq19) (sR [] (T.ret (rB (rT (rT (rB (rT ?_)))))))
    exact eRt 4 (Z83) [] (cB (by (refine dF (fun h9=>?_);exact absurd (h9.2.2.2.2.2 _ (Vc (z:=zC) (k:=k) (by omega))) (by omega)))) trivial
   refine cF (dF hq19) (T.skip (nB (nT (xK [hR 1 rfl rfl (Yb (u1:=.int .i64 ((k:Nat):Int)) (u2:=.int .i64 1) (v:=.int .i64 ((k+1:Nat):Int)) (Wb pZ9) (X2 rfl) ⟨rfl,trivial⟩)] ?_))))
   refine nL (k+1) ⟨(show (k+1)≤m.X5.length from (by omega)),(show ∀ j,j<(k+1)→(m.X5.getD j zC).Xi.length≤7 from (Im hb (by omega)))⟩ (show (m.X5.length-(k+1):Nat)<m.X5.length-k from (by omega)) (fun _ _ hG=>Yu [0,1] (bm 53 4503599694500607) rfl rfl hG)
  refine cF (dF hq18) (T.exit (xT (xT (xH (nT (sR [] (T.ret ?_)))))))
  exact eRt 4 (Z89) [] (cB (by (refine dT ⟨by omega,by omega,(fun h8=>by exact absurd h8.1 ‹_›),(fun h8=>by exact absurd ‹_› h8.1),by omega,X28 hb (by omega)⟩))) trivial
 replace hq16:=Bool.eq_false_iff.2 hq16
 by_cases hq20:((m.X5.length:Nat):Int)>0
 ·refine sR (Xl (hN · true (dF hq6)) [4,5,6,7] (hP 8 (dF hq6)::(Xl hY0 [10,11,12,13] (Xl (hY · (cn hq16)) [14,15,16,17] (hS 18 (oY (b:=false) rfl rfl rfl rfl (X2 rfl) rfl (Wc (b:=(!h.X5)) (av:=(Z8a m)) (X2 rfl) trivial (cn hq16)))::(hP0 19::(Xl (hN · false (dT hq20)) [21,22,23,24] (hP 25 (dT hq20)::[])))))))) (cT (b:=true) rfl (sR [] (T.ret (rT ?_))))
  exact eRt 4 (Z83) [] (cB (by (refine dF (fun h9=>?_);exact h9.2.2.2.1 ⟨(by exact nbB ‹_›),by assumption⟩))) trivial
 refine sR (Xl (hN · true (dF hq6)) [4,5,6,7] (hP 8 (dF hq6)::(Xl hY0 [10,11,12,13] (Xl (hY · (cn hq16)) [14,15,16,17] (hS 18 (oY (b:=false) rfl rfl rfl rfl (X2 rfl) rfl (Wc (b:=(!h.X5)) (av:=(Z8a m)) (X2 rfl) trivial (cn hq16)))::(hP0 19::(Xl (hY · (dF hq20)) [21,22,23,24] (hP 25 (dF hq20)::[])))))))) ?_
 by_cases hq21:((m.X5.length:Nat):Int)>8
 ·refine cT (dT hq21) (sR [] (T.ret (rT ?_)))
  exact eRt 4 (Z83) [] (cB (by (refine dF (fun h9=>?_);exact absurd h9.2.2.2.2.1 (by omega)))) trivial
 refine cF (dF hq21) (T.skip (nT (T.seq (sR [] (T.block ?_)))))
 refine T.loop (ι:=Nat) (fun (k:Nat)=>(Z86 tm m h k)) (fun (k:Nat)=>(k≤m.X5.length)∧(∀ j,j<k→(m.X5.getD j zC).Xi.length≤7)) (fun (k:Nat)=>m.X5.length-k) (0) ⟨(Nat.zero_le _),(fun j hj=>absurd hj (Nat.not_lt_zero _))⟩ (fun _ _ hG=>Yu [0,1] (bm 53 4503599694500607) rfl rfl hG) ?_
 rintro k ⟨hk,hb⟩
 show T _ _ (Z86 tm m h k) _ _
 replace hk:k≤m.X5.length:=hk
 replace hb:∀ j,j<k→(m.X5.getD j zC).Xi.length≤7:=hb
 refine T.seq (sR [] ?_)
 by_cases hq22:((k:Nat):Int)<((m.X5.length:Nat):Int)
 ·refine cT (dT hq22) (T.skip (nT (T.seq (T.block (sR [hR 3 rfl rfl (Wi tm false (kC tm) m.X5 k (k:=.i64) (i:=((k:Nat):Int)) Tryz.underlying76 Eu rfl rfl (by omega) (X2 rfl) trivial)] ?_)))))
  by_cases hq23:(((m.X5.getD k zC).Xi.length:Nat):Int)>7
  ·refine cT (dT hq23) (sR [] (T.ret (rB (rT (rT (rB (rT ?_)))))))
   exact eRt 4 (Z83) [] (cB (by (refine dF (fun h9=>?_);exact absurd h9.2.2.2.2.1 (by omega)))) trivial
  refine cF (dF hq23) (T.skip (nB (nT (xK [hR 1 rfl rfl (Yb (u1:=.int .i64 ((k:Nat):Int)) (u2:=.int .i64 1) (v:=.int .i64 ((k+1:Nat):Int)) (Wb pZ9) (X2 rfl) ⟨rfl,trivial⟩)] ?_))))
  refine nL (k+1) ⟨(show (k+1)≤m.X5.length from (by omega)),(show ∀ j,j<(k+1)→(m.X5.getD j zC).Xi.length≤7 from (Im hb (by omega)))⟩ (show (m.X5.length-(k+1):Nat)<m.X5.length-k from (by omega)) (fun _ _ hG=>Yu [0,1] (bm 53 4503599694500607) rfl rfl hG)
 refine cF (dF hq22) (T.exit (xT (xT (xH (nT (sR [] (T.ret ?_)))))))
 exact eRt 4 (Z89) [] (cB (by (refine dT ⟨by omega,by omega,(fun h8=>by exact absurd h8.1 ‹_›),(fun h8=>by exact absurd h8.2 ‹_›),by omega,X28 hb (by omega)⟩))) trivial
theorem iat_78:Tryz.prog.info? 78=some Tryz.t78:=by kernel_rfl
theorem Up:Wide Tryz.prog 78 (some 12):=⟨_,_,Tryz.underlying78,.inl ⟨_,rfl⟩,iat_78,rfl⟩
section
variable (tm:Bool) (m:aM)
abbrev Z8b:AV:=.tv (.agg [dI m.X0,dI m.Y9,dI m.Xu,dI m.Xr,dI m.W0,dS m.Xe,.d (dsl tm false kU8 m.Xd),dI m.X3.Y0,dI m.X3.Xq,.d (dsl tm false (kE tm) m.Xt),.d (dsl tm false (kE tm) m.Y8),.d (dsl tm false (kC tm) m.X5)])
abbrev Z8c:AV:=vB (Xk m.X0).Y9
abbrev Z8d:AV:=vI (X26 m.X0)
abbrev Z8e:TV:=.one (dI 120)
abbrev Z8f:AV:=.tv (.agg [dB (Xk m.X0).Y9,dB (Xk m.X0).Xu,dB (Xk m.X0).Xr,dB (Xk m.X0).Xe,dB (Xk m.X0).Xd,dB (Xk m.X0).X3,dB (Xk m.X0).Xt,dB (Xk m.X0).Y8,dB (Xk m.X0).X5])
abbrev Z8g:TV:=.one (dI 0)
abbrev Z8h:AV:=.tv (.agg [dI m.X3.Y0,dI m.X3.Xq])
abbrev Z8i:AV:=.tv (.agg [dI 0,dI 0])
abbrev Z8j:AV:=vB (decide (m.X3≠(Xw.mk 0 0)))
abbrev Z8k:AV:=vB (decide (((m.Xd.length:Nat):Int)>0))
end
theorem Xei (tm:Bool) (m:aM) (hq:m.Xt.length≤9223372036854775807) (hr:m.Y8.length≤9223372036854775807) (hc:m.X5.length≤9223372036854775807) (hd:m.Xd.length≤9223372036854775807) (hg:m.Xe.length≤9223372036854775807):Holds Tryz.prog 61 ⟨[.tv (.agg [dI m.X0,dI m.Y9,dI m.Xu,dI m.Xr,dI m.W0,dS m.Xe,.d (dsl tm false kU8 m.Xd),dI m.X3.Y0,dI m.X3.Xq,.d (dsl tm false (kE tm) m.Xt),.d (dsl tm false (kE tm) m.Y8),.d (dsl tm false (kC tm) m.X5)])],[],vI (chkM m),[]⟩:=by
 refine Holds.of Tryz.func61 rfl (N:=100) Tryz.ntmps61 rfl fun w0 B0 S0 U0=>?_
 show T _ (Y2 100 0 w0 S0 U0 B0) ⟨[(Z8b tm m)],[]⟩ _ _
 refine sR [] (sR [hR 2 rfl rfl (rCa (X4m m.X0 ) Tryz.func62 [] [(.tmp 9,vI m.X0)] 0 0)] (sR [hR 2 rfl rfl (rCa (Xch m.X0 ) Tryz.func119 [] [(.tmp 15,vI m.X0)] 0 0)] (T.seq ?_)))
 by_cases hq1:okK m.X0
 rotate_left
 ·refine sR (Xl (hN · false (cn (dF hq1))) [3,4,5,6,7,8,9] (hP 10 (cn (dF hq1))::(Xl hN0 [12,13,14,15,16,17,18] (hP1 19::(Xl hN0 [21,22,23,24,25,26] (hP1 27::(Xl hN0 [29,30,31,32,33,34] (hP1 35::[])))))))) (cT (b:=true) rfl (sR [] (T.ret (rT ?_))))
  exact eRt 2 (Z8e) [] (cI (by exact if_neg (fun h9=>by obtain ⟨q1,q2,q3,q4,q5,q6,q7,q8,q9,q10⟩:=(Wx m).1 h9;exact absurd q1 ‹_›))) trivial
 by_cases hq2:Fu m.Y9 (Xk m.X0).Y9 (X26 m.X0)
 rotate_left
 ·refine sR (Xl (hY · (cn (dT hq1))) [3,4,5,6,7] (hS 8 (oY rfl rfl rfl rfl (X2 rfl) (cn (dT hq1)) (rCa (Vz m.Y9 (Xk m.X0).Y9 (X26 m.X0) ) Tryz.func120 [] [(.tmp 23,vI m.Y9),(.tmp 25,(Z8c m)),(.tmp 26,(Z8d m))] 0 0))::(hY 9 (cn (dT hq1))::(hP 10 (cn (dT hq1))::(Xl (hN · false (cn (dF hq2))) [12,13,14,15,16,17,18] (hP 19 (cn (dF hq2))::(Xl hN0 [21,22,23,24,25,26] (hP1 27::(Xl hN0 [29,30,31,32,33,34] (hP1 35::[])))))))))) (cT (b:=true) rfl (sR [] (T.ret (rT ?_))))
  exact eRt 2 (Z8e) [] (cI (by exact if_neg (fun h9=>by obtain ⟨q1,q2,q3,q4,q5,q6,q7,q8,q9,q10⟩:=(Wx m).1 h9;exact absurd q2 ‹_›))) trivial
 by_cases hq3:Fu m.Xu (Xk m.X0).Xu (X14 m.X0)
 rotate_left
 ·refine sR (Xl (hY · (cn (dT hq1))) [3,4,5,6,7] (hS 8 (oY rfl rfl rfl rfl (X2 rfl) (cn (dT hq1)) (rCa (Vz m.Y9 (Xk m.X0).Y9 (X26 m.X0) ) Tryz.func120 [] [(.tmp 23,vI m.Y9),(.tmp 25,(Z8c m)),(.tmp 26,(Z8d m))] 0 0))::(hY 9 (cn (dT hq1))::(hP 10 (cn (dT hq1))::(Xl (hY · (cn (dT hq2))) [12,13,14,15,16] (hS 17 (oY rfl rfl rfl rfl (X2 rfl) (cn (dT hq2)) (rCa (Vz m.Xu (Xk m.X0).Xu (X14 m.X0) ) Tryz.func120 [] [(.tmp 32,vI m.Xu),(.tmp 34,vB (Xk m.X0).Xu),(.tmp 35,vI (X14 m.X0))] 0 0))::(hY 18 (cn (dT hq2))::(hP 19 (cn (dT hq2))::(Xl (hN · false (cn (dF hq3))) [21,22,23,24,25,26] (hP 27 (cn (dF hq3))::(Xl hN0 [29,30,31,32,33,34] (hP1 35::[])))))))))))) (cT (b:=true) rfl (sR [] (T.ret (rT ?_))))
  exact eRt 2 (Z8e) [] (cI (by exact if_neg (fun h9=>by obtain ⟨q1,q2,q3,q4,q5,q6,q7,q8,q9,q10⟩:=(Wx m).1 h9;exact absurd q3 ‹_›))) trivial
 by_cases hq4:Fu m.Xr (Xk m.X0).Xr 0
 rotate_left
 ·refine sR (Xl (hY · (cn (dT hq1))) [3,4,5,6,7] (hS 8 (oY rfl rfl rfl rfl (X2 rfl) (cn (dT hq1)) (rCa (Vz m.Y9 (Xk m.X0).Y9 (X26 m.X0) ) Tryz.func120 [] [(.tmp 23,vI m.Y9),(.tmp 25,(Z8c m)),(.tmp 26,(Z8d m))] 0 0))::(hY 9 (cn (dT hq1))::(hP 10 (cn (dT hq1))::(Xl (hY · (cn (dT hq2))) [12,13,14,15,16] (hS 17 (oY rfl rfl rfl rfl (X2 rfl) (cn (dT hq2)) (rCa (Vz m.Xu (Xk m.X0).Xu (X14 m.X0) ) Tryz.func120 [] [(.tmp 32,vI m.Xu),(.tmp 34,vB (Xk m.X0).Xu),(.tmp 35,vI (X14 m.X0))] 0 0))::(hY 18 (cn (dT hq2))::(hP 19 (cn (dT hq2))::(Xl (hY · (cn (dT hq3))) [21,22,23,24] (hS 25 (oY rfl rfl rfl rfl (X2 rfl) (cn (dT hq3)) (rCa (Vz m.Xr (Xk m.X0).Xr 0 ) Tryz.func120 [] [(.tmp 41,vI m.Xr),(.tmp 43,vB (Xk m.X0).Xr),(.const (.int .i64 0),vI 0)] 0 0))::(hY 26 (cn (dT hq3))::(hP 27 (cn (dT hq3))::(Xl (hN · false (cn (dF hq4))) [29,30,31,32,33,34] (hP 35 (cn (dF hq4))::[])))))))))))))) ?_
  refine cT (b:=true) rfl (sR [] (T.ret (rT ?_)))
  exact eRt 2 (Z8e) [] (cI (by exact if_neg (fun h9=>by obtain ⟨q1,q2,q3,q4,q5,q6,q7,q8,q9,q10⟩:=(Wx m).1 h9;exact absurd q4 ‹_›))) trivial
 refine sR (Xl (hY · (cn (dT hq1))) [3,4,5,6,7] (hS 8 (oY rfl rfl rfl rfl (X2 rfl) (cn (dT hq1)) (rCa (Vz m.Y9 (Xk m.X0).Y9 (X26 m.X0) ) Tryz.func120 [] [(.tmp 23,vI m.Y9),(.tmp 25,(Z8c m)),(.tmp 26,(Z8d m))] 0 0))::(hY 9 (cn (dT hq1))::(hP 10 (cn (dT hq1))::(Xl (hY · (cn (dT hq2))) [12,13,14,15,16] (hS 17 (oY rfl rfl rfl rfl (X2 rfl) (cn (dT hq2)) (rCa (Vz m.Xu (Xk m.X0).Xu (X14 m.X0) ) Tryz.func120 [] [(.tmp 32,vI m.Xu),(.tmp 34,vB (Xk m.X0).Xu),(.tmp 35,vI (X14 m.X0))] 0 0))::(hY 18 (cn (dT hq2))::(hP 19 (cn (dT hq2))::(Xl (hY · (cn (dT hq3))) [21,22,23,24] (hS 25 (oY rfl rfl rfl rfl (X2 rfl) (cn (dT hq3)) (rCa (Vz m.Xr (Xk m.X0).Xr 0 ) Tryz.func120 [] [(.tmp 41,vI m.Xr),(.tmp 43,vB (Xk m.X0).Xr),(.const (.int .i64 0),vI 0)] 0 0))::(hY 26 (cn (dT hq3))::(hP 27 (cn (dT hq3))::(Xl (hY · (cn (dT hq4))) [29,30,31,32] (hS 33 (oY rfl rfl rfl rfl (X2 rfl) (cn (dT hq4)) (rCa (Vz m.W0 (Xk m.X0).Xr 1 ) Tryz.func120 [] [(.tmp 49,vI m.W0),(.tmp 51,vB (Xk m.X0).Xr),(.const (.int .i64 1),vI 1)] 0 0))::(hY 34 (cn (dT hq4))::(hP 35 (cn (dT hq4))::[])))))))))))))))) ?_
 by_cases hq5:Fu m.W0 (Xk m.X0).Xr 1
 rotate_left
 ·refine cT (cn (dF hq5)) (sR [] (T.ret (rT ?_)))
  exact eRt 2 (Z8e) [] (cI (by exact if_neg (fun h9=>by obtain ⟨q1,q2,q3,q4,q5,q6,q7,q8,q9,q10⟩:=(Wx m).1 h9;exact absurd q5 ‹_›))) trivial
 refine cF (cn (dT hq5)) (T.skip (nT (T.seq ?_)))
 by_cases hq6:m.X0=1
 ·refine sR (Xl (hY · (dT hq6)) [4,5,6,7] (hP 8 (dT hq6)::[])) ?_
  by_cases hq7:((m.Xd.length:Nat):Int)>4096
  ·refine cT (dT hq7) (sR [] (T.ret (rT ?_)))
   exact eRt 2 (Z8e) [] (cI (by exact if_neg (fun h9=>by obtain ⟨q1,q2,q3,q4,q5,q6,q7,q8,q9,q10⟩:=(Wx m).1 h9;exact q6 ⟨by assumption,by assumption⟩))) trivial
  refine cF (dF hq7) (T.skip (nT (T.seq ?_)))
  by_cases hq8:(Xk m.X0).Xe=true
  ·by_cases hq9:(Xk m.X0).Xd=true
   ·by_cases hq10:(Xk m.X0).X3=true
    ·refine sR (Xl (hN · true (cn hq8)) [4,5,6] (hP 7 (cn hq8)::(Xl hY0 [9,10,11,12] (Xl (hN · true (cn hq9)) [13,14,15,16] (hS 17 (oY (b:=false) rfl rfl rfl rfl (X2 rfl) rfl (Wv (b:=(!(Xk m.X0).Xd)) (av:=vB false) (X2 rfl) ⟨rfl,trivial⟩ (cn hq9)))::(hP0 18::(Xl hY0 [20,21,22,23] (Xl (hN · true (cn hq10)) [24,25,26,27] (hS 28 (oY (b:=false) rfl rfl rfl rfl (X2 rfl) rfl (Wv (b:=(!(Xk m.X0).X3)) (av:=vB false) (X2 rfl) ⟨rfl,trivial⟩ (cn hq10)))::(hP0 29::(hY0 31::(hY0 32::(hS 33 (oY (b:=false) rfl rfl rfl rfl (X2 rfl) rfl (rCa (Wz tm m (aH.mk (Xk m.X0).Y9 (Xk m.X0).Xu (Xk m.X0).Xr (Xk m.X0).Xe (Xk m.X0).Xd (Xk m.X0).X3 (Xk m.X0).Xt (Xk m.X0).Y8 (Xk m.X0).X5) ‹_› ‹_› ‹_›) Tryz.func121 [] [(.tmp 95,(Z8b tm m)),(.tmp 96,(Z8f m))] 0 0))::(hY0 34::(hP0 35::[]))))))))))))))) ?_
     by_cases hq11:Ev m (aH.mk (Xk m.X0).Y9 (Xk m.X0).Xu (Xk m.X0).Xr (Xk m.X0).Xe (Xk m.X0).Xd (Xk m.X0).X3 (Xk m.X0).Xt (Xk m.X0).Y8 (Xk m.X0).X5)
     ·refine cF (cn (dT hq11)) (T.skip (nT (sR [] (T.ret ?_))))
      exact eRt 2 (Z8g) [] (cI (by exact if_pos ((Wx m).2 ⟨‹_›,‹_›,‹_›,‹_›,‹_›,(fun h8=>by exact absurd h8.2 ‹_›),(fun h8=>by exact absurd ‹_› h8.1),(fun h8=>by exact absurd ‹_› h8.1),(fun h8=>by exact absurd ‹_› h8.1),‹_›⟩))) trivial
     refine cT (cn (dF hq11)) (sR [] (T.ret (rT ?_)))
     exact eRt 2 (Z8e) [] pe trivial
    replace hq10:=Bool.eq_false_iff.2 hq10
    by_cases hq12:m.X3≠(Xw.mk 0 0)
    ·refine sR (Xl (hN · true (cn hq8)) [4,5,6] (hP 7 (cn hq8)::(Xl hY0 [9,10,11,12] (Xl (hN · true (cn hq9)) [13,14,15,16] (hS 17 (oY (b:=false) rfl rfl rfl rfl (X2 rfl) rfl (Wv (b:=(!(Xk m.X0).Xd)) (av:=vB false) (X2 rfl) ⟨rfl,trivial⟩ (cn hq9)))::(hP0 18::(Xl hY0 [20,21,22,23] (Xl (hY · (cn hq10)) [24,25,26] (hS 27 (oY rfl rfl rfl rfl (X2 rfl) (cn hq10) (Iv (ax:=(Z8h m)) (ay:=Z8i) (a:=m.X3) (b:=(Xw.mk 0 0)) I7 ⟨[.int .i64 m.X3.Y0,.int .i64 m.X3.Xq],rfl,rfl⟩ ⟨[.int .i64 0,.int .i64 0],rfl,rfl⟩ (X2 rfl) p1h))::(hS 28 (oY (b:=false) rfl rfl rfl rfl (X2 rfl) rfl (Wc (b:=(!(Xk m.X0).X3)) (av:=(Z8j m)) (X2 rfl) trivial (cn hq10)))::(hP0 29::(Xl (hN · false (dT hq12)) [31,32,33,34] (hP 35 (dT hq12)::[]))))))))))))) ?_
     refine cT (b:=true) rfl (sR [] (T.ret (rT ?_)))
     exact eRt 2 (Z8e) [] pk trivial
    refine sR (Xl (hN · true (cn hq8)) [4,5,6] (hP 7 (cn hq8)::(Xl hY0 [9,10,11,12] (Xl (hN · true (cn hq9)) [13,14,15,16] (hS 17 (oY (b:=false) rfl rfl rfl rfl (X2 rfl) rfl (Wv (b:=(!(Xk m.X0).Xd)) (av:=vB false) (X2 rfl) ⟨rfl,trivial⟩ (cn hq9)))::(hP0 18::(Xl hY0 [20,21,22,23] (Xl (hY · (cn hq10)) [24,25,26] (hS 27 (oY rfl rfl rfl rfl (X2 rfl) (cn hq10) (Iv (ax:=(Z8h m)) (ay:=Z8i) (a:=m.X3) (b:=(Xw.mk 0 0)) I7 ⟨[.int .i64 m.X3.Y0,.int .i64 m.X3.Xq],rfl,rfl⟩ ⟨[.int .i64 0,.int .i64 0],rfl,rfl⟩ (X2 rfl) p1h))::(hS 28 (oY (b:=false) rfl rfl rfl rfl (X2 rfl) rfl (Wc (b:=(!(Xk m.X0).X3)) (av:=(Z8j m)) (X2 rfl) trivial (cn hq10)))::(hP0 29::(hY 31 (dF hq12)::(hY 32 (dF hq12)::(hS 33 (oY rfl rfl rfl rfl (X2 rfl) (dF hq12) (rCa (Wz tm m (aH.mk (Xk m.X0).Y9 (Xk m.X0).Xu (Xk m.X0).Xr (Xk m.X0).Xe (Xk m.X0).Xd (Xk m.X0).X3 (Xk m.X0).Xt (Xk m.X0).Y8 (Xk m.X0).X5) ‹_› ‹_› ‹_›) Tryz.func121 [] [(.tmp 95,(Z8b tm m)),(.tmp 96,(Z8f m))] 0 0))::(hY 34 (dF hq12)::(hP 35 (dF hq12)::[])))))))))))))))) ?_
    by_cases hq13:Ev m (aH.mk (Xk m.X0).Y9 (Xk m.X0).Xu (Xk m.X0).Xr (Xk m.X0).Xe (Xk m.X0).Xd (Xk m.X0).X3 (Xk m.X0).Xt (Xk m.X0).Y8 (Xk m.X0).X5)
    ·refine cF (cn (dT hq13)) (T.skip (nT (sR [] (T.ret ?_))))
     exact eRt 2 (Z8g) [] (cI (by exact if_pos ((Wx m).2 ⟨‹_›,‹_›,‹_›,‹_›,‹_›,(fun h8=>by exact absurd h8.2 ‹_›),(fun h8=>by exact absurd ‹_› h8.1),(fun h8=>by exact absurd ‹_› h8.1),(fun h8=>by exact absurd h8.2 ‹_›),‹_›⟩))) trivial
    refine cT (cn (dF hq13)) (sR [] (T.ret (rT ?_)))
    exact eRt 2 (Z8e) [] pe trivial
   replace hq9:=Bool.eq_false_iff.2 hq9
   by_cases hq14:((m.Xd.length:Nat):Int)>0
   ·refine sR (Xl (hN · true (cn hq8)) [4,5,6] (hP 7 (cn hq8)::(Xl hY0 [9,10,11,12] (Xl (hY · (cn hq9)) [13,14,15,16] (hS 17 (oY (b:=false) rfl rfl rfl rfl (X2 rfl) rfl (Wc (b:=(!(Xk m.X0).Xd)) (av:=(Z8k m)) (X2 rfl) trivial (cn hq9)))::(hP0 18::(Xl (hN · false (dT hq14)) [20,21,22,23] (hU 24::(hU 25::(hU 26::(hU 27::(hN 28 false (dT hq14)::(hP 29 (dT hq14)::(Xl hN0 [31,32,33,34] (hP1 35::[]))))))))))))))) (cT (b:=true) rfl (sR [] (T.ret (rT ?_))))
    exact eRt 2 (Z8e) [] pZ18 trivial
   by_cases hq15:(Xk m.X0).X3=true
   ·refine sR (Xl (hN · true (cn hq8)) [4,5,6] (hP 7 (cn hq8)::(Xl hY0 [9,10,11,12] (Xl (hY · (cn hq9)) [13,14,15,16] (hS 17 (oY (b:=false) rfl rfl rfl rfl (X2 rfl) rfl (Wc (b:=(!(Xk m.X0).Xd)) (av:=(Z8k m)) (X2 rfl) trivial (cn hq9)))::(hP0 18::(Xl (hY · (dF hq14)) [20,21,22,23] (Xl (hN · true (cn hq15)) [24,25,26,27] (hS 28 (oY rfl rfl rfl rfl (X2 rfl) (dF hq14) (Wv (b:=(!(Xk m.X0).X3)) (av:=vB false) (X2 rfl) ⟨rfl,trivial⟩ (cn hq15)))::(hP 29 (dF hq14)::(hY0 31::(hY0 32::(hS 33 (oY (b:=false) rfl rfl rfl rfl (X2 rfl) rfl (rCa (Wz tm m (aH.mk (Xk m.X0).Y9 (Xk m.X0).Xu (Xk m.X0).Xr (Xk m.X0).Xe (Xk m.X0).Xd (Xk m.X0).X3 (Xk m.X0).Xt (Xk m.X0).Y8 (Xk m.X0).X5) ‹_› ‹_› ‹_›) Tryz.func121 [] [(.tmp 95,(Z8b tm m)),(.tmp 96,(Z8f m))] 0 0))::(hY0 34::(hP0 35::[]))))))))))))))) ?_
    by_cases hq16:Ev m (aH.mk (Xk m.X0).Y9 (Xk m.X0).Xu (Xk m.X0).Xr (Xk m.X0).Xe (Xk m.X0).Xd (Xk m.X0).X3 (Xk m.X0).Xt (Xk m.X0).Y8 (Xk m.X0).X5)
    ·refine cF (cn (dT hq16)) (T.skip (nT (sR [] (T.ret ?_))))
     exact eRt 2 (Z8g) [] (cI (by exact if_pos ((Wx m).2 ⟨‹_›,‹_›,‹_›,‹_›,‹_›,(fun h8=>by exact absurd h8.2 ‹_›),(fun h8=>by exact absurd ‹_› h8.1),(fun h8=>by exact absurd h8.2 ‹_›),(fun h8=>by exact absurd ‹_› h8.1),‹_›⟩))) trivial
    refine cT (cn (dF hq16)) (sR [] (T.ret (rT ?_)))
    exact eRt 2 (Z8e) [] pe trivial
   replace hq15:=Bool.eq_false_iff.2 hq15
   by_cases hq17:m.X3≠(Xw.mk 0 0)
   ·refine sR (Xl (hN · true (cn hq8)) [4,5,6] (hP 7 (cn hq8)::(Xl hY0 [9,10,11,12] (Xl (hY · (cn hq9)) [13,14,15,16] (hS 17 (oY (b:=false) rfl rfl rfl rfl (X2 rfl) rfl (Wc (b:=(!(Xk m.X0).Xd)) (av:=(Z8k m)) (X2 rfl) trivial (cn hq9)))::(hP0 18::(Xl (hY · (dF hq14)) [20,21,22,23] (Xl (hY · (cn hq15)) [24,25,26] (hS 27 (oY rfl rfl rfl rfl (X2 rfl) (cn hq15) (Iv (ax:=(Z8h m)) (ay:=Z8i) (a:=m.X3) (b:=(Xw.mk 0 0)) I7 ⟨[.int .i64 m.X3.Y0,.int .i64 m.X3.Xq],rfl,rfl⟩ ⟨[.int .i64 0,.int .i64 0],rfl,rfl⟩ (X2 rfl) p1h))::(hS 28 (oY rfl rfl rfl rfl (X2 rfl) (dF hq14) (Wc (b:=(!(Xk m.X0).X3)) (av:=(Z8j m)) (X2 rfl) trivial (cn hq15)))::(hP 29 (dF hq14)::(Xl (hN · false (dT hq17)) [31,32,33,34] (hP 35 (dT hq17)::[]))))))))))))) ?_
    refine cT (b:=true) rfl (sR [] (T.ret (rT ?_)))
    exact eRt 2 (Z8e) [] pk trivial
   refine sR (Xl (hN · true (cn hq8)) [4,5,6] (hP 7 (cn hq8)::(Xl hY0 [9,10,11,12] (Xl (hY · (cn hq9)) [13,14,15,16] (hS 17 (oY (b:=false) rfl rfl rfl rfl (X2 rfl) rfl (Wc (b:=(!(Xk m.X0).Xd)) (av:=(Z8k m)) (X2 rfl) trivial (cn hq9)))::(hP0 18::(Xl (hY · (dF hq14)) [20,21,22,23] (Xl (hY · (cn hq15)) [24,25,26] (hS 27 (oY rfl rfl rfl rfl (X2 rfl) (cn hq15) (Iv (ax:=(Z8h m)) (ay:=Z8i) (a:=m.X3) (b:=(Xw.mk 0 0)) I7 ⟨[.int .i64 m.X3.Y0,.int .i64 m.X3.Xq],rfl,rfl⟩ ⟨[.int .i64 0,.int .i64 0],rfl,rfl⟩ (X2 rfl) p1h))::(hS 28 (oY rfl rfl rfl rfl (X2 rfl) (dF hq14) (Wc (b:=(!(Xk m.X0).X3)) (av:=(Z8j m)) (X2 rfl) trivial (cn hq15)))::(hP 29 (dF hq14)::(hY 31 (dF hq17)::(hY 32 (dF hq17)::(hS 33 (oY rfl rfl rfl rfl (X2 rfl) (dF hq17) (rCa (Wz tm m (aH.mk (Xk m.X0).Y9 (Xk m.X0).Xu (Xk m.X0).Xr (Xk m.X0).Xe (Xk m.X0).Xd (Xk m.X0).X3 (Xk m.X0).Xt (Xk m.X0).Y8 (Xk m.X0).X5) ‹_› ‹_› ‹_›) Tryz.func121 [] [(.tmp 95,(Z8b tm m)),(.tmp 96,(Z8f m))] 0 0))::(hY 34 (dF hq17)::(hP 35 (dF hq17)::[])))))))))))))))) ?_
   by_cases hq18:Ev m (aH.mk (Xk m.X0).Y9 (Xk m.X0).Xu (Xk m.X0).Xr (Xk m.X0).Xe (Xk m.X0).Xd (Xk m.X0).X3 (Xk m.X0).Xt (Xk m.X0).Y8 (Xk m.X0).X5)
   ·refine cF (cn (dT hq18)) (T.skip (nT (sR [] (T.ret ?_))))
    exact eRt 2 (Z8g) [] (cI (by exact if_pos ((Wx m).2 ⟨‹_›,‹_›,‹_›,‹_›,‹_›,(fun h8=>by exact absurd h8.2 ‹_›),(fun h8=>by exact absurd ‹_› h8.1),(fun h8=>by exact absurd h8.2 ‹_›),(fun h8=>by exact absurd h8.2 ‹_›),‹_›⟩))) trivial
   refine cT (cn (dF hq18)) (sR [] (T.ret (rT ?_)))
   exact eRt 2 (Z8e) [] pe trivial
  replace hq8:=Bool.eq_false_iff.2 hq8
  by_cases hq19:m.Xe≠[]
  ·refine sR (Xl (hY · (cn hq8)) [4,5,6] (hP 7 (cn hq8)::(Xl (hN · false (dT hq19)) [9,10,11,12] (hU 13::(hU 14::(hU 15::(hU 16::(hN 17 false (dT hq19)::(hP 18 (dT hq19)::(Xl hN0 [20,21,22,23] (hU 24::(hU 25::(hU 26::(hU 27::(hN0 28::(hP1 29::(Xl hN0 [31,32,33,34] (hP1 35::[])))))))))))))))))) (cT (b:=true) rfl (sR [] (T.ret (rT ?_))))
   exact eRt 2 (Z8e) [] p37 trivial
  by_cases hq20:(Xk m.X0).Xd=true
  ·by_cases hq21:(Xk m.X0).X3=true
   ·refine sR (Xl (hY · (cn hq8)) [4,5,6] (hP 7 (cn hq8)::(Xl (hY · (dF hq19)) [9,10,11,12] (Xl (hN · true (cn hq20)) [13,14,15,16] (hS 17 (oY rfl rfl rfl rfl (X2 rfl) (dF hq19) (Wv (b:=(!(Xk m.X0).Xd)) (av:=vB false) (X2 rfl) ⟨rfl,trivial⟩ (cn hq20)))::(hP 18 (dF hq19)::(Xl hY0 [20,21,22,23] (Xl (hN · true (cn hq21)) [24,25,26,27] (hS 28 (oY (b:=false) rfl rfl rfl rfl (X2 rfl) rfl (Wv (b:=(!(Xk m.X0).X3)) (av:=vB false) (X2 rfl) ⟨rfl,trivial⟩ (cn hq21)))::(hP0 29::(hY0 31::(hY0 32::(hS 33 (oY (b:=false) rfl rfl rfl rfl (X2 rfl) rfl (rCa (Wz tm m (aH.mk (Xk m.X0).Y9 (Xk m.X0).Xu (Xk m.X0).Xr (Xk m.X0).Xe (Xk m.X0).Xd (Xk m.X0).X3 (Xk m.X0).Xt (Xk m.X0).Y8 (Xk m.X0).X5) ‹_› ‹_› ‹_›) Tryz.func121 [] [(.tmp 95,(Z8b tm m)),(.tmp 96,(Z8f m))] 0 0))::(hY0 34::(hP0 35::[]))))))))))))))) ?_
    by_cases hq22:Ev m (aH.mk (Xk m.X0).Y9 (Xk m.X0).Xu (Xk m.X0).Xr (Xk m.X0).Xe (Xk m.X0).Xd (Xk m.X0).X3 (Xk m.X0).Xt (Xk m.X0).Y8 (Xk m.X0).X5)
    ·refine cF (cn (dT hq22)) (T.skip (nT (sR [] (T.ret ?_))))
     exact eRt 2 (Z8g) [] (cI (by exact if_pos ((Wx m).2 ⟨‹_›,‹_›,‹_›,‹_›,‹_›,(fun h8=>by exact absurd h8.2 ‹_›),(fun h8=>by exact absurd h8.2 ‹_›),(fun h8=>by exact absurd ‹_› h8.1),(fun h8=>by exact absurd ‹_› h8.1),‹_›⟩))) trivial
    refine cT (cn (dF hq22)) (sR [] (T.ret (rT ?_)))
    exact eRt 2 (Z8e) [] pe trivial
   replace hq21:=Bool.eq_false_iff.2 hq21
   by_cases hq23:m.X3≠(Xw.mk 0 0)
   ·refine sR (Xl (hY · (cn hq8)) [4,5,6] (hP 7 (cn hq8)::(Xl (hY · (dF hq19)) [9,10,11,12] (Xl (hN · true (cn hq20)) [13,14,15,16] (hS 17 (oY rfl rfl rfl rfl (X2 rfl) (dF hq19) (Wv (b:=(!(Xk m.X0).Xd)) (av:=vB false) (X2 rfl) ⟨rfl,trivial⟩ (cn hq20)))::(hP 18 (dF hq19)::(Xl hY0 [20,21,22,23] (Xl (hY · (cn hq21)) [24,25,26] (hS 27 (oY rfl rfl rfl rfl (X2 rfl) (cn hq21) (Iv (ax:=(Z8h m)) (ay:=Z8i) (a:=m.X3) (b:=(Xw.mk 0 0)) I7 ⟨[.int .i64 m.X3.Y0,.int .i64 m.X3.Xq],rfl,rfl⟩ ⟨[.int .i64 0,.int .i64 0],rfl,rfl⟩ (X2 rfl) p1h))::(hS 28 (oY (b:=false) rfl rfl rfl rfl (X2 rfl) rfl (Wc (b:=(!(Xk m.X0).X3)) (av:=(Z8j m)) (X2 rfl) trivial (cn hq21)))::(hP0 29::(Xl (hN · false (dT hq23)) [31,32,33,34] (hP 35 (dT hq23)::[]))))))))))))) ?_
    refine cT (b:=true) rfl (sR [] (T.ret (rT ?_)))
    exact eRt 2 (Z8e) [] pk trivial
   refine sR (Xl (hY · (cn hq8)) [4,5,6] (hP 7 (cn hq8)::(Xl (hY · (dF hq19)) [9,10,11,12] (Xl (hN · true (cn hq20)) [13,14,15,16] (hS 17 (oY rfl rfl rfl rfl (X2 rfl) (dF hq19) (Wv (b:=(!(Xk m.X0).Xd)) (av:=vB false) (X2 rfl) ⟨rfl,trivial⟩ (cn hq20)))::(hP 18 (dF hq19)::(Xl hY0 [20,21,22,23] (Xl (hY · (cn hq21)) [24,25,26] (hS 27 (oY rfl rfl rfl rfl (X2 rfl) (cn hq21) (Iv (ax:=(Z8h m)) (ay:=Z8i) (a:=m.X3) (b:=(Xw.mk 0 0)) I7 ⟨[.int .i64 m.X3.Y0,.int .i64 m.X3.Xq],rfl,rfl⟩ ⟨[.int .i64 0,.int .i64 0],rfl,rfl⟩ (X2 rfl) p1h))::(hS 28 (oY (b:=false) rfl rfl rfl rfl (X2 rfl) rfl (Wc (b:=(!(Xk m.X0).X3)) (av:=(Z8j m)) (X2 rfl) trivial (cn hq21)))::(hP0 29::(hY 31 (dF hq23)::(hY 32 (dF hq23)::(hS 33 (oY rfl rfl rfl rfl (X2 rfl) (dF hq23) (rCa (Wz tm m (aH.mk (Xk m.X0).Y9 (Xk m.X0).Xu (Xk m.X0).Xr (Xk m.X0).Xe (Xk m.X0).Xd (Xk m.X0).X3 (Xk m.X0).Xt (Xk m.X0).Y8 (Xk m.X0).X5) ‹_› ‹_› ‹_›) Tryz.func121 [] [(.tmp 95,(Z8b tm m)),(.tmp 96,(Z8f m))] 0 0))::(hY 34 (dF hq23)::(hP 35 (dF hq23)::[])))))))))))))))) ?_
   by_cases hq24:Ev m (aH.mk (Xk m.X0).Y9 (Xk m.X0).Xu (Xk m.X0).Xr (Xk m.X0).Xe (Xk m.X0).Xd (Xk m.X0).X3 (Xk m.X0).Xt (Xk m.X0).Y8 (Xk m.X0).X5)
   ·refine cF (cn (dT hq24)) (T.skip (nT (sR [] (T.ret ?_))))
    exact eRt 2 (Z8g) [] (cI (by exact if_pos ((Wx m).2 ⟨‹_›,‹_›,‹_›,‹_›,‹_›,(fun h8=>by exact absurd h8.2 ‹_›),(fun h8=>by exact absurd h8.2 ‹_›),(fun h8=>by exact absurd ‹_› h8.1),(fun h8=>by exact absurd h8.2 ‹_›),‹_›⟩))) trivial
   refine cT (cn (dF hq24)) (sR [] (T.ret (rT ?_)))
   exact eRt 2 (Z8e) [] pe trivial
  replace hq20:=Bool.eq_false_iff.2 hq20
  by_cases hq25:((m.Xd.length:Nat):Int)>0
  ·refine sR (Xl (hY · (cn hq8)) [4,5,6] (hP 7 (cn hq8)::(Xl (hY · (dF hq19)) [9,10,11,12] (Xl (hY · (cn hq20)) [13,14,15,16] (hS 17 (oY rfl rfl rfl rfl (X2 rfl) (dF hq19) (Wc (b:=(!(Xk m.X0).Xd)) (av:=(Z8k m)) (X2 rfl) trivial (cn hq20)))::(hP 18 (dF hq19)::(Xl (hN · false (dT hq25)) [20,21,22,23] (hU 24::(hU 25::(hU 26::(hU 27::(hN 28 false (dT hq25)::(hP 29 (dT hq25)::(Xl hN0 [31,32,33,34] (hP1 35::[]))))))))))))))) (cT (b:=true) rfl (sR [] (T.ret (rT ?_))))
   exact eRt 2 (Z8e) [] pZ18 trivial
  by_cases hq26:(Xk m.X0).X3=true
  ·refine sR (Xl (hY · (cn hq8)) [4,5,6] (hP 7 (cn hq8)::(Xl (hY · (dF hq19)) [9,10,11,12] (Xl (hY · (cn hq20)) [13,14,15,16] (hS 17 (oY rfl rfl rfl rfl (X2 rfl) (dF hq19) (Wc (b:=(!(Xk m.X0).Xd)) (av:=(Z8k m)) (X2 rfl) trivial (cn hq20)))::(hP 18 (dF hq19)::(Xl (hY · (dF hq25)) [20,21,22,23] (Xl (hN · true (cn hq26)) [24,25,26,27] (hS 28 (oY rfl rfl rfl rfl (X2 rfl) (dF hq25) (Wv (b:=(!(Xk m.X0).X3)) (av:=vB false) (X2 rfl) ⟨rfl,trivial⟩ (cn hq26)))::(hP 29 (dF hq25)::(hY0 31::(hY0 32::(hS 33 (oY (b:=false) rfl rfl rfl rfl (X2 rfl) rfl (rCa (Wz tm m (aH.mk (Xk m.X0).Y9 (Xk m.X0).Xu (Xk m.X0).Xr (Xk m.X0).Xe (Xk m.X0).Xd (Xk m.X0).X3 (Xk m.X0).Xt (Xk m.X0).Y8 (Xk m.X0).X5) ‹_› ‹_› ‹_›) Tryz.func121 [] [(.tmp 95,(Z8b tm m)),(.tmp 96,(Z8f m))] 0 0))::(hY0 34::(hP0 35::[]))))))))))))))) ?_
   by_cases hq27:Ev m (aH.mk (Xk m.X0).Y9 (Xk m.X0).Xu (Xk m.X0).Xr (Xk m.X0).Xe (Xk m.X0).Xd (Xk m.X0).X3 (Xk m.X0).Xt (Xk m.X0).Y8 (Xk m.X0).X5)
   ·refine cF (cn (dT hq27)) (T.skip (nT (sR [] (T.ret ?_))))
    exact eRt 2 (Z8g) [] (cI (by exact if_pos ((Wx m).2 ⟨‹_›,‹_›,‹_›,‹_›,‹_›,(fun h8=>by exact absurd h8.2 ‹_›),(fun h8=>by exact absurd h8.2 ‹_›),(fun h8=>by exact absurd h8.2 ‹_›),(fun h8=>by exact absurd ‹_› h8.1),‹_›⟩))) trivial
   refine cT (cn (dF hq27)) (sR [] (T.ret (rT ?_)))
   exact eRt 2 (Z8e) [] pe trivial
  replace hq26:=Bool.eq_false_iff.2 hq26
  by_cases hq28:m.X3≠(Xw.mk 0 0)
  ·refine sR (Xl (hY · (cn hq8)) [4,5,6] (hP 7 (cn hq8)::(Xl (hY · (dF hq19)) [9,10,11,12] (Xl (hY · (cn hq20)) [13,14,15,16] (hS 17 (oY rfl rfl rfl rfl (X2 rfl) (dF hq19) (Wc (b:=(!(Xk m.X0).Xd)) (av:=(Z8k m)) (X2 rfl) trivial (cn hq20)))::(hP 18 (dF hq19)::(Xl (hY · (dF hq25)) [20,21,22,23] (Xl (hY · (cn hq26)) [24,25,26] (hS 27 (oY rfl rfl rfl rfl (X2 rfl) (cn hq26) (Iv (ax:=(Z8h m)) (ay:=Z8i) (a:=m.X3) (b:=(Xw.mk 0 0)) I7 ⟨[.int .i64 m.X3.Y0,.int .i64 m.X3.Xq],rfl,rfl⟩ ⟨[.int .i64 0,.int .i64 0],rfl,rfl⟩ (X2 rfl) p1h))::(hS 28 (oY rfl rfl rfl rfl (X2 rfl) (dF hq25) (Wc (b:=(!(Xk m.X0).X3)) (av:=(Z8j m)) (X2 rfl) trivial (cn hq26)))::(hP 29 (dF hq25)::(Xl (hN · false (dT hq28)) [31,32,33,34] (hP 35 (dT hq28)::[]))))))))))))) ?_
   refine cT (b:=true) rfl (sR [] (T.ret (rT ?_)))
   exact eRt 2 (Z8e) [] pk trivial
  refine sR (Xl (hY · (cn hq8)) [4,5,6] (hP 7 (cn hq8)::(Xl (hY · (dF hq19)) [9,10,11,12] (Xl (hY · (cn hq20)) [13,14,15,16] (hS 17 (oY rfl rfl rfl rfl (X2 rfl) (dF hq19) (Wc (b:=(!(Xk m.X0).Xd)) (av:=(Z8k m)) (X2 rfl) trivial (cn hq20)))::(hP 18 (dF hq19)::(Xl (hY · (dF hq25)) [20,21,22,23] (Xl (hY · (cn hq26)) [24,25,26] (hS 27 (oY rfl rfl rfl rfl (X2 rfl) (cn hq26) (Iv (ax:=(Z8h m)) (ay:=Z8i) (a:=m.X3) (b:=(Xw.mk 0 0)) I7 ⟨[.int .i64 m.X3.Y0,.int .i64 m.X3.Xq],rfl,rfl⟩ ⟨[.int .i64 0,.int .i64 0],rfl,rfl⟩ (X2 rfl) p1h))::(hS 28 (oY rfl rfl rfl rfl (X2 rfl) (dF hq25) (Wc (b:=(!(Xk m.X0).X3)) (av:=(Z8j m)) (X2 rfl) trivial (cn hq26)))::(hP 29 (dF hq25)::(hY 31 (dF hq28)::(hY 32 (dF hq28)::(hS 33 (oY rfl rfl rfl rfl (X2 rfl) (dF hq28) (rCa (Wz tm m (aH.mk (Xk m.X0).Y9 (Xk m.X0).Xu (Xk m.X0).Xr (Xk m.X0).Xe (Xk m.X0).Xd (Xk m.X0).X3 (Xk m.X0).Xt (Xk m.X0).Y8 (Xk m.X0).X5) ‹_› ‹_› ‹_›) Tryz.func121 [] [(.tmp 95,(Z8b tm m)),(.tmp 96,(Z8f m))] 0 0))::(hY 34 (dF hq28)::(hP 35 (dF hq28)::[])))))))))))))))) ?_
  by_cases hq29:Ev m (aH.mk (Xk m.X0).Y9 (Xk m.X0).Xu (Xk m.X0).Xr (Xk m.X0).Xe (Xk m.X0).Xd (Xk m.X0).X3 (Xk m.X0).Xt (Xk m.X0).Y8 (Xk m.X0).X5)
  ·refine cF (cn (dT hq29)) (T.skip (nT (sR [] (T.ret ?_))))
   exact eRt 2 (Z8g) [] (cI (by exact if_pos ((Wx m).2 ⟨‹_›,‹_›,‹_›,‹_›,‹_›,(fun h8=>by exact absurd h8.2 ‹_›),(fun h8=>by exact absurd h8.2 ‹_›),(fun h8=>by exact absurd h8.2 ‹_›),(fun h8=>by exact absurd h8.2 ‹_›),‹_›⟩))) trivial
  refine cT (cn (dF hq29)) (sR [] (T.ret (rT ?_)))
  exact eRt 2 (Z8e) [] pe trivial
 refine sR (Xl (hN · true (dF hq6)) [4,5,6,7] (hP 8 (dF hq6)::[])) (cF (b:=false) rfl (T.skip (nT (T.seq ?_))))
 by_cases hq30:(Xk m.X0).Xe=true
 ·by_cases hq31:(Xk m.X0).Xd=true
  ·by_cases hq32:(Xk m.X0).X3=true
   ·refine sR (Xl (hN · true (cn hq30)) [4,5,6] (hP 7 (cn hq30)::(Xl hY0 [9,10,11,12] (Xl (hN · true (cn hq31)) [13,14,15,16] (hS 17 (oY (b:=false) rfl rfl rfl rfl (X2 rfl) rfl (Wv (b:=(!(Xk m.X0).Xd)) (av:=vB false) (X2 rfl) ⟨rfl,trivial⟩ (cn hq31)))::(hP0 18::(Xl hY0 [20,21,22,23] (Xl (hN · true (cn hq32)) [24,25,26,27] (hS 28 (oY (b:=false) rfl rfl rfl rfl (X2 rfl) rfl (Wv (b:=(!(Xk m.X0).X3)) (av:=vB false) (X2 rfl) ⟨rfl,trivial⟩ (cn hq32)))::(hP0 29::(hY0 31::(hY0 32::(hS 33 (oY (b:=false) rfl rfl rfl rfl (X2 rfl) rfl (rCa (Wz tm m (aH.mk (Xk m.X0).Y9 (Xk m.X0).Xu (Xk m.X0).Xr (Xk m.X0).Xe (Xk m.X0).Xd (Xk m.X0).X3 (Xk m.X0).Xt (Xk m.X0).Y8 (Xk m.X0).X5) ‹_› ‹_› ‹_›) Tryz.func121 [] [(.tmp 95,(Z8b tm m)),(.tmp 96,(Z8f m))] 0 0))::(hY0 34::(hP0 35::[]))))))))))))))) ?_
    by_cases hq33:Ev m (aH.mk (Xk m.X0).Y9 (Xk m.X0).Xu (Xk m.X0).Xr (Xk m.X0).Xe (Xk m.X0).Xd (Xk m.X0).X3 (Xk m.X0).Xt (Xk m.X0).Y8 (Xk m.X0).X5)
    ·refine cF (cn (dT hq33)) (T.skip (nT (sR [] (T.ret ?_))))
     exact eRt 2 (Z8g) [] (cI (by exact if_pos ((Wx m).2 ⟨‹_›,‹_›,‹_›,‹_›,‹_›,(fun h8=>by exact absurd h8.1 ‹_›),(fun h8=>by exact absurd ‹_› h8.1),(fun h8=>by exact absurd ‹_› h8.1),(fun h8=>by exact absurd ‹_› h8.1),‹_›⟩))) trivial
    refine cT (cn (dF hq33)) (sR [] (T.ret (rT ?_)))
    exact eRt 2 (Z8e) [] pe trivial
   replace hq32:=Bool.eq_false_iff.2 hq32
   by_cases hq34:m.X3≠(Xw.mk 0 0)
   ·refine sR (Xl (hN · true (cn hq30)) [4,5,6] (hP 7 (cn hq30)::(Xl hY0 [9,10,11,12] (Xl (hN · true (cn hq31)) [13,14,15,16] (hS 17 (oY (b:=false) rfl rfl rfl rfl (X2 rfl) rfl (Wv (b:=(!(Xk m.X0).Xd)) (av:=vB false) (X2 rfl) ⟨rfl,trivial⟩ (cn hq31)))::(hP0 18::(Xl hY0 [20,21,22,23] (Xl (hY · (cn hq32)) [24,25,26] (hS 27 (oY rfl rfl rfl rfl (X2 rfl) (cn hq32) (Iv (ax:=(Z8h m)) (ay:=Z8i) (a:=m.X3) (b:=(Xw.mk 0 0)) I7 ⟨[.int .i64 m.X3.Y0,.int .i64 m.X3.Xq],rfl,rfl⟩ ⟨[.int .i64 0,.int .i64 0],rfl,rfl⟩ (X2 rfl) p1h))::(hS 28 (oY (b:=false) rfl rfl rfl rfl (X2 rfl) rfl (Wc (b:=(!(Xk m.X0).X3)) (av:=(Z8j m)) (X2 rfl) trivial (cn hq32)))::(hP0 29::(Xl (hN · false (dT hq34)) [31,32,33,34] (hP 35 (dT hq34)::[]))))))))))))) ?_
    refine cT (b:=true) rfl (sR [] (T.ret (rT ?_)))
    exact eRt 2 (Z8e) [] pk trivial
   refine sR (Xl (hN · true (cn hq30)) [4,5,6] (hP 7 (cn hq30)::(Xl hY0 [9,10,11,12] (Xl (hN · true (cn hq31)) [13,14,15,16] (hS 17 (oY (b:=false) rfl rfl rfl rfl (X2 rfl) rfl (Wv (b:=(!(Xk m.X0).Xd)) (av:=vB false) (X2 rfl) ⟨rfl,trivial⟩ (cn hq31)))::(hP0 18::(Xl hY0 [20,21,22,23] (Xl (hY · (cn hq32)) [24,25,26] (hS 27 (oY rfl rfl rfl rfl (X2 rfl) (cn hq32) (Iv (ax:=(Z8h m)) (ay:=Z8i) (a:=m.X3) (b:=(Xw.mk 0 0)) I7 ⟨[.int .i64 m.X3.Y0,.int .i64 m.X3.Xq],rfl,rfl⟩ ⟨[.int .i64 0,.int .i64 0],rfl,rfl⟩ (X2 rfl) p1h))::(hS 28 (oY (b:=false) rfl rfl rfl rfl (X2 rfl) rfl (Wc (b:=(!(Xk m.X0).X3)) (av:=(Z8j m)) (X2 rfl) trivial (cn hq32)))::(hP0 29::(hY 31 (dF hq34)::(hY 32 (dF hq34)::(hS 33 (oY rfl rfl rfl rfl (X2 rfl) (dF hq34) (rCa (Wz tm m (aH.mk (Xk m.X0).Y9 (Xk m.X0).Xu (Xk m.X0).Xr (Xk m.X0).Xe (Xk m.X0).Xd (Xk m.X0).X3 (Xk m.X0).Xt (Xk m.X0).Y8 (Xk m.X0).X5) ‹_› ‹_› ‹_›) Tryz.func121 [] [(.tmp 95,(Z8b tm m)),(.tmp 96,(Z8f m))] 0 0))::(hY 34 (dF hq34)::(hP 35 (dF hq34)::[])))))))))))))))) ?_
   by_cases hq35:Ev m (aH.mk (Xk m.X0).Y9 (Xk m.X0).Xu (Xk m.X0).Xr (Xk m.X0).Xe (Xk m.X0).Xd (Xk m.X0).X3 (Xk m.X0).Xt (Xk m.X0).Y8 (Xk m.X0).X5)
   ·refine cF (cn (dT hq35)) (T.skip (nT (sR [] (T.ret ?_))))
    exact eRt 2 (Z8g) [] (cI (by exact if_pos ((Wx m).2 ⟨‹_›,‹_›,‹_›,‹_›,‹_›,(fun h8=>by exact absurd h8.1 ‹_›),(fun h8=>by exact absurd ‹_› h8.1),(fun h8=>by exact absurd ‹_› h8.1),(fun h8=>by exact absurd h8.2 ‹_›),‹_›⟩))) trivial
   refine cT (cn (dF hq35)) (sR [] (T.ret (rT ?_)))
   exact eRt 2 (Z8e) [] pe trivial
  replace hq31:=Bool.eq_false_iff.2 hq31
  by_cases hq36:((m.Xd.length:Nat):Int)>0
  ·refine sR (Xl (hN · true (cn hq30)) [4,5,6] (hP 7 (cn hq30)::(Xl hY0 [9,10,11,12] (Xl (hY · (cn hq31)) [13,14,15,16] (hS 17 (oY (b:=false) rfl rfl rfl rfl (X2 rfl) rfl (Wc (b:=(!(Xk m.X0).Xd)) (av:=(Z8k m)) (X2 rfl) trivial (cn hq31)))::(hP0 18::(Xl (hN · false (dT hq36)) [20,21,22,23] (hU 24::(hU 25::(hU 26::(hU 27::(hN 28 false (dT hq36)::(hP 29 (dT hq36)::(Xl hN0 [31,32,33,34] (hP1 35::[]))))))))))))))) (cT (b:=true) rfl (sR [] (T.ret (rT ?_))))
   exact eRt 2 (Z8e) [] pZ18 trivial
  by_cases hq37:(Xk m.X0).X3=true
  ·refine sR (Xl (hN · true (cn hq30)) [4,5,6] (hP 7 (cn hq30)::(Xl hY0 [9,10,11,12] (Xl (hY · (cn hq31)) [13,14,15,16] (hS 17 (oY (b:=false) rfl rfl rfl rfl (X2 rfl) rfl (Wc (b:=(!(Xk m.X0).Xd)) (av:=(Z8k m)) (X2 rfl) trivial (cn hq31)))::(hP0 18::(Xl (hY · (dF hq36)) [20,21,22,23] (Xl (hN · true (cn hq37)) [24,25,26,27] (hS 28 (oY rfl rfl rfl rfl (X2 rfl) (dF hq36) (Wv (b:=(!(Xk m.X0).X3)) (av:=vB false) (X2 rfl) ⟨rfl,trivial⟩ (cn hq37)))::(hP 29 (dF hq36)::(hY0 31::(hY0 32::(hS 33 (oY (b:=false) rfl rfl rfl rfl (X2 rfl) rfl (rCa (Wz tm m (aH.mk (Xk m.X0).Y9 (Xk m.X0).Xu (Xk m.X0).Xr (Xk m.X0).Xe (Xk m.X0).Xd (Xk m.X0).X3 (Xk m.X0).Xt (Xk m.X0).Y8 (Xk m.X0).X5) ‹_› ‹_› ‹_›) Tryz.func121 [] [(.tmp 95,(Z8b tm m)),(.tmp 96,(Z8f m))] 0 0))::(hY0 34::(hP0 35::[]))))))))))))))) ?_
   by_cases hq38:Ev m (aH.mk (Xk m.X0).Y9 (Xk m.X0).Xu (Xk m.X0).Xr (Xk m.X0).Xe (Xk m.X0).Xd (Xk m.X0).X3 (Xk m.X0).Xt (Xk m.X0).Y8 (Xk m.X0).X5)
   ·refine cF (cn (dT hq38)) (T.skip (nT (sR [] (T.ret ?_))))
    exact eRt 2 (Z8g) [] (cI (by exact if_pos ((Wx m).2 ⟨‹_›,‹_›,‹_›,‹_›,‹_›,(fun h8=>by exact absurd h8.1 ‹_›),(fun h8=>by exact absurd ‹_› h8.1),(fun h8=>by exact absurd h8.2 ‹_›),(fun h8=>by exact absurd ‹_› h8.1),‹_›⟩))) trivial
   refine cT (cn (dF hq38)) (sR [] (T.ret (rT ?_)))
   exact eRt 2 (Z8e) [] pe trivial
  replace hq37:=Bool.eq_false_iff.2 hq37
  by_cases hq39:m.X3≠(Xw.mk 0 0)
  ·refine sR (Xl (hN · true (cn hq30)) [4,5,6] (hP 7 (cn hq30)::(Xl hY0 [9,10,11,12] (Xl (hY · (cn hq31)) [13,14,15,16] (hS 17 (oY (b:=false) rfl rfl rfl rfl (X2 rfl) rfl (Wc (b:=(!(Xk m.X0).Xd)) (av:=(Z8k m)) (X2 rfl) trivial (cn hq31)))::(hP0 18::(Xl (hY · (dF hq36)) [20,21,22,23] (Xl (hY · (cn hq37)) [24,25,26] (hS 27 (oY rfl rfl rfl rfl (X2 rfl) (cn hq37) (Iv (ax:=(Z8h m)) (ay:=Z8i) (a:=m.X3) (b:=(Xw.mk 0 0)) I7 ⟨[.int .i64 m.X3.Y0,.int .i64 m.X3.Xq],rfl,rfl⟩ ⟨[.int .i64 0,.int .i64 0],rfl,rfl⟩ (X2 rfl) p1h))::(hS 28 (oY rfl rfl rfl rfl (X2 rfl) (dF hq36) (Wc (b:=(!(Xk m.X0).X3)) (av:=(Z8j m)) (X2 rfl) trivial (cn hq37)))::(hP 29 (dF hq36)::(Xl (hN · false (dT hq39)) [31,32,33,34] (hP 35 (dT hq39)::[]))))))))))))) ?_
   refine cT (b:=true) rfl (sR [] (T.ret (rT ?_)))
   exact eRt 2 (Z8e) [] pk trivial
  refine sR (Xl (hN · true (cn hq30)) [4,5,6] (hP 7 (cn hq30)::(Xl hY0 [9,10,11,12] (Xl (hY · (cn hq31)) [13,14,15,16] (hS 17 (oY (b:=false) rfl rfl rfl rfl (X2 rfl) rfl (Wc (b:=(!(Xk m.X0).Xd)) (av:=(Z8k m)) (X2 rfl) trivial (cn hq31)))::(hP0 18::(Xl (hY · (dF hq36)) [20,21,22,23] (Xl (hY · (cn hq37)) [24,25,26] (hS 27 (oY rfl rfl rfl rfl (X2 rfl) (cn hq37) (Iv (ax:=(Z8h m)) (ay:=Z8i) (a:=m.X3) (b:=(Xw.mk 0 0)) I7 ⟨[.int .i64 m.X3.Y0,.int .i64 m.X3.Xq],rfl,rfl⟩ ⟨[.int .i64 0,.int .i64 0],rfl,rfl⟩ (X2 rfl) p1h))::(hS 28 (oY rfl rfl rfl rfl (X2 rfl) (dF hq36) (Wc (b:=(!(Xk m.X0).X3)) (av:=(Z8j m)) (X2 rfl) trivial (cn hq37)))::(hP 29 (dF hq36)::(hY 31 (dF hq39)::(hY 32 (dF hq39)::(hS 33 (oY rfl rfl rfl rfl (X2 rfl) (dF hq39) (rCa (Wz tm m (aH.mk (Xk m.X0).Y9 (Xk m.X0).Xu (Xk m.X0).Xr (Xk m.X0).Xe (Xk m.X0).Xd (Xk m.X0).X3 (Xk m.X0).Xt (Xk m.X0).Y8 (Xk m.X0).X5) ‹_› ‹_› ‹_›) Tryz.func121 [] [(.tmp 95,(Z8b tm m)),(.tmp 96,(Z8f m))] 0 0))::(hY 34 (dF hq39)::(hP 35 (dF hq39)::[])))))))))))))))) ?_
  by_cases hq40:Ev m (aH.mk (Xk m.X0).Y9 (Xk m.X0).Xu (Xk m.X0).Xr (Xk m.X0).Xe (Xk m.X0).Xd (Xk m.X0).X3 (Xk m.X0).Xt (Xk m.X0).Y8 (Xk m.X0).X5)
  ·refine cF (cn (dT hq40)) (T.skip (nT (sR [] (T.ret ?_))))
   exact eRt 2 (Z8g) [] (cI (by exact if_pos ((Wx m).2 ⟨‹_›,‹_›,‹_›,‹_›,‹_›,(fun h8=>by exact absurd h8.1 ‹_›),(fun h8=>by exact absurd ‹_› h8.1),(fun h8=>by exact absurd h8.2 ‹_›),(fun h8=>by exact absurd h8.2 ‹_›),‹_›⟩))) trivial
  refine cT (cn (dF hq40)) (sR [] (T.ret (rT ?_)))
  exact eRt 2 (Z8e) [] pe trivial
 replace hq30:=Bool.eq_false_iff.2 hq30
 by_cases hq41:m.Xe≠[]
 ·refine sR (Xl (hY · (cn hq30)) [4,5,6] (hP 7 (cn hq30)::(Xl (hN · false (dT hq41)) [9,10,11,12] (hU 13::(hU 14::(hU 15::(hU 16::(hN 17 false (dT hq41)::(hP 18 (dT hq41)::(Xl hN0 [20,21,22,23] (hU 24::(hU 25::(hU 26::(hU 27::(hN0 28::(hP1 29::(Xl hN0 [31,32,33,34] (hP1 35::[])))))))))))))))))) (cT (b:=true) rfl (sR [] (T.ret (rT ?_))))
  exact eRt 2 (Z8e) [] p37 trivial
 by_cases hq42:(Xk m.X0).Xd=true
 ·by_cases hq43:(Xk m.X0).X3=true
  ·refine sR (Xl (hY · (cn hq30)) [4,5,6] (hP 7 (cn hq30)::(Xl (hY · (dF hq41)) [9,10,11,12] (Xl (hN · true (cn hq42)) [13,14,15,16] (hS 17 (oY rfl rfl rfl rfl (X2 rfl) (dF hq41) (Wv (b:=(!(Xk m.X0).Xd)) (av:=vB false) (X2 rfl) ⟨rfl,trivial⟩ (cn hq42)))::(hP 18 (dF hq41)::(Xl hY0 [20,21,22,23] (Xl (hN · true (cn hq43)) [24,25,26,27] (hS 28 (oY (b:=false) rfl rfl rfl rfl (X2 rfl) rfl (Wv (b:=(!(Xk m.X0).X3)) (av:=vB false) (X2 rfl) ⟨rfl,trivial⟩ (cn hq43)))::(hP0 29::(hY0 31::(hY0 32::(hS 33 (oY (b:=false) rfl rfl rfl rfl (X2 rfl) rfl (rCa (Wz tm m (aH.mk (Xk m.X0).Y9 (Xk m.X0).Xu (Xk m.X0).Xr (Xk m.X0).Xe (Xk m.X0).Xd (Xk m.X0).X3 (Xk m.X0).Xt (Xk m.X0).Y8 (Xk m.X0).X5) ‹_› ‹_› ‹_›) Tryz.func121 [] [(.tmp 95,(Z8b tm m)),(.tmp 96,(Z8f m))] 0 0))::(hY0 34::(hP0 35::[]))))))))))))))) ?_
   by_cases hq44:Ev m (aH.mk (Xk m.X0).Y9 (Xk m.X0).Xu (Xk m.X0).Xr (Xk m.X0).Xe (Xk m.X0).Xd (Xk m.X0).X3 (Xk m.X0).Xt (Xk m.X0).Y8 (Xk m.X0).X5)
   ·refine cF (cn (dT hq44)) (T.skip (nT (sR [] (T.ret ?_))))
    exact eRt 2 (Z8g) [] (cI (by exact if_pos ((Wx m).2 ⟨‹_›,‹_›,‹_›,‹_›,‹_›,(fun h8=>by exact absurd h8.1 ‹_›),(fun h8=>by exact absurd h8.2 ‹_›),(fun h8=>by exact absurd ‹_› h8.1),(fun h8=>by exact absurd ‹_› h8.1),‹_›⟩))) trivial
   refine cT (cn (dF hq44)) (sR [] (T.ret (rT ?_)))
   exact eRt 2 (Z8e) [] pe trivial
  replace hq43:=Bool.eq_false_iff.2 hq43
  by_cases hq45:m.X3≠(Xw.mk 0 0)
  ·refine sR (Xl (hY · (cn hq30)) [4,5,6] (hP 7 (cn hq30)::(Xl (hY · (dF hq41)) [9,10,11,12] (Xl (hN · true (cn hq42)) [13,14,15,16] (hS 17 (oY rfl rfl rfl rfl (X2 rfl) (dF hq41) (Wv (b:=(!(Xk m.X0).Xd)) (av:=vB false) (X2 rfl) ⟨rfl,trivial⟩ (cn hq42)))::(hP 18 (dF hq41)::(Xl hY0 [20,21,22,23] (Xl (hY · (cn hq43)) [24,25,26] (hS 27 (oY rfl rfl rfl rfl (X2 rfl) (cn hq43) (Iv (ax:=(Z8h m)) (ay:=Z8i) (a:=m.X3) (b:=(Xw.mk 0 0)) I7 ⟨[.int .i64 m.X3.Y0,.int .i64 m.X3.Xq],rfl,rfl⟩ ⟨[.int .i64 0,.int .i64 0],rfl,rfl⟩ (X2 rfl) p1h))::(hS 28 (oY (b:=false) rfl rfl rfl rfl (X2 rfl) rfl (Wc (b:=(!(Xk m.X0).X3)) (av:=(Z8j m)) (X2 rfl) trivial (cn hq43)))::(hP0 29::(Xl (hN · false (dT hq45)) [31,32,33,34] (hP 35 (dT hq45)::[]))))))))))))) ?_
   refine cT (b:=true) rfl (sR [] (T.ret (rT ?_)))
   exact eRt 2 (Z8e) [] pk trivial
  refine sR (Xl (hY · (cn hq30)) [4,5,6] (hP 7 (cn hq30)::(Xl (hY · (dF hq41)) [9,10,11,12] (Xl (hN · true (cn hq42)) [13,14,15,16] (hS 17 (oY rfl rfl rfl rfl (X2 rfl) (dF hq41) (Wv (b:=(!(Xk m.X0).Xd)) (av:=vB false) (X2 rfl) ⟨rfl,trivial⟩ (cn hq42)))::(hP 18 (dF hq41)::(Xl hY0 [20,21,22,23] (Xl (hY · (cn hq43)) [24,25,26] (hS 27 (oY rfl rfl rfl rfl (X2 rfl) (cn hq43) (Iv (ax:=(Z8h m)) (ay:=Z8i) (a:=m.X3) (b:=(Xw.mk 0 0)) I7 ⟨[.int .i64 m.X3.Y0,.int .i64 m.X3.Xq],rfl,rfl⟩ ⟨[.int .i64 0,.int .i64 0],rfl,rfl⟩ (X2 rfl) p1h))::(hS 28 (oY (b:=false) rfl rfl rfl rfl (X2 rfl) rfl (Wc (b:=(!(Xk m.X0).X3)) (av:=(Z8j m)) (X2 rfl) trivial (cn hq43)))::(hP0 29::(hY 31 (dF hq45)::(hY 32 (dF hq45)::(hS 33 (oY rfl rfl rfl rfl (X2 rfl) (dF hq45) (rCa (Wz tm m (aH.mk (Xk m.X0).Y9 (Xk m.X0).Xu (Xk m.X0).Xr (Xk m.X0).Xe (Xk m.X0).Xd (Xk m.X0).X3 (Xk m.X0).Xt (Xk m.X0).Y8 (Xk m.X0).X5) ‹_› ‹_› ‹_›) Tryz.func121 [] [(.tmp 95,(Z8b tm m)),(.tmp 96,(Z8f m))] 0 0))::(hY 34 (dF hq45)::(hP 35 (dF hq45)::[])))))))))))))))) ?_
  by_cases hq46:Ev m (aH.mk (Xk m.X0).Y9 (Xk m.X0).Xu (Xk m.X0).Xr (Xk m.X0).Xe (Xk m.X0).Xd (Xk m.X0).X3 (Xk m.X0).Xt (Xk m.X0).Y8 (Xk m.X0).X5)
  ·refine cF (cn (dT hq46)) (T.skip (nT (sR [] (T.ret ?_))))
   exact eRt 2 (Z8g) [] (cI (by exact if_pos ((Wx m).2 ⟨‹_›,‹_›,‹_›,‹_›,‹_›,(fun h8=>by exact absurd h8.1 ‹_›),(fun h8=>by exact absurd h8.2 ‹_›),(fun h8=>by exact absurd ‹_› h8.1),(fun h8=>by exact absurd h8.2 ‹_›),‹_›⟩))) trivial
  refine cT (cn (dF hq46)) (sR [] (T.ret (rT ?_)))
  exact eRt 2 (Z8e) [] pe trivial
 replace hq42:=Bool.eq_false_iff.2 hq42
 by_cases hq47:((m.Xd.length:Nat):Int)>0
 ·refine sR (Xl (hY · (cn hq30)) [4,5,6] (hP 7 (cn hq30)::(Xl (hY · (dF hq41)) [9,10,11,12] (Xl (hY · (cn hq42)) [13,14,15,16] (hS 17 (oY rfl rfl rfl rfl (X2 rfl) (dF hq41) (Wc (b:=(!(Xk m.X0).Xd)) (av:=(Z8k m)) (X2 rfl) trivial (cn hq42)))::(hP 18 (dF hq41)::(Xl (hN · false (dT hq47)) [20,21,22,23] (hU 24::(hU 25::(hU 26::(hU 27::(hN 28 false (dT hq47)::(hP 29 (dT hq47)::(Xl hN0 [31,32,33,34] (hP1 35::[]))))))))))))))) (cT (b:=true) rfl (sR [] (T.ret (rT ?_))))
  exact eRt 2 (Z8e) [] pZ18 trivial
 by_cases hq48:(Xk m.X0).X3=true
 ·refine sR (Xl (hY · (cn hq30)) [4,5,6] (hP 7 (cn hq30)::(Xl (hY · (dF hq41)) [9,10,11,12] (Xl (hY · (cn hq42)) [13,14,15,16] (hS 17 (oY rfl rfl rfl rfl (X2 rfl) (dF hq41) (Wc (b:=(!(Xk m.X0).Xd)) (av:=(Z8k m)) (X2 rfl) trivial (cn hq42)))::(hP 18 (dF hq41)::(Xl (hY · (dF hq47)) [20,21,22,23] (Xl (hN · true (cn hq48)) [24,25,26,27] (hS 28 (oY rfl rfl rfl rfl (X2 rfl) (dF hq47) (Wv (b:=(!(Xk m.X0).X3)) (av:=vB false) (X2 rfl) ⟨rfl,trivial⟩ (cn hq48)))::(hP 29 (dF hq47)::(hY0 31::(hY0 32::(hS 33 (oY (b:=false) rfl rfl rfl rfl (X2 rfl) rfl (rCa (Wz tm m (aH.mk (Xk m.X0).Y9 (Xk m.X0).Xu (Xk m.X0).Xr (Xk m.X0).Xe (Xk m.X0).Xd (Xk m.X0).X3 (Xk m.X0).Xt (Xk m.X0).Y8 (Xk m.X0).X5) ‹_› ‹_› ‹_›) Tryz.func121 [] [(.tmp 95,(Z8b tm m)),(.tmp 96,(Z8f m))] 0 0))::(hY0 34::(hP0 35::[]))))))))))))))) ?_
  by_cases hq49:Ev m (aH.mk (Xk m.X0).Y9 (Xk m.X0).Xu (Xk m.X0).Xr (Xk m.X0).Xe (Xk m.X0).Xd (Xk m.X0).X3 (Xk m.X0).Xt (Xk m.X0).Y8 (Xk m.X0).X5)
  ·refine cF (cn (dT hq49)) (T.skip (nT (sR [] (T.ret ?_))))
   exact eRt 2 (Z8g) [] (cI (by exact if_pos ((Wx m).2 ⟨‹_›,‹_›,‹_›,‹_›,‹_›,(fun h8=>by exact absurd h8.1 ‹_›),(fun h8=>by exact absurd h8.2 ‹_›),(fun h8=>by exact absurd h8.2 ‹_›),(fun h8=>by exact absurd ‹_› h8.1),‹_›⟩))) trivial
  refine cT (cn (dF hq49)) (sR [] (T.ret (rT ?_)))
  exact eRt 2 (Z8e) [] pe trivial
 replace hq48:=Bool.eq_false_iff.2 hq48
 by_cases hq50:m.X3≠(Xw.mk 0 0)
 ·refine sR (Xl (hY · (cn hq30)) [4,5,6] (hP 7 (cn hq30)::(Xl (hY · (dF hq41)) [9,10,11,12] (Xl (hY · (cn hq42)) [13,14,15,16] (hS 17 (oY rfl rfl rfl rfl (X2 rfl) (dF hq41) (Wc (b:=(!(Xk m.X0).Xd)) (av:=(Z8k m)) (X2 rfl) trivial (cn hq42)))::(hP 18 (dF hq41)::(Xl (hY · (dF hq47)) [20,21,22,23] (Xl (hY · (cn hq48)) [24,25,26] (hS 27 (oY rfl rfl rfl rfl (X2 rfl) (cn hq48) (Iv (ax:=(Z8h m)) (ay:=Z8i) (a:=m.X3) (b:=(Xw.mk 0 0)) I7 ⟨[.int .i64 m.X3.Y0,.int .i64 m.X3.Xq],rfl,rfl⟩ ⟨[.int .i64 0,.int .i64 0],rfl,rfl⟩ (X2 rfl) p1h))::(hS 28 (oY rfl rfl rfl rfl (X2 rfl) (dF hq47) (Wc (b:=(!(Xk m.X0).X3)) (av:=(Z8j m)) (X2 rfl) trivial (cn hq48)))::(hP 29 (dF hq47)::(Xl (hN · false (dT hq50)) [31,32,33,34] (hP 35 (dT hq50)::[]))))))))))))) ?_
  refine cT (b:=true) rfl (sR [] (T.ret (rT ?_)))
  exact eRt 2 (Z8e) [] pk trivial
 refine sR (Xl (hY · (cn hq30)) [4,5,6] (hP 7 (cn hq30)::(Xl (hY · (dF hq41)) [9,10,11,12] (Xl (hY · (cn hq42)) [13,14,15,16] (hS 17 (oY rfl rfl rfl rfl (X2 rfl) (dF hq41) (Wc (b:=(!(Xk m.X0).Xd)) (av:=(Z8k m)) (X2 rfl) trivial (cn hq42)))::(hP 18 (dF hq41)::(Xl (hY · (dF hq47)) [20,21,22,23] (Xl (hY · (cn hq48)) [24,25,26] (hS 27 (oY rfl rfl rfl rfl (X2 rfl) (cn hq48) (Iv (ax:=(Z8h m)) (ay:=Z8i) (a:=m.X3) (b:=(Xw.mk 0 0)) I7 ⟨[.int .i64 m.X3.Y0,.int .i64 m.X3.Xq],rfl,rfl⟩ ⟨[.int .i64 0,.int .i64 0],rfl,rfl⟩ (X2 rfl) p1h))::(hS 28 (oY rfl rfl rfl rfl (X2 rfl) (dF hq47) (Wc (b:=(!(Xk m.X0).X3)) (av:=(Z8j m)) (X2 rfl) trivial (cn hq48)))::(hP 29 (dF hq47)::(hY 31 (dF hq50)::(hY 32 (dF hq50)::(hS 33 (oY rfl rfl rfl rfl (X2 rfl) (dF hq50) (rCa (Wz tm m (aH.mk (Xk m.X0).Y9 (Xk m.X0).Xu (Xk m.X0).Xr (Xk m.X0).Xe (Xk m.X0).Xd (Xk m.X0).X3 (Xk m.X0).Xt (Xk m.X0).Y8 (Xk m.X0).X5) ‹_› ‹_› ‹_›) Tryz.func121 [] [(.tmp 95,(Z8b tm m)),(.tmp 96,(Z8f m))] 0 0))::(hY 34 (dF hq50)::(hP 35 (dF hq50)::[])))))))))))))))) ?_
 by_cases hq51:Ev m (aH.mk (Xk m.X0).Y9 (Xk m.X0).Xu (Xk m.X0).Xr (Xk m.X0).Xe (Xk m.X0).Xd (Xk m.X0).X3 (Xk m.X0).Xt (Xk m.X0).Y8 (Xk m.X0).X5)
 ·refine cF (cn (dT hq51)) (T.skip (nT (sR [] (T.ret ?_))))
  exact eRt 2 (Z8g) [] (cI (by exact if_pos ((Wx m).2 ⟨‹_›,‹_›,‹_›,‹_›,‹_›,(fun h8=>by exact absurd h8.1 ‹_›),(fun h8=>by exact absurd h8.2 ‹_›),(fun h8=>by exact absurd h8.2 ‹_›),(fun h8=>by exact absurd h8.2 ‹_›),‹_›⟩))) trivial
 refine cT (cn (dF hq51)) (sR [] (T.ret (rT ?_)))
 exact eRt 2 (Z8e) [] pe trivial
end Go.Proofs.YtnaopgohccacmaaGreat.Q
namespace Go.Proofs.YtnaopgohccacmaaGreat.Q
set_option linter.unusedVariables false
set_option linter.unusedSimpArgs false
set_option maxRecDepth 100000
def Ja (e:aE):List UInt8:=Yp e.f_Signer++Yo e.Xh
def It (l:List aE):List UInt8:=l.flatMap Ja
def Hn (l:List aE) (k:Nat):List UInt8:=V3 ((l.length:Nat):Int)++It (l.take k)
def V5 (l:List aE):List UInt8:=V3 ((l.length:Nat):Int)++It l
def Xgc (c:aC):List UInt8:=Ja c.Uu++V5 c.Xi
def Fh (l:List aC):List UInt8:=l.flatMap Xgc
def H4 (l:List aC):List UInt8:=V3 ((l.length:Nat):Int)++Fh l
theorem Xdk (e:aE):(Ja e).length=12+e.Xh.length:=by rw [Ja,List.length_append,Wd,V7];omega
theorem X64 {α:Type} {z:α} (f:α→List UInt8) {l:List α} {k:Nat} (hk:k<l.length):(l.take (k+1)).flatMap f=(l.take k).flatMap f++f (l.getD k z):=by
  rw [Uf (z:=z) hk,List.flatMap_append];simp
theorem Xbw {α:Type} {z:α} (f:α→List UInt8) {l:List α} {k:Nat} (hk:k<l.length):((l.take k).flatMap f).length+(f (l.getD k z)).length≤(l.flatMap f).length:=by
  have h:l.flatMap f=(l.take (k+1)).flatMap f++(l.drop (k+1)).flatMap f:=by rw [← List.flatMap_append,List.take_append_drop]
  rw [h,X64 (z:=z) f hk,List.length_append,List.length_append]
  omega
theorem Xjj {α:Type} (f:α→List UInt8) (l:List α) (k:Nat):((l.take k).flatMap f).length≤(l.flatMap f).length:=by
  have h:l.flatMap f=(l.take k).flatMap f++(l.drop k).flatMap f:=by rw [← List.flatMap_append,List.take_append_drop]
  rw [h,List.length_append];omega
theorem Xfa {l:List aE} {k:Nat} (hk:k<l.length):Hn l (k+1)=Hn l k++Ja (l.getD k zE):=by
  rw [Hn,It,X64 (z:=zE) Ja hk,← List.append_assoc];rfl
theorem Xjd {l:List aE} {k:Nat} (hk:l.length≤k):Hn l k=V5 l:=by rw [Hn,List.take_of_length_le hk];rfl
theorem X4y (l:List aE):(V5 l).length=4+(It l).length:=by rw [V5,List.length_append,U9]
theorem list_cnt (l:List aE):l.length≤(V5 l).length:=by
  rw [X4y]
  have:∀ l:List aE,l.length≤(It l).length:=by
    intro l
    induction l with
    | nil=>simp
    | cons e r ih=>rw [show It (e::r)=Ja e++It r from rfl,List.length_append,Xdk,List.length_cons];omega
  have:=this l
  omega
theorem lst_le (l:List aE) (k:Nat):(Hn l k).length≤(V5 l).length:=by
  rw [X4y,Hn,List.length_append,U9]
  have:=Xjj Ja l k
  unfold It;omega
theorem lst_room {l:List aE} {k:Nat} (hk:k<l.length):(Hn l k).length+(Ja (l.getD k zE)).length≤(V5 l).length:=by
  rw [X4y,Hn,List.length_append,U9]
  have:=Xbw (z:=zE) Ja hk
  unfold It;omega
def Ip (l:List aC) (k:Nat):List UInt8:=Fh (l.take k)
theorem crt_0 (l:List aC):Ip l 0=[]:=by simp [Ip,Fh]
theorem Xg5 {l:List aC} {k:Nat} (hk:k<l.length):Ip l (k+1)=Ip l k++(Ja (l.getD k zC).Uu++V5 (l.getD k zC).Xi):=X64 (z:=zC) Xgc hk
theorem crt_end {l:List aC} {k:Nat} (hk:l.length≤k):Ip l k=Fh l:=by rw [Ip,List.take_of_length_le hk]
theorem Xc5 (l:List aC):(H4 l).length=4+(Fh l).length:=by rw [H4,List.length_append,U9]
theorem crt_le (l:List aC) (k:Nat):4+(Ip l k).length≤(H4 l).length:=by
  rw [Xc5]
  have:=Xjj Xgc l k
  unfold Ip Fh;omega
theorem crt_room {l:List aC} {k:Nat} (hk:k<l.length):4+((Ip l k).length+((Ja (l.getD k zC).Uu).length+(V5 (l.getD k zC).Xi).length))≤(H4 l).length:=by
  rw [Xc5]
  have h:=Xbw (z:=zC) Xgc hk
  have e:(Xgc (l.getD k zC)).length=(Ja (l.getD k zC).Uu).length+(V5 (l.getD k zC).Xi).length:=List.length_append
  unfold Ip Fh;omega
def Jv (m:aM):Nat→List UInt8
  | 0=>Yp m.Y9
  | 1=>Yp m.Xu
  | 2=>Yp m.Xr++Yp m.W0
  | 3=>Yo m.Xe
  | 4=>Yo m.Xd
  | 5=>Yp m.X3.Y0++Yp m.X3.Xq
  | 6=>V5 m.Xt
  | 7=>V5 m.Y8
  | 8=>H4 m.X5
  | _=>[]
def Y4 (m:aM):Nat→List UInt8
  | 0=>Yp m.X0
  | j+1=>Y4 m j++(if Ix (Xk m.X0) j=true then Jv m j else [])
def Jm (m:aM):List UInt8:=if Fg m then Y4 m 9 else []
section
variable {m:aM}
theorem Fa {j i:Nat} (h:j=i) (hb:Ix (Xk m.X0) j=true):Y4 m (j+1)=Y4 m j++Jv m i:=by subst h;rw [Y4,if_pos hb]
theorem X0r {j:Nat} (hb:¬Ix (Xk m.X0) j=true):Y4 m (j+1)=Y4 m j:=by rw [Y4,if_neg hb,List.append_nil]
theorem Xg1 (m:aM) (j:Nat):∀ d,(Y4 m j).length≤(Y4 m (j+d)).length
  | 0=>Nat.le_refl _
  | d+1=>Nat.le_trans (Xg1 m j d) (by rw [← Nat.add_assoc,Y4,List.length_append];omega)
theorem enc_le {j:Nat} (hj:j≤9):(Y4 m j).length≤(Y4 m 9).length:=by
  have:=Xg1 m j (9-j)
  rwa [show j+(9-j)=9 by omega] at this
theorem Il {j i:Nat} (h:j=i) (hb:Ix (Xk m.X0) j=true) (hj:j≤8):(Y4 m j).length+(Jv m i).length≤(Y4 m 9).length:=by
  have:=enc_le (m:=m) (show j+1≤9 by omega)
  rwa [Fa h hb,List.length_append] at this
end
end Go.Proofs.YtnaopgohccacmaaGreat.Q
namespace Go.Proofs.YtnaopgohccacmaaGreat.Q
open Go Go.RowKit
set_option linter.unusedVariables false
set_option linter.unusedSimpArgs false
set_option maxRecDepth 100000
set_option maxHeartbeats 4000000
theorem X1h (tb:Bool) (nb:Bool) (b:List UInt8) (te:Bool) (e:aE) (hb:b.length+(Ja e).length≤10000000000):Holds Tryz.prog 67 ⟨[slV tb nb kU8 b,.tv (.agg [dI e.f_Signer,.d (dsl te false kU8 e.Xh)])],[],Xx 0 kU8 0 (b++Ja e).length,[.live (Xc 5 kU8 (b++Ja e))]⟩:=by
 refine Holds.of Tryz.func67 rfl (N:=12) Tryz.ntmps67 rfl fun w0 B0 S0 U0=>?_
 show T _ (Y2 12 0 w0 S0 U0 B0) ⟨[slV tb nb kU8 b,.tv (.agg [dI e.f_Signer,.d (dsl te false kU8 e.Xh)])],[]⟩ _ _
 have hel:=Xdk e
 have hi:=Wd e.f_Signer
 refine sR [] ?_
 refine sD [[],[],[1],[0,1,2],[],[4],[0,1,2,3,4,5],[0,1,2,3,4,5,6]] [hR 3 rfl rfl (rCa (U7 tb nb b e.f_Signer (by omega)) Tryz.func63 [1] [(.tmp 5,slV tb nb kU8 b),(.tmp 7,vI e.f_Signer)] 0 1),hR 6 rfl rfl (Wt (Ie true false (b++Yp e.f_Signer) te false e.Xh (by (simp [maxLen,-List.getD_eq_getElem?_getD]<;>omega))) Tryz.func64 rfl (by decide) [2] [1] (l:=[(.tmp 8,Xx 1 kU8 0 (b++Yp e.f_Signer).length),(.tmp 10,slV te false kU8 e.Xh)]) [(1,.live (Xc 5 kU8 (b++Yp e.f_Signer)))] rfl 0 1 rfl rfl rfl rfl rfl rfl rfl rfl rfl ⟨.inr (.inl ⟨rfl,pZs,rfl,rfl,by simp,5,(b++Yp e.f_Signer).length,W5 kU8 (b++Yp e.f_Signer),List.Mem.head _,pf,fun i j=>by rw [Nat.zero_add]⟩),⟨.inl ⟨rfl,rfl⟩,trivial⟩⟩ rfl pZ3 ph (X2 rfl) trivial)] ?_
 refine T.ret ?_
 exact eRt 4 (.one (.own 2 kU8.sz 0 (b++Yp e.f_Signer++Yo e.Xh).length)) [2] (by have e1:((b++Ja e).length:Nat)=(b++Yp e.f_Signer++Yo e.Xh).length:=(by (rw [Ja,← List.append_assoc]));have hE:=congrArg (fun (q1:Nat)=>(Xx 2 kU8 0 q1:AV)) e1;exact hE) ⟨⟨rfl,(by have e1:(b++Yp e.f_Signer++Yo e.Xh:List UInt8)=b++Ja e:=(by (rw [Ja,← List.append_assoc]));have hE:=congrArg (fun (q1:List UInt8)=>(.live (Xc 5 kU8 q1):HS)) e1;exact Eq.trans pZ4 hE)⟩,trivial⟩
abbrev Z8l (k:Nat):AV:=vI ((k+1:Nat):Int)
theorem X3t (tb:Bool) (nb:Bool) (b:List UInt8) (tl:Bool) (nl:Bool) (sl_:Bool) (l:List aE) (hb:b.length+(V5 l).length≤10000000000) (hl:l.length≤9223372036854775807):Holds Tryz.prog 65 ⟨[slV tb nb kU8 b,slV tl nl (kE sl_) l],[],Xx 0 kU8 0 (b++V5 l).length,[.live (Xc 5 kU8 (b++V5 l))]⟩:=by
 refine Holds.of Tryz.func65 rfl (N:=23) Tryz.ntmps65 rfl fun w0 B0 S0 U0=>?_
 show T _ (Y2 23 0 w0 S0 U0 B0) ⟨[slV tb nb kU8 b,slV tl nl (kE sl_) l],[]⟩ _ _
 have hll:=X4y l
 have hcl:=U9 ((l.length:Nat):Int)
 refine sR [] (sR [hR 3 rfl rfl (rCa (Ee tb nb b ((l.length:Nat):Int) (by omega)) Tryz.func66 [0] [(.tmp 6,slV tb nb kU8 b),(.tmp 8,vI ((l.length:Nat):Int))] 0 1)] (T.seq (sR [] (T.block ?_))))
 refine T.loop (ι:=Nat) (fun (k:Nat)=>⟨[Xx 0 kU8 0 (b++Hn l k).length,slV tl nl (kE sl_) l,aa,aa,aa,vI ((k:Nat):Int)],[.live (Xc 5 kU8 (b++Hn l k))]⟩) (fun (k:Nat)=>(k≤l.length)) (fun (k:Nat)=>l.length-k) (0) (Nat.zero_le _) (fun _ _ hG=>Yu [0] (bm 6 35) (t2:=[Xx 0 kU8 0 (b++V3 ((l.length:Nat):Int)).length,slV tl nl (kE sl_) l,aa,aa,aa,vI 0]) (h2:=[.live (Xc 5 kU8 (b++V3 ((l.length:Nat):Int)))]) (congrArg (fun (q1:Nat)=>([Xx 0 kU8 0 q1,slV tl nl (kE sl_) l,aa,aa,aa,vI 0]:List AV)) (by rfl)) p1v hG) ?_
 rintro k hk
 show T _ _ ⟨[Xx 0 kU8 0 (b++Hn l k).length,slV tl nl (kE sl_) l,aa,aa,aa,vI ((k:Nat):Int)],[.live (Xc 5 kU8 (b++Hn l k))]⟩ _ _
 replace hk:k≤l.length:=hk
 have hle:=lst_le l k
 refine T.seq (sR [] ?_)
 by_cases hq1:((k:Nat):Int)<((l.length:Nat):Int)
 ·have hrm:=lst_room (l:=l) (k:=k) (by omega)
  refine cT (dT hq1) (T.skip (nT (T.seq (T.block ?_))))
  refine xR [hR 3 rfl rfl (Wi tl nl (kE sl_) l k (k:=.i64) (i:=((k:Nat):Int)) Tryz.underlying37 Vv rfl rfl (by omega) (X2 rfl) trivial),hR 5 rfl rfl (Wt (X1h true false (b++Hn l k) sl_ (l.getD k zE) (by (simp [maxLen,-List.getD_eq_getElem?_getD]<;>omega))) Tryz.func67 rfl (by decide) [1] [0] (l:=[(.tmp 16,Xx 0 kU8 0 (b++Hn l k).length),(.tmp 20,.tv (.agg [dI (l.getD k zE).f_Signer,.d (dsl sl_ false kU8 (l.getD k zE).Xh)]))]) [(0,.live (Xc 5 kU8 (b++Hn l k)))] rfl 0 1 rfl rfl rfl rfl rfl rfl rfl rfl rfl ⟨.inr (.inl ⟨rfl,pZs,rfl,rfl,by simp,5,(b++Hn l k).length,W5 kU8 (b++Hn l k),List.Mem.head _,pf,fun i j=>by rw [Nat.zero_add]⟩),⟨⟨.inl ⟨rfl,rfl⟩,⟨.inl ⟨rfl,rfl⟩,trivial⟩⟩,trivial⟩⟩ rfl pZ3 ph (X2 rfl) trivial)] pZ4 pZ4 ?_
  refine nB (nT (xK [hR 1 rfl rfl (Yb (u1:=.int .i64 ((k:Nat):Int)) (u2:=.int .i64 1) (v:=.int .i64 ((k+1:Nat):Int)) (Wb pZ9) (X2 rfl) ⟨rfl,trivial⟩)] ?_))
  refine nL (k+1) (show (k+1)≤l.length from (by omega)) (show (l.length-(k+1):Nat)<l.length-k from (by omega)) (fun _ _ hG=>Wf [1] (bm 6 35) (t1:=[Xx 1 kU8 0 (b++Hn l (k+1)).length,slV tl nl (kE sl_) l,aa,aa,aa,(Z8l k)]) (t2:=[Xx 1 kU8 0 ((b++Hn l k)++Ja (l.getD k zE)).length,slV tl nl (kE sl_) l,aa,aa,aa,(Z8l k)]) (h1:=[.live (Xc 5 kU8 (b++Hn l (k+1)))]) (h2:=[.live (Xc 5 kU8 ((b++Hn l k)++Ja (l.getD k zE)))]) (by have e1:((b++Hn l (k+1)).length:Nat)=((b++Hn l k)++Ja (l.getD k zE)).length:=(by (rw [Xfa (by omega),← List.append_assoc]));have hE:=congrArg (fun (q1:Nat)=>([Xx 1 kU8 0 q1,slV tl nl (kE sl_) l,aa,aa,aa,(Z8l k)]:List AV)) e1;exact hE) (by have e1:((b++Hn l (k+1)):List UInt8)=(b++Hn l k)++Ja (l.getD k zE):=(by (rw [Xfa (by omega),← List.append_assoc]));have hE:=congrArg (fun (q1:List UInt8)=>([.live (Xc 5 kU8 q1)]:List HS)) e1;exact hE) hG)
 refine cF (dF hq1) (T.exit (xT (xT (xH (nT (sR [] (T.ret ?_)))))))
 exact eRt 4 (.one (.own 0 kU8.sz 0 (b++Hn l k).length)) [0] (by have e1:((b++V5 l).length:Nat)=(b++Hn l k).length:=(by (rw [Xjd (by omega)]));have hE:=congrArg (fun (q1:Nat)=>(Xx 0 kU8 0 q1:AV)) e1;exact hE) ⟨⟨rfl,(by have e1:((b++Hn l k):List UInt8)=b++V5 l:=(by (rw [Xjd (by omega)]));have hE:=congrArg (fun (q1:List UInt8)=>(.live (Xc 5 kU8 q1):HS)) e1;exact Eq.trans pZ4 hE)⟩,trivial⟩
end Go.Proofs.YtnaopgohccacmaaGreat.Q
