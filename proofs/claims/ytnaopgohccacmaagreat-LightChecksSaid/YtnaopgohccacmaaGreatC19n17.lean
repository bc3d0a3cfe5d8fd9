import Derived.Test.YtnaopgohccacmaaGreatC19n16
namespace Go.Proofs.YtnaopgohccacmaaGreat.Q
open Go Go.RowKit
set_option linter.unusedVariables false
set_option linter.unusedSimpArgs false
set_option maxRecDepth 100000
set_option maxHeartbeats 4000000
theorem iat_119:Tryz.prog.info? 119=some Tryz.t119:=by kernel_rfl
theorem Js:Wide Tryz.prog 119 (some 9):=⟨_,_,Tryz.underlying119,.inl ⟨_,rfl⟩,iat_119,rfl⟩
abbrev Z7j:TV:=.one (dB true)
abbrev Z7k:TV:=.agg [dB true,dB true,dB false,dB true,dB false,dB false,dB false,dB false,dB false]
theorem X0c (k:Int):Holds Tryz.prog 62 ⟨[vI k],[],.tup [.agg [dB (Xj k).Y1,dB (Xj k).Xo,dB (Xj k).Xi,dB (Xj k).X8,dB (Xj k).Xa,dB (Xj k).X1,dB (Xj k).Xp,dB (Xj k).Y5,dB (Xj k).X5],.one (dB (decide (okK k)))],[]⟩:=by
 refine Holds.of Tryz.func62 rfl (N:=37) Tryz.ntmps62 rfl fun w0 B0 S0 U0=>?_
 show T _ (Y2 37 0 w0 S0 U0 B0) ⟨[vI k],[]⟩ _ _
 refine sR [] ?_
 refine T.seq ?_
 refine sR [] ?_
 refine T.block ?_
 refine sR [] ?_
 by_cases hq1:k=1
 ·refine cT (dT hq1) ?_
  refine sR [] ?_
  refine T.ret (rB (rT ?_))
  exact eX [.c 2 0 119 0 119 [dB false,dB false,dB true,dB false,dB true,dB false,dB false,dB false,dB false] (.agg [dB false,dB false,dB true,dB false,dB true,dB false,dB false,dB false,dB false]),.t 3 (Z7j)] ⟨⟨rfl,rfl,by kernel_rfl,by kernel_rfl,.inl ⟨9,Js,rfl,Nat.le_of_ble_eq_true rfl⟩⟩,⟨⟨rfl,by kernel_rfl⟩,trivial⟩⟩ [] (gc2 (show (Xj k)=⟨false,false,true,false,true,false,false,false,false⟩ from p1d) (show ((decide (okK k)):Bool)=true from p1d) (fun qq0 (q10:Bool)=>(.tup [.agg [dB (qq0.Y1),dB (qq0.Xo),dB (qq0.Xi),dB (qq0.X8),dB (qq0.Xa),dB (qq0.X1),dB (qq0.Xp),dB (qq0.Y5),dB (qq0.X5)],.one (dB q10)]:AV))) trivial
 refine cF (dF hq1) ?_
 refine sR [] ?_
 by_cases hq2:k=2
 ·refine cT (dT hq2) ?_
  refine sR [] ?_
  refine T.ret (rB (rT ?_))
  exact eX [.c 2 0 119 0 119 [dB true,dB true,dB false,dB true,dB false,dB false,dB true,dB false,dB false] (.agg [dB true,dB true,dB false,dB true,dB false,dB false,dB true,dB false,dB false]),.t 3 (Z7j)] ⟨⟨rfl,rfl,by kernel_rfl,by kernel_rfl,.inl ⟨9,Js,rfl,Nat.le_of_ble_eq_true rfl⟩⟩,⟨⟨rfl,by kernel_rfl⟩,trivial⟩⟩ [] (gc2 (show (Xj k)=⟨true,true,false,true,false,false,true,false,false⟩ from p1d) (show ((decide (okK k)):Bool)=true from p1d) (fun qq0 (q10:Bool)=>(.tup [.agg [dB (qq0.Y1),dB (qq0.Xo),dB (qq0.Xi),dB (qq0.X8),dB (qq0.Xa),dB (qq0.X1),dB (qq0.Xp),dB (qq0.Y5),dB (qq0.X5)],.one (dB q10)]:AV))) trivial
 refine cF (dF hq2) ?_
 refine T.seq ?_
 refine sR [] ?_
 by_cases hq3:k=3
 ·refine cT (dT hq3) ?_
  refine T.skip (nT ?_)
  refine cT (dT hq3) ?_
  refine sR [] ?_
  refine T.ret (rB (rT ?_))
  exact eX [.c 2 0 119 0 119 [dB true,dB true,dB false,dB true,dB false,dB false,dB false,dB false,dB false] (Z7k),.t 3 (Z7j)] ⟨⟨rfl,rfl,by kernel_rfl,by kernel_rfl,.inl ⟨9,Js,rfl,Nat.le_of_ble_eq_true rfl⟩⟩,⟨⟨rfl,by kernel_rfl⟩,trivial⟩⟩ [] p1y trivial
 refine cF (dF hq3) ?_
 refine xK [] ?_
 refine nT ?_
 by_cases hq4:k=4
 ·refine cT (dT hq4) ?_
  refine sR [] ?_
  refine T.ret (rB (rT ?_))
  exact eX [.c 2 0 119 0 119 [dB true,dB true,dB false,dB true,dB false,dB false,dB false,dB false,dB false] (Z7k),.t 3 (Z7j)] ⟨⟨rfl,rfl,by kernel_rfl,by kernel_rfl,.inl ⟨9,Js,rfl,Nat.le_of_ble_eq_true rfl⟩⟩,⟨⟨rfl,by kernel_rfl⟩,trivial⟩⟩ [] p1y trivial
 refine cF (dF hq4) ?_
 refine sR [] ?_
 by_cases hq5:k=5
 ·refine cT (dT hq5) ?_
  refine sR [] ?_
  refine T.ret (rB (rT ?_))
  exact eX [.c 2 0 119 0 119 [dB false,dB true,dB false,dB true,dB false,dB false,dB false,dB false,dB false] (.agg [dB false,dB true,dB false,dB true,dB false,dB false,dB false,dB false,dB false]),.t 3 (Z7j)] ⟨⟨rfl,rfl,by kernel_rfl,by kernel_rfl,.inl ⟨9,Js,rfl,Nat.le_of_ble_eq_true rfl⟩⟩,⟨⟨rfl,by kernel_rfl⟩,trivial⟩⟩ [] (gc2 (show (Xj k)=⟨false,true,false,true,false,false,false,false,false⟩ from p1d) (show ((decide (okK k)):Bool)=true from p1d) (fun qq0 (q10:Bool)=>(.tup [.agg [dB (qq0.Y1),dB (qq0.Xo),dB (qq0.Xi),dB (qq0.X8),dB (qq0.Xa),dB (qq0.X1),dB (qq0.Xp),dB (qq0.Y5),dB (qq0.X5)],.one (dB q10)]:AV))) trivial
 refine cF (dF hq5) ?_
 refine sR [] ?_
 by_cases hq6:k=6
 ·refine cT (dT hq6) ?_
  refine sR [] ?_
  refine T.ret (rB (rT ?_))
  exact eX [.c 2 0 119 0 119 [dB true,dB true,dB false,dB false,dB false,dB false,dB true,dB false,dB true] (.agg [dB true,dB true,dB false,dB false,dB false,dB false,dB true,dB false,dB true]),.t 3 (Z7j)] ⟨⟨rfl,rfl,by kernel_rfl,by kernel_rfl,.inl ⟨9,Js,rfl,Nat.le_of_ble_eq_true rfl⟩⟩,⟨⟨rfl,by kernel_rfl⟩,trivial⟩⟩ [] (gc2 (show (Xj k)=⟨true,true,false,false,false,false,true,false,true⟩ from p1d) (show ((decide (okK k)):Bool)=true from p1d) (fun qq0 (q10:Bool)=>(.tup [.agg [dB (qq0.Y1),dB (qq0.Xo),dB (qq0.Xi),dB (qq0.X8),dB (qq0.Xa),dB (qq0.X1),dB (qq0.Xp),dB (qq0.Y5),dB (qq0.X5)],.one (dB q10)]:AV))) trivial
 refine cF (dF hq6) ?_
 refine sR [] ?_
 by_cases hq7:k=7
 ·refine cT (dT hq7) ?_
  refine sR [] ?_
  refine T.ret (rB (rT ?_))
  exact eX [.c 2 0 119 0 119 [dB true,dB false,dB false,dB false,dB false,dB false,dB true,dB true,dB false] (.agg [dB true,dB false,dB false,dB false,dB false,dB false,dB true,dB true,dB false]),.t 3 (Z7j)] ⟨⟨rfl,rfl,by kernel_rfl,by kernel_rfl,.inl ⟨9,Js,rfl,Nat.le_of_ble_eq_true rfl⟩⟩,⟨⟨rfl,by kernel_rfl⟩,trivial⟩⟩ [] (gc2 (show (Xj k)=⟨true,false,false,false,false,false,true,true,false⟩ from p1d) (show ((decide (okK k)):Bool)=true from p1d) (fun qq0 (q10:Bool)=>(.tup [.agg [dB (qq0.Y1),dB (qq0.Xo),dB (qq0.Xi),dB (qq0.X8),dB (qq0.Xa),dB (qq0.X1),dB (qq0.Xp),dB (qq0.Y5),dB (qq0.X5)],.one (dB q10)]:AV))) trivial
 refine cF (dF hq7) ?_
 refine sR [] ?_
 by_cases hq8:k=8
 ·refine cT (dT hq8) ?_
  refine sR [] ?_
  refine T.ret (rB (rT ?_))
  exact eX [.c 2 0 119 0 119 [dB true,dB false,dB true,dB false,dB false,dB true,dB false,dB false,dB false] (.agg [dB true,dB false,dB true,dB false,dB false,dB true,dB false,dB false,dB false]),.t 3 (Z7j)] ⟨⟨rfl,rfl,by kernel_rfl,by kernel_rfl,.inl ⟨9,Js,rfl,Nat.le_of_ble_eq_true rfl⟩⟩,⟨⟨rfl,by kernel_rfl⟩,trivial⟩⟩ [] (gc2 (show (Xj k)=⟨true,false,true,false,false,true,false,false,false⟩ from p1d) (show ((decide (okK k)):Bool)=true from p1d) (fun qq0 (q10:Bool)=>(.tup [.agg [dB (qq0.Y1),dB (qq0.Xo),dB (qq0.Xi),dB (qq0.X8),dB (qq0.Xa),dB (qq0.X1),dB (qq0.Xp),dB (qq0.Y5),dB (qq0.X5)],.one (dB q10)]:AV))) trivial
 refine cF (dF hq8) ?_
 refine sR [] ?_
 by_cases hq9:k=9
 ·refine cT (dT hq9) ?_
  refine sR [] ?_
  refine T.ret (rB (rT ?_))
  exact eX [.c 2 0 119 0 119 [dB false,dB true,dB false,dB false,dB false,dB false,dB false,dB false,dB false] (.agg [dB false,dB true,dB false,dB false,dB false,dB false,dB false,dB false,dB false]),.t 3 (Z7j)] ⟨⟨rfl,rfl,by kernel_rfl,by kernel_rfl,.inl ⟨9,Js,rfl,Nat.le_of_ble_eq_true rfl⟩⟩,⟨⟨rfl,by kernel_rfl⟩,trivial⟩⟩ [] (gc2 (show (Xj k)=⟨false,true,false,false,false,false,false,false,false⟩ from p1d) (show ((decide (okK k)):Bool)=true from p1d) (fun qq0 (q10:Bool)=>(.tup [.agg [dB (qq0.Y1),dB (qq0.Xo),dB (qq0.Xi),dB (qq0.X8),dB (qq0.Xa),dB (qq0.X1),dB (qq0.Xp),dB (qq0.Y5),dB (qq0.X5)],.one (dB q10)]:AV))) trivial
 refine cF (dF hq9) ?_
 refine sR [] ?_
 by_cases hq10:k=10
 ·refine cT (dT hq10) ?_
  refine sR [] ?_
  refine T.ret (rB (rT ?_))
  exact eX [.c 2 0 119 0 119 [dB false,dB false,dB false,dB false,dB false,dB false,dB false,dB false,dB true] (.agg [dB false,dB false,dB false,dB false,dB false,dB false,dB false,dB false,dB true]),.t 3 (Z7j)] ⟨⟨rfl,rfl,by kernel_rfl,by kernel_rfl,.inl ⟨9,Js,rfl,Nat.le_of_ble_eq_true rfl⟩⟩,⟨⟨rfl,by kernel_rfl⟩,trivial⟩⟩ [] (gc2 (show (Xj k)=⟨false,false,false,false,false,false,false,false,true⟩ from p1d) (show ((decide (okK k)):Bool)=true from p1d) (fun qq0 (q10:Bool)=>(.tup [.agg [dB (qq0.Y1),dB (qq0.Xo),dB (qq0.Xi),dB (qq0.X8),dB (qq0.Xa),dB (qq0.X1),dB (qq0.Xp),dB (qq0.Y5),dB (qq0.X5)],.one (dB q10)]:AV))) trivial
 refine cF (dF hq10) ?_
 refine sR [] ?_
 by_cases hq11:k=11
 ·refine cT (dT hq11) ?_
  refine sR [] ?_
  refine T.ret (rB (rT ?_))
  exact eX [.c 2 0 119 0 119 [dB false,dB true,dB false,dB false,dB true,dB false,dB true,dB false,dB false] (.agg [dB false,dB true,dB false,dB false,dB true,dB false,dB true,dB false,dB false]),.t 3 (Z7j)] ⟨⟨rfl,rfl,by kernel_rfl,by kernel_rfl,.inl ⟨9,Js,rfl,Nat.le_of_ble_eq_true rfl⟩⟩,⟨⟨rfl,by kernel_rfl⟩,trivial⟩⟩ [] (gc2 (show (Xj k)=⟨false,true,false,false,true,false,true,false,false⟩ from p1d) (show ((decide (okK k)):Bool)=true from p1d) (fun qq0 (q10:Bool)=>(.tup [.agg [dB (qq0.Y1),dB (qq0.Xo),dB (qq0.Xi),dB (qq0.X8),dB (qq0.Xa),dB (qq0.X1),dB (qq0.Xp),dB (qq0.Y5),dB (qq0.X5)],.one (dB q10)]:AV))) trivial
 refine cF (dF hq11) ?_
 refine T.skip ?_
 refine nB ?_
 refine nT ?_
 refine sR [] ?_
 refine T.ret ?_
 exact eX [.c 2 0 119 0 119 [dB false,dB false,dB false,dB false,dB false,dB false,dB false,dB false,dB false] (.agg [dB false,dB false,dB false,dB false,dB false,dB false,dB false,dB false,dB false]),.t 3 (.one (dB false))] ⟨⟨rfl,rfl,by kernel_rfl,by kernel_rfl,.inl ⟨9,Js,rfl,Nat.le_of_ble_eq_true rfl⟩⟩,⟨⟨rfl,by kernel_rfl⟩,trivial⟩⟩ [] (gc2 (show (Xj k)=⟨false,false,false,false,false,false,false,false,false⟩ from p1d) (by exact dF (by unfold okK;omega)) (fun qq0 (q10:Bool)=>(.tup [.agg [dB (qq0.Y1),dB (qq0.Xo),dB (qq0.Xi),dB (qq0.X8),dB (qq0.Xa),dB (qq0.X1),dB (qq0.Xp),dB (qq0.Y5),dB (qq0.X5)],.one (dB q10)]:AV))) trivial
abbrev Z7l:TV:=.one (dI 1)
abbrev Z7m:TV:=.one (dI 0)
theorem Xby (k:Int):Holds Tryz.prog 119 ⟨[vI k],[],.tup [.one (dI (X3z k)),.one (dI (X30 k))],[]⟩:=by
 refine Holds.of Tryz.func119 rfl (N:=15) Tryz.ntmps119 rfl fun w0 B0 S0 U0=>?_
 show T _ (Y2 15 0 w0 S0 U0 B0) ⟨[vI k],[]⟩ _ _
 refine sR [] ?_
 refine sR [] ?_
 refine T.seq ?_
 refine sR [] ?_
 refine T.block ?_
 refine sR [] ?_
 by_cases hq1:k=6
 ·refine cT (dT hq1) ?_
  refine sR [] ?_
  refine xK [] ?_
  refine nB ?_
  refine nT ?_
  refine sR [] ?_
  refine T.ret ?_
  exact eX [.t 2 (Z7l),.t 3 (Z7m)] ⟨⟨rfl,by kernel_rfl⟩,⟨⟨rfl,by kernel_rfl⟩,trivial⟩⟩ [] (by have e1:(X3z k:Int)=1:=p37;have e2:(X30 k:Int)=0:=p37;have hE:=congr p2p e2;exact hE) trivial
 refine cF (dF hq1) ?_
 refine sR [] ?_
 by_cases hq2:k=7
 ·refine cT (dT hq2) ?_
  refine xK [] ?_
  refine nB ?_
  refine nT ?_
  refine sR [] ?_
  refine T.ret ?_
  exact eX [.t 2 (Z7l),.t 3 (Z7l)] ⟨⟨rfl,by kernel_rfl⟩,⟨⟨rfl,by kernel_rfl⟩,trivial⟩⟩ [] (by have e1:(X3z k:Int)=1:=p37;have e2:(X30 k:Int)=1:=p37;have hE:=congr p2p e2;exact hE) trivial
 refine cF (dF hq2) ?_
 refine sR [] ?_
 by_cases hq3:k=9
 ·refine cT (dT hq3) ?_
  refine xK [] ?_
  refine nB ?_
  refine nT ?_
  refine sR [] ?_
  refine T.ret ?_
  exact eX [.t 2 (Z7m),.t 3 (Z7m)] ⟨⟨rfl,by kernel_rfl⟩,⟨⟨rfl,by kernel_rfl⟩,trivial⟩⟩ [] (by have e1:(X3z k:Int)=0:=p37;have e2:(X30 k:Int)=0:=p37;have hE:=congr p2p e2;exact hE) trivial
 refine cF (dF hq3) ?_
 refine T.skip ?_
 refine nB ?_
 refine nT ?_
 refine sR [] ?_
 refine T.ret ?_
 exact eX [.t 2 (Z7m),.t 3 (Z7l)] ⟨⟨rfl,by kernel_rfl⟩,⟨⟨rfl,by kernel_rfl⟩,trivial⟩⟩ [] (by have e1:(X3z k:Int)=0:=p37;have e2:(X30 k:Int)=1:=p37;have hE:=congr p2p e2;exact hE) trivial
theorem U9 (n:Int) (had:Bool) (lo:Int):Holds Tryz.prog 120 ⟨[vI n,vB had,vI lo],[],vB (decide (X0m n had lo)),[]⟩:=by
 refine Holds.of Tryz.func120 rfl (N:=18) Tryz.ntmps120 rfl fun w0 B0 S0 U0=>?_
 show T _ (Y2 18 0 w0 S0 U0 B0) ⟨[vI n,vB had,vI lo],[]⟩ _ _
 refine sR [] ?_
 refine T.seq ?_
 refine sR [] ?_
 by_cases hq1:had=true
 ·refine cF (cn hq1) ?_
  refine T.skip (nT ?_)
  by_cases hq2:n≥lo
  ·refine sR [hY 4 (dT hq2),hY 5 (dT hq2),hP 6 (dT hq2)] ?_
   refine T.ret ?_
   exact eRt 6 (.one (dB (decide (n≤1099511627776)))) [] (by have e1:((decide (X0m n had lo)):Bool)=(decide (n≤1099511627776)):=(by (simp [X0m, *];done));have hE:=cB e1;exact hE) trivial
  refine sR [hN 4 true (dF hq2),hN 5 true (dF hq2),hP 6 (dF hq2)] ?_
  refine T.ret ?_
  exact eRt 6 (.one (dB false)) [] (by have e1:((decide (X0m n had lo)):Bool)=false:=(by (simp [X0m, *];done));have hE:=cB e1;exact hE) trivial
 replace hq1:=Bool.eq_false_iff.2 hq1
 refine cT (cn hq1) ?_
 refine sR [] ?_
 refine T.ret (rT ?_)
 exact eRt 6 (.one (dB (decide (n=0)))) [] (by have e1:((decide (X0m n had lo)):Bool)=(decide (n=0)):=(by (simp [X0m, *];done));have hE:=cB e1;exact hE) trivial
end Go.Proofs.YtnaopgohccacmaaGreat.Q
