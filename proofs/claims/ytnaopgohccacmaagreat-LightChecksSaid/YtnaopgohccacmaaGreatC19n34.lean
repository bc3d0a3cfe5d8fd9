import Derived.Test.YtnaopgohccacmaaGreatC19n33
namespace Go.Proofs.YtnaopgohccacmaaGreat.Q
open Go Go.RowKit
set_option linter.unusedVariables false
set_option linter.unusedSimpArgs false
set_option maxRecDepth 100000
set_option maxHeartbeats 4000000
section
variable (f:Int) (u:Int) (rows:List (Yn×Bool)) (tp:Bool) (p:aM) (tc:Bool) (c:aC) (tx:Bool) (nx:Bool) (sx:Bool) (x:List aE) (need:Int) (kind:Int) (k:Nat)
end
section
variable (f:Int) (u:Int) (rows:List (Yn×Bool)) (tc:Bool) (c:aC) (kind:Int) (need:Int)
end
theorem Xgv (tm:Bool) (m:aM) (s:Int) (fst:Bool) (d:List UInt8) (seq:Int):Holds Tryz.prog 117 ⟨[.tv (.agg [dI m.X2,dI m.Y1,dI m.Xo,dI m.Xi,dI m.Yj,dS m.X8,.d (dsl tm false kU8 m.Xa),dI m.X1.Xw,dI m.X1.Xn,.d (dsl tm false (kE tm) m.Xp),.d (dsl tm false (kE tm) m.Y5),.d (dsl tm false (kC tm) m.X5)]),vI s,pv 0 0,pv 1 0,pv 2 0],[.box 4 [dB fst],.box 60 [dS d],.box 3 [dI seq]],vI (X0n seq (if fst=true then m.X8 else d) m),[.live (.box 4 [dB false]),.live (.box 60 [dS (if fst=true then m.X8 else d)]),.live (.box 3 [dI seq])]⟩:=by
 refine Holds.of Tryz.func117 rfl (N:=21) Tryz.ntmps117 rfl fun w0 B0 S0 U0=>?_
 show T _ (Y2 21 3 w0 S0 U0 B0) ⟨[.tv (.agg [dI m.X2,dI m.Y1,dI m.Xo,dI m.Xi,dI m.Yj,dS m.X8,.d (dsl tm false kU8 m.Xa),dI m.X1.Xw,dI m.X1.Xn,.d (dsl tm false (kE tm) m.Xp),.d (dsl tm false (kE tm) m.Y5),.d (dsl tm false (kC tm) m.X5)]),vI s,pv 0 0,pv 1 0,pv 2 0],[.live (.box 4 [dB fst]),.live (.box 60 [dS d]),.live (.box 3 [dI seq])]⟩ _ _
 refine sR [] ?_
 refine T.seq ?_
 refine sR [] ?_
 by_cases hq1:fst=true
 ·refine cT hq1 ?_
  refine xK [] ?_
  refine nT (T.seq ?_)
  refine T.block ?_
  refine sR [] ?_
  by_cases hq2:m.Xo≠seq
  ·refine cT (dT hq2) ?_
   refine sR [] ?_
   refine T.ret (rB (rT ?_))
   exact eRt 7 (.one (dI 131)) [0,1,2] p3z (ix ⟨⟨rfl,p33⟩,(ix trivial)⟩)
  refine cF (dF hq2) ?_
  refine sR [] ?_
  refine cF (show decide (m.X8≠m.X8)=false from dF (fun h=>h rfl)) ?_
  refine T.skip ?_
  refine nB ?_
  refine nT ?_
  refine sR [] ?_
  refine T.ret ?_
  exact eRt 7 (.one (dI 0)) [0,1,2] p40 (ix ⟨⟨rfl,p33⟩,(ix trivial)⟩)
 replace hq1:=Bool.eq_false_iff.2 hq1
 refine cF hq1 ?_
 refine T.skip (nT (T.seq ?_))
 refine T.block ?_
 refine sR [] ?_
 by_cases hq3:m.Xo≠seq
 ·refine cT (dT hq3) ?_
  refine sR [] ?_
  refine T.ret (rB (rT ?_))
  exact eRt 7 (.one (dI 131)) [0,1,2] p3z ⟨⟨rfl,pZ27⟩,⟨⟨rfl,p1r⟩,(ix trivial)⟩⟩
 refine cF (dF hq3) ?_
 refine sR [] ?_
 by_cases hq4:m.X8≠d
 ·refine cT (dT hq4) ?_
  refine sR [] ?_
  refine T.ret (rB (rT ?_))
  exact eRt 7 (.one (dI 132)) [0,1,2] (by have e1:((X0n seq (if fst=true then m.X8 else d) m):Int)=132:=(by (simp [X0n, *];done));have hE:=cI e1;exact hE) ⟨⟨rfl,pZ27⟩,⟨⟨rfl,p1r⟩,(ix trivial)⟩⟩
 refine cF (dF hq4) ?_
 refine T.skip ?_
 refine nB ?_
 refine nT ?_
 refine sR [] ?_
 refine T.ret ?_
 exact eRt 7 (.one (dI 0)) [0,1,2] p40 ⟨⟨rfl,pZ27⟩,⟨⟨rfl,p1r⟩,(ix trivial)⟩⟩
end Go.Proofs.YtnaopgohccacmaaGreat.Q
