import Derived.Test.YtnaopgohccacmaaGreatC19n3
namespace Go.Proofs.YtnaopgohccacmaaGreat.Q
open Go Go.RowKit
set_option linter.unusedVariables false
set_option linter.unusedSimpArgs false
set_option maxRecDepth 100000
set_option maxHeartbeats 4000000
section
variable (f:Int) (u:Int) (rows:List (Yn×Bool)) (xs:List Int) (i:Nat) (j:Nat)
end
section
variable (xs:List Int) (k:Nat) (p:Nat) (q:Nat)
end
end Go.Proofs.YtnaopgohccacmaaGreat.Q
namespace Go.Proofs.YtnaopgohccacmaaGreat.Q
set_option linter.unusedVariables false
set_option linter.unusedSimpArgs false
set_option maxRecDepth 100000
section
variable {f:Int} {l:List aE} {k:Nat}
end
section
variable {P:Program}
end
end Go.Proofs.YtnaopgohccacmaaGreat.Q
namespace Go.Proofs.YtnaopgohccacmaaGreat.Q
open Go Go.RowKit
set_option linter.unusedVariables false
set_option linter.unusedSimpArgs false
set_option maxRecDepth 100000
set_option maxHeartbeats 4000000
theorem Xj0 (f:Int) (u:Int):Holds Tryz.prog 35 ⟨[vI f,vI u],[],pv 0 0,[.live (.box 135 [dB true,dI (fOf f),dI (cOf u),.own 1 (kE false).sz 0 ([]:List aE).length]),.live (Xe 43 (kE false) ([]:List aE))]⟩:=by
 refine Holds.of Tryz.func35 rfl (N:=13) Tryz.ntmps35 rfl fun w0 B0 S0 U0=>?_
 show T _ (Y2 13 0 w0 S0 U0 B0) ⟨[vI f,vI u],[]⟩ _ _
 refine sR [] ?_
 refine sR [hR 1 rfl rfl (X9a (k:=.i64) (a:=f) (b:=2) (X3 rfl) ⟨rfl,trivial⟩),hR 2 rfl rfl (X1p (k:=.i64) (a:=0) (b:=min f 2) (X3 rfl) ⟨rfl,trivial⟩),hR 4 rfl rfl (X9a (k:=.i64) (a:=u) (b:=8) (X3 rfl) ⟨rfl,trivial⟩),hR 5 rfl rfl (X1p (k:=.i64) (a:=0) (b:=min u 8) (X3 rfl) ⟨rfl,trivial⟩)] ?_
 refine T.ret ?_
 refine eN ⟨[vI f,vI u,aa,aa,pv 0 0],[.live (.box 135 [dB true,dI (max 0 (min f 2)),dI (max 0 (min u 8)),.d (.val (.slice none 0 0))])]⟩ ?_
 refine Xc (s':=⟨[vI f,vI u,aa,aa,pv 0 0],[.live (.box 135 [dB true,dI (max 0 (min f 2)),dI (max 0 (min u 8)),.own 1 (kE false).sz 0 0]),.live (Xe 43 (kE false) ([]:List aE))]⟩) (fun _ _ hG=>Jd 1 0 3 43 (kE false) (Tb:=135) (cs:=[dB true,dI (max 0 (min f 2)),dI (max 0 (min u 8)),.d (.val (.slice none 0 0))]) rfl rfl rfl hG) ?_
 exact eRt 4 (.one (.ptr 0 0)) [0,1] rfl ⟨⟨rfl,(by have e1:(max 0 (min f 2):Int)=(fOf f):=(by (simp only [fOf,cOf];omega));have e2:(max 0 (min u 8):Int)=(cOf u):=(by (simp only [fOf,cOf];omega));have e3:(0:Nat)=([]:List aE).length:=(by rfl);have hE:=congr (congr (congrArg (fun (q1:Int) (q2:Int) (q3:Nat)=>(.live (.box 135 [dB true,dI q1,dI q2,.own 1 (kE false).sz 0 q3]):HS)) e1) e2) e3;exact Eq.trans pZ7 hE)⟩,(ix trivial)⟩
end Go.Proofs.YtnaopgohccacmaaGreat.Q
