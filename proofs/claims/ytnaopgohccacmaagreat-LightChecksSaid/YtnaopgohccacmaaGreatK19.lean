import Derived.Test.YtnaopgohccacmaaGreatQd
import Derived.Test.YtnaopgohccacmaaGreatProg
import Derived.KernelRfl
namespace Go.Proofs.YtnaopgohccacmaaGreat.Q
open Go Go.RowKit
set_option linter.unusedVariables false
set_option linter.unusedSimpArgs false
set_option maxRecDepth 100000
set_option maxHeartbeats 4000000
structure Y3 where
  X6:List Int
  U4:List UInt8
  Xt:List Int
  I2:Bool
  deriving DecidableEq
def X17:Y3:=⟨[],[],[],false⟩
def X1b (t:Bool) (x:Y3):Nat→DV
  | 0=>dsl t false (Vi .i64) x.X6
  | 1=>dsl t false kU8 x.U4
  | 2=>dsl t false (Vi .i64) x.Xt
  | 3=>.val (.bool x.I2)
  | _=>.any
def X1a (t:Bool):Kd Y3:=⟨4,X1b t,X17⟩
structure Yo where
  Wn:Int
  Wj:Int
  deriving DecidableEq
def Hu:Yo:=⟨0,0⟩
def X2c (t:Bool) (x:Yo):Nat→DV
  | 0=>.val (.int .i64 x.Wn)
  | 1=>.val (.int .i64 x.Wj)
  | _=>.any
def X1z (t:Bool):Kd Yo:=⟨2,X2c t,Hu⟩
structure Wy where
  f_H:Int
  J6:Int
  f_T:Yo
  deriving DecidableEq
def X2x:Wy:=⟨0,0,Hu⟩
def X31 (t:Bool) (x:Wy):Nat→DV
  | 0=>.val (.int .i64 x.f_H)
  | 1=>.val (.int .i64 x.J6)
  | 2=>.val (.int .i64 x.f_T.Wn)
  | 3=>.val (.int .i64 x.f_T.Wj)
  | _=>.any
def X2y (t:Bool):Kd Wy:=⟨4,X31 t,X2x⟩
structure Wm where
  Vj:Int
  Xy:Int
  deriving DecidableEq
def X1c:Wm:=⟨0,0⟩
def X2d (t:Bool) (x:Wm):Nat→DV
  | 0=>.val (.int .i64 x.Vj)
  | 1=>.val (.int .i64 x.Xy)
  | _=>.any
def X20 (t:Bool):Kd Wm:=⟨2,X2d t,X1c⟩
structure aE where
  X4:Int
  Xf:List UInt8
  deriving DecidableEq
theorem Hp (x y:aE):x=y↔x.X4=y.X4∧x.Xf=y.Xf:=by cases x;cases y;simp
def zE:aE:=⟨0,[]⟩
def X9y (t:Bool) (x:aE):Nat→DV
  | 0=>.val (.int .i64 x.X4)
  | 1=>dsl t false kU8 x.Xf
  | _=>.any
def kE (t:Bool):Kd aE:=⟨2,X9y t,zE⟩
theorem W5 (t:Bool):KOk (kE t):=⟨(show 0<2 by decide),fun x j hj=>by
  have hj:j<2:=hj
  rcases j with _|_|j
  all_goals first|rfl|omega⟩
structure Yn where
  Xeu:Int
  f_body:List UInt8
  deriving DecidableEq
structure Y7 where
  Vt:Bool
  X8:List UInt8
  deriving DecidableEq
def Yi:Y7:=⟨false,[]⟩
def Xgx (t:Bool) (x:Y7):Nat→DV
  | 0=>.val (.bool x.Vt)
  | 1=>.val (Yh x.X8)
  | _=>.any
def Xb (t:Bool):Kd Y7:=⟨2,Xgx t,Yi⟩
theorem Uo (t:Bool):KOk (Xb t):=⟨(show 0<2 by decide),fun x j hj=>by
  have hj:j<2:=hj
  rcases j with _|_|j
  all_goals first|rfl|omega⟩
theorem Xak:∀ x j,E9 ((Xb false).cell x j):=fun x j=>match j with
  | 0=>trivial
  | 1=>trivial
  | _+2=>trivial
structure Y6 where
  Xw:Int
  Xn:Int
  deriving DecidableEq
theorem Xa7 (x y:Y6):x=y↔x.Xw=y.Xw∧x.Xn=y.Xn:=by cases x;cases y;simp
def Ym:Y6:=⟨0,0⟩
def Xcu (t:Bool) (x:Y6):Nat→DV
  | 0=>.val (.int .i64 x.Xw)
  | 1=>.val (.int .i64 x.Xn)
  | _=>.any
def Xd (t:Bool):Kd Y6:=⟨2,Xcu t,Ym⟩
theorem Vz (t:Bool):KOk (Xd t):=⟨(show 0<2 by decide),fun x j hj=>by
  have hj:j<2:=hj
  rcases j with _|_|j
  all_goals first|rfl|omega⟩
structure Xq where
  Xg:Int
  Y4:List UInt8
  X9:List aE
  Xl:List Y6
  deriving DecidableEq
def Yz:Xq:=⟨0,[],[],[]⟩
def Xfd (t:Bool) (x:Xq):Nat→DV
  | 0=>.val (.int .i64 x.Xg)
  | 1=>.val (Yh x.Y4)
  | 2=>dsl t false (kE t) x.X9
  | 3=>dsl t false (Xd t) x.Xl
  | _=>.any
def Xr (t:Bool):Kd Xq:=⟨4,Xfd t,Yz⟩
theorem X21 (t:Bool):KOk (Xr t):=⟨(show 0<4 by decide),fun x j hj=>by
  have hj:j<4:=hj
  rcases j with _|_|_|_|j
  all_goals first|rfl|omega⟩
structure Yf where
  Xg:Int
  Y4:List UInt8
  Yg:Int
  W2:List UInt8
  deriving DecidableEq
def Xh:Yf:=⟨0,[],0,[]⟩
def Xcv (t:Bool) (x:Yf):Nat→DV
  | 0=>.val (.int .i64 x.Xg)
  | 1=>.val (Yh x.Y4)
  | 2=>.val (.int .i64 x.Yg)
  | 3=>.val (Yh x.W2)
  | _=>.any
def X7 (t:Bool):Kd Yf:=⟨4,Xcv t,Xh⟩
theorem Vn (t:Bool):KOk (X7 t):=⟨(show 0<4 by decide),fun x j hj=>by
  have hj:j<4:=hj
  rcases j with _|_|_|_|j
  all_goals first|rfl|omega⟩
structure Yq where
  Uw:Xq
  X29:List UInt8
  deriving DecidableEq
def Wk:Yq:=⟨Yz,[]⟩
def Xan (t:Bool) (x:Yq):Nat→DV
  | 0=>.val (.int .i64 x.Uw.Xg)
  | 1=>.val (Yh x.Uw.Y4)
  | 2=>dsl t false (kE t) x.Uw.X9
  | 3=>dsl t false (Xd t) x.Uw.Xl
  | 4=>.val (Yh x.X29)
  | _=>.any
def Xk (t:Bool):Kd Yq:=⟨5,Xan t,Wk⟩
theorem Ez (t:Bool):KOk (Xk t):=⟨(show 0<5 by decide),fun x j hj=>by
  have hj:j<5:=hj
  rcases j with _|_|_|_|_|j
  all_goals first|rfl|omega⟩
structure aC where
  I1:aE
  Xv:List aE
  deriving DecidableEq
def zC:aC:=⟨zE,[]⟩
def Xgy (t:Bool) (x:aC):Nat→DV
  | 0=>.val (.int .i64 x.I1.X4)
  | 1=>dsl t false kU8 x.I1.Xf
  | 2=>dsl t false (kE t) x.Xv
  | _=>.any
def kC (t:Bool):Kd aC:=⟨3,Xgy t,zC⟩
theorem Hs (t:Bool):KOk (kC t):=⟨(show 0<3 by decide),fun x j hj=>by
  have hj:j<3:=hj
  rcases j with _|_|_|j
  all_goals first|rfl|omega⟩
structure aM where
  X2:Int
  Y1:Int
  Xo:Int
  Xi:Int
  Yj:Int
  X8:List UInt8
  Xa:List UInt8
  X1:Y6
  Xp:List aE
  Y5:List aE
  X5:List aC
  deriving DecidableEq
def zM:aM:=⟨0,0,0,0,0,[],[],Ym,[],[],[]⟩
structure J8 where
  Vx:Int
  Wt:Int
  V7:Int
  Vp:Int
  deriving DecidableEq
structure aH where
  Y1:Bool
  Xo:Bool
  Xi:Bool
  X8:Bool
  Xa:Bool
  X1:Bool
  Xp:Bool
  Y5:Bool
  X5:Bool
  deriving DecidableEq
structure Wo where
  Xo:Int
  Xv:List aE
  Xa:List UInt8
  X0:List Yf
  J6:Int
  Xs:aE
  X1:Y6
  Yv:List Y7
  deriving DecidableEq
def I5:Wo:=⟨0,[],[],[],0,zE,Ym,[]⟩
abbrev Y0:Yn→Value:=fun x=>.agg #[.int .i64 x.Xeu,Yh x.f_body]
theorem X15:MKey Tryz.prog 132 Y0:=mkey_is (K:=Yn) (fun x=>x.Xeu) (fun x=>x.f_body) (fun x y h1 h2=>by cases x;cases y;simp_all) Tryz.underlying132 (by decide) (by decide) rfl rfl Tryz.underlying3 Tryz.underlying9 (by kernel_rfl)
end Go.Proofs.YtnaopgohccacmaaGreat.Q
