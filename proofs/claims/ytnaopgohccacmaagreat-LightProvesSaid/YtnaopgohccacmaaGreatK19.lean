import Derived.Test.YtnaopgohccacmaaGreatQd
import Derived.Test.YtnaopgohccacmaaGreatProg
import Derived.KernelRfl
namespace Go.Proofs.YtnaopgohccacmaaGreat.Q
open Go Go.RowKit
set_option linter.unusedVariables false
set_option linter.unusedSimpArgs false
set_option maxRecDepth 100000
set_option maxHeartbeats 4000000
structure Y3 where
  X4:List Int
  Uf:List UInt8
  Xy:List Int
  Iy:Bool
  deriving DecidableEq
def X13:Y3:=⟨[],[],[],false⟩
def X18 (t:Bool) (x:Y3):Nat→DV
  | 0=>dsl t false (Vv .i64) x.X4
  | 1=>dsl t false kU8 x.Uf
  | 2=>dsl t false (Vv .i64) x.Xy
  | 3=>.val (.bool x.Iy)
  | _=>.any
def X17 (t:Bool):Kd Y3:=⟨4,X18 t,X13⟩
structure Yo where
  Wq:Int
  Wm:Int
  deriving DecidableEq
def Hs:Yo:=⟨0,0⟩
def X29 (t:Bool) (x:Yo):Nat→DV
  | 0=>.val (.int .i64 x.Wq)
  | 1=>.val (.int .i64 x.Wm)
  | _=>.any
def X1u (t:Bool):Kd Yo:=⟨2,X29 t,Hs⟩
structure Wy where
  f_H:Int
  Vp:Int
  f_T:Yo
  deriving DecidableEq
def X2r:Wy:=⟨0,0,Hs⟩
def X2v (t:Bool) (x:Wy):Nat→DV
  | 0=>.val (.int .i64 x.f_H)
  | 1=>.val (.int .i64 x.Vp)
  | 2=>.val (.int .i64 x.f_T.Wq)
  | 3=>.val (.int .i64 x.f_T.Wm)
  | _=>.any
def X2s (t:Bool):Kd Wy:=⟨4,X2v t,X2r⟩
structure V1 where
  H4:Int
  Yp:Int
  deriving DecidableEq
def X19:V1:=⟨0,0⟩
def X2a (t:Bool) (x:V1):Nat→DV
  | 0=>.val (.int .i64 x.H4)
  | 1=>.val (.int .i64 x.Yp)
  | _=>.any
def X1v (t:Bool):Kd V1:=⟨2,X2a t,X19⟩
structure aE where
  X5:Int
  Xd:List UInt8
  deriving DecidableEq
theorem Jk (x y:aE):x=y↔x.X5=y.X5∧x.Xd=y.Xd:=by cases x;cases y;simp
def zE:aE:=⟨0,[]⟩
def X9o (t:Bool) (x:aE):Nat→DV
  | 0=>.val (.int .i64 x.X5)
  | 1=>dsl t false kU8 x.Xd
  | _=>.any
def kE (t:Bool):Kd aE:=⟨2,X9o t,zE⟩
theorem W4 (t:Bool):KOk (kE t):=⟨(show 0<2 by decide),fun x j hj=>by
  have hj:j<2:=hj
  rcases j with _|_|j
  all_goals first|rfl|omega⟩
structure Yl where
  Xev:Int
  f_body:List UInt8
  deriving DecidableEq
structure Xz where
  Vo:Bool
  X9:List UInt8
  deriving DecidableEq
theorem Xcy (x y:Xz):x=y↔x.Vo=y.Vo∧x.X9=y.X9:=by cases x;cases y;simp
def Yf:Xz:=⟨false,[]⟩
def Xh7 (t:Bool) (x:Xz):Nat→DV
  | 0=>.val (.bool x.Vo)
  | 1=>.val (Yk x.X9)
  | _=>.any
def Xa (t:Bool):Kd Xz:=⟨2,Xh7 t,Yf⟩
theorem Un (t:Bool):KOk (Xa t):=⟨(show 0<2 by decide),fun x j hj=>by
  have hj:j<2:=hj
  rcases j with _|_|j
  all_goals first|rfl|omega⟩
theorem Xae:∀ x j,E5 ((Xa false).cell x j):=fun x j=>match j with
  | 0=>trivial
  | 1=>trivial
  | _+2=>trivial
structure Y6 where
  Xt:Int
  Xn:Int
  deriving DecidableEq
theorem X9y (x y:Y6):x=y↔x.Xt=y.Xt∧x.Xn=y.Xn:=by cases x;cases y;simp
def Yj:Y6:=⟨0,0⟩
def Xcp (t:Bool) (x:Y6):Nat→DV
  | 0=>.val (.int .i64 x.Xt)
  | 1=>.val (.int .i64 x.Xn)
  | _=>.any
def Xe (t:Bool):Kd Y6:=⟨2,Xcp t,Yj⟩
theorem Vz (t:Bool):KOk (Xe t):=⟨(show 0<2 by decide),fun x j hj=>by
  have hj:j<2:=hj
  rcases j with _|_|j
  all_goals first|rfl|omega⟩
structure Xq where
  Xg:Int
  Y0:List UInt8
  Xb:List aE
  Xj:List Y6
  deriving DecidableEq
def W1:Xq:=⟨0,[],[],[]⟩
def Xff (t:Bool) (x:Xq):Nat→DV
  | 0=>.val (.int .i64 x.Xg)
  | 1=>.val (Yk x.Y0)
  | 2=>dsl t false (kE t) x.Xb
  | 3=>dsl t false (Xe t) x.Xj
  | _=>.any
def Xr (t:Bool):Kd Xq:=⟨4,Xff t,W1⟩
theorem X1w (t:Bool):KOk (Xr t):=⟨(show 0<4 by decide),fun x j hj=>by
  have hj:j<4:=hj
  rcases j with _|_|_|_|j
  all_goals first|rfl|omega⟩
structure Yb where
  Xg:Int
  Y0:List UInt8
  Ye:Int
  W3:List UInt8
  deriving DecidableEq
theorem X9z (x y:Yb):x=y↔x.Xg=y.Xg∧x.Y0=y.Y0∧x.Ye=y.Ye∧x.W3=y.W3:=by cases x;cases y;simp
def Xo:Yb:=⟨0,[],0,[]⟩
def Xcq (t:Bool) (x:Yb):Nat→DV
  | 0=>.val (.int .i64 x.Xg)
  | 1=>.val (Yk x.Y0)
  | 2=>.val (.int .i64 x.Ye)
  | 3=>.val (Yk x.W3)
  | _=>.any
def X8 (t:Bool):Kd Yb:=⟨4,Xcq t,Xo⟩
theorem Vm (t:Bool):KOk (X8 t):=⟨(show 0<4 by decide),fun x j hj=>by
  have hj:j<4:=hj
  rcases j with _|_|_|_|j
  all_goals first|rfl|omega⟩
structure Yq where
  Uv:Xq
  X24:List UInt8
  deriving DecidableEq
def Wl:Yq:=⟨W1,[]⟩
def Xag (t:Bool) (x:Yq):Nat→DV
  | 0=>.val (.int .i64 x.Uv.Xg)
  | 1=>.val (Yk x.Uv.Y0)
  | 2=>dsl t false (kE t) x.Uv.Xb
  | 3=>dsl t false (Xe t) x.Uv.Xj
  | 4=>.val (Yk x.X24)
  | _=>.any
def Xk (t:Bool):Kd Yq:=⟨5,Xag t,Wl⟩
theorem Ev (t:Bool):KOk (Xk t):=⟨(show 0<5 by decide),fun x j hj=>by
  have hj:j<5:=hj
  rcases j with _|_|_|_|_|j
  all_goals first|rfl|omega⟩
structure aC where
  I5:aE
  Xu:List aE
  deriving DecidableEq
def zC:aC:=⟨zE,[]⟩
def Xh8 (t:Bool) (x:aC):Nat→DV
  | 0=>.val (.int .i64 x.I5.X5)
  | 1=>dsl t false kU8 x.I5.Xd
  | 2=>dsl t false (kE t) x.Xu
  | _=>.any
def kC (t:Bool):Kd aC:=⟨3,Xh8 t,zC⟩
theorem Hq (t:Bool):KOk (kC t):=⟨(show 0<3 by decide),fun x j hj=>by
  have hj:j<3:=hj
  rcases j with _|_|_|j
  all_goals first|rfl|omega⟩
structure aM where
  X1:Int
  Y1:Int
  Xs:Int
  Xh:Int
  Yh:Int
  X9:List UInt8
  Xc:List UInt8
  X0:Y6
  Xp:List aE
  Y4:List aE
  X6:List aC
  deriving DecidableEq
def zM:aM:=⟨0,0,0,0,0,[],[],Yj,[],[],[]⟩
structure J5 where
  Vy:Int
  Wt:Int
  V7:Int
  Vs:Int
  deriving DecidableEq
structure aH where
  Y1:Bool
  Xs:Bool
  Xh:Bool
  X9:Bool
  Xc:Bool
  X0:Bool
  Xp:Bool
  Y4:Bool
  X6:Bool
  deriving DecidableEq
structure Wr where
  Xs:Int
  Xu:List aE
  Xc:List UInt8
  X2:List Yb
  Vp:Int
  Xl:aE
  X0:Y6
  Yu:List Xz
  deriving DecidableEq
def I7:Wr:=⟨0,[],[],[],0,zE,Yj,[]⟩
abbrev Xx:Yl→Value:=fun x=>.agg #[.int .i64 x.Xev,Yk x.f_body]
theorem X10:MKey Tryz.prog 132 Xx:=mkey_is (K:=Yl) (fun x=>x.Xev) (fun x=>x.f_body) (fun x y h1 h2=>by cases x;cases y;simp_all) Tryz.underlying132 (by decide) (by decide) rfl rfl Tryz.underlying3 Tryz.underlying9 (by kernel_rfl)
end Go.Proofs.YtnaopgohccacmaaGreat.Q
