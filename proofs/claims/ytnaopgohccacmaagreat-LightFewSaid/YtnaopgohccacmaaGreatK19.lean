import Derived.Test.YtnaopgohccacmaaGreatQd
import Derived.Test.YtnaopgohccacmaaGreatProg
import Derived.KernelRfl
namespace Go.Proofs.YtnaopgohccacmaaGreat.Q
open Go Go.RowKit
set_option linter.unusedVariables false
set_option linter.unusedSimpArgs false
set_option maxRecDepth 100000
set_option maxHeartbeats 4000000
structure Xs where
  X4:List Int
  Vq:List UInt8
  Y3:List Int
  Us:Bool
  deriving DecidableEq
def X10:Xs:=⟨[],[],[],false⟩
def X17 (t:Bool) (x:Xs):Nat→DV
  | 0=>dsl t false (Yf .i64) x.X4
  | 1=>dsl t false kU8 x.Vq
  | 2=>dsl t false (Yf .i64) x.Y3
  | 3=>.val (.bool x.Us)
  | _=>.any
def X13 (t:Bool):Kd Xs:=⟨4,X17 t,X10⟩
structure Yi where
  Wo:Int
  Wj:Int
  deriving DecidableEq
def Fb:Yi:=⟨0,0⟩
def X2f (t:Bool) (x:Yi):Nat→DV
  | 0=>.val (.int .i64 x.Wo)
  | 1=>.val (.int .i64 x.Wj)
  | _=>.any
def X20 (t:Bool):Kd Yi:=⟨2,X2f t,Fb⟩
structure Wr where
  f_H:Int
  Vt:Int
  f_T:Yi
  deriving DecidableEq
def X32:Wr:=⟨0,0,Fb⟩
def X37 (t:Bool) (x:Wr):Nat→DV
  | 0=>.val (.int .i64 x.f_H)
  | 1=>.val (.int .i64 x.Vt)
  | 2=>.val (.int .i64 x.f_T.Wo)
  | 3=>.val (.int .i64 x.f_T.Wj)
  | _=>.any
def X34 (t:Bool):Kd Wr:=⟨4,X37 t,X32⟩
structure Ws where
  Jl:Int
  Yd:Int
  deriving DecidableEq
def X18:Ws:=⟨0,0⟩
def X2g (t:Bool) (x:Ws):Nat→DV
  | 0=>.val (.int .i64 x.Jl)
  | 1=>.val (.int .i64 x.Yd)
  | _=>.any
def X21 (t:Bool):Kd Ws:=⟨2,X2g t,X18⟩
structure aE where
  f_Signer:Int
  Xh:List UInt8
  deriving DecidableEq
theorem Um (x y:aE):x=y↔x.f_Signer=y.f_Signer∧x.Xh=y.Xh:=by cases x;cases y;simp
def zE:aE:=⟨0,[]⟩
def Xa4 (t:Bool) (x:aE):Nat→DV
  | 0=>.val (.int .i64 x.f_Signer)
  | 1=>dsl t false kU8 x.Xh
  | _=>.any
def kE (t:Bool):Kd aE:=⟨2,Xa4 t,zE⟩
theorem W9 (t:Bool):KOk (kE t):=⟨(show 0<2 by decide),fun x j hj=>by
  have hj:j<2:=hj
  rcases j with _|_|j
  all_goals first|rfl|omega⟩
structure Yg where
  Xfv:Int
  f_body:List UInt8
  deriving DecidableEq
structure Y1 where
  Ui:Bool
  Xe:List UInt8
  deriving DecidableEq
def Yt:Y1:=⟨false,[]⟩
def Xi6 (t:Bool) (x:Y1):Nat→DV
  | 0=>.val (.bool x.Ui)
  | 1=>.val (Yn x.Xe)
  | _=>.any
def X8 (t:Bool):Kd Y1:=⟨2,Xi6 t,Yt⟩
theorem Uk (t:Bool):KOk (X8 t):=⟨(show 0<2 by decide),fun x j hj=>by
  have hj:j<2:=hj
  rcases j with _|_|j
  all_goals first|rfl|omega⟩
theorem Xas:∀ x j,Hm ((X8 false).cell x j):=fun x j=>match j with
  | 0=>trivial
  | 1=>trivial
  | _+2=>trivial
structure Xw where
  Y0:Int
  Xq:Int
  deriving DecidableEq
theorem X2j (x y:Xw):x=y↔x.Y0=y.Y0∧x.Xq=y.Xq:=by cases x;cases y;simp
def Ya:Xw:=⟨0,0⟩
def Xdn (t:Bool) (x:Xw):Nat→DV
  | 0=>.val (.int .i64 x.Y0)
  | 1=>.val (.int .i64 x.Xq)
  | _=>.any
def Xb (t:Bool):Kd Xw:=⟨2,Xdn t,Ya⟩
theorem Vu (t:Bool):KOk (Xb t):=⟨(show 0<2 by decide),fun x j hj=>by
  have hj:j<2:=hj
  rcases j with _|_|j
  all_goals first|rfl|omega⟩
structure Xn where
  X9:Int
  Xy:List UInt8
  X7:List aE
  Xf:List Xw
  deriving DecidableEq
def Ys:Xn:=⟨0,[],[],[]⟩
def Xge (t:Bool) (x:Xn):Nat→DV
  | 0=>.val (.int .i64 x.X9)
  | 1=>.val (Yn x.Xy)
  | 2=>dsl t false (kE t) x.X7
  | 3=>dsl t false (Xb t) x.Xf
  | _=>.any
def Xo (t:Bool):Kd Xn:=⟨4,Xge t,Ys⟩
theorem X22 (t:Bool):KOk (Xo t):=⟨(show 0<4 by decide),fun x j hj=>by
  have hj:j<4:=hj
  rcases j with _|_|_|_|j
  all_goals first|rfl|omega⟩
structure Y6 where
  X9:Int
  Xy:List UInt8
  Ye:Int
  W4:List UInt8
  deriving DecidableEq
theorem Xac (x y:Y6):x=y↔x.X9=y.X9∧x.Xy=y.Xy∧x.Ye=y.Ye∧x.W4=y.W4:=by cases x;cases y;simp
def Xg:Y6:=⟨0,[],0,[]⟩
def Xdo (t:Bool) (x:Y6):Nat→DV
  | 0=>.val (.int .i64 x.X9)
  | 1=>.val (Yn x.Xy)
  | 2=>.val (.int .i64 x.Ye)
  | 3=>.val (Yn x.W4)
  | _=>.any
def X6 (t:Bool):Kd Y6:=⟨4,Xdo t,Xg⟩
theorem Vh (t:Bool):KOk (X6 t):=⟨(show 0<4 by decide),fun x j hj=>by
  have hj:j<4:=hj
  rcases j with _|_|_|_|j
  all_goals first|rfl|omega⟩
structure Yj where
  Ur:Xn
  X2a:List UInt8
  deriving DecidableEq
def Wp:Yj:=⟨Ys,[]⟩
def Xax (t:Bool) (x:Yj):Nat→DV
  | 0=>.val (.int .i64 x.Ur.X9)
  | 1=>.val (Yn x.Ur.Xy)
  | 2=>dsl t false (kE t) x.Ur.X7
  | 3=>dsl t false (Xb t) x.Ur.Xf
  | 4=>.val (Yn x.X2a)
  | _=>.any
def Xj (t:Bool):Kd Yj:=⟨5,Xax t,Wp⟩
theorem X05 (t:Bool):KOk (Xj t):=⟨(show 0<5 by decide),fun x j hj=>by
  have hj:j<5:=hj
  rcases j with _|_|_|_|_|j
  all_goals first|rfl|omega⟩
structure aC where
  Uu:aE
  Xi:List aE
  deriving DecidableEq
def zC:aC:=⟨zE,[]⟩
def Xi7 (t:Bool) (x:aC):Nat→DV
  | 0=>.val (.int .i64 x.Uu.f_Signer)
  | 1=>dsl t false kU8 x.Uu.Xh
  | 2=>dsl t false (kE t) x.Xi
  | _=>.any
def kC (t:Bool):Kd aC:=⟨3,Xi7 t,zC⟩
theorem X3l (t:Bool):KOk (kC t):=⟨(show 0<3 by decide),fun x j hj=>by
  have hj:j<3:=hj
  rcases j with _|_|_|j
  all_goals first|rfl|omega⟩
structure aM where
  X0:Int
  Y9:Int
  Xu:Int
  Xr:Int
  W0:Int
  Xe:List UInt8
  Xd:List UInt8
  X3:Xw
  Xt:List aE
  Y8:List aE
  X5:List aC
  deriving DecidableEq
def zM:aM:=⟨0,0,0,0,0,[],[],Ya,[],[],[]⟩
structure J6 where
  Vp:Int
  Wu:Int
  V6:Int
  Vi:Int
  deriving DecidableEq
structure aH where
  Y9:Bool
  Xu:Bool
  Xr:Bool
  Xe:Bool
  Xd:Bool
  X3:Bool
  Xt:Bool
  Y8:Bool
  X5:Bool
  deriving DecidableEq
structure Wl where
  Xu:Int
  Xi:List aE
  Xd:List UInt8
  X1:List Y6
  Vt:Int
  Xm:aE
  X3:Xw
  Yr:List Y1
  deriving DecidableEq
def Ib:Wl:=⟨0,[],[],[],0,zE,Ya,[]⟩
abbrev Xp:Yg→Value:=fun x=>.agg #[.int .i64 x.Xfv,Yn x.f_body]
theorem X0y:MKey Tryz.prog 132 Xp:=mkey_is (K:=Yg) (fun x=>x.Xfv) (fun x=>x.f_body) (fun x y h1 h2=>by cases x;cases y;simp_all) Tryz.underlying132 (by decide) (by decide) rfl rfl Tryz.underlying3 Tryz.underlying9 (by kernel_rfl)
end Go.Proofs.YtnaopgohccacmaaGreat.Q
