import Derived.Test.YthnefnknoahbkaaGreatQd
import Derived.Test.YthnefnknoahbkaaGreatProg
import Derived.KernelRfl
namespace Go.Proofs.YthnefnknoahbkaaGreat.Q
open Go Go.RowKit
set_option linter.unusedVariables false
set_option linter.unusedSimpArgs false
set_option maxRecDepth 100000
set_option maxHeartbeats 4000000
structure Xd where
  Xt:Int
  Xn:Int
  deriving DecidableEq
theorem X76 (x y:Xd):x=y↔x.Xt=y.Xt∧x.Xn=y.Xn:=by cases x;cases y;simp
def Yf:Xd:=⟨0,0⟩
def X9o (t:Bool) (x:Xd):Nat→DV
  | 0=>.val (.int .i64 x.Xt)
  | 1=>.val (.int .i64 x.Xn)
  | _=>.any
def Xj (t:Bool):Kd Xd:=⟨2,X9o t,Yf⟩
theorem E6:∀ x j,J8 ((Xj false).cell x j):=fun x j=>match j with
  | 0=>trivial
  | 1=>trivial
  | _+2=>trivial
structure X6 where
  f_Signer:Int
  X1:Xd
  deriving DecidableEq
def Xk:X6:=⟨0,Yf⟩
def X0a (t:Bool) (x:X6):Nat→DV
  | 0=>.val (.int .i64 x.f_Signer)
  | 1=>.val (.int .i64 x.X1.Xt)
  | 2=>.val (.int .i64 x.X1.Xn)
  | _=>.any
def X0 (t:Bool):Kd X6:=⟨3,X0a t,Xk⟩
theorem W3 (t:Bool):KOk (X0 t):=⟨(show 0<3 by decide),fun x j hj=>by
  have hj:j<3:=hj
  rcases j with _|_|_|j
  all_goals first|rfl|omega⟩
structure aE where
  f_Signer:Int
  X7:List UInt8
  deriving DecidableEq
theorem Ut (x y:aE):x=y↔x.f_Signer=y.f_Signer∧x.X7=y.X7:=by cases x;cases y;simp
def zE:aE:=⟨0,[]⟩
def X6y (t:Bool) (x:aE):Nat→DV
  | 0=>.val (.int .i64 x.f_Signer)
  | 1=>dsl t false kU8 x.X7
  | _=>.any
def kE (t:Bool):Kd aE:=⟨2,X6y t,zE⟩
theorem Vr (t:Bool):KOk (kE t):=⟨(show 0<2 by decide),fun x j hj=>by
  have hj:j<2:=hj
  rcases j with _|_|j
  all_goals first|rfl|omega⟩
structure Ya where
  f_To:Int
  E8:aE
  deriving DecidableEq
def Yw:Ya:=⟨0,zE⟩
def Xcv (t:Bool) (x:Ya):Nat→DV
  | 0=>.val (.int .i64 x.f_To)
  | 1=>.val (.int .i64 x.E8.f_Signer)
  | 2=>dsl t false kU8 x.E8.X7
  | _=>.any
def Y1 (t:Bool):Kd Ya:=⟨3,Xcv t,Yw⟩
theorem X17 (t:Bool):KOk (Y1 t):=⟨(show 0<3 by decide),fun x j hj=>by
  have hj:j<3:=hj
  rcases j with _|_|_|j
  all_goals first|rfl|omega⟩
theorem X18:∀ x j,J8 ((Y1 false).cell x j):=fun x j=>match j with
  | 0=>trivial
  | 1=>trivial
  | 2=>X3j Xci
  | _+3=>trivial
structure Xo where
  Xa:Int
  Xw:Int
  X1:Xd
  deriving DecidableEq
def Xq:Xo:=⟨0,0,Yf⟩
def Xcw (t:Bool) (x:Xo):Nat→DV
  | 0=>.val (.int .i64 x.Xa)
  | 1=>.val (.int .i64 x.Xw)
  | 2=>.val (.int .i64 x.X1.Xt)
  | 3=>.val (.int .i64 x.X1.Xn)
  | _=>.any
def X3 (t:Bool):Kd Xo:=⟨4,Xcw t,Xq⟩
theorem Vt (t:Bool):KOk (X3 t):=⟨(show 0<4 by decide),fun x j hj=>by
  have hj:j<4:=hj
  rcases j with _|_|_|_|j
  all_goals first|rfl|omega⟩
theorem Ix:∀ x j,J8 ((X3 false).cell x j):=fun x j=>match j with
  | 0=>trivial
  | 1=>trivial
  | 2=>trivial
  | 3=>trivial
  | _+4=>trivial
structure aC where
  Vg:aE
  Yi:List aE
  deriving DecidableEq
def zC:aC:=⟨zE,[]⟩
def Xcx (t:Bool) (x:aC):Nat→DV
  | 0=>.val (.int .i64 x.Vg.f_Signer)
  | 1=>dsl t false kU8 x.Vg.X7
  | 2=>dsl t false (kE t) x.Yi
  | _=>.any
def kC (t:Bool):Kd aC:=⟨3,Xcx t,zC⟩
theorem Iy (t:Bool):KOk (kC t):=⟨(show 0<3 by decide),fun x j hj=>by
  have hj:j<3:=hj
  rcases j with _|_|_|j
  all_goals first|rfl|omega⟩
structure aM where
  X2:Int
  Xr:Int
  Xy:Int
  Xa:Int
  Xw:Int
  Xb:List UInt8
  Xi:List UInt8
  X1:Xd
  Xe:List aE
  Xp:List aE
  X5:List aC
  deriving DecidableEq
def zM:aM:=⟨0,0,0,0,0,[],[],Yf,[],[],[]⟩
def X7n (t:Bool) (x:aM):Nat→DV
  | 0=>.val (.int .i64 x.X2)
  | 1=>.val (.int .i64 x.Xr)
  | 2=>.val (.int .i64 x.Xy)
  | 3=>.val (.int .i64 x.Xa)
  | 4=>.val (.int .i64 x.Xw)
  | 5=>.val (J9 x.Xb)
  | 6=>dsl t false kU8 x.Xi
  | 7=>.val (.int .i64 x.X1.Xt)
  | 8=>.val (.int .i64 x.X1.Xn)
  | 9=>dsl t false (kE t) x.Xe
  | 10=>dsl t false (kE t) x.Xp
  | 11=>dsl t false (kC t) x.X5
  | _=>.any
def X7k (t:Bool):Kd aM:=⟨12,X7n t,zM⟩
structure Xl where
  X2:Int
  f_Signer:Int
  V0:Int
  W5:List UInt8
  Ye:aM
  X1:Xd
  Yt:Bool
  deriving DecidableEq
def X8:Xl:=⟨0,0,0,[],zM,Yf,false⟩
def X11 (t:Bool) (x:Xl):Nat→DV
  | 0=>.val (.int .i64 x.X2)
  | 1=>.val (.int .i64 x.f_Signer)
  | 2=>.val (.int .i64 x.V0)
  | 3=>dsl t false kU8 x.W5
  | 4=>.val (.int .i64 x.Ye.X2)
  | 5=>.val (.int .i64 x.Ye.Xr)
  | 6=>.val (.int .i64 x.Ye.Xy)
  | 7=>.val (.int .i64 x.Ye.Xa)
  | 8=>.val (.int .i64 x.Ye.Xw)
  | 9=>.val (J9 x.Ye.Xb)
  | 10=>dsl t false kU8 x.Ye.Xi
  | 11=>.val (.int .i64 x.Ye.X1.Xt)
  | 12=>.val (.int .i64 x.Ye.X1.Xn)
  | 13=>dsl t false (kE t) x.Ye.Xe
  | 14=>dsl t false (kE t) x.Ye.Xp
  | 15=>dsl t false (kC t) x.Ye.X5
  | 16=>.val (.int .i64 x.X1.Xt)
  | 17=>.val (.int .i64 x.X1.Xn)
  | 18=>.val (.bool x.Yt)
  | _=>.any
def Yh (t:Bool):Kd Xl:=⟨19,X11 t,X8⟩
structure Wt where
  Us:Int
  Y5:Int
  deriving DecidableEq
def Ed:Wt:=⟨0,0⟩
def X0b (t:Bool) (x:Wt):Nat→DV
  | 0=>.val (.int .i64 x.Us)
  | 1=>.val (.int .i64 x.Y5)
  | _=>.any
def Ex (t:Bool):Kd Wt:=⟨2,X0b t,Ed⟩
structure Xv where
  Xay:Int
  f_body:List UInt8
  deriving DecidableEq
structure Uj where
  V4:Int
  W4:Int
  Wm:Int
  V7:Int
  deriving DecidableEq
structure aH where
  Xr:Bool
  Xy:Bool
  Xa:Bool
  Xb:Bool
  Xi:Bool
  X1:Bool
  Xe:Bool
  Xp:Bool
  X5:Bool
  deriving DecidableEq
abbrev X9:Xv→Value:=fun x=>.agg #[.int .i64 x.Xay,J9 x.f_body]
theorem E5:MKey Tryz.prog 112 X9:=mkey_is (K:=Xv) (fun x=>x.Xay) (fun x=>x.f_body) (fun x y h1 h2=>by cases x;cases y;simp_all) Tryz.underlying112 (by decide) (by decide) rfl rfl Tryz.underlying3 Tryz.underlying9 (by kernel_rfl)
end Go.Proofs.YthnefnknoahbkaaGreat.Q
