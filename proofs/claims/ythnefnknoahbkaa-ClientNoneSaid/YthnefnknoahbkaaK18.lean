import Derived.Test.YthnefnknoahbkaaQd
import Derived.Test.YthnefnknoahbkaaProg
import Derived.KernelRfl
namespace Go.Proofs.Ythnefnknoahbkaa.Q
open Go Go.RowKit
set_option linter.unusedVariables false
set_option linter.unusedSimpArgs false
set_option maxRecDepth 100000
set_option maxHeartbeats 4000000
structure Xd where
  Xs:Int
  Xo:Int
  deriving DecidableEq
theorem X0e (x y:Xd):x=y↔x.Xs=y.Xs∧x.Xo=y.Xo:=by cases x;cases y;simp
def Ye:Xd:=⟨0,0⟩
def Xa3 (t:Bool) (x:Xd):Nat→DV
  | 0=>.val (.int .i64 x.Xs)
  | 1=>.val (.int .i64 x.Xo)
  | _=>.any
def Xi (t:Bool):Kd Xd:=⟨2,Xa3 t,Ye⟩
theorem E7:∀ x j,Jd ((Xi false).cell x j):=fun x j=>match j with
  | 0=>trivial
  | 1=>trivial
  | _+2=>trivial
structure X6 where
  X4:Int
  X1:Xd
  deriving DecidableEq
def Xp:X6:=⟨0,Ye⟩
def X08 (t:Bool) (x:X6):Nat→DV
  | 0=>.val (.int .i64 x.X4)
  | 1=>.val (.int .i64 x.X1.Xs)
  | 2=>.val (.int .i64 x.X1.Xo)
  | _=>.any
def X0 (t:Bool):Kd X6:=⟨3,X08 t,Xp⟩
theorem W9 (t:Bool):KOk (X0 t):=⟨(show 0<3 by decide),fun x j hj=>by
  have hj:j<3:=hj
  rcases j with _|_|_|j
  all_goals first|rfl|omega⟩
structure aE where
  X4:Int
  X9:List UInt8
  deriving DecidableEq
theorem Uv (x y:aE):x=y↔x.X4=y.X4∧x.X9=y.X9:=by cases x;cases y;simp
def zE:aE:=⟨0,[]⟩
def X72 (t:Bool) (x:aE):Nat→DV
  | 0=>.val (.int .i64 x.X4)
  | 1=>dsl t false kU8 x.X9
  | _=>.any
def kE (t:Bool):Kd aE:=⟨2,X72 t,zE⟩
theorem Vs (t:Bool):KOk (kE t):=⟨(show 0<2 by decide),fun x j hj=>by
  have hj:j<2:=hj
  rcases j with _|_|j
  all_goals first|rfl|omega⟩
structure Y7 where
  f_To:Int
  E9:aE
  deriving DecidableEq
def Yv:Y7:=⟨0,zE⟩
def Xd2 (t:Bool) (x:Y7):Nat→DV
  | 0=>.val (.int .i64 x.f_To)
  | 1=>.val (.int .i64 x.E9.X4)
  | 2=>dsl t false kU8 x.E9.X9
  | _=>.any
def Y0 (t:Bool):Kd Y7:=⟨3,Xd2 t,Yv⟩
theorem X16 (t:Bool):KOk (Y0 t):=⟨(show 0<3 by decide),fun x j hj=>by
  have hj:j<3:=hj
  rcases j with _|_|_|j
  all_goals first|rfl|omega⟩
theorem X17:∀ x j,Jd ((Y0 false).cell x j):=fun x j=>match j with
  | 0=>trivial
  | 1=>trivial
  | 2=>X3q Xct
  | _+3=>trivial
structure Xj where
  Xb:Int
  Xv:Int
  X1:Xd
  deriving DecidableEq
theorem Xa4 (x y:Xj):x=y↔x.Xb=y.Xb∧x.Xv=y.Xv∧x.X1=y.X1:=by cases x;cases y;simp
def Yl:Xj:=⟨0,0,Ye⟩
def Xd3 (t:Bool) (x:Xj):Nat→DV
  | 0=>.val (.int .i64 x.Xb)
  | 1=>.val (.int .i64 x.Xv)
  | 2=>.val (.int .i64 x.X1.Xs)
  | 3=>.val (.int .i64 x.X1.Xo)
  | _=>.any
def X5 (t:Bool):Kd Xj:=⟨4,Xd3 t,Yl⟩
theorem U1 (t:Bool):KOk (X5 t):=⟨(show 0<4 by decide),fun x j hj=>by
  have hj:j<4:=hj
  rcases j with _|_|_|_|j
  all_goals first|rfl|omega⟩
theorem Iv:∀ x j,Jd ((X5 false).cell x j):=fun x j=>match j with
  | 0=>trivial
  | 1=>trivial
  | 2=>trivial
  | 3=>trivial
  | _+4=>trivial
structure aC where
  V4:aE
  Yg:List aE
  deriving DecidableEq
def zC:aC:=⟨zE,[]⟩
def Xd4 (t:Bool) (x:aC):Nat→DV
  | 0=>.val (.int .i64 x.V4.X4)
  | 1=>dsl t false kU8 x.V4.X9
  | 2=>dsl t false (kE t) x.Yg
  | _=>.any
def kC (t:Bool):Kd aC:=⟨3,Xd4 t,zC⟩
theorem Iw (t:Bool):KOk (kC t):=⟨(show 0<3 by decide),fun x j hj=>by
  have hj:j<3:=hj
  rcases j with _|_|_|j
  all_goals first|rfl|omega⟩
structure aM where
  X3:Int
  Xt:Int
  Xy:Int
  Xb:Int
  Xv:Int
  Xc:List UInt8
  Xk:List UInt8
  X1:Xd
  Xf:List aE
  Xr:List aE
  X7:List aC
  deriving DecidableEq
def zM:aM:=⟨0,0,0,0,0,[],[],Ye,[],[],[]⟩
def X7q (t:Bool) (x:aM):Nat→DV
  | 0=>.val (.int .i64 x.X3)
  | 1=>.val (.int .i64 x.Xt)
  | 2=>.val (.int .i64 x.Xy)
  | 3=>.val (.int .i64 x.Xb)
  | 4=>.val (.int .i64 x.Xv)
  | 5=>.val (Ja x.Xc)
  | 6=>dsl t false kU8 x.Xk
  | 7=>.val (.int .i64 x.X1.Xs)
  | 8=>.val (.int .i64 x.X1.Xo)
  | 9=>dsl t false (kE t) x.Xf
  | 10=>dsl t false (kE t) x.Xr
  | 11=>dsl t false (kC t) x.X7
  | _=>.any
def X7p (t:Bool):Kd aM:=⟨12,X7q t,zM⟩
structure Xn where
  X3:Int
  X4:Int
  Wv:Int
  Ys:List UInt8
  Ya:aM
  X1:Xd
  Yn:Bool
  deriving DecidableEq
def X2:Xn:=⟨0,0,0,[],zM,Ye,false⟩
def X10 (t:Bool) (x:Xn):Nat→DV
  | 0=>.val (.int .i64 x.X3)
  | 1=>.val (.int .i64 x.X4)
  | 2=>.val (.int .i64 x.Wv)
  | 3=>dsl t false kU8 x.Ys
  | 4=>.val (.int .i64 x.Ya.X3)
  | 5=>.val (.int .i64 x.Ya.Xt)
  | 6=>.val (.int .i64 x.Ya.Xy)
  | 7=>.val (.int .i64 x.Ya.Xb)
  | 8=>.val (.int .i64 x.Ya.Xv)
  | 9=>.val (Ja x.Ya.Xc)
  | 10=>dsl t false kU8 x.Ya.Xk
  | 11=>.val (.int .i64 x.Ya.X1.Xs)
  | 12=>.val (.int .i64 x.Ya.X1.Xo)
  | 13=>dsl t false (kE t) x.Ya.Xf
  | 14=>dsl t false (kE t) x.Ya.Xr
  | 15=>dsl t false (kC t) x.Ya.X7
  | 16=>.val (.int .i64 x.X1.Xs)
  | 17=>.val (.int .i64 x.X1.Xo)
  | 18=>.val (.bool x.Yn)
  | _=>.any
def Y2 (t:Bool):Kd Xn:=⟨19,X10 t,X2⟩
theorem Fw (t:Bool):KOk (Y2 t):=⟨(show 0<19 by decide),fun x j hj=>by
  have hj:j<19:=hj
  rcases j with _|_|_|_|_|_|_|_|_|_|_|_|_|_|_|_|_|_|_|j
  all_goals first|rfl|omega⟩
structure Yx where
  Wj:Int
  Xg:Int
  deriving DecidableEq
def Ec:Yx:=⟨0,0⟩
def X09 (t:Bool) (x:Yx):Nat→DV
  | 0=>.val (.int .i64 x.Wj)
  | 1=>.val (.int .i64 x.Xg)
  | _=>.any
def Ex (t:Bool):Kd Yx:=⟨2,X09 t,Ec⟩
structure Xw where
  Xbf:Int
  f_body:List UInt8
  deriving DecidableEq
structure Uk where
  V3:Int
  Wa:Int
  Wq:Int
  V6:Int
  deriving DecidableEq
structure aH where
  Xt:Bool
  Xy:Bool
  Xb:Bool
  Xc:Bool
  Xk:Bool
  X1:Bool
  Xf:Bool
  Xr:Bool
  X7:Bool
  deriving DecidableEq
abbrev Xa:Xw→Value:=fun x=>.agg #[.int .i64 x.Xbf,Ja x.f_body]
theorem E6:MKey Try.prog 101 Xa:=mkey_is (K:=Xw) (fun x=>x.Xbf) (fun x=>x.f_body) (fun x y h1 h2=>by cases x;cases y;simp_all) Try.underlying101 (by decide) (by decide) rfl rfl Try.underlying3 Try.underlying9 (by kernel_rfl)
end Go.Proofs.Ythnefnknoahbkaa.Q
