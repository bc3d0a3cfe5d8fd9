import Derived.Test.YtnaopgohccacmaaGreatQd
import Derived.Test.YtnaopgohccacmaaGreatProg
import Derived.KernelRfl
namespace Go.Proofs.YtnaopgohccacmaaGreat.Q
open Go Go.RowKit
set_option linter.unusedVariables false
set_option linter.unusedSimpArgs false
set_option maxRecDepth 100000
set_option maxHeartbeats 4000000
structure Yc where
  Xn:List Int
  F0:List UInt8
  Xv:List Int
  X31:Bool
  deriving DecidableEq
structure Yo where
  Wu:Int
  Wh:Int
  deriving DecidableEq
def F2:Yo:=⟨0,0⟩
def X2h (t:Bool) (x:Yo):Nat→DV
  | 0=>.val (.int .i64 x.Wu)
  | 1=>.val (.int .i64 x.Wh)
  | _=>.any
def X24 (t:Bool):Kd Yo:=⟨2,X2h t,F2⟩
structure Uf where
  f_H:Int
  Ji:Int
  f_T:Yo
  deriving DecidableEq
def X35:Uf:=⟨0,0,F2⟩
def X39 (t:Bool) (x:Uf):Nat→DV
  | 0=>.val (.int .i64 x.f_H)
  | 1=>.val (.int .i64 x.Ji)
  | 2=>.val (.int .i64 x.f_T.Wu)
  | 3=>.val (.int .i64 x.f_T.Wh)
  | _=>.any
def X36 (t:Bool):Kd Uf:=⟨4,X39 t,X35⟩
structure V5 where
  V8:Int
  Xx:Int
  deriving DecidableEq
def X1l:V5:=⟨0,0⟩
def X2i (t:Bool) (x:V5):Nat→DV
  | 0=>.val (.int .i64 x.V8)
  | 1=>.val (.int .i64 x.Xx)
  | _=>.any
def X25 (t:Bool):Kd V5:=⟨2,X2i t,X1l⟩
structure aE where
  X2:Int
  X7:List UInt8
  deriving DecidableEq
theorem Je (x y:aE):x=y↔x.X2=y.X2∧x.X7=y.X7:=by cases x;cases y;simp
def zE:aE:=⟨0,[]⟩
def Xa0 (t:Bool) (x:aE):Nat→DV
  | 0=>.val (.int .i64 x.X2)
  | 1=>dsl t false kU8 x.X7
  | _=>.any
def kE (t:Bool):Kd aE:=⟨2,Xa0 t,zE⟩
theorem Yt (t:Bool):KOk (kE t):=⟨(show 0<2 by decide),fun x j hj=>by
  have hj:j<2:=hj
  rcases j with _|_|j
  all_goals first|rfl|omega⟩
structure Yb where
  Xfa:Int
  f_body:List UInt8
  deriving DecidableEq
structure Yn where
  J5:Bool
  X6:List UInt8
  deriving DecidableEq
def Yx:Yn:=⟨false,[]⟩
def Xhm (t:Bool) (x:Yn):Nat→DV
  | 0=>.val (.bool x.J5)
  | 1=>.val (Ys x.X6)
  | _=>.any
def Xz (t:Bool):Kd Yn:=⟨2,Xhm t,Yx⟩
theorem Hy (t:Bool):KOk (Xz t):=⟨(show 0<2 by decide),fun x j hj=>by
  have hj:j<2:=hj
  rcases j with _|_|j
  all_goals first|rfl|omega⟩
theorem Xas:∀ x j,Ed ((Xz false).cell x j):=fun x j=>match j with
  | 0=>trivial
  | 1=>trivial
  | _+2=>trivial
structure Y4 where
  Xu:Int
  Xl:Int
  deriving DecidableEq
theorem Xab (x y:Y4):x=y↔x.Xu=y.Xu∧x.Xl=y.Xl:=by cases x;cases y;simp
def Yk:Y4:=⟨0,0⟩
def Xd6 (t:Bool) (x:Y4):Nat→DV
  | 0=>.val (.int .i64 x.Xu)
  | 1=>.val (.int .i64 x.Xl)
  | _=>.any
def Xk (t:Bool):Kd Y4:=⟨2,Xd6 t,Yk⟩
theorem U1 (t:Bool):KOk (Xk t):=⟨(show 0<2 by decide),fun x j hj=>by
  have hj:j<2:=hj
  rcases j with _|_|j
  all_goals first|rfl|omega⟩
structure Xs where
  Xq:Int
  Y9:List UInt8
  Xh:List aE
  Xt:List Y4
  deriving DecidableEq
def Wp:Xs:=⟨0,[],[],[]⟩
def Xfq (t:Bool) (x:Xs):Nat→DV
  | 0=>.val (.int .i64 x.Xq)
  | 1=>.val (Ys x.Y9)
  | 2=>dsl t false (kE t) x.Xh
  | 3=>dsl t false (Xk t) x.Xt
  | _=>.any
def Xy (t:Bool):Kd Xs:=⟨4,Xfq t,Wp⟩
theorem X26 (t:Bool):KOk (Xy t):=⟨(show 0<4 by decide),fun x j hj=>by
  have hj:j<4:=hj
  rcases j with _|_|_|_|j
  all_goals first|rfl|omega⟩
structure Yh where
  Xq:Int
  Y9:List UInt8
  Yl:Int
  Wf:List UInt8
  deriving DecidableEq
def Y2:Yh:=⟨0,[],0,[]⟩
def Xd7 (t:Bool) (x:Yh):Nat→DV
  | 0=>.val (.int .i64 x.Xq)
  | 1=>.val (Ys x.Y9)
  | 2=>.val (.int .i64 x.Yl)
  | 3=>.val (Ys x.Wf)
  | _=>.any
def Xm (t:Bool):Kd Yh:=⟨4,Xd7 t,Y2⟩
theorem Ui (t:Bool):KOk (Xm t):=⟨(show 0<4 by decide),fun x j hj=>by
  have hj:j<4:=hj
  rcases j with _|_|_|_|j
  all_goals first|rfl|omega⟩
structure Yi where
  Ut:Xs
  X2c:List UInt8
  deriving DecidableEq
def Ws:Yi:=⟨Wp,[]⟩
def Xau (t:Bool) (x:Yi):Nat→DV
  | 0=>.val (.int .i64 x.Ut.Xq)
  | 1=>.val (Ys x.Ut.Y9)
  | 2=>dsl t false (kE t) x.Ut.Xh
  | 3=>dsl t false (Xk t) x.Ut.Xt
  | 4=>.val (Ys x.X2c)
  | _=>.any
def Xj (t:Bool):Kd Yi:=⟨5,Xau t,Ws⟩
theorem X06 (t:Bool):KOk (Xj t):=⟨(show 0<5 by decide),fun x j hj=>by
  have hj:j<5:=hj
  rcases j with _|_|_|_|_|j
  all_goals first|rfl|omega⟩
structure aC where
  Yf:aE
  Xo:List aE
  deriving DecidableEq
def zC:aC:=⟨zE,[]⟩
def Xhn (t:Bool) (x:aC):Nat→DV
  | 0=>.val (.int .i64 x.Yf.X2)
  | 1=>dsl t false kU8 x.Yf.X7
  | 2=>dsl t false (kE t) x.Xo
  | _=>.any
def kC (t:Bool):Kd aC:=⟨3,Xhn t,zC⟩
theorem Hz (t:Bool):KOk (kC t):=⟨(show 0<3 by decide),fun x j hj=>by
  have hj:j<3:=hj
  rcases j with _|_|_|j
  all_goals first|rfl|omega⟩
structure aM where
  X1:Int
  Xb:Int
  Xg:Int
  Xe:Int
  Y3:Int
  X6:List UInt8
  Xc:List UInt8
  X0:Y4
  Xa:List aE
  Xw:List aE
  X5:List aC
  deriving DecidableEq
def zM:aM:=⟨0,0,0,0,0,[],[],Yk,[],[],[]⟩
structure J4 where
  Vw:Int
  Ww:Int
  Va:Int
  Vq:Int
  deriving DecidableEq
structure aH where
  Xb:Bool
  Xg:Bool
  Xe:Bool
  X6:Bool
  Xc:Bool
  X0:Bool
  Xa:Bool
  Xw:Bool
  X5:Bool
  deriving DecidableEq
structure X76 where
  Xe:Int
  Y3:Int
  f_Op:List UInt8
  deriving DecidableEq
def Ir:X76:=⟨0,0,[]⟩
structure V4 where
  Xg:Int
  Xo:List aE
  Xc:List UInt8
  X4:List Yh
  Ji:Int
  Y1:aE
  X0:Y4
  W4:List Yn
  deriving DecidableEq
def Jz:V4:=⟨0,[],[],[],0,zE,Yk,[]⟩
structure Vy where
  Xb:Int
  Xg:Int
  Uv:Int
  Xv:List Int
  deriving DecidableEq
def X1c:Vy:=⟨0,0,0,[]⟩
def X1j (t:Bool) (x:Vy):Nat→DV
  | 0=>.val (.int .i64 x.Xb)
  | 1=>.val (.int .i64 x.Xg)
  | 2=>.val (.int .i64 x.Uv)
  | 3=>dsl t false (U5 .i64) x.Xv
  | _=>.any
def X1g (t:Bool):Kd Vy:=⟨4,X1j t,X1c⟩
abbrev Xi:Yb→Value:=fun x=>.agg #[.int .i64 x.Xfa,Ys x.f_body]
theorem X18:MKey Tryz.prog 132 Xi:=mkey_is (K:=Yb) (fun x=>x.Xfa) (fun x=>x.f_body) (fun x y h1 h2=>by cases x;cases y;simp_all) Tryz.underlying132 (by decide) (by decide) rfl rfl Tryz.underlying3 Tryz.underlying9 (by kernel_rfl)
end Go.Proofs.YtnaopgohccacmaaGreat.Q
