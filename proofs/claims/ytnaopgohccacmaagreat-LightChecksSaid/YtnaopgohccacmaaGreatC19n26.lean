import Derived.Test.YtnaopgohccacmaaGreatC19n25
namespace Go.Proofs.YtnaopgohccacmaaGreat.Q
open Go Go.RowKit
set_option linter.unusedVariables false
set_option linter.unusedSimpArgs false
set_option maxRecDepth 100000
set_option maxHeartbeats 4000000
section
variable (B:List UInt8) (r:List UInt8) (e:Int) (k:Int) (h:aH) (k2:Nat)
abbrev Zdi:SV:=.d (.val (.slice none 0 0))
abbrev Zdj:List SV:=[dI k,dI 0,dI 0,dI 0,dI 0,dS [],Zdi,dI 0,dI 0,Zdi,Zdi,Zdi]
abbrev Zdk:List SV:=[dB h.Y1,dB h.Xo,dB h.Xi,dB h.X8,dB h.Xa,dB h.X1,dB h.Xp,dB h.Y5,dB h.X5]
abbrev Zdl:SV:=dU B
abbrev Zdm:HS:=.live (.box 156 [(Zdl B),dI ((V8 B r:Nat):Int),dI e])
abbrev Zdn:List AV:=[pv 0 0,aa,aa,aa,pv 1 0,pv 2 0,pv 3 0]
abbrev Zdo:=(Xx 1099511627776 1099511627776 r e k 1)
abbrev Zdp:HS:=.live (.box 119 (Zdk h))
abbrev Zdq:HS:=.live (.box 78 [dI 0,dI 0,dI 0,dI 0,dI 0,dS [],Zdi,dI 0,dI 0,Zdi,Zdi,Zdi])
abbrev Zdr:List HS:=[.live (.box 156 [(Zdl B),dI ((V8 B (Zdo r e k).rest:Nat):Int),dI (Zdo r e k).e]),.live (.box 78 [dI (Zdo r e k).m.X2,dI (Zdo r e k).m.Y1,dI (Zdo r e k).m.Xo,dI (Zdo r e k).m.Xi,dI (Zdo r e k).m.Yj,dS (Zdo r e k).m.X8,dU (Zdo r e k).m.Xa,dI (Zdo r e k).m.X1.Xw,dI (Zdo r e k).m.X1.Xn,.d (dsl false false (kE false) (Zdo r e k).m.Xp),.d (dsl false false (kE false) (Zdo r e k).m.Y5),Zdi]),(Zdp h),Zdq]
abbrev Zds:List AV:=[pv 0 0,.tv (.agg (Zdj k)),.tv (.agg (Zdk h)),aa,pv 1 0,pv 2 0,pv 3 0]
abbrev Zdt:List HS:=[(Zdm B r e),.live (.box 78 [dI k,dI 0,dI 0,dI 0,dI 0,dS [],dU ([]:List UInt8),dI 0,dI 0,.d (dsl false false (kE false) ([]:List aE)),.d (dsl false false (kE false) ([]:List aE)),Zdi]),(Zdp h),Zdq]
abbrev Zdu:=(Xx 1099511627776 1099511627776 r e k 0)
abbrev Zdv:List HS:=[.live (.box 156 [(Zdl B),dI ((V8 B (Zdu r e k).rest:Nat):Int),dI (Zdu r e k).e]),.live (.box 78 [dI (Zdu r e k).m.X2,dI (Zdu r e k).m.Y1,dI (Zdu r e k).m.Xo,dI (Zdu r e k).m.Xi,dI (Zdu r e k).m.Yj,dS (Zdu r e k).m.X8,dU (Zdu r e k).m.Xa,dI (Zdu r e k).m.X1.Xw,dI (Zdu r e k).m.X1.Xn,.d (dsl false false (kE false) (Zdu r e k).m.Xp),.d (dsl false false (kE false) (Zdu r e k).m.Y5),Zdi]),(Zdp h),Zdq]
abbrev Zdw:List AV:=[pv 0 0,aa,aa,aa,pv 1 0,pv 2 0,pv 3 0,aa,aa,aa,vB h.Y1]
abbrev Zdx:List HS:=[.live (.box 156 [(Zdl B),dI ((V8 B (rdR (Zdu r e k).rest (Zdu r e k).e 8 0):Nat):Int),dI (rdE (Zdu r e k).rest (Zdu r e k).e 8 0)]),.live (.box 78 [dI (Zdu r e k).m.X2,dI (rdI (Zdu r e k).rest (Zdu r e k).e),dI (Zdu r e k).m.Xo,dI (Zdu r e k).m.Xi,dI (Zdu r e k).m.Yj,dS (Zdu r e k).m.X8,dU (Zdu r e k).m.Xa,dI (Zdu r e k).m.X1.Xw,dI (Zdu r e k).m.X1.Xn,.d (dsl false false (kE false) (Zdu r e k).m.Xp),.d (dsl false false (kE false) (Zdu r e k).m.Y5),Zdi]),(Zdp h),Zdq]
abbrev Zdy:=(Xx 1099511627776 1099511627776 r e k 2)
abbrev Zdz:List HS:=[.live (.box 156 [(Zdl B),dI ((V8 B (Zdy r e k).rest:Nat):Int),dI (Zdy r e k).e]),.live (.box 78 [dI (Zdy r e k).m.X2,dI (Zdy r e k).m.Y1,dI (Zdy r e k).m.Xo,dI (Zdy r e k).m.Xi,dI (Zdy r e k).m.Yj,dS (Zdy r e k).m.X8,dU (Zdy r e k).m.Xa,dI (Zdy r e k).m.X1.Xw,dI (Zdy r e k).m.X1.Xn,.d (dsl false false (kE false) (Zdy r e k).m.Xp),.d (dsl false false (kE false) (Zdy r e k).m.Y5),Zdi]),(Zdp h),Zdq]
abbrev Ze0:List AV:=[pv 0 0,aa,aa,aa,pv 1 0,pv 2 0,pv 3 0,aa,aa,aa,aa,aa,aa,aa,aa,vB h.Xo]
abbrev Ze1:List HS:=[.live (.box 156 [(Zdl B),dI ((V8 B (rdR (Zdo r e k).rest (Zdo r e k).e 8 0):Nat):Int),dI (rdE (Zdo r e k).rest (Zdo r e k).e 8 0)]),.live (.box 78 [dI (Zdo r e k).m.X2,dI (Zdo r e k).m.Y1,dI (rdI (Zdo r e k).rest (Zdo r e k).e),dI (Zdo r e k).m.Xi,dI (Zdo r e k).m.Yj,dS (Zdo r e k).m.X8,dU (Zdo r e k).m.Xa,dI (Zdo r e k).m.X1.Xw,dI (Zdo r e k).m.X1.Xn,.d (dsl false false (kE false) (Zdo r e k).m.Xp),.d (dsl false false (kE false) (Zdo r e k).m.Y5),Zdi]),(Zdp h),Zdq]
abbrev Ze2:=(Xx 1099511627776 1099511627776 r e k 3)
abbrev Ze3:List HS:=[.live (.box 156 [(Zdl B),dI ((V8 B (Ze2 r e k).rest:Nat):Int),dI (Ze2 r e k).e]),.live (.box 78 [dI (Ze2 r e k).m.X2,dI (Ze2 r e k).m.Y1,dI (Ze2 r e k).m.Xo,dI (Ze2 r e k).m.Xi,dI (Ze2 r e k).m.Yj,dS (Ze2 r e k).m.X8,dU (Ze2 r e k).m.Xa,dI (Ze2 r e k).m.X1.Xw,dI (Ze2 r e k).m.X1.Xn,.d (dsl false false (kE false) (Ze2 r e k).m.Xp),.d (dsl false false (kE false) (Ze2 r e k).m.Y5),Zdi]),(Zdp h),Zdq]
abbrev Ze4:List AV:=[pv 0 0,aa,aa,aa,pv 1 0,pv 2 0,pv 3 0,aa,aa,aa,aa,aa,aa,aa,aa,aa,aa,aa,aa,aa,vB h.Xi]
abbrev Ze5:List HS:=[.live (.box 156 [(Zdl B),dI ((V8 B (rdR (rdR (Zdy r e k).rest (Zdy r e k).e 8 0) (rdE (Zdy r e k).rest (Zdy r e k).e 8 0) 8 0):Nat):Int),dI (rdE (rdR (Zdy r e k).rest (Zdy r e k).e 8 0) (rdE (Zdy r e k).rest (Zdy r e k).e 8 0) 8 0)]),.live (.box 78 [dI (Zdy r e k).m.X2,dI (Zdy r e k).m.Y1,dI (Zdy r e k).m.Xo,dI (rdI (Zdy r e k).rest (Zdy r e k).e),dI (rdI (rdR (Zdy r e k).rest (Zdy r e k).e 8 0) (rdE (Zdy r e k).rest (Zdy r e k).e 8 0)),dS (Zdy r e k).m.X8,dU (Zdy r e k).m.Xa,dI (Zdy r e k).m.X1.Xw,dI (Zdy r e k).m.X1.Xn,.d (dsl false false (kE false) (Zdy r e k).m.Xp),.d (dsl false false (kE false) (Zdy r e k).m.Y5),Zdi]),(Zdp h),Zdq]
abbrev Ze6:=(Xx 1099511627776 1099511627776 r e k 4)
abbrev Ze7:SV:=.d (dsl false false (kE false) (Ze6 r e k).m.Xp)
abbrev Ze8:List HS:=[.live (.box 156 [(Zdl B),dI ((V8 B (Ze6 r e k).rest:Nat):Int),dI (Ze6 r e k).e]),.live (.box 78 [dI (Ze6 r e k).m.X2,dI (Ze6 r e k).m.Y1,dI (Ze6 r e k).m.Xo,dI (Ze6 r e k).m.Xi,dI (Ze6 r e k).m.Yj,dS (Ze6 r e k).m.X8,dU (Ze6 r e k).m.Xa,dI (Ze6 r e k).m.X1.Xw,dI (Ze6 r e k).m.X1.Xn,(Ze7 r e k),.d (dsl false false (kE false) (Ze6 r e k).m.Y5),Zdi]),(Zdp h),Zdq]
abbrev Ze9:=(rdY (Ze2 r e k).rest (Ze2 r e k).e 1099511627776)
abbrev Zea:List AV:=[pv 0 0,aa,aa,aa,pv 1 0,pv 2 0,pv 3 0,aa,aa,aa,aa,aa,aa,aa,aa,aa,aa,aa,aa,aa,aa,aa,aa,aa,aa,aa,aa,aa,vB h.X8]
abbrev Zeb:HS:=.live (.box 156 [(Zdl B),dI ((V8 B (Vw (Ze2 r e k).rest (Ze2 r e k).e 1099511627776):Nat):Int),dI (V5 (Ze2 r e k).rest (Ze2 r e k).e 1099511627776)])
abbrev Zec:HS:=.live (.box 78 [dI (Ze2 r e k).m.X2,dI (Ze2 r e k).m.Y1,dI (Ze2 r e k).m.Xo,dI (Ze2 r e k).m.Xi,dI (Ze2 r e k).m.Yj,dS (Ze9 r e k),dU (Ze2 r e k).m.Xa,dI (Ze2 r e k).m.X1.Xw,dI (Ze2 r e k).m.X1.Xn,.d (dsl false false (kE false) (Ze2 r e k).m.Xp),.d (dsl false false (kE false) (Ze2 r e k).m.Y5),Zdi])
abbrev Zed:=(Xx 1099511627776 1099511627776 r e k 5)
abbrev Zee:List HS:=[.live (.box 156 [(Zdl B),dI ((V8 B (Zed r e k).rest:Nat):Int),dI (Zed r e k).e]),.live (.box 78 [dI (Zed r e k).m.X2,dI (Zed r e k).m.Y1,dI (Zed r e k).m.Xo,dI (Zed r e k).m.Xi,dI (Zed r e k).m.Yj,dS (Zed r e k).m.X8,dU (Zed r e k).m.Xa,dI (Zed r e k).m.X1.Xw,dI (Zed r e k).m.X1.Xn,.d (dsl false false (kE false) (Zed r e k).m.Xp),.d (dsl false false (kE false) (Zed r e k).m.Y5),Zdi]),(Zdp h),Zdq]
abbrev Zef:List AV:=[pv 0 0,aa,aa,aa,pv 1 0,pv 2 0,pv 3 0,aa,aa,aa,aa,aa,aa,aa,aa,aa,aa,aa,aa,aa,aa,aa,aa,aa,aa,aa,aa,aa,aa,aa,aa,aa,aa,aa,vB h.Xa]
abbrev Zeg:HS:=.live (.box 156 [(Zdl B),dI ((V8 B (Vw (Ze6 r e k).rest (Ze6 r e k).e 1099511627776):Nat):Int),dI (V5 (Ze6 r e k).rest (Ze6 r e k).e 1099511627776)])
abbrev Zeh:=(rdY (Ze6 r e k).rest (Ze6 r e k).e 1099511627776)
abbrev Zei:St:=⟨(Zef h),[(Zeg B r e k),.live (.box 78 [dI (Ze6 r e k).m.X2,dI (Ze6 r e k).m.Y1,dI (Ze6 r e k).m.Xo,dI (Ze6 r e k).m.Xi,dI (Ze6 r e k).m.Yj,dS (Ze6 r e k).m.X8,.own 4 kU8.sz 0 (Zeh r e k).length,dI (Ze6 r e k).m.X1.Xw,dI (Ze6 r e k).m.X1.Xn,(Ze7 r e k),.d (dsl false false (kE false) (Ze6 r e k).m.Y5),Zdi]),(Zdp h),Zdq,.live (Xe 5 kU8 (Zeh r e k))]⟩
abbrev Zej:HS:=.live (.box 78 [dI (Ze6 r e k).m.X2,dI (Ze6 r e k).m.Y1,dI (Ze6 r e k).m.Xo,dI (Ze6 r e k).m.Xi,dI (Ze6 r e k).m.Yj,dS (Ze6 r e k).m.X8,dU (Zeh r e k),dI (Ze6 r e k).m.X1.Xw,dI (Ze6 r e k).m.X1.Xn,(Ze7 r e k),.d (dsl false false (kE false) (Ze6 r e k).m.Y5),Zdi])
abbrev Zek:=(Xx 1099511627776 1099511627776 r e k 6)
abbrev Zel:List HS:=[.live (.box 156 [(Zdl B),dI ((V8 B (Zek r e k).rest:Nat):Int),dI (Zek r e k).e]),.live (.box 78 [dI (Zek r e k).m.X2,dI (Zek r e k).m.Y1,dI (Zek r e k).m.Xo,dI (Zek r e k).m.Xi,dI (Zek r e k).m.Yj,dS (Zek r e k).m.X8,dU (Zek r e k).m.Xa,dI (Zek r e k).m.X1.Xw,dI (Zek r e k).m.X1.Xn,.d (dsl false false (kE false) (Zek r e k).m.Xp),.d (dsl false false (kE false) (Zek r e k).m.Y5),Zdi]),(Zdp h),Zdq]
abbrev Zem:List AV:=[pv 0 0,aa,aa,aa,pv 1 0,pv 2 0,pv 3 0,aa,aa,aa,aa,aa,aa,aa,aa,aa,aa,aa,aa,aa,aa,aa,aa,aa,aa,aa,aa,aa,aa,aa,aa,aa,aa,aa,aa,aa,aa,aa,aa,vB h.X1]
abbrev Zen:List HS:=[.live (.box 156 [(Zdl B),dI ((V8 B (rdR (rdR (Zed r e k).rest (Zed r e k).e 8 0) (rdE (Zed r e k).rest (Zed r e k).e 8 0) 8 0):Nat):Int),dI (rdE (rdR (Zed r e k).rest (Zed r e k).e 8 0) (rdE (Zed r e k).rest (Zed r e k).e 8 0) 8 0)]),.live (.box 78 [dI (Zed r e k).m.X2,dI (Zed r e k).m.Y1,dI (Zed r e k).m.Xo,dI (Zed r e k).m.Xi,dI (Zed r e k).m.Yj,dS (Zed r e k).m.X8,dU (Zed r e k).m.Xa,dI (rdI (Zed r e k).rest (Zed r e k).e),dI (rdI (rdR (Zed r e k).rest (Zed r e k).e 8 0) (rdE (Zed r e k).rest (Zed r e k).e 8 0)),.d (dsl false false (kE false) (Zed r e k).m.Xp),.d (dsl false false (kE false) (Zed r e k).m.Y5),Zdi]),(Zdp h),Zdq]
abbrev Zeo:=(Xx 1099511627776 1099511627776 r e k 7)
abbrev Zep:List HS:=[.live (.box 156 [(Zdl B),dI ((V8 B (Zeo r e k).rest:Nat):Int),dI (Zeo r e k).e]),.live (.box 78 [dI (Zeo r e k).m.X2,dI (Zeo r e k).m.Y1,dI (Zeo r e k).m.Xo,dI (Zeo r e k).m.Xi,dI (Zeo r e k).m.Yj,dS (Zeo r e k).m.X8,dU (Zeo r e k).m.Xa,dI (Zeo r e k).m.X1.Xw,dI (Zeo r e k).m.X1.Xn,.d (dsl false false (kE false) (Zeo r e k).m.Xp),.d (dsl false false (kE false) (Zeo r e k).m.Y5),Zdi]),(Zdp h),Zdq]
abbrev Zeq:List AV:=[pv 0 0,aa,aa,aa,pv 1 0,pv 2 0,pv 3 0,aa,aa,aa,aa,aa,aa,aa,aa,aa,aa,aa,aa,aa,aa,aa,aa,aa,aa,aa,aa,aa,aa,aa,aa,aa,aa,aa,aa,aa,aa,aa,aa,aa,aa,aa,aa,aa,aa,aa,aa,vB h.Xp]
abbrev Zer:=(Uq 1099511627776 (Zek r e k).rest (Zek r e k).e)
abbrev Zes:List HS:=[.live (.box 156 [(Zdl B),dI ((V8 B (Zer r e k).rest:Nat):Int),dI (Zer r e k).e]),.live (.box 78 [dI (Zek r e k).m.X2,dI (Zek r e k).m.Y1,dI (Zek r e k).m.Xo,dI (Zek r e k).m.Xi,dI (Zek r e k).m.Yj,dS (Zek r e k).m.X8,dU (Zek r e k).m.Xa,dI (Zek r e k).m.X1.Xw,dI (Zek r e k).m.X1.Xn,.d (dsl false false (kE false) (Zer r e k).l),.d (dsl false false (kE false) (Zek r e k).m.Y5),Zdi]),(Zdp h),Zdq]
abbrev Zet:=(Xx 1099511627776 1099511627776 r e k 8)
abbrev Zeu:SV:=dI (Zet r e k).m.X2
abbrev Zev:SV:=dI (Zet r e k).m.Y1
abbrev Zew:SV:=dI (Zet r e k).m.Xo
abbrev Zex:SV:=dI (Zet r e k).m.Xi
abbrev Zey:SV:=dI (Zet r e k).m.Yj
abbrev Zez:SV:=dS (Zet r e k).m.X8
abbrev Zf0:SV:=dU (Zet r e k).m.Xa
abbrev Zf1:SV:=dI (Zet r e k).m.X1.Xw
abbrev Zf2:SV:=dI (Zet r e k).m.X1.Xn
abbrev Zf3:SV:=.d (dsl false false (kE false) (Zet r e k).m.Xp)
abbrev Zf4:SV:=.d (dsl false false (kE false) (Zet r e k).m.Y5)
abbrev Zf5:HS:=.live (.box 78 [(Zeu r e k),(Zev r e k),(Zew r e k),(Zex r e k),(Zey r e k),(Zez r e k),(Zf0 r e k),(Zf1 r e k),(Zf2 r e k),(Zf3 r e k),(Zf4 r e k),Zdi])
abbrev Zf6:List HS:=[.live (.box 156 [(Zdl B),dI ((V8 B (Zet r e k).rest:Nat):Int),dI (Zet r e k).e]),(Zf5 r e k),(Zdp h),Zdq]
abbrev Zf7:List AV:=[pv 0 0,aa,aa,aa,pv 1 0,pv 2 0,pv 3 0,aa,aa,aa,aa,aa,aa,aa,aa,aa,aa,aa,aa,aa,aa,aa,aa,aa,aa,aa,aa,aa,aa,aa,aa,aa,aa,aa,aa,aa,aa,aa,aa,aa,aa,aa,aa,aa,aa,aa,aa,aa,aa,aa,aa,aa,vB h.Y5]
abbrev Zf8:=(Uq 1099511627776 (Zeo r e k).rest (Zeo r e k).e)
abbrev Zf9:List HS:=[.live (.box 156 [(Zdl B),dI ((V8 B (Zf8 r e k).rest:Nat):Int),dI (Zf8 r e k).e]),.live (.box 78 [dI (Zeo r e k).m.X2,dI (Zeo r e k).m.Y1,dI (Zeo r e k).m.Xo,dI (Zeo r e k).m.Xi,dI (Zeo r e k).m.Yj,dS (Zeo r e k).m.X8,dU (Zeo r e k).m.Xa,dI (Zeo r e k).m.X1.Xw,dI (Zeo r e k).m.X1.Xn,.d (dsl false false (kE false) (Zeo r e k).m.Xp),.d (dsl false false (kE false) (Zf8 r e k).l),Zdi]),(Zdp h),Zdq]
abbrev Zfa:=(Xx 1099511627776 1099511627776 r e k 9)
abbrev Zfb:List SV:=[dI (Zfa r e k).m.X2,dI (Zfa r e k).m.Y1,dI (Zfa r e k).m.Xo,dI (Zfa r e k).m.Xi,dI (Zfa r e k).m.Yj,dS (Zfa r e k).m.X8,dU (Zfa r e k).m.Xa,dI (Zfa r e k).m.X1.Xw,dI (Zfa r e k).m.X1.Xn,.d (dsl false false (kE false) (Zfa r e k).m.Xp),.d (dsl false false (kE false) (Zfa r e k).m.Y5),.d (dsl false false (kC false) (Zfa r e k).m.X5)]
abbrev Zfc:List HS:=[.live (.box 156 [(Zdl B),dI ((V8 B (Zfa r e k).rest:Nat):Int),dI (Zfa r e k).e]),.live (.box 78 (Zfb r e k)),(Zdp h),Zdq]
abbrev Zfd:AV:=vI ((rdC (Zet r e k).rest (Zet r e k).e 8:Nat):Int)
abbrev Zfe:List AV:=[pv 0 0,aa,aa,aa,pv 1 0,pv 2 0,pv 3 0,(Zfd r e k),vI 0,aa,aa,aa,aa,aa,aa,aa,aa,aa,aa,aa,aa,aa,aa,aa,aa,aa,aa,aa,aa,aa,aa,aa,aa,aa,aa,aa,aa,aa,aa,aa,aa,aa,aa,aa,aa,aa,aa,aa,aa,aa,aa,aa,aa,aa,aa,aa,aa,vB h.X5]
abbrev Zff:HS:=.live (.box 156 [(Zdl B),dI ((V8 B (rdR (Zet r e k).rest (Zet r e k).e 4 (Yu 8 ((Zet r e k).rest.take 4))):Nat):Int),dI (rdE (Zet r e k).rest (Zet r e k).e 4 (Yu 8 ((Zet r e k).rest.take 4)))])
abbrev Zfg:List HS:=[(Zff B r e k),.live (.box 78 [(Zeu r e k),(Zev r e k),(Zew r e k),(Zex r e k),(Zey r e k),(Zez r e k),(Zf0 r e k),(Zf1 r e k),(Zf2 r e k),(Zf3 r e k),(Zf4 r e k),.own 4 (kC false).sz 0 0]),(Zdp h),Zdq,.live (Xe 86 (kC false) ([]:List aC))]
abbrev Zfh:=(Wb 1099511627776 (Zet r e k).rest (Zet r e k).e k2)
abbrev Zfi:HS:=.live (.box 156 [(Zdl B),dI ((V8 B (Zfh r e k k2).rest:Nat):Int),dI (Zfh r e k k2).e])
abbrev Zfj:List HS:=[(Zfi B r e k k2),.live (.box 78 [(Zeu r e k),(Zev r e k),(Zew r e k),(Zex r e k),(Zey r e k),(Zez r e k),(Zf0 r e k),(Zf1 r e k),(Zf2 r e k),(Zf3 r e k),(Zf4 r e k),.own 4 (kC false).sz 0 (Zfh r e k k2).l.length]),(Zdp h),Zdq,.live (Xe 86 (kC false) (Zfh r e k k2).l)]
abbrev Zfm:=(evV 1099511627776 (Zfh r e k k2).rest (Zfh r e k k2).e)
abbrev Zfn:=(Uq 1099511627776 (evR 1099511627776 (Zfh r e k k2).rest (Zfh r e k k2).e) (evE 1099511627776 (Zfh r e k k2).rest (Zfh r e k k2).e))
abbrev Zfo:=(aC.mk (Zfm r e k k2) (Zfn r e k k2).l)
abbrev Zfp:=(Wb 1099511627776 (Zet r e k).rest (Zet r e k).e (k2+1))
abbrev Zfq:List AV:=[pv 0 0,aa,aa,aa,pv 1 0,pv 2 0,pv 3 0,(Zfd r e k),vI ((k2:Nat):Int),aa,aa,aa,aa,aa,aa,aa,aa,aa,aa,aa,aa,aa,aa,aa,aa,aa,aa,aa,aa,aa,aa,aa,aa,aa,aa,aa,aa,aa,aa,aa,aa,aa,aa,aa,aa,aa,aa,aa,aa,aa,aa,aa,aa,aa,aa,aa,aa,aa,aa,aa,aa,aa,vB (decide (((k2:Nat):Int)<((rdC (Zet r e k).rest (Zet r e k).e 8:Nat):Int)))]
abbrev Zfr:HS:=.live (.box 78 [(Zeu r e k),(Zev r e k),(Zew r e k),(Zex r e k),(Zey r e k),(Zez r e k),(Zf0 r e k),(Zf1 r e k),(Zf2 r e k),(Zf3 r e k),(Zf4 r e k),.d (dsl false false (kC false) (Zfh r e k k2).l)])
abbrev Zfs:List AV:=[pv 0 0,aa,aa,aa,pv 1 0,pv 2 0,pv 3 0,aa,aa,aa,aa,aa,aa,aa,aa,aa,aa,aa,aa,aa,aa,aa,aa,aa,aa,aa,aa,aa,aa,aa,aa,aa,aa,aa,aa,aa,aa,aa,aa,aa,aa,aa,aa,aa,aa,aa,aa,aa,aa,aa,aa,aa,aa,aa,aa,aa,aa,vB h.X5]
abbrev Zft:List HS:=[.live (.box 156 [(Zdl B),dI ((V8 B (Zet r e k).rest:Nat):Int),dI (Zet r e k).e]),.live (.box 78 [(Zeu r e k),(Zev r e k),(Zew r e k),(Zex r e k),(Zey r e k),(Zez r e k),(Zf0 r e k),(Zf1 r e k),(Zf2 r e k),(Zf3 r e k),(Zf4 r e k),.d (dsl false false (kC false) ([]:List aC))]),(Zdp h),Zdq]
end
theorem Xiy (B:List UInt8) (r:List UInt8) (e:Int) (k:Int) (h:aH) (hs:r <:+ B) (hB:B.length≤100000000) (hh:h=Xj k):Holds Tryz.prog 185 ⟨[pv 0 0,.tv (.agg [dI k,dI 0,dI 0,dI 0,dI 0,dS [],.d (.val (.slice none 0 0)),dI 0,dI 0,.d (.val (.slice none 0 0)),.d (.val (.slice none 0 0)),.d (.val (.slice none 0 0))]),.tv (.agg [dB h.Y1,dB h.Xo,dB h.Xi,dB h.X8,dB h.Xa,dB h.X1,dB h.Xp,dB h.Y5,dB h.X5])],[.box 156 [dU B,dI ((V8 B r:Nat):Int),dI e]],.tv (.agg [dI (Xx 1099511627776 1099511627776 r e k 9).m.X2,dI (Xx 1099511627776 1099511627776 r e k 9).m.Y1,dI (Xx 1099511627776 1099511627776 r e k 9).m.Xo,dI (Xx 1099511627776 1099511627776 r e k 9).m.Xi,dI (Xx 1099511627776 1099511627776 r e k 9).m.Yj,dS (Xx 1099511627776 1099511627776 r e k 9).m.X8,dU (Xx 1099511627776 1099511627776 r e k 9).m.Xa,dI (Xx 1099511627776 1099511627776 r e k 9).m.X1.Xw,dI (Xx 1099511627776 1099511627776 r e k 9).m.X1.Xn,.d (dsl false false (kE false) (Xx 1099511627776 1099511627776 r e k 9).m.Xp),.d (dsl false false (kE false) (Xx 1099511627776 1099511627776 r e k 9).m.Y5),.d (dsl false false (kC false) (Xx 1099511627776 1099511627776 r e k 9).m.X5)]),[.live (.box 156 [dU B,dI ((V8 B (Xx 1099511627776 1099511627776 r e k 9).rest:Nat):Int),dI (Xx 1099511627776 1099511627776 r e k 9).e])]⟩:=by
 refine Holds.of Tryz.func185 rfl (N:=76) Tryz.ntmps185 rfl fun w0 B0 S0 U0=>?_
 show T _ (Y2 76 1 w0 S0 U0 B0) ⟨[pv 0 0,.tv (.agg (Zdj k)),.tv (.agg (Zdk h))],[(Zdm B r e)]⟩ _ _
 refine sR [] ?_
 refine Uu ⟨Zdn,(Zdr B r e k h)⟩ ?_ ?_
 ·refine tN ⟨(Zds k h),[(Zdm B r e),.live (.box 78 (Zdj k)),(Zdp h),Zdq]⟩ ?_
  refine Wv (s':=⟨(Zds k h),(Zdt B r e k h)⟩) (fun _ _ hG=>Ys (s:=⟨(Zds k h),[(Zdm B r e),.live (.box 78 (Zdj k)),(Zdp h),Zdq]⟩) ⟨.inl rfl,p4s⟩ ⟨.inl rfl,⟨(.inr ⟨rfl,(kk2 (kk4 ⟨pZ5,(kk2 ⟨pZ5,⟨pZ5,⟨.inl rfl,trivial⟩⟩⟩)⟩))⟩),(kk2 trivial)⟩⟩ hG) ?_
  refine Wv (s':=⟨Zdn,(Zdv B r e k h)⟩) (fun _ _ hG=>Yt [0,1,2,3] (bm 7 113) (h2:=(Zdt B r e k h)) rfl (cg13 (fun (q1:Int) (q2:Int) (q3:Int) (q4:Int) (q5:Int) (q6:Int) (q7:Int) (q8:List UInt8) (q9:List UInt8) (q10:Int) (q11:Int) (q12:List aE) (q13:List aE)=>([.live (.box 156 [(Zdl B),dI q1,dI q2]),.live (.box 78 [dI q3,dI q4,dI q5,dI q6,dI q7,dS q8,dU q9,dI q10,dI q11,.d (dsl false false (kE false) q12),.d (dsl false false (kE false) q13),Zdi]),(Zdp h),Zdq]:List HS)) (by rfl) (by rfl) (by rfl) (by rfl) (by rfl) (by rfl) (by rfl) (by rfl) (by rfl) (by rfl) (by rfl) (by rfl) (by rfl)) hG) ?_
  refine sR [] ?_
  by_cases hq1:h.Y1=true
  ·have hbt:Uz (Xj k) 0=true:=(by subst hh;exact hq1);have hst:(Xx 1099511627776 1099511627776 r e k 1)=V3 1099511627776 1099511627776 (Xx 1099511627776 1099511627776 r e k 0) 0:=Uv rfl hbt;simp only [V3] at hst
   refine cT hq1 ?_
   refine xK [hR 1 rfl rfl (rCa (I8 B (Xx 1099511627776 1099511627776 r e k 0).rest (Xx 1099511627776 1099511627776 r e k 0).e (by repeat assumption) (by omega)) Tryz.func94 [0] [(.tmp 11,pv 0 0)] 1 1)] ?_
   refine eN ⟨(Zdw h),(Zdx B r e k h)⟩ ?_
   refine Xc (s':=⟨Zdn,(Zdr B r e k h)⟩) (fun _ _ hG=>Yt [0,1,2,3] (bm 7 113) (h2:=(Zdx B r e k h)) rfl pZ1 hG) ?_
   exact nJ
  have hbt:¬Uz (Xj k) 0=true:=(by subst hh;exact hq1);have hst:(Xx 1099511627776 1099511627776 r e k 1)=(Xx 1099511627776 1099511627776 r e k 0):=Ej hbt
  replace hq1:=Bool.eq_false_iff.2 hq1
  refine cF hq1 ?_
  refine T.skip ?_
  refine eN ⟨(Zdw h),(Zdv B r e k h)⟩ ?_
  refine Xc (s':=⟨Zdn,(Zdr B r e k h)⟩) (fun _ _ hG=>Yt [0,1,2,3] (bm 7 113) (h2:=(Zdv B r e k h)) rfl pZ1 hG) ?_
  exact nJ
 refine Uu ⟨Zdn,(Zdz B r e k h)⟩ ?_ ?_
 ·refine sR [] ?_
  by_cases hq2:h.Xo=true
  ·have hbt:Uz (Xj k) 1=true:=(by subst hh;exact hq2);have hst:(Xx 1099511627776 1099511627776 r e k 2)=V3 1099511627776 1099511627776 (Xx 1099511627776 1099511627776 r e k 1) 1:=Uv rfl hbt;simp only [V3] at hst
   refine cT hq2 ?_
   refine xK [hR 1 rfl rfl (rCa (I8 B (Xx 1099511627776 1099511627776 r e k 1).rest (Xx 1099511627776 1099511627776 r e k 1).e pe (by omega)) Tryz.func94 [0] [(.tmp 16,pv 0 0)] 1 1)] ?_
   refine eN ⟨(Ze0 h),(Ze1 B r e k h)⟩ ?_
   refine Xc (s':=⟨Zdn,(Zdz B r e k h)⟩) (fun _ _ hG=>Yt [0,1,2,3] (bm 7 113) (h2:=(Ze1 B r e k h)) rfl pZ1 hG) ?_
   exact nJ
  have hbt:¬Uz (Xj k) 1=true:=(by subst hh;exact hq2);have hst:(Xx 1099511627776 1099511627776 r e k 2)=(Xx 1099511627776 1099511627776 r e k 1):=Ej hbt
  replace hq2:=Bool.eq_false_iff.2 hq2
  refine cF hq2 ?_
  refine T.skip ?_
  refine eN ⟨(Ze0 h),(Zdr B r e k h)⟩ ?_
  refine Xc (s':=⟨Zdn,(Zdz B r e k h)⟩) (fun _ _ hG=>Yt [0,1,2,3] (bm 7 113) (h2:=(Zdr B r e k h)) rfl pZ1 hG) ?_
  exact nJ
 refine Uu ⟨Zdn,(Ze3 B r e k h)⟩ ?_ ?_
 ·refine sR [] ?_
  by_cases hq3:h.Xi=true
  ·have hbt:Uz (Xj k) 2=true:=(by subst hh;exact hq3);have hst:(Xx 1099511627776 1099511627776 r e k 3)=V3 1099511627776 1099511627776 (Xx 1099511627776 1099511627776 r e k 2) 2:=Uv rfl hbt;simp only [V3] at hst
   refine cT hq3 ?_
   refine sR [hR 1 rfl rfl (rCa (I8 B (Xx 1099511627776 1099511627776 r e k 2).rest (Xx 1099511627776 1099511627776 r e k 2).e pe (by omega)) Tryz.func94 [0] [(.tmp 21,pv 0 0)] 1 1)] ?_
   refine xK [hR 1 rfl rfl (rCa (I8 B (rdR (Xx 1099511627776 1099511627776 r e k 2).rest (Xx 1099511627776 1099511627776 r e k 2).e 8 0) (rdE (Xx 1099511627776 1099511627776 r e k 2).rest (Xx 1099511627776 1099511627776 r e k 2).e 8 0) pe (by omega)) Tryz.func94 [0] [(.tmp 24,pv 0 0)] 1 1)] ?_
   refine eN ⟨(Ze4 h),(Ze5 B r e k h)⟩ ?_
   refine Xc (s':=⟨Zdn,(Ze3 B r e k h)⟩) (fun _ _ hG=>Yt [0,1,2,3] (bm 7 113) (h2:=(Ze5 B r e k h)) rfl pZ1 hG) ?_
   exact nJ
  have hbt:¬Uz (Xj k) 2=true:=(by subst hh;exact hq3);have hst:(Xx 1099511627776 1099511627776 r e k 3)=(Xx 1099511627776 1099511627776 r e k 2):=Ej hbt
  replace hq3:=Bool.eq_false_iff.2 hq3
  refine cF hq3 ?_
  refine T.skip ?_
  refine eN ⟨(Ze4 h),(Zdz B r e k h)⟩ ?_
  refine Xc (s':=⟨Zdn,(Ze3 B r e k h)⟩) (fun _ _ hG=>Yt [0,1,2,3] (bm 7 113) (h2:=(Zdz B r e k h)) rfl pZ1 hG) ?_
  exact nJ
 refine Uu ⟨Zdn,(Ze8 B r e k h)⟩ ?_ ?_
 ·refine sR [] ?_
  by_cases hq4:h.X8=true
  ·have hbt:Uz (Xj k) 3=true:=(by subst hh;exact hq4);have hst:(Xx 1099511627776 1099511627776 r e k 4)=V3 1099511627776 1099511627776 (Xx 1099511627776 1099511627776 r e k 3) 3:=Uv rfl hbt;simp only [V3] at hst
   refine cT hq4 ?_
   refine xR [hR 1 rfl rfl (rCa (X0d B (Xx 1099511627776 1099511627776 r e k 3).rest (Xx 1099511627776 1099511627776 r e k 3).e 1099511627776 pe (by omega)) Tryz.func95 [0,4] [(.tmp 29,pv 0 0),(.const (.int .i64 1099511627776),vI 1099511627776)] 1 2),hR 2 rfl rfl (Hr () (rdY (Xx 1099511627776 1099511627776 r e k 3).rest (Xx 1099511627776 1099511627776 r e k 3).e 1099511627776) (ys:=(.own 4 kU8.sz 0 (Ze9 r e k).length)) (rhs:=[(4,.live (Xe 5 kU8 (Ze9 r e k)))]) Tryz.underlying25 Tryz.underlying5 Tryz.underlying60 (Wu 4 5 kU8 (rdY (Xx 1099511627776 1099511627776 r e k 3).rest (Xx 1099511627776 1099511627776 r e k 3).e 1099511627776)) (X3 rfl) trivial)] pZ7 pZ7 ?_
   refine eN ⟨(Zea h),[(Zeb B r e k),(Zec r e k),(Zdp h),Zdq,.live (Xe 5 kU8 (Ze9 r e k))]⟩ ?_
   refine Xc (s':=⟨Zdn,(Ze8 B r e k h)⟩) (fun _ _ hG=>Yt [0,1,2,3] (bm 7 113) (h2:=[(Zeb B r e k),(Zec r e k),(Zdp h),Zdq]) rfl pZ1 hG) ?_
   exact nJ
  have hbt:¬Uz (Xj k) 3=true:=(by subst hh;exact hq4);have hst:(Xx 1099511627776 1099511627776 r e k 4)=(Xx 1099511627776 1099511627776 r e k 3):=Ej hbt
  replace hq4:=Bool.eq_false_iff.2 hq4
  refine cF hq4 ?_
  refine T.skip ?_
  refine eN ⟨(Zea h),(Ze3 B r e k h)⟩ ?_
  refine Xc (s':=⟨Zdn,(Ze8 B r e k h)⟩) (fun _ _ hG=>Yt [0,1,2,3] (bm 7 113) (h2:=(Ze3 B r e k h)) rfl pZ1 hG) ?_
  exact nJ
 refine Uu ⟨Zdn,(Zee B r e k h)⟩ ?_ ?_
 ·refine sR [] ?_
  by_cases hq5:h.Xa=true
  ·have hbt:Uz (Xj k) 4=true:=(by subst hh;exact hq5);have hst:(Xx 1099511627776 1099511627776 r e k 5)=V3 1099511627776 1099511627776 (Xx 1099511627776 1099511627776 r e k 4) 4:=Uv rfl hbt;simp only [V3] at hst
   refine cT hq5 ?_
   refine xK [hR 1 rfl rfl (rCa (X0d B (Xx 1099511627776 1099511627776 r e k 4).rest (Xx 1099511627776 1099511627776 r e k 4).e 1099511627776 pe (by omega)) Tryz.func95 [0,4] [(.tmp 35,pv 0 0),(.const (.int .i64 1099511627776),vI 1099511627776)] 1 2)] ?_
   refine eN (Zei B r e k h) ?_
   refine Xc (s':=⟨(Zef h),[(Zeg B r e k),(Zej r e k),(Zdp h),Zdq,.dead]⟩) (fun _ _ hG=>Gs.freeze (s:=(Zei B r e k h)) 4 (el:=W6 kU8 (rdY (Xx 1099511627776 1099511627776 r e k 4).rest (Xx 1099511627776 1099511627776 r e k 4).e 1099511627776)) (sz:=kU8.sz) (n:=(rdY (Xx 1099511627776 1099511627776 r e k 4).rest (Xx 1099511627776 1099511627776 r e k 4).e 1099511627776).length) rfl ⟨.inl rfl,(kk2 (Ey trivial))⟩ ⟨pc,⟨p4y,⟨pc,⟨pc,⟨(.inl ⟨rfl,rfl⟩),trivial⟩⟩⟩⟩⟩ hG) ?_
   refine Xc (s':=⟨Zdn,(Zee B r e k h)⟩) (fun _ _ hG=>Yt [0,1,2,3] (bm 7 113) (h2:=[(Zeg B r e k),(Zej r e k),(Zdp h),Zdq]) rfl pZ1 hG) ?_
   exact nJ
  have hbt:¬Uz (Xj k) 4=true:=(by subst hh;exact hq5);have hst:(Xx 1099511627776 1099511627776 r e k 5)=(Xx 1099511627776 1099511627776 r e k 4):=Ej hbt
  replace hq5:=Bool.eq_false_iff.2 hq5
  refine cF hq5 ?_
  refine T.skip ?_
  refine eN ⟨(Zef h),(Ze8 B r e k h)⟩ ?_
  refine Xc (s':=⟨Zdn,(Zee B r e k h)⟩) (fun _ _ hG=>Yt [0,1,2,3] (bm 7 113) (h2:=(Ze8 B r e k h)) rfl pZ1 hG) ?_
  exact nJ
 refine Uu ⟨Zdn,(Zel B r e k h)⟩ ?_ ?_
 ·refine sR [] ?_
  by_cases hq6:h.X1=true
  ·have hbt:Uz (Xj k) 5=true:=(by subst hh;exact hq6);have hst:(Xx 1099511627776 1099511627776 r e k 6)=V3 1099511627776 1099511627776 (Xx 1099511627776 1099511627776 r e k 5) 5:=Uv rfl hbt;simp only [V3] at hst
   refine cT hq6 ?_
   refine xR [hR 1 rfl rfl (rCa (I8 B (Xx 1099511627776 1099511627776 r e k 5).rest (Xx 1099511627776 1099511627776 r e k 5).e pe (by omega)) Tryz.func94 [0] [(.tmp 40,pv 0 0)] 1 1),hR 3 rfl rfl (rCa (I8 B (rdR (Xx 1099511627776 1099511627776 r e k 5).rest (Xx 1099511627776 1099511627776 r e k 5).e 8 0) (rdE (Xx 1099511627776 1099511627776 r e k 5).rest (Xx 1099511627776 1099511627776 r e k 5).e 8 0) pe (by omega)) Tryz.func94 [0] [(.tmp 42,pv 0 0)] 1 1)] pZ7 pZ7 ?_
   refine eN ⟨(Zem h),(Zen B r e k h)⟩ ?_
   refine Xc (s':=⟨Zdn,(Zel B r e k h)⟩) (fun _ _ hG=>Yt [0,1,2,3] (bm 7 113) (h2:=(Zen B r e k h)) rfl pZ1 hG) ?_
   exact nJ
  have hbt:¬Uz (Xj k) 5=true:=(by subst hh;exact hq6);have hst:(Xx 1099511627776 1099511627776 r e k 6)=(Xx 1099511627776 1099511627776 r e k 5):=Ej hbt
  replace hq6:=Bool.eq_false_iff.2 hq6
  refine cF hq6 ?_
  refine T.skip ?_
  refine eN ⟨(Zem h),(Zee B r e k h)⟩ ?_
  refine Xc (s':=⟨Zdn,(Zel B r e k h)⟩) (fun _ _ hG=>Yt [0,1,2,3] (bm 7 113) (h2:=(Zee B r e k h)) rfl pZ1 hG) ?_
  exact nJ
 refine Uu ⟨Zdn,(Zep B r e k h)⟩ ?_ ?_
 ·refine sR [] ?_
  by_cases hq7:h.Xp=true
  ·have hbt:Uz (Xj k) 6=true:=(by subst hh;exact hq7);have hst:(Xx 1099511627776 1099511627776 r e k 7)=V3 1099511627776 1099511627776 (Xx 1099511627776 1099511627776 r e k 6) 6:=Uv rfl hbt;simp only [V3] at hst
   refine cT hq7 ?_
   refine xK [hR 1 rfl rfl (rCa (Ek B (Xx 1099511627776 1099511627776 r e k 6).rest (Xx 1099511627776 1099511627776 r e k 6).e pe (by omega)) Tryz.func192 [0] [(.tmp 48,pv 0 0)] 1 1)] ?_
   refine eN ⟨(Zeq h),(Zes B r e k h)⟩ ?_
   refine Xc (s':=⟨Zdn,(Zep B r e k h)⟩) (fun _ _ hG=>Yt [0,1,2,3] (bm 7 113) (h2:=(Zes B r e k h)) rfl pZ1 hG) ?_
   exact nJ
  have hbt:¬Uz (Xj k) 6=true:=(by subst hh;exact hq7);have hst:(Xx 1099511627776 1099511627776 r e k 7)=(Xx 1099511627776 1099511627776 r e k 6):=Ej hbt
  replace hq7:=Bool.eq_false_iff.2 hq7
  refine cF hq7 ?_
  refine T.skip ?_
  refine eN ⟨(Zeq h),(Zel B r e k h)⟩ ?_
  refine Xc (s':=⟨Zdn,(Zep B r e k h)⟩) (fun _ _ hG=>Yt [0,1,2,3] (bm 7 113) (h2:=(Zel B r e k h)) rfl pZ1 hG) ?_
  exact nJ
 refine Uu ⟨Zdn,(Zf6 B r e k h)⟩ ?_ ?_
 ·refine sR [] ?_
  by_cases hq8:h.Y5=true
  ·have hbt:Uz (Xj k) 7=true:=(by subst hh;exact hq8);have hst:(Xx 1099511627776 1099511627776 r e k 8)=V3 1099511627776 1099511627776 (Xx 1099511627776 1099511627776 r e k 7) 7:=Uv rfl hbt;simp only [V3] at hst
   refine cT hq8 ?_
   refine xK [hR 1 rfl rfl (rCa (Ek B (Xx 1099511627776 1099511627776 r e k 7).rest (Xx 1099511627776 1099511627776 r e k 7).e pe (by omega)) Tryz.func192 [0] [(.tmp 53,pv 0 0)] 1 1)] ?_
   refine eN ⟨(Zf7 h),(Zf9 B r e k h)⟩ ?_
   refine Xc (s':=⟨Zdn,(Zf6 B r e k h)⟩) (fun _ _ hG=>Yt [0,1,2,3] (bm 7 113) (h2:=(Zf9 B r e k h)) rfl pZ1 hG) ?_
   exact nJ
  have hbt:¬Uz (Xj k) 7=true:=(by subst hh;exact hq8);have hst:(Xx 1099511627776 1099511627776 r e k 8)=(Xx 1099511627776 1099511627776 r e k 7):=Ej hbt
  replace hq8:=Bool.eq_false_iff.2 hq8
  refine cF hq8 ?_
  refine T.skip ?_
  refine eN ⟨(Zf7 h),(Zep B r e k h)⟩ ?_
  refine Xc (s':=⟨Zdn,(Zf6 B r e k h)⟩) (fun _ _ hG=>Yt [0,1,2,3] (bm 7 113) (h2:=(Zep B r e k h)) rfl pZ1 hG) ?_
  exact nJ
 refine Uu ⟨Zdn,(Zfc B r e k h)⟩ ?_ ?_
 ·refine sR [] ?_
  by_cases hq9:h.X5=true
  rotate_left
  ·have hbt:¬Uz (Xj k) 8=true:=(by subst hh;exact hq9);have hst:(Xx 1099511627776 1099511627776 r e k 9)=(Xx 1099511627776 1099511627776 r e k 8):=Ej hbt
   replace hq9:=Bool.eq_false_iff.2 hq9
   refine cF hq9 ?_
   refine T.skip ?_
   refine eN ⟨(Zfs h),(Zf6 B r e k h)⟩ ?_
   refine Xc (s':=⟨(Zfs h),(Zft B r e k h)⟩) (fun _ _ hG=>Ys (s:=⟨(Zfs h),(Zf6 B r e k h)⟩) (kk2 (kk8 X5v)) ⟨.inl rfl,⟨(.inr ⟨rfl,⟨.inl rfl,(kk2 (kk8 ⟨pZ5,trivial⟩))⟩⟩),(kk2 trivial)⟩⟩ hG) ?_
   refine Xc (s':=⟨Zdn,(Zfc B r e k h)⟩) (fun _ _ hG=>Yt [0,1,2,3] (bm 7 113) (h2:=(Zft B r e k h)) rfl (by have e1:(((V8 B (Xx 1099511627776 1099511627776 r e k 9).rest:Nat):Int):Int)=((V8 B (Xx 1099511627776 1099511627776 r e k 8).rest:Nat):Int):=Us;have e2:((Xx 1099511627776 1099511627776 r e k 9).e:Int)=(Xx 1099511627776 1099511627776 r e k 8).e:=Us;have e3:((Xx 1099511627776 1099511627776 r e k 9).m.X2:Int)=(Xx 1099511627776 1099511627776 r e k 8).m.X2:=Us;have e4:((Xx 1099511627776 1099511627776 r e k 9).m.Y1:Int)=(Xx 1099511627776 1099511627776 r e k 8).m.Y1:=Us;have e5:((Xx 1099511627776 1099511627776 r e k 9).m.Xo:Int)=(Xx 1099511627776 1099511627776 r e k 8).m.Xo:=Us;have e6:((Xx 1099511627776 1099511627776 r e k 9).m.Xi:Int)=(Xx 1099511627776 1099511627776 r e k 8).m.Xi:=Us;have e7:((Xx 1099511627776 1099511627776 r e k 9).m.Yj:Int)=(Xx 1099511627776 1099511627776 r e k 8).m.Yj:=Us;have e8:((Xx 1099511627776 1099511627776 r e k 9).m.X8:List UInt8)=(Xx 1099511627776 1099511627776 r e k 8).m.X8:=Us;have e9:((Xx 1099511627776 1099511627776 r e k 9).m.Xa:List UInt8)=(Xx 1099511627776 1099511627776 r e k 8).m.Xa:=Us;have e10:((Xx 1099511627776 1099511627776 r e k 9).m.X1.Xw:Int)=(Xx 1099511627776 1099511627776 r e k 8).m.X1.Xw:=Us;have e11:((Xx 1099511627776 1099511627776 r e k 9).m.X1.Xn:Int)=(Xx 1099511627776 1099511627776 r e k 8).m.X1.Xn:=Us;have e12:((Xx 1099511627776 1099511627776 r e k 9).m.Xp:List aE)=(Xx 1099511627776 1099511627776 r e k 8).m.Xp:=Us;have e13:((Xx 1099511627776 1099511627776 r e k 9).m.Y5:List aE)=(Xx 1099511627776 1099511627776 r e k 8).m.Y5:=Us;have e14:((Xx 1099511627776 1099511627776 r e k 9).m.X5:List aC)=([]:List aC):=(by (rw [hst,X8h 8 (by decide)];done));have hE:=congr (congr (congr (congr (congr (congr (congr (congr (congr (congr (congr (congr (congr (congrArg (fun (q1:Int) (q2:Int) (q3:Int) (q4:Int) (q5:Int) (q6:Int) (q7:Int) (q8:List UInt8) (q9:List UInt8) (q10:Int) (q11:Int) (q12:List aE) (q13:List aE) (q14:List aC)=>([.live (.box 156 [(Zdl B),dI q1,dI q2]),.live (.box 78 [dI q3,dI q4,dI q5,dI q6,dI q7,dS q8,dU q9,dI q10,dI q11,.d (dsl false false (kE false) q12),.d (dsl false false (kE false) q13),.d (dsl false false (kC false) q14)]),(Zdp h),Zdq]:List HS)) e1) e2) e3) e4) e5) e6) e7) e8) e9) e10) e11) e12) e13) e14;exact hE) hG) ?_
   exact nJ
  have hbt:Uz (Xj k) 8=true:=(by subst hh;exact hq9);have hst:(Xx 1099511627776 1099511627776 r e k 9)=V3 1099511627776 1099511627776 (Xx 1099511627776 1099511627776 r e k 8) 8:=Uv rfl hbt;simp only [V3] at hst
  refine cT hq9 ?_
  refine sR [hR 1 rfl rfl (rCa (X4m B (Xx 1099511627776 1099511627776 r e k 8).rest (Xx 1099511627776 1099511627776 r e k 8).e 8 pe (by omega)) Tryz.func137 [0] [(.tmp 58,pv 0 0),(.const (.int .i64 8),vI 8)] 1 1)] ?_
  refine sR [] ?_
  refine T.block ?_
  refine tN ⟨(Zfe r e k h),[(Zff B r e k),(Zf5 r e k),(Zdp h),Zdq]⟩ ?_
  refine Wv (s':=⟨(Zfe r e k h),(Zfg B r e k h)⟩) (fun _ _ hG=>Jd 4 1 11 86 (kC false) (Tb:=78) (cs:=[(Zeu r e k),(Zev r e k),(Zew r e k),(Zex r e k),(Zey r e k),(Zez r e k),(Zf0 r e k),(Zf1 r e k),(Zf2 r e k),(Zf3 r e k),(Zf4 r e k),Zdi]) rfl rfl rfl hG) ?_
  refine T.loop (ι:=Nat) (fun (k2:Nat)=>⟨[pv 0 0,aa,aa,aa,pv 1 0,pv 2 0,pv 3 0,(Zfd r e k),vI ((k2:Nat):Int)],(Zfj B r e k h k2)⟩) (fun (k2:Nat)=>(k2≤rdC (Xx 1099511627776 1099511627776 r e k 8).rest (Xx 1099511627776 1099511627776 r e k 8).e 8)) (fun (k2:Nat)=>rdC (Xx 1099511627776 1099511627776 r e k 8).rest (Xx 1099511627776 1099511627776 r e k 8).e 8-k2) (0) (Nat.zero_le _) (fun _ _ hG=>Yt [0,1,2,3,4] (bm 9 497) (h2:=(Zfg B r e k h)) rfl (cg4 (fun (q1:Int) (q2:Int) (q3:Nat) (q4:List aC)=>([.live (.box 156 [(Zdl B),dI q1,dI q2]),.live (.box 78 [(Zeu r e k),(Zev r e k),(Zew r e k),(Zex r e k),(Zey r e k),(Zez r e k),(Zf0 r e k),(Zf1 r e k),(Zf2 r e k),(Zf3 r e k),(Zf4 r e k),.own 4 (kC false).sz 0 q3]),(Zdp h),Zdq,.live (Xe 86 (kC false) q4)]:List HS)) (by rfl) (by rfl) (by rfl) (by rfl)) hG) ?_
  rintro k2 hk2
  show T _ _ ⟨[pv 0 0,aa,aa,aa,pv 1 0,pv 2 0,pv 3 0,(Zfd r e k),vI ((k2:Nat):Int)],(Zfj B r e k h k2)⟩ _ _
  replace hk2:k2≤rdC (Xx 1099511627776 1099511627776 r e k 8).rest (Xx 1099511627776 1099511627776 r e k 8).e 8:=hk2
  have hg:=Hw 1099511627776 (Xx 1099511627776 1099511627776 r e k 8).rest (Xx 1099511627776 1099511627776 r e k 8).e k2
  have hg2:=hg.2
  have hcm:rdC (Xx 1099511627776 1099511627776 r e k 8).rest (Xx 1099511627776 1099511627776 r e k 8).e 8≤8:=X2m (Xx 1099511627776 1099511627776 r e k 8).rest (Xx 1099511627776 1099511627776 r e k 8).e 8
  refine T.seq ?_
  refine sR [] ?_
  by_cases hq10:((k2:Nat):Int)<((rdC (Xx 1099511627776 1099511627776 r e k 8).rest (Xx 1099511627776 1099511627776 r e k 8).e 8:Nat):Int)
  ·refine cT (dT hq10) ?_
   refine T.skip (nT (T.seq ?_))
   refine T.block ?_
   refine xD [[],[0],[],[2],[],[2,3,4],[2,3,4,5],[2,3,4,5,6],[0,1,2,3,4,5,6,7],[0,1,2,3,4,5,6,7,8],[0,1,2,3,4,5,6,7,8,9]] [hR 3 rfl rfl (rCa (X1j B (Wb 1099511627776 (Xx 1099511627776 1099511627776 r e k 8).rest (Xx 1099511627776 1099511627776 r e k 8).e k2).rest (Wb 1099511627776 (Xx 1099511627776 1099511627776 r e k 8).rest (Xx 1099511627776 1099511627776 r e k 8).e k2).e pe (by omega)) Tryz.func193 [0] [(.tmp 67,pv 0 0)] 1 1),hR 5 rfl rfl (rCa (Ek B (evR 1099511627776 (Wb 1099511627776 (Xx 1099511627776 1099511627776 r e k 8).rest (Xx 1099511627776 1099511627776 r e k 8).e k2).rest (Wb 1099511627776 (Xx 1099511627776 1099511627776 r e k 8).rest (Xx 1099511627776 1099511627776 r e k 8).e k2).e) (evE 1099511627776 (Wb 1099511627776 (Xx 1099511627776 1099511627776 r e k 8).rest (Xx 1099511627776 1099511627776 r e k 8).e k2).rest (Wb 1099511627776 (Xx 1099511627776 1099511627776 r e k 8).rest (Xx 1099511627776 1099511627776 r e k 8).e k2).e) pe (by omega)) Tryz.func192 [0] [(.tmp 69,pv 0 0)] 1 1),hR 7 rfl rfl (Yd 5 86 (kC false) (Hs false) [(aC.mk (evV 1099511627776 (Wb 1099511627776 (Xx 1099511627776 1099511627776 r e k 8).rest (Xx 1099511627776 1099511627776 r e k 8).e k2).rest (Wb 1099511627776 (Xx 1099511627776 1099511627776 r e k 8).rest (Xx 1099511627776 1099511627776 r e k 8).e k2).e) (Uq 1099511627776 (evR 1099511627776 (Wb 1099511627776 (Xx 1099511627776 1099511627776 r e k 8).rest (Xx 1099511627776 1099511627776 r e k 8).e k2).rest (Wb 1099511627776 (Xx 1099511627776 1099511627776 r e k 8).rest (Xx 1099511627776 1099511627776 r e k 8).e k2).e) (evE 1099511627776 (Wb 1099511627776 (Xx 1099511627776 1099511627776 r e k 8).rest (Xx 1099511627776 1099511627776 r e k 8).e k2).rest (Wb 1099511627776 (Xx 1099511627776 1099511627776 r e k 8).rest (Xx 1099511627776 1099511627776 r e k 8).e k2).e)).l)] [⟨0,.tmp 71,.agg [dI (Zfm r e k k2).X4,dU (Zfm r e k k2).Xf,.d (dsl false false (kE false) (Zfn r e k k2).l)],0⟩] (cs:=[dI (Zfm r e k k2).X4,dU (Zfm r e k k2).Xf,.d (dsl false false (kE false) (Zfn r e k k2).l)]) Tryz.underlying76 Fr rfl Xh5 rfl rfl rfl pd (Yp rfl rfl pd W4) pZ7 (V1 pZ7) (X3 rfl) trivial),hR 8 rfl rfl (Yy 4 6 86 56 (kC false) (Hs false) (Wb 1099511627776 (Xx 1099511627776 1099511627776 r e k 8).rest (Xx 1099511627776 1099511627776 r e k 8).e k2).l [(aC.mk (evV 1099511627776 (Wb 1099511627776 (Xx 1099511627776 1099511627776 r e k 8).rest (Xx 1099511627776 1099511627776 r e k 8).e k2).rest (Wb 1099511627776 (Xx 1099511627776 1099511627776 r e k 8).rest (Xx 1099511627776 1099511627776 r e k 8).e k2).e) (Uq 1099511627776 (evR 1099511627776 (Wb 1099511627776 (Xx 1099511627776 1099511627776 r e k 8).rest (Xx 1099511627776 1099511627776 r e k 8).e k2).rest (Wb 1099511627776 (Xx 1099511627776 1099511627776 r e k 8).rest (Xx 1099511627776 1099511627776 r e k 8).e k2).e) (evE 1099511627776 (Wb 1099511627776 (Xx 1099511627776 1099511627776 r e k 8).rest (Xx 1099511627776 1099511627776 r e k 8).e k2).rest (Wb 1099511627776 (Xx 1099511627776 1099511627776 r e k 8).rest (Xx 1099511627776 1099511627776 r e k 8).e k2).e)).l)] ((Wb 1099511627776 (Xx 1099511627776 1099511627776 r e k 8).rest (Xx 1099511627776 1099511627776 r e k 8).e k2).l++[(aC.mk (evV 1099511627776 (Wb 1099511627776 (Xx 1099511627776 1099511627776 r e k 8).rest (Xx 1099511627776 1099511627776 r e k 8).e k2).rest (Wb 1099511627776 (Xx 1099511627776 1099511627776 r e k 8).rest (Xx 1099511627776 1099511627776 r e k 8).e k2).e) (Uq 1099511627776 (evR 1099511627776 (Wb 1099511627776 (Xx 1099511627776 1099511627776 r e k 8).rest (Xx 1099511627776 1099511627776 r e k 8).e k2).rest (Wb 1099511627776 (Xx 1099511627776 1099511627776 r e k 8).rest (Xx 1099511627776 1099511627776 r e k 8).e k2).e) (evE 1099511627776 (Wb 1099511627776 (Xx 1099511627776 1099511627776 r e k 8).rest (Xx 1099511627776 1099511627776 r e k 8).e k2).rest (Wb 1099511627776 (Xx 1099511627776 1099511627776 r e k 8).rest (Xx 1099511627776 1099511627776 r e k 8).e k2).e)).l)]) (Wb 1099511627776 (Xx 1099511627776 1099511627776 r e k 8).rest (Xx 1099511627776 1099511627776 r e k 8).e k2).l.length (sy:=(.own 5 (kC false).sz 0 [(Zfo r e k k2)].length)) (rhs:=[(5,.live (Xe 86 (kC false) [(Zfo r e k k2)]))]) Xi6 (by omega) (Wu 5 86 (kC false) [(aC.mk (evV 1099511627776 (Wb 1099511627776 (Xx 1099511627776 1099511627776 r e k 8).rest (Xx 1099511627776 1099511627776 r e k 8).e k2).rest (Wb 1099511627776 (Xx 1099511627776 1099511627776 r e k 8).rest (Xx 1099511627776 1099511627776 r e k 8).e k2).e) (Uq 1099511627776 (evR 1099511627776 (Wb 1099511627776 (Xx 1099511627776 1099511627776 r e k 8).rest (Xx 1099511627776 1099511627776 r e k 8).e k2).rest (Wb 1099511627776 (Xx 1099511627776 1099511627776 r e k 8).rest (Xx 1099511627776 1099511627776 r e k 8).e k2).e) (evE 1099511627776 (Wb 1099511627776 (Xx 1099511627776 1099511627776 r e k 8).rest (Xx 1099511627776 1099511627776 r e k 8).e k2).rest (Wb 1099511627776 (Xx 1099511627776 1099511627776 r e k 8).rest (Xx 1099511627776 1099511627776 r e k 8).e k2).e)).l)]) Jn X7a X7a (X3 rfl) trivial)] pZ7 pZ7 pZ7 pZ7 pZ7 pZ7 ?_
   refine nB ?_
   refine nT ?_
   refine xK [hR 1 rfl rfl (Ye (u1:=.int .i64 ((k2:Nat):Int)) (u2:=.int .i64 1) (v:=.int .i64 ((k2+1:Nat):Int)) (Wa pa) (X3 rfl) ⟨rfl,trivial⟩)] ?_
   refine nL (k2+1) (show (k2+1)≤rdC (Xx 1099511627776 1099511627776 r e k 8).rest (Xx 1099511627776 1099511627776 r e k 8).e 8 from (by omega)) (show (rdC (Xx 1099511627776 1099511627776 r e k 8).rest (Xx 1099511627776 1099511627776 r e k 8).e 8-(k2+1):Nat)<rdC (Xx 1099511627776 1099511627776 r e k 8).rest (Xx 1099511627776 1099511627776 r e k 8).e 8-k2 from (by omega)) (fun _ _ hG=>Vb [0,1,2,3,6] (bm 9 497) (h1:=[.live (.box 156 [(Zdl B),dI ((V8 B (Zfp r e k k2).rest:Nat):Int),dI (Zfp r e k k2).e]),.live (.box 78 [(Zeu r e k),(Zev r e k),(Zew r e k),(Zex r e k),(Zey r e k),(Zez r e k),(Zf0 r e k),(Zf1 r e k),(Zf2 r e k),(Zf3 r e k),(Zf4 r e k),.own 6 (kC false).sz 0 (Zfp r e k k2).l.length]),(Zdp h),Zdq,.live (Xe 86 (kC false) (Zfp r e k k2).l)]) (h2:=[.live (.box 156 [(Zdl B),dI ((V8 B (Zfn r e k k2).rest:Nat):Int),dI (Zfn r e k k2).e]),.live (.box 78 [(Zeu r e k),(Zev r e k),(Zew r e k),(Zex r e k),(Zey r e k),(Zez r e k),(Zf0 r e k),(Zf1 r e k),(Zf2 r e k),(Zf3 r e k),(Zf4 r e k),.own 6 (kC false).sz 0 ((Zfh r e k k2).l++[(Zfo r e k k2)]).length]),(Zdp h),Zdq,.live (Xe 86 (kC false) ((Zfh r e k k2).l++[(Zfo r e k k2)]))]) (t1:=[pv 0 0,aa,aa,aa,pv 1 0,pv 2 0,pv 3 0,(Zfd r e k),vI ((k2+1:Nat):Int)]) rfl (by have e1:(((V8 B (Wb 1099511627776 (Xx 1099511627776 1099511627776 r e k 8).rest (Xx 1099511627776 1099511627776 r e k 8).e (k2+1)).rest:Nat):Int):Int)=((V8 B (Uq 1099511627776 (evR 1099511627776 (Wb 1099511627776 (Xx 1099511627776 1099511627776 r e k 8).rest (Xx 1099511627776 1099511627776 r e k 8).e k2).rest (Wb 1099511627776 (Xx 1099511627776 1099511627776 r e k 8).rest (Xx 1099511627776 1099511627776 r e k 8).e k2).e) (evE 1099511627776 (Wb 1099511627776 (Xx 1099511627776 1099511627776 r e k 8).rest (Xx 1099511627776 1099511627776 r e k 8).e k2).rest (Wb 1099511627776 (Xx 1099511627776 1099511627776 r e k 8).rest (Xx 1099511627776 1099511627776 r e k 8).e k2).e)).rest:Nat):Int):=(by rfl);have e2:((Wb 1099511627776 (Xx 1099511627776 1099511627776 r e k 8).rest (Xx 1099511627776 1099511627776 r e k 8).e (k2+1)).e:Int)=(Uq 1099511627776 (evR 1099511627776 (Wb 1099511627776 (Xx 1099511627776 1099511627776 r e k 8).rest (Xx 1099511627776 1099511627776 r e k 8).e k2).rest (Wb 1099511627776 (Xx 1099511627776 1099511627776 r e k 8).rest (Xx 1099511627776 1099511627776 r e k 8).e k2).e) (evE 1099511627776 (Wb 1099511627776 (Xx 1099511627776 1099511627776 r e k 8).rest (Xx 1099511627776 1099511627776 r e k 8).e k2).rest (Wb 1099511627776 (Xx 1099511627776 1099511627776 r e k 8).rest (Xx 1099511627776 1099511627776 r e k 8).e k2).e)).e:=(by rfl);have e3:((Wb 1099511627776 (Xx 1099511627776 1099511627776 r e k 8).rest (Xx 1099511627776 1099511627776 r e k 8).e (k2+1)).l.length:Nat)=((Wb 1099511627776 (Xx 1099511627776 1099511627776 r e k 8).rest (Xx 1099511627776 1099511627776 r e k 8).e k2).l++[(aC.mk (evV 1099511627776 (Wb 1099511627776 (Xx 1099511627776 1099511627776 r e k 8).rest (Xx 1099511627776 1099511627776 r e k 8).e k2).rest (Wb 1099511627776 (Xx 1099511627776 1099511627776 r e k 8).rest (Xx 1099511627776 1099511627776 r e k 8).e k2).e) (Uq 1099511627776 (evR 1099511627776 (Wb 1099511627776 (Xx 1099511627776 1099511627776 r e k 8).rest (Xx 1099511627776 1099511627776 r e k 8).e k2).rest (Wb 1099511627776 (Xx 1099511627776 1099511627776 r e k 8).rest (Xx 1099511627776 1099511627776 r e k 8).e k2).e) (evE 1099511627776 (Wb 1099511627776 (Xx 1099511627776 1099511627776 r e k 8).rest (Xx 1099511627776 1099511627776 r e k 8).e k2).rest (Wb 1099511627776 (Xx 1099511627776 1099511627776 r e k 8).rest (Xx 1099511627776 1099511627776 r e k 8).e k2).e)).l)]).length:=(by (rw [(Hw 1099511627776 (Xx 1099511627776 1099511627776 r e k 8).rest (Xx 1099511627776 1099511627776 r e k 8).e (k2+1)).2,List.length_append,(Hw 1099511627776 (Xx 1099511627776 1099511627776 r e k 8).rest (Xx 1099511627776 1099511627776 r e k 8).e k2).2];rfl));have e4:((Wb 1099511627776 (Xx 1099511627776 1099511627776 r e k 8).rest (Xx 1099511627776 1099511627776 r e k 8).e (k2+1)).l:List aC)=(Wb 1099511627776 (Xx 1099511627776 1099511627776 r e k 8).rest (Xx 1099511627776 1099511627776 r e k 8).e k2).l++[(aC.mk (evV 1099511627776 (Wb 1099511627776 (Xx 1099511627776 1099511627776 r e k 8).rest (Xx 1099511627776 1099511627776 r e k 8).e k2).rest (Wb 1099511627776 (Xx 1099511627776 1099511627776 r e k 8).rest (Xx 1099511627776 1099511627776 r e k 8).e k2).e) (Uq 1099511627776 (evR 1099511627776 (Wb 1099511627776 (Xx 1099511627776 1099511627776 r e k 8).rest (Xx 1099511627776 1099511627776 r e k 8).e k2).rest (Wb 1099511627776 (Xx 1099511627776 1099511627776 r e k 8).rest (Xx 1099511627776 1099511627776 r e k 8).e k2).e) (evE 1099511627776 (Wb 1099511627776 (Xx 1099511627776 1099511627776 r e k 8).rest (Xx 1099511627776 1099511627776 r e k 8).e k2).rest (Wb 1099511627776 (Xx 1099511627776 1099511627776 r e k 8).rest (Xx 1099511627776 1099511627776 r e k 8).e k2).e)).l)]:=(by rfl);have hE:=congr (congr (congr (congrArg (fun (q1:Int) (q2:Int) (q3:Nat) (q4:List aC)=>([.live (.box 156 [(Zdl B),dI q1,dI q2]),.live (.box 78 [(Zeu r e k),(Zev r e k),(Zew r e k),(Zex r e k),(Zey r e k),(Zez r e k),(Zf0 r e k),(Zf1 r e k),(Zf2 r e k),(Zf3 r e k),(Zf4 r e k),.own 6 (kC false).sz 0 q3]),(Zdp h),Zdq,.live (Xe 86 (kC false) q4)]:List HS)) e1) e2) e3) e4;exact hE) hG)
  have hfx:X03 1099511627776 (Xx 1099511627776 1099511627776 r e k 8).rest (Xx 1099511627776 1099511627776 r e k 8).e=Wb 1099511627776 (Xx 1099511627776 1099511627776 r e k 8).rest (Xx 1099511627776 1099511627776 r e k 8).e k2:=(by rw [X03,show rdC (Xx 1099511627776 1099511627776 r e k 8).rest (Xx 1099511627776 1099511627776 r e k 8).e 8=k2 by omega]);rw [hfx] at hst
  refine cF (dF hq10) ?_
  refine T.exit ?_
  refine xT ?_
  refine xT ?_
  refine xH ?_
  refine eN ⟨(Zfq r e k k2),(Zfj B r e k h k2)⟩ ?_
  refine Xc (s':=⟨(Zfq r e k k2),[(Zfi B r e k k2),(Zfr r e k k2),(Zdp h),Zdq,.dead]⟩) (fun _ _ hG=>Gs.freeze (s:=⟨(Zfq r e k k2),(Zfj B r e k h k2)⟩) 4 (el:=W6 (kC false) (Wb 1099511627776 (Xx 1099511627776 1099511627776 r e k 8).rest (Xx 1099511627776 1099511627776 r e k 8).e k2).l) (sz:=(kC false).sz) (n:=(Wb 1099511627776 (Xx 1099511627776 1099511627776 r e k 8).rest (Xx 1099511627776 1099511627776 r e k 8).e k2).l.length) rfl ⟨.inl rfl,(kk2 (kk4 (kk8 X5v)))⟩ ⟨pc,⟨(.inr ⟨by decide,.inr ⟨rfl,⟨.inl rfl,(kk2 (kk8 ⟨pZ0,trivial⟩))⟩⟩⟩),⟨pc,⟨pc,⟨(.inl ⟨rfl,rfl⟩),trivial⟩⟩⟩⟩⟩ hG) ?_
  refine Xc (s':=⟨Zdn,(Zfc B r e k h)⟩) (fun _ _ hG=>Yt [0,1,2,3] (bm 7 113) (h2:=[(Zfi B r e k k2),(Zfr r e k k2),(Zdp h),Zdq]) rfl (by have hE:=congrArg (fun (qq0:RdM)=>([.live (.box 156 [(Zdl B),dI (((V8 B qq0.rest:Nat):Int)),dI (qq0.e)]),.live (.box 78 [dI (qq0.m.X2),dI (qq0.m.Y1),dI (qq0.m.Xo),dI (qq0.m.Xi),dI (qq0.m.Yj),dS (qq0.m.X8),dU (qq0.m.Xa),dI (qq0.m.X1.Xw),dI (qq0.m.X1.Xn),.d (dsl false false (kE false) (qq0.m.Xp)),.d (dsl false false (kE false) (qq0.m.Y5)),.d (dsl false false (kC false) (qq0.m.X5))]),(Zdp h),Zdq]:List HS)) hst;(try dsimp only at hE);exact hE) hG) ?_
  exact nJ
 refine sR [] ?_
 refine T.ret ?_
 exact eX [.c 6 3 78 0 78 [dI (Zfa r e k).m.X2,dI (Zfa r e k).m.Y1,dI (Zfa r e k).m.Xo,dI (Zfa r e k).m.Xi,dI (Zfa r e k).m.Yj,dS (Zfa r e k).m.X8,dU (Zfa r e k).m.Xa,dI (Zfa r e k).m.X1.Xw,dI (Zfa r e k).m.X1.Xn,.d (dsl false false (kE false) (Zfa r e k).m.Xp),.d (dsl false false (kE false) (Zfa r e k).m.Y5),.d (dsl false false (kC false) (Zfa r e k).m.X5)] (.agg (Zfb r e k))] ⟨⟨rfl,rfl,by kernel_rfl,by kernel_rfl,.inl ⟨12,Wp,rfl,Nat.le_of_ble_eq_true rfl⟩⟩,trivial⟩ [0] rfl (ix trivial)
end Go.Proofs.YtnaopgohccacmaaGreat.Q
