import Derived.Test.YtnaopgohccacmaaGreatC19n43
namespace Go.Proofs.YtnaopgohccacmaaGreat.Q
open Go Go.RowKit
set_option linter.unusedVariables false
set_option linter.unusedSimpArgs false
set_option maxRecDepth 100000
set_option maxHeartbeats 4000000
section
variable (c:Wo) (t:Yo)
abbrev Ztv:SV:=dI c.Xo
abbrev Ztw:SV:=.d (dsl false false (kE false) c.Xv)
abbrev Ztx:SV:=dU c.Xa
abbrev Zty:SV:=.d (dsl false false (X7 false) c.X0)
abbrev Ztz:SV:=dI c.J6
abbrev Zu0:SV:=dI c.Xs.X4
abbrev Zu1:SV:=dU c.Xs.Xf
abbrev Zu2:SV:=dI c.X1.Xw
abbrev Zu3:SV:=dI c.X1.Xn
abbrev Zu4:SV:=.d (dsl false false (Xb false) c.Yv)
abbrev Zu5:List SV:=[(Ztv c),(Ztw c),(Ztx c),(Zty c),(Ztz c),(Zu0 c),(Zu1 c),(Zu2 c),(Zu3 c),(Zu4 c)]
abbrev Zu6:AV:=.tv (.agg (Zu5 c))
abbrev Zu7:AV:=.tv (.agg [dI t.Wn,dI t.Wj])
abbrev Zu8:=(ix9 c.X0 t.Wj)
abbrev Zu9:AV:=vI (((Zu8 c t):Nat):Int)
abbrev Zua:AV:=vB (decide (((c.X0.length:Nat):Int)>0))
abbrev Zub:List AV:=[(Zu6 c),(Zu7 t),pv 0 0,pv 1 0,pv 2 0,(Zu9 c t),aa,aa,aa,(Zua c)]
abbrev Zuc:HS:=.live (.box 29 [dI t.Wn,dI t.Wj])
abbrev Zud:SV:=.d (.val (.slice none 0 0))
abbrev Zue:HS:=.live (.box 49 [dI 0,Zud,Zud,Zud,dI 0,dI 0,Zud,dI 0,dI 0,Zud])
abbrev Zuf:List HS:=[.live (.box 49 (Zu5 c)),(Zuc t),Zue]
abbrev Zug:List AV:=[(Zu6 c),(Zu7 t),pv 0 0,pv 1 0,pv 2 0,vI (((Int.tmod t.Wj ((c.X0.length:Nat):Int))+((c.X0.length:Nat):Int)) % ((c.X0.length:Nat):Int)),aa,aa,aa,(Zua c)]
abbrev Zuh:List AV:=[(Zu6 c),(Zu7 t),pv 0 0,pv 1 0,pv 2 0,vI 0,aa,aa,aa,(Zua c)]
abbrev Zui:HS:=.live (Xe 69 (X7 false) c.X0)
abbrev Zuj:List AV:=[(Zu6 c),(Zu7 t),pv 0 0,pv 1 0,pv 2 0,(Zu9 c t),aa,aa,aa,(Zua c),aa,aa,aa,aa,aa,aa,aa,aa,aa,aa,aa,aa,aa,aa,aa,aa,aa,aa,aa,(Zua c)]
abbrev Zuk:HS:=.live (.box 49 [(Ztv c),(Ztw c),(Ztx c),.own 5 (X7 false).sz 0 ((c.X0.take (Zu8 c t))++((c.X0.take ((Zu8 c t)+1+c.X0.length-((Zu8 c t)+1))).drop ((Zu8 c t)+1))).length,(Ztz c),(Zu0 c),(Zu1 c),(Zu2 c),(Zu3 c),(Zu4 c)])
abbrev Zul:St:=⟨(Zuj c t),[(Zuk c t),(Zuc t),(Zuk c t),.dead,.dead,.live (Xe 69 (X7 false) ((c.X0.take (Zu8 c t))++((c.X0.take ((Zu8 c t)+1+c.X0.length-((Zu8 c t)+1))).drop ((Zu8 c t)+1))))]⟩
abbrev Zum:SV:=.d (dsl false false (X7 false) ((c.X0.take (Zu8 c t))++((c.X0.take ((Zu8 c t)+1+c.X0.length-((Zu8 c t)+1))).drop ((Zu8 c t)+1))))
abbrev Zun:List SV:=[(Ztv c),(Ztw c),(Ztx c),(Zum c t),(Ztz c),(Zu0 c),(Zu1 c),(Zu2 c),(Zu3 c),(Zu4 c)]
abbrev Zuo:AV:=vB (decide (t.Wn=2))
abbrev Zup:AV:=vB (decide (t.Wn=3))
abbrev Zuq:AV:=vB (decide (t.Wn=4))
abbrev Zur:AV:=vB (decide (t.Wn=6))
abbrev Zus:AV:=vB (decide (t.Wn=7))
abbrev Zut:List AV:=[(Zu6 c),(Zu7 t),pv 0 0,pv 1 0,pv 2 0,(Zu9 c t),aa,aa,aa,(Zua c),aa,aa,aa,aa,aa,aa,aa,aa,aa,aa,aa,aa,aa,aa,aa,aa,aa,aa,aa,(Zua c),aa,aa,aa,aa,aa,aa,aa,aa,aa,aa,aa,aa,aa,aa,aa,aa,aa,aa,aa,aa,(Zuo t),aa,aa,aa,aa,aa,aa,aa,aa,aa,(Zup t),aa,aa,aa,aa,aa,aa,aa,(Zuq t),aa,aa,aa,aa,aa,aa,aa,vB false,aa,aa,aa,aa,aa,aa,aa,aa,aa,aa,aa,aa,aa,aa,aa,aa,aa,aa,(Zur t),aa,aa,aa,aa,aa,aa,aa,aa,aa,aa,(Zus t),aa,aa,aa,aa,aa,aa,aa,aa,aa,vB false,aa,aa,aa,aa,aa,aa,aa,aa,aa,aa,aa,aa,aa,vB false]
abbrev Zuu:SV:=.own 4 (X7 false).sz 0 c.X0.length
abbrev Zuv:HS:=.live (.box 49 [(Ztv c),(Ztw c),(Ztx c),(Zuu c),(Ztz c),(Zu0 c),(Zu1 c),(Zu2 c),(Zu3 c),(Zu4 c)])
abbrev Zuw:List HS:=[(Zuv c),(Zuc t),(Zuv c),.dead,(Zui c)]
abbrev Zux:List HS:=[.live (.box 49 (Zu5 c)),(Zuc t),.live (.box 49 (Zu5 c)),.dead,.dead]
abbrev Zuy:List AV:=[(Zu6 c),(Zu7 t),pv 0 0,pv 1 0,pv 2 0,(Zu9 c t),aa,aa,aa,(Zua c),aa,aa,aa,aa,aa,aa,aa,aa,aa,aa,aa,aa,aa,aa,aa,aa,aa,aa,aa,vB false,aa,aa,aa,aa,aa,aa,aa,aa,aa,aa,aa,aa,aa,aa,aa,aa,aa,aa,aa,aa,(Zuo t)]
abbrev Zuz:HS:=.live (.box 49 [(Ztv c),(Ztw c),(Ztx c),(Zuu c),(Ztz c),(Zu0 c),(Zu1 c),(Zu2 c),dI (c.X1.Xn+1),(Zu4 c)])
abbrev Zv0:List SV:=[(Ztv c),(Ztw c),(Ztx c),(Zty c),(Ztz c),(Zu0 c),(Zu1 c),(Zu2 c),dI (c.X1.Xn+1),(Zu4 c)]
abbrev Zv1:List AV:=[(Zu6 c),(Zu7 t),pv 0 0,pv 1 0,pv 2 0,(Zu9 c t),aa,aa,aa,(Zua c),aa,aa,aa,aa,aa,aa,aa,aa,aa,aa,aa,aa,aa,aa,aa,aa,aa,aa,aa,vB false,aa,aa,aa,aa,aa,aa,aa,aa,aa,aa,aa,aa,aa,aa,aa,aa,aa,aa,aa,aa,(Zuo t),aa,aa,aa,aa,aa,aa,aa,aa,aa,(Zup t)]
abbrev Zv2:HS:=.live (.box 49 [(Ztv c),(Ztw c),(Ztx c),(Zuu c),dI (c.J6+1),(Zu0 c),(Zu1 c),(Zu2 c),(Zu3 c),(Zu4 c)])
abbrev Zv3:List SV:=[(Ztv c),(Ztw c),(Ztx c),(Zty c),dI (c.J6+1),(Zu0 c),(Zu1 c),(Zu2 c),(Zu3 c),(Zu4 c)]
abbrev Zv4:List AV:=[(Zu6 c),(Zu7 t),pv 0 0,pv 1 0,pv 2 0,(Zu9 c t),aa,aa,aa,(Zua c),aa,aa,aa,aa,aa,aa,aa,aa,aa,aa,aa,aa,aa,aa,aa,aa,aa,aa,aa,vB false,aa,aa,aa,aa,aa,aa,aa,aa,aa,aa,aa,aa,aa,aa,aa,aa,aa,aa,aa,aa,(Zuo t),aa,aa,aa,aa,aa,aa,aa,aa,aa,(Zup t),aa,aa,aa,aa,aa,aa,aa,(Zuq t)]
abbrev Zv5:HS:=.live (.box 49 [dI (c.Xo+1),(Ztw c),(Ztx c),(Zuu c),(Ztz c),(Zu0 c),(Zu1 c),(Zu2 c),(Zu3 c),(Zu4 c)])
abbrev Zv6:List SV:=[dI (c.Xo+1),(Ztw c),(Ztx c),(Zty c),(Ztz c),(Zu0 c),(Zu1 c),(Zu2 c),(Zu3 c),(Zu4 c)]
abbrev Zv7:List AV:=[(Zu6 c),(Zu7 t),pv 0 0,pv 1 0,pv 2 0,(Zu9 c t),aa,aa,aa,(Zua c),aa,aa,aa,aa,aa,aa,aa,aa,aa,aa,aa,aa,aa,aa,aa,aa,aa,aa,aa,vB false,aa,aa,aa,aa,aa,aa,aa,aa,aa,aa,aa,aa,aa,aa,aa,aa,aa,aa,aa,aa,(Zuo t),aa,aa,aa,aa,aa,aa,aa,aa,aa,(Zup t),aa,aa,aa,aa,aa,aa,aa,(Zuq t),aa,aa,aa,aa,aa,aa,aa,(Zua c)]
abbrev Zv8:=(Yf.mk (c.X0.getD (Zu8 c t) Xh).Xg ((c.X0.getD (Zu8 c t) Xh).Y4++[120]) (c.X0.getD (Zu8 c t) Xh).Yg (c.X0.getD (Zu8 c t) Xh).W2)
abbrev Zv9:HS:=.live (Xe 69 (X7 false) (c.X0.set (Zu8 c t) (Zv8 c t)))
abbrev Zva:HS:=.live (.box 49 [(Ztv c),(Ztw c),(Ztx c),.own 4 (X7 false).sz 0 (c.X0.set (Zu8 c t) (Zv8 c t)).length,(Ztz c),(Zu0 c),(Zu1 c),(Zu2 c),(Zu3 c),(Zu4 c)])
abbrev Zvb:List SV:=[(Ztv c),(Ztw c),(Ztx c),.d (dsl false false (X7 false) (c.X0.set (Zu8 c t) (Zv8 c t))),(Ztz c),(Zu0 c),(Zu1 c),(Zu2 c),(Zu3 c),(Zu4 c)]
abbrev Zvc:List AV:=[(Zu6 c),(Zu7 t),pv 0 0,pv 1 0,pv 2 0,(Zu9 c t),aa,aa,aa,(Zua c),aa,aa,aa,aa,aa,aa,aa,aa,aa,aa,aa,aa,aa,aa,aa,aa,aa,aa,aa,vB false,aa,aa,aa,aa,aa,aa,aa,aa,aa,aa,aa,aa,aa,aa,aa,aa,aa,aa,aa,aa,(Zuo t),aa,aa,aa,aa,aa,aa,aa,aa,aa,(Zup t),aa,aa,aa,aa,aa,aa,aa,(Zuq t),aa,aa,aa,aa,aa,aa,aa,(Zua c),aa,aa,aa,aa,aa,aa,aa,aa,aa,aa,aa,aa,aa,aa,aa,aa,aa,aa,(Zur t),aa,aa,aa,aa,aa,aa,aa,aa,aa,aa,(Zus t),aa,aa,aa,aa,aa,aa,aa,aa,aa,vB false,aa,aa,aa,aa,aa,aa,aa,aa,aa,aa,aa,aa,aa,vB false]
abbrev Zvd:HS:=.live (Xe 5 kU8 [(0:UInt8)])
abbrev Zve:List AV:=[(Zu6 c),(Zu7 t),pv 0 0,pv 1 0,pv 2 0,(Zu9 c t),aa,aa,aa,(Zua c),aa,aa,aa,aa,aa,aa,aa,aa,aa,aa,aa,aa,aa,aa,aa,aa,aa,aa,aa,vB false,aa,aa,aa,aa,aa,aa,aa,aa,aa,aa,aa,aa,aa,aa,aa,aa,aa,aa,aa,aa,(Zuo t),aa,aa,aa,aa,aa,aa,aa,aa,aa,(Zup t),aa,aa,aa,aa,aa,aa,aa,(Zuq t),aa,aa,aa,aa,aa,aa,aa,vB false,aa,aa,aa,aa,aa,aa,aa,aa,aa,aa,aa,aa,aa,aa,aa,aa,aa,aa,(Zur t)]
abbrev Zvf:HS:=.live (.box 49 [(Ztv c),(Ztw c),.own 8 kU8.sz 0 (c.Xa++[(0:UInt8)]).length,(Zuu c),(Ztz c),(Zu0 c),(Zu1 c),(Zu2 c),(Zu3 c),(Zu4 c)])
abbrev Zvg:St:=⟨(Zve c t),[(Zvf c),(Zuc t),(Zvf c),.dead,(Zui c),.dead,.dead,Zvd,.live (Xe 5 kU8 (c.Xa++[(0:UInt8)]))]⟩
abbrev Zvh:SV:=dU (c.Xa++[(0:UInt8)])
abbrev Zvi:HS:=.live (.box 49 [(Ztv c),(Ztw c),(Zvh c),(Zuu c),(Ztz c),(Zu0 c),(Zu1 c),(Zu2 c),(Zu3 c),(Zu4 c)])
abbrev Zvj:St:=⟨(Zve c t),[(Zvi c),(Zuc t),(Zvi c),.dead,(Zui c),.dead,.dead,Zvd,.dead]⟩
abbrev Zvk:List SV:=[(Ztv c),(Ztw c),(Zvh c),(Zty c),(Ztz c),(Zu0 c),(Zu1 c),(Zu2 c),(Zu3 c),(Zu4 c)]
abbrev Zvl:List AV:=[(Zu6 c),(Zu7 t),pv 0 0,pv 1 0,pv 2 0,(Zu9 c t),aa,aa,aa,(Zua c),aa,aa,aa,aa,aa,aa,aa,aa,aa,aa,aa,aa,aa,aa,aa,aa,aa,aa,aa,vB false,aa,aa,aa,aa,aa,aa,aa,aa,aa,aa,aa,aa,aa,aa,aa,aa,aa,aa,aa,aa,(Zuo t),aa,aa,aa,aa,aa,aa,aa,aa,aa,(Zup t),aa,aa,aa,aa,aa,aa,aa,(Zuq t),aa,aa,aa,aa,aa,aa,aa,vB false,aa,aa,aa,aa,aa,aa,aa,aa,aa,aa,aa,aa,aa,aa,aa,aa,aa,aa,(Zur t),aa,aa,aa,aa,aa,aa,aa,aa,aa,aa,(Zus t)]
abbrev Zvm:HS:=.live (.box 49 [(Ztv c),(Ztw c),(Ztx c),(Zuu c),(Ztz c),dI (c.Xs.X4+1),(Zu1 c),(Zu2 c),(Zu3 c),(Zu4 c)])
abbrev Zvn:List SV:=[(Ztv c),(Ztw c),(Ztx c),(Zty c),(Ztz c),dI (c.Xs.X4+1),(Zu1 c),(Zu2 c),(Zu3 c),(Zu4 c)]
abbrev Zvo:List AV:=[(Zu6 c),(Zu7 t),pv 0 0,pv 1 0,pv 2 0,(Zu9 c t),aa,aa,aa,(Zua c),aa,aa,aa,aa,aa,aa,aa,aa,aa,aa,aa,aa,aa,aa,aa,aa,aa,aa,aa,vB false,aa,aa,aa,aa,aa,aa,aa,aa,aa,aa,aa,aa,aa,aa,aa,aa,aa,aa,aa,aa,(Zuo t),aa,aa,aa,aa,aa,aa,aa,aa,aa,(Zup t),aa,aa,aa,aa,aa,aa,aa,(Zuq t),aa,aa,aa,aa,aa,aa,aa,vB false,aa,aa,aa,aa,aa,aa,aa,aa,aa,aa,aa,aa,aa,aa,aa,aa,aa,aa,(Zur t),aa,aa,aa,aa,aa,aa,aa,aa,aa,aa,(Zus t),aa,aa,aa,aa,aa,aa,aa,aa,aa,vB (decide (((c.Yv.length:Nat):Int)>0))]
abbrev Zvp:SV:=.d (dsl false false (Xb false) (c.Yv.drop 1))
abbrev Zvq:HS:=.live (.box 49 [(Ztv c),(Ztw c),(Ztx c),(Zuu c),(Ztz c),(Zu0 c),(Zu1 c),(Zu2 c),(Zu3 c),(Zvp c)])
abbrev Zvr:List SV:=[(Ztv c),(Ztw c),(Ztx c),(Zty c),(Ztz c),(Zu0 c),(Zu1 c),(Zu2 c),(Zu3 c),(Zvp c)]
abbrev Zvs:List AV:=[(Zu6 c),(Zu7 t),pv 0 0,pv 1 0,pv 2 0,(Zu9 c t),aa,aa,aa,(Zua c),aa,aa,aa,aa,aa,aa,aa,aa,aa,aa,aa,aa,aa,aa,aa,aa,aa,aa,aa,vB false,aa,aa,aa,aa,aa,aa,aa,aa,aa,aa,aa,aa,aa,aa,aa,aa,aa,aa,aa,aa,(Zuo t),aa,aa,aa,aa,aa,aa,aa,aa,aa,(Zup t),aa,aa,aa,aa,aa,aa,aa,(Zuq t),aa,aa,aa,aa,aa,aa,aa,vB false,aa,aa,aa,aa,aa,aa,aa,aa,aa,aa,aa,aa,aa,aa,aa,aa,aa,aa,(Zur t),aa,aa,aa,aa,aa,aa,aa,aa,aa,aa,(Zus t),aa,aa,aa,aa,aa,aa,aa,aa,aa,vB (decide (((c.Yv.length:Nat):Int)>0)),aa,aa,aa,aa,aa,aa,aa,aa,aa,aa,aa,aa,aa,vB false]
abbrev Zvt:List AV:=[(Zu6 c),(Zu7 t),pv 0 0,pv 1 0,pv 2 0,(Zu9 c t),aa,aa,aa,(Zua c),aa,aa,aa,aa,aa,aa,aa,aa,aa,aa,aa,aa,aa,aa,aa,aa,aa,aa,aa,vB false,aa,aa,aa,aa,aa,aa,aa,aa,aa,aa,aa,aa,aa,aa,aa,aa,aa,aa,aa,aa,(Zuo t),aa,aa,aa,aa,aa,aa,aa,aa,aa,(Zup t),aa,aa,aa,aa,aa,aa,aa,(Zuq t),aa,aa,aa,aa,aa,aa,aa,vB false,aa,aa,aa,aa,aa,aa,aa,aa,aa,aa,aa,aa,aa,aa,aa,aa,aa,aa,(Zur t),aa,aa,aa,aa,aa,aa,aa,aa,aa,aa,(Zus t),aa,aa,aa,aa,aa,aa,aa,aa,aa,vB false,aa,aa,aa,aa,aa,aa,aa,aa,aa,aa,aa,aa,aa,vB (decide (((c.Xv.length:Nat):Int)>0))]
abbrev Zvu:SV:=.d (dsl false false (kE false) (c.Xv.drop 1))
abbrev Zvv:HS:=.live (.box 49 [(Ztv c),(Zvu c),(Ztx c),(Zuu c),(Ztz c),(Zu0 c),(Zu1 c),(Zu2 c),(Zu3 c),(Zu4 c)])
abbrev Zvw:List SV:=[(Ztv c),(Zvu c),(Ztx c),(Zty c),(Ztz c),(Zu0 c),(Zu1 c),(Zu2 c),(Zu3 c),(Zu4 c)]
abbrev Zvx:List AV:=[(Zu6 c),(Zu7 t),pv 0 0,pv 1 0,pv 2 0,(Zu9 c t),aa,aa,aa,(Zua c),aa,aa,aa,aa,aa,aa,aa,aa,aa,aa,aa,aa,aa,aa,aa,aa,aa,aa,aa,vB false,aa,aa,aa,aa,aa,aa,aa,aa,aa,aa,aa,aa,aa,aa,aa,aa,aa,aa,aa,aa,(Zuo t),aa,aa,aa,aa,aa,aa,aa,aa,aa,(Zup t),aa,aa,aa,aa,aa,aa,aa,(Zuq t),aa,aa,aa,aa,aa,aa,aa,vB false,aa,aa,aa,aa,aa,aa,aa,aa,aa,aa,aa,aa,aa,aa,aa,aa,aa,aa,(Zur t),aa,aa,aa,aa,aa,aa,aa,aa,aa,aa,(Zus t),aa,aa,aa,aa,aa,aa,aa,aa,aa,vB false,aa,aa,aa,aa,aa,aa,aa,aa,aa,aa,aa,aa,aa,vB false]
end
theorem X0q (c:Wo) (t:Yo) (hb:smT9 c):Holds Tryz.prog 13 ⟨[.tv (.agg [dI c.Xo,.d (dsl false false (kE false) c.Xv),dU c.Xa,.d (dsl false false (X7 false) c.X0),dI c.J6,dI c.Xs.X4,dU c.Xs.Xf,dI c.X1.Xw,dI c.X1.Xn,.d (dsl false false (Xb false) c.Yv)]),.tv (.agg [dI t.Wn,dI t.Wj])],[],.tv (.agg [dI (Yw c t).Xo,.d (dsl false false (kE false) (Yw c t).Xv),dU (Yw c t).Xa,.d (dsl false false (X7 false) (Yw c t).X0),dI (Yw c t).J6,dI (Yw c t).Xs.X4,dU (Yw c t).Xs.Xf,dI (Yw c t).X1.Xw,dI (Yw c t).X1.Xn,.d (dsl false false (Xb false) (Yw c t).Yv)]),[]⟩:=by
 refine Holds.of Tryz.func13 rfl (N:=145) Tryz.ntmps13 rfl fun w0 B0 S0 U0=>?_
 show T _ (Y2 145 0 w0 S0 U0 B0) ⟨[(Zu6 c),(Zu7 t)],[]⟩ _ _
 have hpv:=smT_prev hb (ix9 c.X0 t.Wj)
 obtain ⟨hb1,hb2,hb3,hb4,hb5,hb6,hb7,hb8⟩:=hb
 obtain ⟨hb7a,hb7b⟩:=hb7
 have hjl2:0<c.X0.length→(ix9 c.X0 t.Wj)<c.X0.length:=fun q=>(X63 q).2
 refine sR [] ?_
 refine sR [] ?_
 refine Uu ⟨(Zub c t),(Zuf c t)⟩ ?_ ?_
 ·refine sR [] ?_
  by_cases hq1:((c.X0.length:Nat):Int)>0
  ·have hbd:=X7l (a:=t.Wj) (b:=((c.X0.length:Nat):Int)) (by omega);have hjl:=(X63 (l:=c.X0) (a:=t.Wj) (by omega)).2
   refine cT (dT hq1) ?_
   refine xD [[],[0],[],[2],[2,3],[0,1,2,3,4],[],[6],[6,7],[0,1,2,3,4,5,6,7,8],[],[10],[10,11],[0,1,2,3,4,5,6,7,8,9,10,11,12],[0,1,2,3,4,5,6,7,8,9,10,11,12,13]] [hR 5 rfl rfl (Ye (u1:=.int .i64 t.Wj) (u2:=.int .i64 ((c.X0.length:Nat):Int)) (v:=.int .i64 (Int.tmod t.Wj ((c.X0.length:Nat):Int))) (b_rem (by omega) rfl) (X3 rfl) trivial),hR 9 rfl rfl (Ye (u1:=.int .i64 (Int.tmod t.Wj ((c.X0.length:Nat):Int))) (u2:=.int .i64 ((c.X0.length:Nat):Int)) (v:=.int .i64 ((Int.tmod t.Wj ((c.X0.length:Nat):Int))+((c.X0.length:Nat):Int))) (Wa pa) (X3 rfl) trivial),hR 13 rfl rfl (Ye (u1:=.int .i64 ((Int.tmod t.Wj ((c.X0.length:Nat):Int))+((c.X0.length:Nat):Int))) (u2:=.int .i64 ((c.X0.length:Nat):Int)) (v:=.int .i64 (((Int.tmod t.Wj ((c.X0.length:Nat):Int))+((c.X0.length:Nat):Int)) % ((c.X0.length:Nat):Int))) (b_remP (by omega) ‹_›) (X3 rfl) trivial)] pZ7 pZ7 pZ7 pZ7 pZ7 pZ7 ?_
   refine eN ⟨(Zug c t),(Zuf c t)⟩ ?_
   refine Xc (s':=⟨(Zub c t),(Zuf c t)⟩) (fun _ _ hG=>Yt [0,1,2] (bm 10 575) (t2:=(Zug c t)) (congrArg (fun (q1:Int)=>([(Zu6 c),(Zu7 t),pv 0 0,pv 1 0,pv 2 0,vI q1,aa,aa,aa,(Zua c)]:List AV)) (by exact (X63 (by omega)).1)) rfl hG) ?_
   exact nJ
  refine cF (dF hq1) ?_
  refine T.skip ?_
  refine eN ⟨(Zuh c t),(Zuf c t)⟩ ?_
  refine Xc (s':=⟨(Zub c t),(Zuf c t)⟩) (fun _ _ hG=>Yt [0,1,2] (bm 10 575) (t2:=(Zuh c t)) (by have e1:((((ix9 c.X0 t.Wj):Nat):Int):Int)=0:=(by (rw [ix_09 (by omega)];rfl));have hE:=congrArg (fun (q1:Int)=>([(Zu6 c),(Zu7 t),pv 0 0,pv 1 0,pv 2 0,vI q1,aa,aa,aa,(Zua c)]:List AV)) e1;exact hE) rfl hG) ?_
  exact nJ
 refine sR [hR 0 rfl rfl (Yd 3 69 (X7 false) (Vn false) ([]:List Yf) [] (cs:=[]) Tryz.underlying41 Ja rfl X7i rfl rfl rfl pd W4 pZ7 (V1 pZ7) (X3 rfl) trivial),hR 3 rfl rfl (Yy 3 4 69 48 (X7 false) (Vn false) ([]:List Yf) c.X0 c.X0 ([]:List Yf).length (sy:=((Zty c))) (rhs:=[]) X52 (by omega) (Ji false false (X7 false) c.X0) (by simp) (by (simp [maxLen,-List.getD_eq_getElem?_getD]<;>omega)) (by (simp [maxLen,-List.getD_eq_getElem?_getD]<;>omega)) (X3 rfl) trivial)] ?_
 refine T.seq ?_
 refine T.block ?_
 by_cases hq2:t.Wn=1
 ·refine sR (Xm (hY · (dT hq2)) [4,5,6,7] (hP 8 (dT hq2)::[])) ?_
  by_cases hq3:((c.X0.length:Nat):Int)>0
  ·have hbd:=X7l (a:=t.Wj) (b:=((c.X0.length:Nat):Int)) (by omega);have hjl:=(X63 (l:=c.X0) (a:=t.Wj) (by omega)).2
   refine cT (dT hq3) ?_
   refine xD [[],[0],[],[0,1,2],[],[4],[],[6],[4,5,6,7],[0,1,2,3,4,5,6,7,8],[0,1,2,3,4,5,6,7,8,9],[0,1,2,3,4,5,6,7,8,9,10]] [hR 3 rfl rfl (Xdv (lo0:=4) (sz:=(X7 false).sz) (off:=0) (n:=c.X0.length) (l:=0) (h:=(ix9 c.X0 t.Wj)) (off':=0) (n':=(ix9 c.X0 t.Wj)) (lo:=none) (hi:=some (.tmp 41,(((ix9 c.X0 t.Wj):Nat):Int))) Tryz.underlying41 Ja rfl rfl rfl rfl rfl (by omega) (by omega) (by omega) (by omega) (X3 rfl) trivial),hR 7 rfl rfl (Ye (u1:=.int .i64 (((ix9 c.X0 t.Wj):Nat):Int)) (u2:=.int .i64 1) (v:=.int .i64 (((ix9 c.X0 t.Wj)+1:Nat):Int)) (Wa pa) (X3 rfl) ⟨rfl,trivial⟩),hR 8 rfl rfl (Xdv (lo0:=4) (sz:=(X7 false).sz) (off:=0) (n:=c.X0.length) (l:=((ix9 c.X0 t.Wj)+1)) (h:=c.X0.length) (off':=(ix9 c.X0 t.Wj)+1) (n':=(c.X0.length-((ix9 c.X0 t.Wj)+1))) (lo:=some (.tmp 46,(((ix9 c.X0 t.Wj)+1:Nat):Int))) (hi:=none) Tryz.underlying41 Ja rfl rfl rfl rfl rfl ‹_› (by omega) (by omega) (by omega) (X3 rfl) trivial),hR 9 rfl rfl (Yy 4 5 69 48 (X7 false) (Vn false) c.X0 ((c.X0.take ((ix9 c.X0 t.Wj)+1+c.X0.length-((ix9 c.X0 t.Wj)+1))).drop ((ix9 c.X0 t.Wj)+1)) ((c.X0.take (ix9 c.X0 t.Wj))++((c.X0.take ((ix9 c.X0 t.Wj)+1+c.X0.length-((ix9 c.X0 t.Wj)+1))).drop ((ix9 c.X0 t.Wj)+1))) (ix9 c.X0 t.Wj) (sy:=(.own 4 (X7 false).sz ((Zu8 c t)+1) (c.X0.length-((Zu8 c t)+1)))) (rhs:=[(4,(Zui c))]) X52 (by omega) (src_cut 4 69 (X7 false) c.X0 ((c.X0.take ((ix9 c.X0 t.Wj)+1+c.X0.length-((ix9 c.X0 t.Wj)+1))).drop ((ix9 c.X0 t.Wj)+1)) ((ix9 c.X0 t.Wj)+1) ((ix9 c.X0 t.Wj)+1+c.X0.length-((ix9 c.X0 t.Wj)+1)) (by omega) (by omega) (by rfl) (by (simp [maxLen,-List.getD_eq_getElem?_getD]<;>omega))) rfl (by (simp [maxLen,-List.getD_eq_getElem?_getD]<;>omega)) (by (simp [maxLen,-List.getD_eq_getElem?_getD]<;>omega)) (X3 rfl) trivial)] pZ7 pZ7 pZ7 pZ7 pZ7 pZ7 ?_
   refine nB ?_
   refine nT ?_
   refine sR [] ?_
   refine T.ret ?_
   refine eN (Zul c t) ?_
   refine Xc (s':=⟨(Zuj c t),[.live (.box 49 (Zun c t)),(Zuc t),.live (.box 49 (Zun c t)),.dead,.dead,.dead]⟩) (fun _ _ hG=>Gs.freeze (s:=(Zul c t)) 5 (el:=W6 (X7 false) ((c.X0.take (ix9 c.X0 t.Wj))++((c.X0.take ((ix9 c.X0 t.Wj)+1+c.X0.length-((ix9 c.X0 t.Wj)+1))).drop ((ix9 c.X0 t.Wj)+1)))) (sz:=(X7 false).sz) (n:=((c.X0.take (ix9 c.X0 t.Wj))++((c.X0.take ((ix9 c.X0 t.Wj)+1+c.X0.length-((ix9 c.X0 t.Wj)+1))).drop ((ix9 c.X0 t.Wj)+1))).length) rfl (kk2 (kk4 p2w)) ⟨pp,⟨pc,⟨pp,⟨pc,⟨pc,⟨(.inl ⟨rfl,rfl⟩),trivial⟩⟩⟩⟩⟩⟩ hG) ?_
   exact eX [.c 4 2 49 0 49 [(Ztv c),(Ztw c),(Ztx c),(Zum c t),(Ztz c),(Zu0 c),(Zu1 c),(Zu2 c),(Zu3 c),(Zu4 c)] (.agg (Zun c t))] ⟨⟨rfl,rfl,by kernel_rfl,by kernel_rfl,.inl ⟨10,V2,rfl,Nat.le_of_ble_eq_true rfl⟩⟩,trivial⟩ [] (by have e1:((Yw c t).Xo:Int)=c.Xo:=p1f;have e2:((Yw c t).Xv:List aE)=c.Xv:=p1f;have e3:((Yw c t).Xa:List UInt8)=c.Xa:=p1f;have e4:((Yw c t).X0:List Yf)=(c.X0.take (ix9 c.X0 t.Wj))++((c.X0.take ((ix9 c.X0 t.Wj)+1+c.X0.length-((ix9 c.X0 t.Wj)+1))).drop ((ix9 c.X0 t.Wj)+1)):=(by (have hx9:=trn_1 (c:=c) (t:=t) ‹_› (by omega);rw [hx9];(rw [← cut9 hjl];done)));have e5:((Yw c t).J6:Int)=c.J6:=p1f;have e6:((Yw c t).Xs.X4:Int)=c.Xs.X4:=p1f;have e7:((Yw c t).Xs.Xf:List UInt8)=c.Xs.Xf:=p1f;have e8:((Yw c t).X1.Xw:Int)=c.X1.Xw:=p1f;have e9:((Yw c t).X1.Xn:Int)=c.X1.Xn:=p1f;have e10:((Yw c t).Yv:List Y7)=c.Yv:=p1f;have hE:=congr pZ4 e10;exact hE) trivial
  refine cF (dF hq3) ?_
  refine sR [] ?_
  by_cases hq4:t.Wn=2
  ·exact absurd hq4 (by omega)
  refine cF (dF hq4) ?_
  refine sR [] ?_
  by_cases hq5:t.Wn=3
  ·exact absurd hq5 (by omega)
  refine cF (dF hq5) ?_
  refine sR [] ?_
  by_cases hq6:t.Wn=4
  ·exact absurd hq6 (by omega)
  refine cF (dF hq6) ?_
  by_cases hq7:t.Wn=5
  ·exact absurd hq7 (by omega)
  refine sR (Xm (hN · true (dF hq7)) [4,5,6,7] (hP 8 (dF hq7)::[])) ?_
  refine cF (b:=false) rfl ?_
  refine sR [] ?_
  by_cases hq8:t.Wn=6
  ·exact absurd hq8 (by omega)
  refine cF (dF hq8) ?_
  refine sR [] ?_
  by_cases hq9:t.Wn=7
  ·exact absurd hq9 (by omega)
  refine cF (dF hq9) ?_
  by_cases hq10:t.Wn=8
  ·exact absurd hq10 (by omega)
  refine sR (Xm (hN · true (dF hq10)) [4,5,6,7] (hP 8 (dF hq10)::[])) ?_
  refine cF (b:=false) rfl ?_
  by_cases hq11:t.Wn=9
  ·exact absurd hq11 (by omega)
  have hx9:=Xd8 (c:=c) (t:=t) (by omega) (by omega) (by omega) (by omega) (by omega) (by omega) (by omega) (by omega) (by omega)
  refine sR (Xm (hN · true (dF hq11)) [4,5,6,7] (hP 8 (dF hq11)::[])) ?_
  refine cF (b:=false) rfl ?_
  refine T.skip ?_
  refine nB ?_
  refine nT ?_
  refine sR [] ?_
  refine T.ret ?_
  refine eN ⟨(Zut c t),(Zuw c t)⟩ ?_
  refine Xc (s':=⟨(Zut c t),(Zux c t)⟩) (fun _ _ hG=>Gs.freeze (s:=⟨(Zut c t),(Zuw c t)⟩) 4 (el:=W6 (X7 false) c.X0) (sz:=(X7 false).sz) (n:=c.X0.length) rfl ⟨.inl rfl,(kk2 (Ey p1i))⟩ ⟨pp,⟨pc,⟨pp,⟨pc,⟨(.inl ⟨rfl,rfl⟩),trivial⟩⟩⟩⟩⟩ hG) ?_
  exact eX [.c 4 2 49 0 49 [(Ztv c),(Ztw c),(Ztx c),(Zty c),(Ztz c),(Zu0 c),(Zu1 c),(Zu2 c),(Zu3 c),(Zu4 c)] (.agg (Zu5 c))] ⟨⟨rfl,rfl,by kernel_rfl,by kernel_rfl,.inl ⟨10,V2,rfl,Nat.le_of_ble_eq_true rfl⟩⟩,trivial⟩ [] pr trivial
 refine sR (Xm (hN · true (dF hq2)) [4,5,6,7] (hP 8 (dF hq2)::[])) ?_
 refine cF (b:=false) rfl ?_
 refine sR [] ?_
 by_cases hq12:t.Wn=2
 ·have hx9:=trn_2 (c:=c) hq12
  refine cT (dT hq12) ?_
  refine xK [hR 3 rfl rfl (Ye (u1:=.int .i64 c.X1.Xn) (u2:=.int .i64 1) (v:=.int .i64 (c.X1.Xn+1)) (Wa pa) (X3 rfl) ⟨rfl,trivial⟩)] ?_
  refine nB ?_
  refine nT ?_
  refine sR [] ?_
  refine T.ret ?_
  refine eN ⟨(Zuy c t),[(Zuz c),(Zuc t),(Zuz c),.dead,(Zui c)]⟩ ?_
  refine Xc (s':=⟨(Zuy c t),[.live (.box 49 (Zv0 c)),(Zuc t),.live (.box 49 (Zv0 c)),.dead,.dead]⟩) (fun _ _ hG=>Gs.freeze (s:=⟨(Zuy c t),[(Zuz c),(Zuc t),(Zuz c),.dead,(Zui c)]⟩) 4 (el:=W6 (X7 false) c.X0) (sz:=(X7 false).sz) (n:=c.X0.length) rfl ⟨.inl rfl,(kk2 X5v)⟩ ⟨pp,⟨pc,⟨pp,⟨pc,⟨(.inl ⟨rfl,rfl⟩),trivial⟩⟩⟩⟩⟩ hG) ?_
  exact eX [.c 4 2 49 0 49 [(Ztv c),(Ztw c),(Ztx c),(Zty c),(Ztz c),(Zu0 c),(Zu1 c),(Zu2 c),dI (c.X1.Xn+1),(Zu4 c)] (.agg (Zv0 c))] ⟨⟨rfl,rfl,by kernel_rfl,by kernel_rfl,.inl ⟨10,V2,rfl,Nat.le_of_ble_eq_true rfl⟩⟩,trivial⟩ [] (by have e1:((Yw c t).Xo:Int)=c.Xo:=pj;have e2:((Yw c t).Xv:List aE)=c.Xv:=pj;have e3:((Yw c t).Xa:List UInt8)=c.Xa:=pj;have e4:((Yw c t).X0:List Yf)=c.X0:=pj;have e5:((Yw c t).J6:Int)=c.J6:=pj;have e6:((Yw c t).Xs.X4:Int)=c.Xs.X4:=pj;have e7:((Yw c t).Xs.Xf:List UInt8)=c.Xs.Xf:=pj;have e8:((Yw c t).X1.Xw:Int)=c.X1.Xw:=pj;have e9:((Yw c t).X1.Xn:Int)=c.X1.Xn+1:=pj;have e10:((Yw c t).Yv:List Y7)=c.Yv:=pj;have hE:=congr pZ4 e10;exact hE) trivial
 refine cF (dF hq12) ?_
 refine sR [] ?_
 by_cases hq13:t.Wn=3
 ·have hx9:=trn_3 (c:=c) hq13
  refine cT (dT hq13) ?_
  refine xK [hR 2 rfl rfl (Ye (u1:=.int .i64 c.J6) (u2:=.int .i64 1) (v:=.int .i64 (c.J6+1)) (Wa pa) (X3 rfl) ⟨rfl,trivial⟩)] ?_
  refine nB ?_
  refine nT ?_
  refine sR [] ?_
  refine T.ret ?_
  refine eN ⟨(Zv1 c t),[(Zv2 c),(Zuc t),(Zv2 c),.dead,(Zui c)]⟩ ?_
  refine Xc (s':=⟨(Zv1 c t),[.live (.box 49 (Zv3 c)),(Zuc t),.live (.box 49 (Zv3 c)),.dead,.dead]⟩) (fun _ _ hG=>Gs.freeze (s:=⟨(Zv1 c t),[(Zv2 c),(Zuc t),(Zv2 c),.dead,(Zui c)]⟩) 4 (el:=W6 (X7 false) c.X0) (sz:=(X7 false).sz) (n:=c.X0.length) rfl ⟨.inl rfl,(kk4 (kk8 X5v))⟩ ⟨pp,⟨pc,⟨pp,⟨pc,⟨(.inl ⟨rfl,rfl⟩),trivial⟩⟩⟩⟩⟩ hG) ?_
  exact eX [.c 4 2 49 0 49 [(Ztv c),(Ztw c),(Ztx c),(Zty c),dI (c.J6+1),(Zu0 c),(Zu1 c),(Zu2 c),(Zu3 c),(Zu4 c)] (.agg (Zv3 c))] ⟨⟨rfl,rfl,by kernel_rfl,by kernel_rfl,.inl ⟨10,V2,rfl,Nat.le_of_ble_eq_true rfl⟩⟩,trivial⟩ [] (by have e1:((Yw c t).Xo:Int)=c.Xo:=pj;have e2:((Yw c t).Xv:List aE)=c.Xv:=pj;have e3:((Yw c t).Xa:List UInt8)=c.Xa:=pj;have e4:((Yw c t).X0:List Yf)=c.X0:=pj;have e5:((Yw c t).J6:Int)=c.J6+1:=pj;have e6:((Yw c t).Xs.X4:Int)=c.Xs.X4:=pj;have e7:((Yw c t).Xs.Xf:List UInt8)=c.Xs.Xf:=pj;have e8:((Yw c t).X1.Xw:Int)=c.X1.Xw:=pj;have e9:((Yw c t).X1.Xn:Int)=c.X1.Xn:=pj;have e10:((Yw c t).Yv:List Y7)=c.Yv:=pj;have hE:=congr pZ4 e10;exact hE) trivial
 refine cF (dF hq13) ?_
 refine sR [] ?_
 by_cases hq14:t.Wn=4
 ·have hx9:=trn_4 (c:=c) hq14
  refine cT (dT hq14) ?_
  refine xK [hR 2 rfl rfl (Ye (u1:=.int .i64 c.Xo) (u2:=.int .i64 1) (v:=.int .i64 (c.Xo+1)) (Wa pa) (X3 rfl) ⟨rfl,trivial⟩)] ?_
  refine nB ?_
  refine nT ?_
  refine sR [] ?_
  refine T.ret ?_
  refine eN ⟨(Zv4 c t),[(Zv5 c),(Zuc t),(Zv5 c),.dead,(Zui c)]⟩ ?_
  refine Xc (s':=⟨(Zv4 c t),[.live (.box 49 (Zv6 c)),(Zuc t),.live (.box 49 (Zv6 c)),.dead,.dead]⟩) (fun _ _ hG=>Gs.freeze (s:=⟨(Zv4 c t),[(Zv5 c),(Zuc t),(Zv5 c),.dead,(Zui c)]⟩) 4 (el:=W6 (X7 false) c.X0) (sz:=(X7 false).sz) (n:=c.X0.length) rfl ⟨.inl rfl,(kk4 p4f)⟩ ⟨pp,⟨pc,⟨pp,⟨pc,⟨(.inl ⟨rfl,rfl⟩),trivial⟩⟩⟩⟩⟩ hG) ?_
  exact eX [.c 4 2 49 0 49 [dI (c.Xo+1),(Ztw c),(Ztx c),(Zty c),(Ztz c),(Zu0 c),(Zu1 c),(Zu2 c),(Zu3 c),(Zu4 c)] (.agg (Zv6 c))] ⟨⟨rfl,rfl,by kernel_rfl,by kernel_rfl,.inl ⟨10,V2,rfl,Nat.le_of_ble_eq_true rfl⟩⟩,trivial⟩ [] (by have e1:((Yw c t).Xo:Int)=c.Xo+1:=pj;have e2:((Yw c t).Xv:List aE)=c.Xv:=pj;have e3:((Yw c t).Xa:List UInt8)=c.Xa:=pj;have e4:((Yw c t).X0:List Yf)=c.X0:=pj;have e5:((Yw c t).J6:Int)=c.J6:=pj;have e6:((Yw c t).Xs.X4:Int)=c.Xs.X4:=pj;have e7:((Yw c t).Xs.Xf:List UInt8)=c.Xs.Xf:=pj;have e8:((Yw c t).X1.Xw:Int)=c.X1.Xw:=pj;have e9:((Yw c t).X1.Xn:Int)=c.X1.Xn:=pj;have e10:((Yw c t).Yv:List Y7)=c.Yv:=pj;have hE:=congr pZ4 e10;exact hE) trivial
 refine cF (dF hq14) ?_
 by_cases hq15:t.Wn=5
 ·refine sR (Xm (hY · (dT hq15)) [4,5,6,7] (hP 8 (dT hq15)::[])) ?_
  by_cases hq16:((c.X0.length:Nat):Int)>0
  ·have hbd:=X7l (a:=t.Wj) (b:=((c.X0.length:Nat):Int)) (by omega);have hjl:=(X63 (l:=c.X0) (a:=t.Wj) (by omega)).2
   refine cT (dT hq16) ?_
   refine xR [hR 3 rfl rfl (V9 (k:=.i64) (l:=4) (sz:=(X7 false).sz) (off:=0) (n:=c.X0.length) (i:=(((ix9 c.X0 t.Wj):Nat):Int)) (m:=(ix9 c.X0 t.Wj)) (o':=(ix9 c.X0 t.Wj)*(X7 false).sz+0) Tryz.underlying41 Ja rfl rfl ‹_› (by simp) (X3 rfl) trivial),hR 5 rfl rfl (Ha (l:=4) (off:=(ix9 c.X0 t.Wj)*(X7 false).sz+1) (i:=(ix9 c.X0 t.Wj)) (j:=1) (T:=69) (sz:=(X7 false).sz) (n:=c.X0.length) (el:=W6 (X7 false) c.X0) (c:=.val (Yh (c.X0.getD (Zu8 c t) Xh).Y4)) X2h rfl ‹_› (by decide) rfl (X3 rfl) trivial),hR 6 rfl rfl (Ye (u1:=Yh (c.X0.getD (ix9 c.X0 t.Wj) Xh).Y4) (u2:=Yh [120]) (v:=Yh ((c.X0.getD (ix9 c.X0 t.Wj) Xh).Y4++[120])) (b_addS (a:=(c.X0.getD (ix9 c.X0 t.Wj) Xh).Y4) (b:=[120]) (by (simp [maxLen,-List.getD_eq_getElem?_getD]<;>omega))) (X3 rfl) ⟨rfl,trivial⟩),hR 7 rfl rfl (V9 (k:=.i64) (l:=4) (sz:=(X7 false).sz) (off:=0) (n:=c.X0.length) (i:=(((ix9 c.X0 t.Wj):Nat):Int)) (m:=(ix9 c.X0 t.Wj)) (o':=(ix9 c.X0 t.Wj)*(X7 false).sz+0) Tryz.underlying41 Ja rfl rfl ‹_› (by simp) (X3 rfl) trivial),hR 9 rfl rfl (Fj 4 69 (X7 false) c.X0 (Yf.mk (c.X0.getD (ix9 c.X0 t.Wj) Xh).Xg ((c.X0.getD (ix9 c.X0 t.Wj) Xh).Y4++[120]) (c.X0.getD (ix9 c.X0 t.Wj) Xh).Yg (c.X0.getD (ix9 c.X0 t.Wj) Xh).W2) (ix9 c.X0 t.Wj) 1 1 [.val (Yh ((c.X0.getD (Zu8 c t) Xh).Y4++[120]))] (tv:=.one (dS ((c.X0.getD (Zu8 c t) Xh).Y4++[120]))) (off:=(ix9 c.X0 t.Wj)*(X7 false).sz+1) cells_60 ⟨.inl rfl,trivial⟩ rfl rfl ‹_› (by decide) rfl (by intro j hj;replace hj:j<4:=hj;rcases j with _|_|_|_|j<;>rfl) trivial)] pZ7 pZ7 ?_
   refine nB ?_
   refine nT ?_
   refine tN ⟨(Zv7 c t),[(Zuv c),(Zuc t),Zue,.dead,(Zv9 c t)]⟩ ?_
   refine Wv (s':=⟨(Zv7 c t),[(Zva c t),(Zuc t),Zue,.dead,(Zv9 c t)]⟩) (fun _ _ hG=>Vb [0,1,2,9,4] (bm 77 75854165678498726806079) (h1:=[(Zva c t),(Zuc t),Zue,.dead,(Zv9 c t)]) (h2:=[(Zuv c),(Zuc t),Zue,.dead,(Zv9 c t)]) (t1:=(Zv7 c t)) rfl (by have e1:((c.X0.set (ix9 c.X0 t.Wj) (Yf.mk (c.X0.getD (ix9 c.X0 t.Wj) Xh).Xg ((c.X0.getD (ix9 c.X0 t.Wj) Xh).Y4++[120]) (c.X0.getD (ix9 c.X0 t.Wj) Xh).Yg (c.X0.getD (ix9 c.X0 t.Wj) Xh).W2)).length:Nat)=c.X0.length:=(by (simp only [List.length_append,List.length_take,List.length_drop,List.length_set];done));have hE:=congrArg (fun (q1:Nat)=>([.live (.box 49 [(Ztv c),(Ztw c),(Ztx c),.own 4 (X7 false).sz 0 q1,(Ztz c),(Zu0 c),(Zu1 c),(Zu2 c),(Zu3 c),(Zu4 c)]),(Zuc t),Zue,.dead,(Zv9 c t)]:List HS)) e1;exact hE) hG) ?_
   refine sR [] ?_
   refine T.ret ?_
   refine eN ⟨(Zv7 c t),[(Zva c t),(Zuc t),(Zva c t),.dead,(Zv9 c t)]⟩ ?_
   refine Xc (s':=⟨(Zv7 c t),[.live (.box 49 (Zvb c t)),(Zuc t),.live (.box 49 (Zvb c t)),.dead,.dead]⟩) (fun _ _ hG=>Gs.freeze (s:=⟨(Zv7 c t),[(Zva c t),(Zuc t),(Zva c t),.dead,(Zv9 c t)]⟩) 4 (el:=W6 (X7 false) (c.X0.set (ix9 c.X0 t.Wj) (Yf.mk (c.X0.getD (ix9 c.X0 t.Wj) Xh).Xg ((c.X0.getD (ix9 c.X0 t.Wj) Xh).Y4++[120]) (c.X0.getD (ix9 c.X0 t.Wj) Xh).Yg (c.X0.getD (ix9 c.X0 t.Wj) Xh).W2))) (sz:=(X7 false).sz) (n:=(c.X0.set (ix9 c.X0 t.Wj) (Yf.mk (c.X0.getD (ix9 c.X0 t.Wj) Xh).Xg ((c.X0.getD (ix9 c.X0 t.Wj) Xh).Y4++[120]) (c.X0.getD (ix9 c.X0 t.Wj) Xh).Yg (c.X0.getD (ix9 c.X0 t.Wj) Xh).W2)).length) rfl ⟨.inl rfl,(kk4 (kk8 p4f))⟩ ⟨pp,⟨pc,⟨pp,⟨pc,⟨(.inl ⟨rfl,rfl⟩),trivial⟩⟩⟩⟩⟩ hG) ?_
   exact eX [.c 4 2 49 0 49 [(Ztv c),(Ztw c),(Ztx c),.d (dsl false false (X7 false) (c.X0.set (Zu8 c t) (Zv8 c t))),(Ztz c),(Zu0 c),(Zu1 c),(Zu2 c),(Zu3 c),(Zu4 c)] (.agg (Zvb c t))] ⟨⟨rfl,rfl,by kernel_rfl,by kernel_rfl,.inl ⟨10,V2,rfl,Nat.le_of_ble_eq_true rfl⟩⟩,trivial⟩ [] (by have e1:((Yw c t).Xo:Int)=c.Xo:=p1e;have e2:((Yw c t).Xv:List aE)=c.Xv:=p1e;have e3:((Yw c t).Xa:List UInt8)=c.Xa:=p1e;have e4:((Yw c t).X0:List Yf)=(c.X0.set (ix9 c.X0 t.Wj) (Yf.mk (c.X0.getD (ix9 c.X0 t.Wj) Xh).Xg ((c.X0.getD (ix9 c.X0 t.Wj) Xh).Y4++[120]) (c.X0.getD (ix9 c.X0 t.Wj) Xh).Yg (c.X0.getD (ix9 c.X0 t.Wj) Xh).W2)):=(by (have hx9:=trn_5 (c:=c) (t:=t) ‹_› (by omega);rw [hx9];rfl));have e5:((Yw c t).J6:Int)=c.J6:=p1e;have e6:((Yw c t).Xs.X4:Int)=c.Xs.X4:=p1e;have e7:((Yw c t).Xs.Xf:List UInt8)=c.Xs.Xf:=p1e;have e8:((Yw c t).X1.Xw:Int)=c.X1.Xw:=p1e;have e9:((Yw c t).X1.Xn:Int)=c.X1.Xn:=p1e;have e10:((Yw c t).Yv:List Y7)=c.Yv:=p1e;have hE:=congr pZ4 e10;exact hE) trivial
  refine cF (dF hq16) ?_
  refine sR [] ?_
  by_cases hq17:t.Wn=6
  ·exact absurd hq17 (by omega)
  refine cF (dF hq17) ?_
  refine sR [] ?_
  by_cases hq18:t.Wn=7
  ·exact absurd hq18 (by omega)
  refine cF (dF hq18) ?_
  by_cases hq19:t.Wn=8
  ·exact absurd hq19 (by omega)
  refine sR (Xm (hN · true (dF hq19)) [4,5,6,7] (hP 8 (dF hq19)::[])) ?_
  refine cF (b:=false) rfl ?_
  by_cases hq20:t.Wn=9
  ·exact absurd hq20 (by omega)
  have hx9:=Xd8 (c:=c) (t:=t) (by omega) (by omega) (by omega) (by omega) (by omega) (by omega) (by omega) (by omega) (by omega)
  refine sR (Xm (hN · true (dF hq20)) [4,5,6,7] (hP 8 (dF hq20)::[])) ?_
  refine cF (b:=false) rfl ?_
  refine T.skip ?_
  refine nB ?_
  refine nT ?_
  refine sR [] ?_
  refine T.ret ?_
  refine eN ⟨(Zvc c t),(Zuw c t)⟩ ?_
  refine Xc (s':=⟨(Zvc c t),(Zux c t)⟩) (fun _ _ hG=>Gs.freeze (s:=⟨(Zvc c t),(Zuw c t)⟩) 4 (el:=W6 (X7 false) c.X0) (sz:=(X7 false).sz) (n:=c.X0.length) rfl ⟨.inl rfl,(kk2 (Ey p1i))⟩ ⟨pp,⟨pc,⟨pp,⟨pc,⟨(.inl ⟨rfl,rfl⟩),trivial⟩⟩⟩⟩⟩ hG) ?_
  exact eX [.c 4 2 49 0 49 [(Ztv c),(Ztw c),(Ztx c),(Zty c),(Ztz c),(Zu0 c),(Zu1 c),(Zu2 c),(Zu3 c),(Zu4 c)] (.agg (Zu5 c))] ⟨⟨rfl,rfl,by kernel_rfl,by kernel_rfl,.inl ⟨10,V2,rfl,Nat.le_of_ble_eq_true rfl⟩⟩,trivial⟩ [] pr trivial
 refine sR (Xm (hN · true (dF hq15)) [4,5,6,7] (hP 8 (dF hq15)::[])) ?_
 refine cF (b:=false) rfl ?_
 refine sR [] ?_
 by_cases hq21:t.Wn=6
 ·have hx9:=trn_6 (c:=c) hq21
  refine cT (dT hq21) ?_
  refine xR [hR 0 rfl rfl (Yd 5 5 kU8 Vr ([]:List UInt8) [] (cs:=[]) Tryz.underlying25 Jl rfl Io rfl rfl rfl pd W4 pZ7 (V1 pZ7) (X3 rfl) trivial),hR 3 rfl rfl (Yy 5 6 5 1 kU8 Vr ([]:List UInt8) c.Xa c.Xa ([]:List UInt8).length (sy:=((Ztx c))) (rhs:=[]) Jf (by omega) (Ji false false kU8 c.Xa) (by simp) (by (simp [maxLen,-List.getD_eq_getElem?_getD]<;>omega)) (by (simp [maxLen,-List.getD_eq_getElem?_getD]<;>omega)) (X3 rfl) trivial),hR 4 rfl rfl (Yd 7 5 kU8 Vr [(0:UInt8)] [⟨0,.const (.int .u8 0),.one (.d (.val (.int .u8 0))),0⟩] (cs:=[.d (.val (.int .u8 0))]) Tryz.underlying25 Jl rfl Io rfl rfl rfl pd (Yp rfl rfl pd W4) pZ7 (V1 pZ7) (X3 rfl) ⟨rfl,trivial⟩),hR 5 rfl rfl (Yy 6 8 5 1 kU8 Vr c.Xa [(0:UInt8)] (c.Xa++[(0:UInt8)]) c.Xa.length (sy:=(.own 7 kU8.sz 0 [(0:UInt8)].length)) (rhs:=[(7,Zvd)]) Jf (by omega) (Wu 7 5 kU8 [(0:UInt8)]) Jn (by (simp [maxLen,-List.getD_eq_getElem?_getD]<;>omega)) (by (simp [maxLen,-List.getD_eq_getElem?_getD]<;>omega)) (X3 rfl) trivial)] pZ7 pZ7 ?_
  refine nB ?_
  refine nT ?_
  refine sR [] ?_
  refine T.ret ?_
  refine eN (Zvg c t) ?_
  refine Xc (s':=(Zvj c t)) (fun _ _ hG=>Gs.freeze (s:=(Zvg c t)) 8 (el:=W6 kU8 (c.Xa++[(0:UInt8)])) (sz:=kU8.sz) (n:=(c.Xa++[(0:UInt8)]).length) rfl p1i ⟨p2l,⟨pc,⟨p2l,⟨pc,⟨pc,⟨pc,⟨pc,⟨pc,⟨(.inl ⟨rfl,rfl⟩),trivial⟩⟩⟩⟩⟩⟩⟩⟩⟩ hG) ?_
  refine eN (Zvj c t) ?_
  refine Xc (s':=⟨(Zve c t),[.live (.box 49 (Zvk c)),(Zuc t),.live (.box 49 (Zvk c)),.dead,.dead,.dead,.dead,Zvd,.dead]⟩) (fun _ _ hG=>Gs.freeze (s:=(Zvj c t)) 4 (el:=W6 (X7 false) c.X0) (sz:=(X7 false).sz) (n:=c.X0.length) rfl p1i ⟨pp,⟨pc,⟨pp,⟨pc,⟨(.inl ⟨rfl,rfl⟩),⟨pc,⟨pc,⟨pc,⟨pc,trivial⟩⟩⟩⟩⟩⟩⟩⟩⟩ hG) ?_
  exact eX [.c 4 2 49 0 49 [(Ztv c),(Ztw c),(Zvh c),(Zty c),(Ztz c),(Zu0 c),(Zu1 c),(Zu2 c),(Zu3 c),(Zu4 c)] (.agg (Zvk c))] ⟨⟨rfl,rfl,by kernel_rfl,by kernel_rfl,.inl ⟨10,V2,rfl,Nat.le_of_ble_eq_true rfl⟩⟩,trivial⟩ [] (by have e1:((Yw c t).Xo:Int)=c.Xo:=pj;have e2:((Yw c t).Xv:List aE)=c.Xv:=pj;have e3:((Yw c t).Xa:List UInt8)=c.Xa++[(0:UInt8)]:=pj;have e4:((Yw c t).X0:List Yf)=c.X0:=pj;have e5:((Yw c t).J6:Int)=c.J6:=pj;have e6:((Yw c t).Xs.X4:Int)=c.Xs.X4:=pj;have e7:((Yw c t).Xs.Xf:List UInt8)=c.Xs.Xf:=pj;have e8:((Yw c t).X1.Xw:Int)=c.X1.Xw:=pj;have e9:((Yw c t).X1.Xn:Int)=c.X1.Xn:=pj;have e10:((Yw c t).Yv:List Y7)=c.Yv:=pj;have hE:=congr pZ4 e10;exact hE) trivial
 refine cF (dF hq21) ?_
 refine sR [] ?_
 by_cases hq22:t.Wn=7
 ·have hx9:=trn_7 (c:=c) hq22
  refine cT (dT hq22) ?_
  refine xK [hR 3 rfl rfl (Ye (u1:=.int .i64 c.Xs.X4) (u2:=.int .i64 1) (v:=.int .i64 (c.Xs.X4+1)) (Wa pa) (X3 rfl) ⟨rfl,trivial⟩)] ?_
  refine nB ?_
  refine nT ?_
  refine sR [] ?_
  refine T.ret ?_
  refine eN ⟨(Zvl c t),[(Zvm c),(Zuc t),(Zvm c),.dead,(Zui c)]⟩ ?_
  refine Xc (s':=⟨(Zvl c t),[.live (.box 49 (Zvn c)),(Zuc t),.live (.box 49 (Zvn c)),.dead,.dead]⟩) (fun _ _ hG=>Gs.freeze (s:=⟨(Zvl c t),[(Zvm c),(Zuc t),(Zvm c),.dead,(Zui c)]⟩) 4 (el:=W6 (X7 false) c.X0) (sz:=(X7 false).sz) (n:=c.X0.length) rfl ⟨.inl rfl,(kk2 (kk8 p1i))⟩ ⟨pp,⟨pc,⟨pp,⟨pc,⟨(.inl ⟨rfl,rfl⟩),trivial⟩⟩⟩⟩⟩ hG) ?_
  exact eX [.c 4 2 49 0 49 [(Ztv c),(Ztw c),(Ztx c),(Zty c),(Ztz c),dI (c.Xs.X4+1),(Zu1 c),(Zu2 c),(Zu3 c),(Zu4 c)] (.agg (Zvn c))] ⟨⟨rfl,rfl,by kernel_rfl,by kernel_rfl,.inl ⟨10,V2,rfl,Nat.le_of_ble_eq_true rfl⟩⟩,trivial⟩ [] (by have e1:((Yw c t).Xo:Int)=c.Xo:=pj;have e2:((Yw c t).Xv:List aE)=c.Xv:=pj;have e3:((Yw c t).Xa:List UInt8)=c.Xa:=pj;have e4:((Yw c t).X0:List Yf)=c.X0:=pj;have e5:((Yw c t).J6:Int)=c.J6:=pj;have e6:((Yw c t).Xs.X4:Int)=c.Xs.X4+1:=pj;have e7:((Yw c t).Xs.Xf:List UInt8)=c.Xs.Xf:=pj;have e8:((Yw c t).X1.Xw:Int)=c.X1.Xw:=pj;have e9:((Yw c t).X1.Xn:Int)=c.X1.Xn:=pj;have e10:((Yw c t).Yv:List Y7)=c.Yv:=pj;have hE:=congr pZ4 e10;exact hE) trivial
 refine cF (dF hq22) ?_
 by_cases hq23:t.Wn=8
 ·refine sR (Xm (hY · (dT hq23)) [4,5,6,7] (hP 8 (dT hq23)::[])) ?_
  by_cases hq24:((c.Yv.length:Nat):Int)>0
  ·refine cT (dT hq24) ?_
   refine xK [hR 2 rfl rfl (Ua false false (Xb false) c.Yv (c.Yv.drop 1) 1 c.Yv.length (lo:=some (.const (.int .i64 1),1)) (hi:=none) Tryz.underlying47 J3 rfl rfl rfl rfl rfl (by omega) (by omega) Jn (X3 rfl) ⟨rfl,trivial⟩)] ?_
   refine nB ?_
   refine nT ?_
   refine sR [] ?_
   refine T.ret ?_
   refine eN ⟨(Zvo c t),[(Zvq c),(Zuc t),(Zvq c),.dead,(Zui c)]⟩ ?_
   refine Xc (s':=⟨(Zvo c t),[.live (.box 49 (Zvr c)),(Zuc t),.live (.box 49 (Zvr c)),.dead,.dead]⟩) (fun _ _ hG=>Gs.freeze (s:=⟨(Zvo c t),[(Zvq c),(Zuc t),(Zvq c),.dead,(Zui c)]⟩) 4 (el:=W6 (X7 false) c.X0) (sz:=(X7 false).sz) (n:=c.X0.length) rfl ⟨.inl rfl,(kk4 (Fq p1i))⟩ ⟨pp,⟨pc,⟨pp,⟨pc,⟨(.inl ⟨rfl,rfl⟩),trivial⟩⟩⟩⟩⟩ hG) ?_
   exact eX [.c 4 2 49 0 49 [(Ztv c),(Ztw c),(Ztx c),(Zty c),(Ztz c),(Zu0 c),(Zu1 c),(Zu2 c),(Zu3 c),(Zvp c)] (.agg (Zvr c))] ⟨⟨rfl,rfl,by kernel_rfl,by kernel_rfl,.inl ⟨10,V2,rfl,Nat.le_of_ble_eq_true rfl⟩⟩,trivial⟩ [] (by have e1:((Yw c t).Xo:Int)=c.Xo:=p1b;have e2:((Yw c t).Xv:List aE)=c.Xv:=p1b;have e3:((Yw c t).Xa:List UInt8)=c.Xa:=p1b;have e4:((Yw c t).X0:List Yf)=c.X0:=p1b;have e5:((Yw c t).J6:Int)=c.J6:=p1b;have e6:((Yw c t).Xs.X4:Int)=c.Xs.X4:=p1b;have e7:((Yw c t).Xs.Xf:List UInt8)=c.Xs.Xf:=p1b;have e8:((Yw c t).X1.Xw:Int)=c.X1.Xw:=p1b;have e9:((Yw c t).X1.Xn:Int)=c.X1.Xn:=p1b;have e10:((Yw c t).Yv:List Y7)=(c.Yv.drop 1):=p1b;have hE:=congr pZ4 e10;exact hE) trivial
  refine cF (dF hq24) ?_
  by_cases hq25:t.Wn=9
  ·exact absurd hq25 (by omega)
  have hx9:=Xd8 (c:=c) (t:=t) (by omega) (by omega) (by omega) (by omega) (by omega) (by omega) (by omega) (by omega) (by omega)
  refine sR (Xm (hN · true (dF hq25)) [4,5,6,7] (hP 8 (dF hq25)::[])) ?_
  refine cF (b:=false) rfl ?_
  refine T.skip ?_
  refine nB ?_
  refine nT ?_
  refine sR [] ?_
  refine T.ret ?_
  refine eN ⟨(Zvs c t),(Zuw c t)⟩ ?_
  refine Xc (s':=⟨(Zvs c t),(Zux c t)⟩) (fun _ _ hG=>Gs.freeze (s:=⟨(Zvs c t),(Zuw c t)⟩) 4 (el:=W6 (X7 false) c.X0) (sz:=(X7 false).sz) (n:=c.X0.length) rfl ⟨.inl rfl,(kk2 (Ey p1i))⟩ ⟨pp,⟨pc,⟨pp,⟨pc,⟨(.inl ⟨rfl,rfl⟩),trivial⟩⟩⟩⟩⟩ hG) ?_
  exact eX [.c 4 2 49 0 49 [(Ztv c),(Ztw c),(Ztx c),(Zty c),(Ztz c),(Zu0 c),(Zu1 c),(Zu2 c),(Zu3 c),(Zu4 c)] (.agg (Zu5 c))] ⟨⟨rfl,rfl,by kernel_rfl,by kernel_rfl,.inl ⟨10,V2,rfl,Nat.le_of_ble_eq_true rfl⟩⟩,trivial⟩ [] pr trivial
 refine sR (Xm (hN · true (dF hq23)) [4,5,6,7] (hP 8 (dF hq23)::[])) ?_
 refine cF (b:=false) rfl ?_
 by_cases hq26:t.Wn=9
 ·refine sR (Xm (hY · (dT hq26)) [4,5,6,7] (hP 8 (dT hq26)::[])) ?_
  by_cases hq27:((c.Xv.length:Nat):Int)>0
  ·refine cT (dT hq27) ?_
   refine xK [hR 2 rfl rfl (Ua false false (kE false) c.Xv (c.Xv.drop 1) 1 c.Xv.length (lo:=some (.const (.int .i64 1),1)) (hi:=none) Tryz.underlying37 Vs rfl rfl rfl rfl rfl (by omega) (by omega) Jn (X3 rfl) ⟨rfl,trivial⟩)] ?_
   refine nB ?_
   refine nT ?_
   refine sR [] ?_
   refine T.ret ?_
   refine eN ⟨(Zvt c t),[(Zvv c),(Zuc t),(Zvv c),.dead,(Zui c)]⟩ ?_
   refine Xc (s':=⟨(Zvt c t),[.live (.box 49 (Zvw c)),(Zuc t),.live (.box 49 (Zvw c)),.dead,.dead]⟩) (fun _ _ hG=>Gs.freeze (s:=⟨(Zvt c t),[(Zvv c),(Zuc t),(Zvv c),.dead,(Zui c)]⟩) 4 (el:=W6 (X7 false) c.X0) (sz:=(X7 false).sz) (n:=c.X0.length) rfl ⟨.inl rfl,(kk2 (Ey p1i))⟩ ⟨pp,⟨pc,⟨pp,⟨pc,⟨(.inl ⟨rfl,rfl⟩),trivial⟩⟩⟩⟩⟩ hG) ?_
   exact eX [.c 4 2 49 0 49 [(Ztv c),(Zvu c),(Ztx c),(Zty c),(Ztz c),(Zu0 c),(Zu1 c),(Zu2 c),(Zu3 c),(Zu4 c)] (.agg (Zvw c))] ⟨⟨rfl,rfl,by kernel_rfl,by kernel_rfl,.inl ⟨10,V2,rfl,Nat.le_of_ble_eq_true rfl⟩⟩,trivial⟩ [] (by have e1:((Yw c t).Xo:Int)=c.Xo:=p1a;have e2:((Yw c t).Xv:List aE)=(c.Xv.drop 1):=p1a;have e3:((Yw c t).Xa:List UInt8)=c.Xa:=p1a;have e4:((Yw c t).X0:List Yf)=c.X0:=p1a;have e5:((Yw c t).J6:Int)=c.J6:=p1a;have e6:((Yw c t).Xs.X4:Int)=c.Xs.X4:=p1a;have e7:((Yw c t).Xs.Xf:List UInt8)=c.Xs.Xf:=p1a;have e8:((Yw c t).X1.Xw:Int)=c.X1.Xw:=p1a;have e9:((Yw c t).X1.Xn:Int)=c.X1.Xn:=p1a;have e10:((Yw c t).Yv:List Y7)=c.Yv:=p1a;have hE:=congr pZ4 e10;exact hE) trivial
  refine cF (dF hq27) ?_
  refine T.skip ?_
  refine nB ?_
  refine nT ?_
  refine sR [] ?_
  refine T.ret ?_
  refine eN ⟨(Zvt c t),(Zuw c t)⟩ ?_
  refine Xc (s':=⟨(Zvt c t),(Zux c t)⟩) (fun _ _ hG=>Gs.freeze (s:=⟨(Zvt c t),(Zuw c t)⟩) 4 (el:=W6 (X7 false) c.X0) (sz:=(X7 false).sz) (n:=c.X0.length) rfl ⟨.inl rfl,(kk2 (Ey p1i))⟩ ⟨pp,⟨pc,⟨pp,⟨pc,⟨(.inl ⟨rfl,rfl⟩),trivial⟩⟩⟩⟩⟩ hG) ?_
  exact eX [.c 4 2 49 0 49 [(Ztv c),(Ztw c),(Ztx c),(Zty c),(Ztz c),(Zu0 c),(Zu1 c),(Zu2 c),(Zu3 c),(Zu4 c)] (.agg (Zu5 c))] ⟨⟨rfl,rfl,by kernel_rfl,by kernel_rfl,.inl ⟨10,V2,rfl,Nat.le_of_ble_eq_true rfl⟩⟩,trivial⟩ [] (by have e1:((Yw c t).Xo:Int)=c.Xo:=pn;have e2:((Yw c t).Xv:List aE)=c.Xv:=pn;have e3:((Yw c t).Xa:List UInt8)=c.Xa:=pn;have e4:((Yw c t).X0:List Yf)=c.X0:=pn;have e5:((Yw c t).J6:Int)=c.J6:=pn;have e6:((Yw c t).Xs.X4:Int)=c.Xs.X4:=pn;have e7:((Yw c t).Xs.Xf:List UInt8)=c.Xs.Xf:=pn;have e8:((Yw c t).X1.Xw:Int)=c.X1.Xw:=pn;have e9:((Yw c t).X1.Xn:Int)=c.X1.Xn:=pn;have e10:((Yw c t).Yv:List Y7)=c.Yv:=pn;have hE:=congr pZ4 e10;exact hE) trivial
 have hx9:=Xd8 (c:=c) (t:=t) (by omega) (by omega) (by omega) (by omega) (by omega) (by omega) (by omega) (by omega) (by omega)
 refine sR (Xm (hN · true (dF hq26)) [4,5,6,7] (hP 8 (dF hq26)::[])) ?_
 refine cF (b:=false) rfl ?_
 refine T.skip ?_
 refine nB ?_
 refine nT ?_
 refine sR [] ?_
 refine T.ret ?_
 refine eN ⟨(Zvx c t),(Zuw c t)⟩ ?_
 refine Xc (s':=⟨(Zvx c t),(Zux c t)⟩) (fun _ _ hG=>Gs.freeze (s:=⟨(Zvx c t),(Zuw c t)⟩) 4 (el:=W6 (X7 false) c.X0) (sz:=(X7 false).sz) (n:=c.X0.length) rfl ⟨.inl rfl,(kk2 (Ey p1i))⟩ ⟨pp,⟨pc,⟨pp,⟨pc,⟨(.inl ⟨rfl,rfl⟩),trivial⟩⟩⟩⟩⟩ hG) ?_
 exact eX [.c 4 2 49 0 49 [(Ztv c),(Ztw c),(Ztx c),(Zty c),(Ztz c),(Zu0 c),(Zu1 c),(Zu2 c),(Zu3 c),(Zu4 c)] (.agg (Zu5 c))] ⟨⟨rfl,rfl,by kernel_rfl,by kernel_rfl,.inl ⟨10,V2,rfl,Nat.le_of_ble_eq_true rfl⟩⟩,trivial⟩ [] pr trivial
end Go.Proofs.YtnaopgohccacmaaGreat.Q
