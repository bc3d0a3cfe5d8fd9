import Derived.Test.YtnaopgohccacmaaGreatC19n43
import Derived.SizedLaws
namespace Go.Proofs.YtnaopgohccacmaaGreat.Q
open Go Go.RowKit
set_option linter.unusedVariables false
set_option linter.unusedSimpArgs false
set_option maxRecDepth 100000
set_option maxHeartbeats 4000000
section
variable (c:V4) (t:Yo)
abbrev Ztv:SV:=dI c.Xg
abbrev Ztw:SV:=.d (dsl false false (kE false) c.Xo)
abbrev Ztx:SV:=dU c.Xc
abbrev Zty:SV:=.d (dsl false false (Xm false) c.X4)
abbrev Ztz:SV:=dI c.Ji
abbrev Zu0:SV:=dI c.Y1.X2
abbrev Zu1:SV:=dU c.Y1.X7
abbrev Zu2:SV:=dI c.X0.Xu
abbrev Zu3:SV:=dI c.X0.Xl
abbrev Zu4:SV:=.d (dsl false false (Xz false) c.W4)
abbrev Zu5:List SV:=[(Ztv c),(Ztw c),(Ztx c),(Zty c),(Ztz c),(Zu0 c),(Zu1 c),(Zu2 c),(Zu3 c),(Zu4 c)]
abbrev Zu6:AV:=.tv (.agg (Zu5 c))
abbrev Zu7:AV:=.tv (.agg [dI t.Wu,dI t.Wh])
abbrev Zu8:=(ix9 c.X4 t.Wh)
abbrev Zu9:AV:=vI (((Zu8 c t):Nat):Int)
abbrev Zua:AV:=vB (decide (((c.X4.length:Nat):Int)>0))
abbrev Zub:List AV:=[(Zu6 c),(Zu7 t),pv 0 0,pv 1 0,pv 2 0,(Zu9 c t),aa,aa,aa,(Zua c)]
abbrev Zuc:HS:=.live (.box 29 [dI t.Wu,dI t.Wh])
abbrev Zud:SV:=.d (.val (.slice none 0 0))
abbrev Zue:HS:=.live (.box 49 [dI 0,Zud,Zud,Zud,dI 0,dI 0,Zud,dI 0,dI 0,Zud])
abbrev Zuf:List HS:=[.live (.box 49 (Zu5 c)),(Zuc t),Zue]
abbrev Zug:List AV:=[(Zu6 c),(Zu7 t),pv 0 0,pv 1 0,pv 2 0,vI (((Int.tmod t.Wh ((c.X4.length:Nat):Int))+((c.X4.length:Nat):Int)) % ((c.X4.length:Nat):Int)),aa,aa,aa,(Zua c)]
abbrev Zuh:List AV:=[(Zu6 c),(Zu7 t),pv 0 0,pv 1 0,pv 2 0,vI 0,aa,aa,aa,(Zua c)]
abbrev Zui:List SV:=[dI (Yw c t).Xg,.d (dsl false false (kE false) (Yw c t).Xo),dU (Yw c t).Xc,.d (dsl false false (Xm false) (Yw c t).X4),dI (Yw c t).Ji,dI (Yw c t).Y1.X2,dU (Yw c t).Y1.X7,dI (Yw c t).X0.Xu,dI (Yw c t).X0.Xl,.d (dsl false false (Xz false) (Yw c t).W4)]
abbrev Zuj:List HS:=[.live (.box 49 (Zui c t)),Zue]
abbrev Zuk:St:=⟨[aa,aa,pv 0 0,aa,pv 1 0],(Zuj c t)⟩
abbrev Zul:HS:=.live (Xf 69 (Xm false) c.X4)
abbrev Zum:List HS:=[.live (.box 49 [(Ztv c),(Ztw c),(Ztx c),.own 5 (Xm false).sz 0 ((c.X4.take (Zu8 c t))++((c.X4.take ((Zu8 c t)+1+c.X4.length-((Zu8 c t)+1))).drop ((Zu8 c t)+1))).length,(Ztz c),(Zu0 c),(Zu1 c),(Zu2 c),(Zu3 c),(Zu4 c)]),(Zuc t),Zue,.dead,.dead,.live (Xf 69 (Xm false) ((c.X4.take (Zu8 c t))++((c.X4.take ((Zu8 c t)+1+c.X4.length-((Zu8 c t)+1))).drop ((Zu8 c t)+1))))]
abbrev Zun:List AV:=[aa,aa,pv 0 0,aa,pv 2 0]
abbrev Zuo:HS:=.live (.box 49 [(Ztv c),(Ztw c),(Ztx c),.d (dsl false false (Xm false) ((c.X4.take (Zu8 c t))++((c.X4.take ((Zu8 c t)+1+c.X4.length-((Zu8 c t)+1))).drop ((Zu8 c t)+1)))),(Ztz c),(Zu0 c),(Zu1 c),(Zu2 c),(Zu3 c),(Zu4 c)])
abbrev Zup:AV:=vB (decide (t.Wu=2))
abbrev Zuq:AV:=vB (decide (t.Wu=3))
abbrev Zur:AV:=vB (decide (t.Wu=4))
abbrev Zus:AV:=vB (decide (t.Wu=6))
abbrev Zut:AV:=vB (decide (t.Wu=7))
abbrev Zuu:SV:=.own 4 (Xm false).sz 0 c.X4.length
abbrev Zuv:HS:=.live (.box 49 [(Ztv c),(Ztw c),(Ztx c),(Zuu c),(Ztz c),(Zu0 c),(Zu1 c),(Zu2 c),(Zu3 c),(Zu4 c)])
abbrev Zuw:List HS:=[(Zuv c),(Zuc t),Zue,.dead,(Zul c)]
abbrev Zux:St:=⟨Zun,(Zuw c t)⟩
abbrev Zuy:St:=⟨Zun,[.live (.box 49 (Zu5 c)),(Zuc t),Zue,.dead,.dead]⟩
abbrev Zuz:List HS:=[.live (.box 49 (Zu5 c)),Zue]
abbrev Zv0:List HS:=[.live (.box 49 [(Ztv c),(Ztw c),(Ztx c),(Zuu c),(Ztz c),(Zu0 c),(Zu1 c),(Zu2 c),dI (c.X0.Xl+1),(Zu4 c)]),(Zuc t),Zue,.dead,(Zul c)]
abbrev Zv1:HS:=.live (.box 49 [(Ztv c),(Ztw c),(Ztx c),(Zty c),(Ztz c),(Zu0 c),(Zu1 c),(Zu2 c),dI (c.X0.Xl+1),(Zu4 c)])
abbrev Zv2:List HS:=[.live (.box 49 [(Ztv c),(Ztw c),(Ztx c),(Zuu c),dI (c.Ji+1),(Zu0 c),(Zu1 c),(Zu2 c),(Zu3 c),(Zu4 c)]),(Zuc t),Zue,.dead,(Zul c)]
abbrev Zv3:HS:=.live (.box 49 [(Ztv c),(Ztw c),(Ztx c),(Zty c),dI (c.Ji+1),(Zu0 c),(Zu1 c),(Zu2 c),(Zu3 c),(Zu4 c)])
abbrev Zv4:List HS:=[.live (.box 49 [dI (c.Xg+1),(Ztw c),(Ztx c),(Zuu c),(Ztz c),(Zu0 c),(Zu1 c),(Zu2 c),(Zu3 c),(Zu4 c)]),(Zuc t),Zue,.dead,(Zul c)]
abbrev Zv5:HS:=.live (.box 49 [dI (c.Xg+1),(Ztw c),(Ztx c),(Zty c),(Ztz c),(Zu0 c),(Zu1 c),(Zu2 c),(Zu3 c),(Zu4 c)])
abbrev Zv6:=(Yh.mk (c.X4.getD (Zu8 c t) Y2).Xq ((c.X4.getD (Zu8 c t) Y2).Y9++[120]) (c.X4.getD (Zu8 c t) Y2).Yl (c.X4.getD (Zu8 c t) Y2).Wf)
abbrev Zv7:HS:=.live (Xf 69 (Xm false) (c.X4.set (Zu8 c t) (Zv6 c t)))
abbrev Zv8:List HS:=[(Zuv c),(Zuc t),Zue,.dead,(Zv7 c t)]
abbrev Zv9:List HS:=[.live (.box 49 [(Ztv c),(Ztw c),(Ztx c),.own 4 (Xm false).sz 0 (c.X4.set (Zu8 c t) (Zv6 c t)).length,(Ztz c),(Zu0 c),(Zu1 c),(Zu2 c),(Zu3 c),(Zu4 c)]),(Zuc t),Zue,.dead,(Zv7 c t)]
abbrev Zva:HS:=.live (.box 49 [(Ztv c),(Ztw c),(Ztx c),.d (dsl false false (Xm false) (c.X4.set (Zu8 c t) (Zv6 c t))),(Ztz c),(Zu0 c),(Zu1 c),(Zu2 c),(Zu3 c),(Zu4 c)])
abbrev Zvb:HS:=.live (Xf 5 kU8 [(0:UInt8)])
abbrev Zvc:List HS:=[.live (.box 49 [(Ztv c),(Ztw c),.own 8 kU8.sz 0 (c.Xc++[(0:UInt8)]).length,(Zuu c),(Ztz c),(Zu0 c),(Zu1 c),(Zu2 c),(Zu3 c),(Zu4 c)]),(Zuc t),Zue,.dead,(Zul c),.dead,.dead,Zvb,.live (Xf 5 kU8 (c.Xc++[(0:UInt8)]))]
abbrev Zvd:St:=⟨Zun,[.live (.box 49 [(Ztv c),(Ztw c),dU (c.Xc++[(0:UInt8)]),(Zuu c),(Ztz c),(Zu0 c),(Zu1 c),(Zu2 c),(Zu3 c),(Zu4 c)]),(Zuc t),Zue,.dead,(Zul c),.dead,.dead,Zvb,.dead]⟩
abbrev Zve:HS:=.live (.box 49 [(Ztv c),(Ztw c),dU (c.Xc++[(0:UInt8)]),(Zty c),(Ztz c),(Zu0 c),(Zu1 c),(Zu2 c),(Zu3 c),(Zu4 c)])
abbrev Zvf:List HS:=[.live (.box 49 [(Ztv c),(Ztw c),(Ztx c),(Zuu c),(Ztz c),dI (c.Y1.X2+1),(Zu1 c),(Zu2 c),(Zu3 c),(Zu4 c)]),(Zuc t),Zue,.dead,(Zul c)]
abbrev Zvg:HS:=.live (.box 49 [(Ztv c),(Ztw c),(Ztx c),(Zty c),(Ztz c),dI (c.Y1.X2+1),(Zu1 c),(Zu2 c),(Zu3 c),(Zu4 c)])
abbrev Zvh:List HS:=[.live (.box 49 [(Ztv c),(Ztw c),(Ztx c),(Zuu c),(Ztz c),(Zu0 c),(Zu1 c),(Zu2 c),(Zu3 c),.d (dsl false false (Xz false) (c.W4.drop 1))]),(Zuc t),Zue,.dead,(Zul c)]
abbrev Zvi:HS:=.live (.box 49 [(Ztv c),(Ztw c),(Ztx c),(Zty c),(Ztz c),(Zu0 c),(Zu1 c),(Zu2 c),(Zu3 c),.d (dsl false false (Xz false) (c.W4.drop 1))])
abbrev Zvj:List AV:=[(Zu6 c),(Zu7 t),pv 0 0,pv 1 0,pv 2 0,(Zu9 c t),aa,aa,aa,(Zua c),aa,aa,aa,aa,aa,aa,aa,aa,aa,aa,aa,aa,aa,aa,aa,aa,aa,aa,aa,vB false,aa,aa,aa,aa,aa,aa,aa,aa,aa,aa,aa,aa,aa,aa,aa,aa,aa,aa,aa,aa,(Zup t),aa,aa,aa,aa,aa,aa,aa,aa,aa,(Zuq t),aa,aa,aa,aa,aa,aa,aa,(Zur t),aa,aa,aa,aa,aa,aa,aa,vB false,aa,aa,aa,aa,aa,aa,aa,aa,aa,aa,aa,aa,aa,aa,aa,aa,aa,aa,(Zus t),aa,aa,aa,aa,aa,aa,aa,aa,aa,aa,(Zut t),aa,aa,aa,aa,aa,aa,aa,aa,aa,vB false,aa,aa,aa,aa,aa,aa,aa,aa,aa,aa,aa,aa,aa,vB (decide (((c.Xo.length:Nat):Int)>0))]
abbrev Zvk:List HS:=[.live (.box 49 [(Ztv c),.d (dsl false false (kE false) (c.Xo.drop 1)),(Ztx c),(Zuu c),(Ztz c),(Zu0 c),(Zu1 c),(Zu2 c),(Zu3 c),(Zu4 c)]),(Zuc t),Zue,.dead,(Zul c)]
abbrev Zvl:HS:=.live (.box 49 [(Ztv c),.d (dsl false false (kE false) (c.Xo.drop 1)),(Ztx c),(Zty c),(Ztz c),(Zu0 c),(Zu1 c),(Zu2 c),(Zu3 c),(Zu4 c)])
end
theorem X40 (c:V4) (t:Yo) (hb:smT9 c):Holds Tryz.prog 13 ⟨[.tv (.agg [dI c.Xg,.d (dsl false false (kE false) c.Xo),dU c.Xc,.d (dsl false false (Xm false) c.X4),dI c.Ji,dI c.Y1.X2,dU c.Y1.X7,dI c.X0.Xu,dI c.X0.Xl,.d (dsl false false (Xz false) c.W4)]),.tv (.agg [dI t.Wu,dI t.Wh])],[],.tv (.agg [dI (Yw c t).Xg,.d (dsl false false (kE false) (Yw c t).Xo),dU (Yw c t).Xc,.d (dsl false false (Xm false) (Yw c t).X4),dI (Yw c t).Ji,dI (Yw c t).Y1.X2,dU (Yw c t).Y1.X7,dI (Yw c t).X0.Xu,dI (Yw c t).X0.Xl,.d (dsl false false (Xz false) (Yw c t).W4)]),[]⟩:=by
 refine Holds.of Tryz.func13 rfl (N:=145) Tryz.ntmps13 rfl fun w0 B0 S0 U0=>?_
 show T _ (Y5 145 0 w0 S0 U0 B0) ⟨[(Zu6 c),(Zu7 t)],[]⟩ _ _
 have hpv:=smT_prev hb (ix9 c.X4 t.Wh)
 obtain ⟨hb1,hb2,hb3,hb4,hb5,hb6,hb7,hb8⟩:=hb
 obtain ⟨hb7a,hb7b⟩:=hb7
 have hjl2:0<c.X4.length→(ix9 c.X4 t.Wh)<c.X4.length:=fun q=>(X67 q).2
 refine sR [] (sR [] ?_)
 refine Uk ⟨(Zub c t),(Zuf c t)⟩ ?_ ?_
 ·refine sR [] ?_
  by_cases hq1:((c.X4.length:Nat):Int)>0
  ·have hbd:=X7m (a:=t.Wh) (b:=((c.X4.length:Nat):Int)) (by omega);have hjl:=(X67 (l:=c.X4) (a:=t.Wh) (by omega)).2
   refine cT (dT hq1) ?_
   refine xD [[],[0],[],[2],[2,3],[0,1,2,3,4],[],[6],[6,7],[0,1,2,3,4,5,6,7,8],[],[10],[10,11],[0,1,2,3,4,5,6,7,8,9,10,11,12],[0,1,2,3,4,5,6,7,8,9,10,11,12,13]] [hR 5 rfl rfl (Yg (u1:=.int .i64 t.Wh) (u2:=.int .i64 ((c.X4.length:Nat):Int)) (v:=.int .i64 (Int.tmod t.Wh ((c.X4.length:Nat):Int))) (Xfu (by omega) rfl) (X3 rfl) trivial),hR 9 rfl rfl (Yg (u1:=.int .i64 (Int.tmod t.Wh ((c.X4.length:Nat):Int))) (u2:=.int .i64 ((c.X4.length:Nat):Int)) (v:=.int .i64 ((Int.tmod t.Wh ((c.X4.length:Nat):Int))+((c.X4.length:Nat):Int))) (W8 pb) (X3 rfl) trivial),hR 13 rfl rfl (Yg (u1:=.int .i64 ((Int.tmod t.Wh ((c.X4.length:Nat):Int))+((c.X4.length:Nat):Int))) (u2:=.int .i64 ((c.X4.length:Nat):Int)) (v:=.int .i64 (((Int.tmod t.Wh ((c.X4.length:Nat):Int))+((c.X4.length:Nat):Int)) % ((c.X4.length:Nat):Int))) (X6g (by omega) ‹_›) (X3 rfl) trivial)] pZ8 pZ8 pZ8 pZ8 pZ8 pZ8 ?_
   refine eN ⟨(Zug c t),(Zuf c t)⟩ ?_
   refine X8 (s':=⟨(Zub c t),(Zuf c t)⟩) (fun _ _ hG=>Yp [0,1,2] (bm 10 575) (t2:=(Zug c t)) (congrArg (fun (q1:Int)=>([(Zu6 c),(Zu7 t),pv 0 0,pv 1 0,pv 2 0,vI q1,aa,aa,aa,(Zua c)]:List AV)) (by exact (X67 (by omega)).1)) rfl hG) ?_
   exact nJ
  refine cF (dF hq1) (T.skip ?_)
  refine eN ⟨(Zuh c t),(Zuf c t)⟩ ?_
  refine X8 (s':=⟨(Zub c t),(Zuf c t)⟩) (fun _ _ hG=>Yp [0,1,2] (bm 10 575) (t2:=(Zuh c t)) (by have e1:((((ix9 c.X4 t.Wh):Nat):Int):Int)=0:=(by (rw [ix_09 (by omega)];rfl));have hE:=congrArg (fun (q1:Int)=>([(Zu6 c),(Zu7 t),pv 0 0,pv 1 0,pv 2 0,vI q1,aa,aa,aa,(Zua c)]:List AV)) e1;exact hE) rfl hG) ?_
  exact nJ
 refine sR [hR 0 rfl rfl (Ye 3 69 (Xm false) (Ui false) ([]:List Yh) [] (cs:=[]) Tryz.underlying41 H1 rfl Xc1 rfl rfl rfl pd W5 pZ8 (V6 pZ8) (X3 rfl) trivial),hR 3 rfl rfl (W0 3 4 69 48 (Xm false) (Ui false) ([]:List Yh) c.X4 c.X4 ([]:List Yh).length (sy:=((Zty c))) (rhs:=[]) X80 (by omega) (Jc false false (Xm false) c.X4) (by simp) (by (simp [maxLen,-List.getD_eq_getElem?_getD]<;>omega)) (by (simp [maxLen,-List.getD_eq_getElem?_getD]<;>omega)) (X3 rfl) trivial)] ?_
 refine Uk (Zuk c t) ?_ ?_
 ·refine T.block ?_
  by_cases hq2:t.Wu=1
  ·refine sR (Xr (hY · (dT hq2)) [4,5,6,7] (hP 8 (dT hq2)::[])) ?_
   by_cases hq3:((c.X4.length:Nat):Int)>0
   ·have hbd:=X7m (a:=t.Wh) (b:=((c.X4.length:Nat):Int)) (by omega);have hjl:=(X67 (l:=c.X4) (a:=t.Wh) (by omega)).2
    refine cT (dT hq3) ?_
    refine xD [[],[0],[],[0,1,2],[],[4],[],[6],[4,5,6,7],[0,1,2,3,4,5,6,7,8],[0,1,2,3,4,5,6,7,8,9],[0,1,2,3,4,5,6,7,8,9,10]] [hR 3 rfl rfl (Xe6 (lo0:=4) (sz:=(Xm false).sz) (off:=0) (n:=c.X4.length) (l:=0) (h:=(ix9 c.X4 t.Wh)) (off':=0) (n':=(ix9 c.X4 t.Wh)) (lo:=none) (hi:=some (.tmp 41,(((ix9 c.X4 t.Wh):Nat):Int))) Tryz.underlying41 H1 rfl rfl rfl rfl rfl (by omega) (by omega) (by omega) (by omega) (X3 rfl) trivial),hR 7 rfl rfl (Yg (u1:=.int .i64 (((ix9 c.X4 t.Wh):Nat):Int)) (u2:=.int .i64 1) (v:=.int .i64 (((ix9 c.X4 t.Wh)+1:Nat):Int)) (W8 pb) (X3 rfl) ⟨rfl,trivial⟩),hR 8 rfl rfl (Xe6 (lo0:=4) (sz:=(Xm false).sz) (off:=0) (n:=c.X4.length) (l:=((ix9 c.X4 t.Wh)+1)) (h:=c.X4.length) (off':=(ix9 c.X4 t.Wh)+1) (n':=(c.X4.length-((ix9 c.X4 t.Wh)+1))) (lo:=some (.tmp 46,(((ix9 c.X4 t.Wh)+1:Nat):Int))) (hi:=none) Tryz.underlying41 H1 rfl rfl rfl rfl rfl ‹_› (by omega) (by omega) (by omega) (X3 rfl) trivial),hR 9 rfl rfl (W0 4 5 69 48 (Xm false) (Ui false) c.X4 ((c.X4.take ((ix9 c.X4 t.Wh)+1+c.X4.length-((ix9 c.X4 t.Wh)+1))).drop ((ix9 c.X4 t.Wh)+1)) ((c.X4.take (ix9 c.X4 t.Wh))++((c.X4.take ((ix9 c.X4 t.Wh)+1+c.X4.length-((ix9 c.X4 t.Wh)+1))).drop ((ix9 c.X4 t.Wh)+1))) (ix9 c.X4 t.Wh) (sy:=(.own 4 (Xm false).sz ((Zu8 c t)+1) (c.X4.length-((Zu8 c t)+1)))) (rhs:=[(4,(Zul c))]) X80 (by omega) (src_cut 4 69 (Xm false) c.X4 ((c.X4.take ((ix9 c.X4 t.Wh)+1+c.X4.length-((ix9 c.X4 t.Wh)+1))).drop ((ix9 c.X4 t.Wh)+1)) ((ix9 c.X4 t.Wh)+1) ((ix9 c.X4 t.Wh)+1+c.X4.length-((ix9 c.X4 t.Wh)+1)) (by omega) (by omega) (by rfl) (by (simp [maxLen,-List.getD_eq_getElem?_getD]<;>omega))) rfl (by (simp [maxLen,-List.getD_eq_getElem?_getD]<;>omega)) (by (simp [maxLen,-List.getD_eq_getElem?_getD]<;>omega)) (X3 rfl) trivial)] pZ8 pZ8 pZ8 pZ8 pZ8 pZ8 ?_
    refine nB ?_
    refine eN ⟨[(Zu6 c),(Zu7 t),pv 0 0,pv 1 0,pv 2 0,(Zu9 c t),aa,aa,aa,(Zua c),aa,aa,aa,aa,aa,aa,aa,aa,aa,aa,aa,aa,aa,aa,aa,aa,aa,aa,aa,(Zua c)],(Zum c t)⟩ ?_
    refine X8 (s':=⟨Zun,(Zum c t)⟩) (fun _ _ hG=>Wi [0,1,2,10,15,5] (bm 5 20) (t1:=Zun) (h1:=(Zum c t)) rfl rfl hG) ?_
    refine X8 (s':=⟨Zun,[(Zuo c t),(Zuc t),Zue,.dead,.dead,.dead]⟩) (fun _ _ hG=>Gs.freeze (s:=⟨Zun,(Zum c t)⟩) 5 (el:=W6 (Xm false) ((c.X4.take (ix9 c.X4 t.Wh))++((c.X4.take ((ix9 c.X4 t.Wh)+1+c.X4.length-((ix9 c.X4 t.Wh)+1))).drop ((ix9 c.X4 t.Wh)+1)))) (sz:=(Xm false).sz) (n:=((c.X4.take (ix9 c.X4 t.Wh))++((c.X4.take ((ix9 c.X4 t.Wh)+1+c.X4.length-((ix9 c.X4 t.Wh)+1))).drop ((ix9 c.X4 t.Wh)+1))).length) rfl ⟨.inl rfl,(kk4 trivial)⟩ ⟨pr,⟨pZ5,⟨pZ5,⟨pZ5,⟨pZ5,⟨(.inl ⟨rfl,rfl⟩),trivial⟩⟩⟩⟩⟩⟩ hG) ?_
    have hx9:=trn_1 (c:=c) (t:=t) (by omega) (by omega)
    refine X8 (s':=(Zuk c t)) (fun _ _ hG=>Wi [0,2] (bm 5 20) (h1:=(Zuj c t)) (h2:=[(Zuo c t),Zue]) (t1:=Zun) rfl (by have e1:((Yw c t).Xg:Int)=c.Xg:=pe;have e2:((Yw c t).Xo:List aE)=c.Xo:=pe;have e3:((Yw c t).Xc:List UInt8)=c.Xc:=pe;have e4:((Yw c t).X4:List Yh)=(c.X4.take (ix9 c.X4 t.Wh))++((c.X4.take ((ix9 c.X4 t.Wh)+1+c.X4.length-((ix9 c.X4 t.Wh)+1))).drop ((ix9 c.X4 t.Wh)+1)):=(by (rw [hx9,← cut9 hjl];done));have e5:((Yw c t).Ji:Int)=c.Ji:=pe;have e6:((Yw c t).Y1.X2:Int)=c.Y1.X2:=pe;have e7:((Yw c t).Y1.X7:List UInt8)=c.Y1.X7:=pe;have e8:((Yw c t).X0.Xu:Int)=c.X0.Xu:=pe;have e9:((Yw c t).X0.Xl:Int)=c.X0.Xl:=pe;have e10:((Yw c t).W4:List Yn)=c.W4:=pe;have hE:=congr pZ4 e10;exact hE) hG) ?_
    exact nJ
   refine cF (dF hq3) (sR [] ?_)
   by_cases hq4:t.Wu=2
   ·exact absurd hq4 (by omega)
   refine cF (dF hq4) (sR [] ?_)
   by_cases hq5:t.Wu=3
   ·exact absurd hq5 (by omega)
   refine cF (dF hq5) (sR [] ?_)
   by_cases hq6:t.Wu=4
   ·exact absurd hq6 (by omega)
   refine cF (dF hq6) ?_
   by_cases hq7:t.Wu=5
   ·exact absurd hq7 (by omega)
   refine sR (Xr (hN · true (dF hq7)) [4,5,6,7] (hP 8 (dF hq7)::[])) (cF (b:=false) rfl (sR [] ?_))
   by_cases hq8:t.Wu=6
   ·exact absurd hq8 (by omega)
   refine cF (dF hq8) (sR [] ?_)
   by_cases hq9:t.Wu=7
   ·exact absurd hq9 (by omega)
   refine cF (dF hq9) ?_
   by_cases hq10:t.Wu=8
   ·exact absurd hq10 (by omega)
   refine sR (Xr (hN · true (dF hq10)) [4,5,6,7] (hP 8 (dF hq10)::[])) (cF (b:=false) rfl ?_)
   by_cases hq11:t.Wu=9
   ·exact absurd hq11 (by omega)
   refine sR (Xr (hN · true (dF hq11)) [4,5,6,7] (hP 8 (dF hq11)::[])) (cF (b:=false) rfl (T.skip (nB ?_)))
   refine eN ⟨[(Zu6 c),(Zu7 t),pv 0 0,pv 1 0,pv 2 0,(Zu9 c t),aa,aa,aa,(Zua c),aa,aa,aa,aa,aa,aa,aa,aa,aa,aa,aa,aa,aa,aa,aa,aa,aa,aa,aa,(Zua c),aa,aa,aa,aa,aa,aa,aa,aa,aa,aa,aa,aa,aa,aa,aa,aa,aa,aa,aa,aa,(Zup t),aa,aa,aa,aa,aa,aa,aa,aa,aa,(Zuq t),aa,aa,aa,aa,aa,aa,aa,(Zur t),aa,aa,aa,aa,aa,aa,aa,vB false,aa,aa,aa,aa,aa,aa,aa,aa,aa,aa,aa,aa,aa,aa,aa,aa,aa,aa,(Zus t),aa,aa,aa,aa,aa,aa,aa,aa,aa,aa,(Zut t),aa,aa,aa,aa,aa,aa,aa,aa,aa,vB false,aa,aa,aa,aa,aa,aa,aa,aa,aa,aa,aa,aa,aa,vB false],(Zuw c t)⟩ ?_
   refine X8 (s':=(Zux c t)) (fun _ _ hG=>Wi [0,1,2,9,4] (bm 5 20) (t1:=Zun) (h1:=(Zuw c t)) rfl rfl hG) ?_
   refine X8 (s':=(Zuy c t)) (fun _ _ hG=>Gs.freeze (s:=(Zux c t)) 4 (el:=W6 (Xm false) c.X4) (sz:=(Xm false).sz) (n:=c.X4.length) rfl ⟨.inl rfl,(kk4 trivial)⟩ ⟨pr,⟨pZ5,⟨pZ5,⟨pZ5,⟨(.inl ⟨rfl,rfl⟩),trivial⟩⟩⟩⟩⟩ hG) ?_
   have hx9:=Xdj (c:=c) (t:=t) (by omega) (by omega) (by omega) (by omega) (by omega) (by omega) (by omega) (by omega) (by omega)
   refine X8 (s':=(Zuk c t)) (fun _ _ hG=>Wi [0,2] (bm 5 20) (h1:=(Zuj c t)) (h2:=(Zuz c)) (t1:=Zun) rfl pp hG) ?_
   exact nJ
  refine sR (Xr (hN · true (dF hq2)) [4,5,6,7] (hP 8 (dF hq2)::[])) (cF (b:=false) rfl (sR [] ?_))
  by_cases hq12:t.Wu=2
  ·refine cT (dT hq12) (xK [hR 3 rfl rfl (Yg (u1:=.int .i64 c.X0.Xl) (u2:=.int .i64 1) (v:=.int .i64 (c.X0.Xl+1)) (W8 pb) (X3 rfl) ⟨rfl,trivial⟩)] (nB ?_))
   refine eN ⟨[(Zu6 c),(Zu7 t),pv 0 0,pv 1 0,pv 2 0,(Zu9 c t),aa,aa,aa,(Zua c),aa,aa,aa,aa,aa,aa,aa,aa,aa,aa,aa,aa,aa,aa,aa,aa,aa,aa,aa,vB false,aa,aa,aa,aa,aa,aa,aa,aa,aa,aa,aa,aa,aa,aa,aa,aa,aa,aa,aa,aa,(Zup t)],(Zv0 c t)⟩ ?_
   refine X8 (s':=⟨Zun,(Zv0 c t)⟩) (fun _ _ hG=>Wi [0,1,2,9,4] (bm 5 20) (t1:=Zun) (h1:=(Zv0 c t)) rfl rfl hG) ?_
   refine X8 (s':=⟨Zun,[(Zv1 c),(Zuc t),Zue,.dead,.dead]⟩) (fun _ _ hG=>Gs.freeze (s:=⟨Zun,(Zv0 c t)⟩) 4 (el:=W6 (Xm false) c.X4) (sz:=(Xm false).sz) (n:=c.X4.length) rfl ⟨.inl rfl,(kk4 trivial)⟩ ⟨pr,⟨pZ5,⟨pZ5,⟨pZ5,⟨(.inl ⟨rfl,rfl⟩),trivial⟩⟩⟩⟩⟩ hG) ?_
   have hx9:=trn_2 (c:=c) (t:=t) (by omega)
   refine X8 (s':=(Zuk c t)) (fun _ _ hG=>Wi [0,2] (bm 5 20) (h1:=(Zuj c t)) (h2:=[(Zv1 c),Zue]) (t1:=Zun) rfl (by have e1:((Yw c t).Xg:Int)=c.Xg:=pe;have e2:((Yw c t).Xo:List aE)=c.Xo:=pe;have e3:((Yw c t).Xc:List UInt8)=c.Xc:=pe;have e4:((Yw c t).X4:List Yh)=c.X4:=pe;have e5:((Yw c t).Ji:Int)=c.Ji:=pe;have e6:((Yw c t).Y1.X2:Int)=c.Y1.X2:=pe;have e7:((Yw c t).Y1.X7:List UInt8)=c.Y1.X7:=pe;have e8:((Yw c t).X0.Xu:Int)=c.X0.Xu:=pe;have e9:((Yw c t).X0.Xl:Int)=c.X0.Xl+1:=pe;have e10:((Yw c t).W4:List Yn)=c.W4:=pe;have hE:=congr pZ4 e10;exact hE) hG) ?_
   exact nJ
  refine cF (dF hq12) (sR [] ?_)
  by_cases hq13:t.Wu=3
  ·refine cT (dT hq13) (xK [hR 2 rfl rfl (Yg (u1:=.int .i64 c.Ji) (u2:=.int .i64 1) (v:=.int .i64 (c.Ji+1)) (W8 pb) (X3 rfl) ⟨rfl,trivial⟩)] (nB ?_))
   refine eN ⟨[(Zu6 c),(Zu7 t),pv 0 0,pv 1 0,pv 2 0,(Zu9 c t),aa,aa,aa,(Zua c),aa,aa,aa,aa,aa,aa,aa,aa,aa,aa,aa,aa,aa,aa,aa,aa,aa,aa,aa,vB false,aa,aa,aa,aa,aa,aa,aa,aa,aa,aa,aa,aa,aa,aa,aa,aa,aa,aa,aa,aa,(Zup t),aa,aa,aa,aa,aa,aa,aa,aa,aa,(Zuq t)],(Zv2 c t)⟩ ?_
   refine X8 (s':=⟨Zun,(Zv2 c t)⟩) (fun _ _ hG=>Wi [0,1,2,9,4] (bm 5 20) (t1:=Zun) (h1:=(Zv2 c t)) rfl rfl hG) ?_
   refine X8 (s':=⟨Zun,[(Zv3 c),(Zuc t),Zue,.dead,.dead]⟩) (fun _ _ hG=>Gs.freeze (s:=⟨Zun,(Zv2 c t)⟩) 4 (el:=W6 (Xm false) c.X4) (sz:=(Xm false).sz) (n:=c.X4.length) rfl ⟨.inl rfl,(kk4 trivial)⟩ ⟨pr,⟨pZ5,⟨pZ5,⟨pZ5,⟨(.inl ⟨rfl,rfl⟩),trivial⟩⟩⟩⟩⟩ hG) ?_
   have hx9:=trn_3 (c:=c) (t:=t) (by omega)
   refine X8 (s':=(Zuk c t)) (fun _ _ hG=>Wi [0,2] (bm 5 20) (h1:=(Zuj c t)) (h2:=[(Zv3 c),Zue]) (t1:=Zun) rfl (by have e1:((Yw c t).Xg:Int)=c.Xg:=pe;have e2:((Yw c t).Xo:List aE)=c.Xo:=pe;have e3:((Yw c t).Xc:List UInt8)=c.Xc:=pe;have e4:((Yw c t).X4:List Yh)=c.X4:=pe;have e5:((Yw c t).Ji:Int)=c.Ji+1:=pe;have e6:((Yw c t).Y1.X2:Int)=c.Y1.X2:=pe;have e7:((Yw c t).Y1.X7:List UInt8)=c.Y1.X7:=pe;have e8:((Yw c t).X0.Xu:Int)=c.X0.Xu:=pe;have e9:((Yw c t).X0.Xl:Int)=c.X0.Xl:=pe;have e10:((Yw c t).W4:List Yn)=c.W4:=pe;have hE:=congr pZ4 e10;exact hE) hG) ?_
   exact nJ
  refine cF (dF hq13) (sR [] ?_)
  by_cases hq14:t.Wu=4
  ·refine cT (dT hq14) (xK [hR 2 rfl rfl (Yg (u1:=.int .i64 c.Xg) (u2:=.int .i64 1) (v:=.int .i64 (c.Xg+1)) (W8 pb) (X3 rfl) ⟨rfl,trivial⟩)] (nB ?_))
   refine eN ⟨[(Zu6 c),(Zu7 t),pv 0 0,pv 1 0,pv 2 0,(Zu9 c t),aa,aa,aa,(Zua c),aa,aa,aa,aa,aa,aa,aa,aa,aa,aa,aa,aa,aa,aa,aa,aa,aa,aa,aa,vB false,aa,aa,aa,aa,aa,aa,aa,aa,aa,aa,aa,aa,aa,aa,aa,aa,aa,aa,aa,aa,(Zup t),aa,aa,aa,aa,aa,aa,aa,aa,aa,(Zuq t),aa,aa,aa,aa,aa,aa,aa,(Zur t)],(Zv4 c t)⟩ ?_
   refine X8 (s':=⟨Zun,(Zv4 c t)⟩) (fun _ _ hG=>Wi [0,1,2,9,4] (bm 5 20) (t1:=Zun) (h1:=(Zv4 c t)) rfl rfl hG) ?_
   refine X8 (s':=⟨Zun,[(Zv5 c),(Zuc t),Zue,.dead,.dead]⟩) (fun _ _ hG=>Gs.freeze (s:=⟨Zun,(Zv4 c t)⟩) 4 (el:=W6 (Xm false) c.X4) (sz:=(Xm false).sz) (n:=c.X4.length) rfl ⟨.inl rfl,(kk4 trivial)⟩ ⟨pr,⟨pZ5,⟨pZ5,⟨pZ5,⟨(.inl ⟨rfl,rfl⟩),trivial⟩⟩⟩⟩⟩ hG) ?_
   have hx9:=trn_4 (c:=c) (t:=t) (by omega)
   refine X8 (s':=(Zuk c t)) (fun _ _ hG=>Wi [0,2] (bm 5 20) (h1:=(Zuj c t)) (h2:=[(Zv5 c),Zue]) (t1:=Zun) rfl (by have e1:((Yw c t).Xg:Int)=c.Xg+1:=pe;have e2:((Yw c t).Xo:List aE)=c.Xo:=pe;have e3:((Yw c t).Xc:List UInt8)=c.Xc:=pe;have e4:((Yw c t).X4:List Yh)=c.X4:=pe;have e5:((Yw c t).Ji:Int)=c.Ji:=pe;have e6:((Yw c t).Y1.X2:Int)=c.Y1.X2:=pe;have e7:((Yw c t).Y1.X7:List UInt8)=c.Y1.X7:=pe;have e8:((Yw c t).X0.Xu:Int)=c.X0.Xu:=pe;have e9:((Yw c t).X0.Xl:Int)=c.X0.Xl:=pe;have e10:((Yw c t).W4:List Yn)=c.W4:=pe;have hE:=congr pZ4 e10;exact hE) hG) ?_
   exact nJ
  refine cF (dF hq14) ?_
  by_cases hq15:t.Wu=5
  ·refine sR (Xr (hY · (dT hq15)) [4,5,6,7] (hP 8 (dT hq15)::[])) ?_
   by_cases hq16:((c.X4.length:Nat):Int)>0
   ·have hbd:=X7m (a:=t.Wh) (b:=((c.X4.length:Nat):Int)) (by omega);have hjl:=(X67 (l:=c.X4) (a:=t.Wh) (by omega)).2
    refine cT (dT hq16) ?_
    refine xR [hR 3 rfl rfl (Vk (k:=.i64) (l:=4) (sz:=(Xm false).sz) (off:=0) (n:=c.X4.length) (i:=(((ix9 c.X4 t.Wh):Nat):Int)) (m:=(ix9 c.X4 t.Wh)) (o':=(ix9 c.X4 t.Wh)*(Xm false).sz+0) Tryz.underlying41 H1 rfl rfl ‹_› (by simp) (X3 rfl) trivial),hR 5 rfl rfl (Ff (l:=4) (off:=(ix9 c.X4 t.Wh)*(Xm false).sz+1) (i:=(ix9 c.X4 t.Wh)) (j:=1) (T:=69) (sz:=(Xm false).sz) (n:=c.X4.length) (el:=W6 (Xm false) c.X4) (c:=.val (Ys (c.X4.getD (Zu8 c t) Y2).Y9)) X2m rfl ‹_› (by decide) rfl (X3 rfl) trivial),hR 6 rfl rfl (Yg (u1:=Ys (c.X4.getD (ix9 c.X4 t.Wh) Y2).Y9) (u2:=Ys [120]) (v:=Ys ((c.X4.getD (ix9 c.X4 t.Wh) Y2).Y9++[120])) (b_addS (a:=(c.X4.getD (ix9 c.X4 t.Wh) Y2).Y9) (b:=[120]) (by (simp [maxLen,-List.getD_eq_getElem?_getD]<;>omega))) (X3 rfl) ⟨rfl,trivial⟩),hR 7 rfl rfl (Vk (k:=.i64) (l:=4) (sz:=(Xm false).sz) (off:=0) (n:=c.X4.length) (i:=(((ix9 c.X4 t.Wh):Nat):Int)) (m:=(ix9 c.X4 t.Wh)) (o':=(ix9 c.X4 t.Wh)*(Xm false).sz+0) Tryz.underlying41 H1 rfl rfl ‹_› (by simp) (X3 rfl) trivial),hR 9 rfl rfl (F5 4 69 (Xm false) c.X4 (Yh.mk (c.X4.getD (ix9 c.X4 t.Wh) Y2).Xq ((c.X4.getD (ix9 c.X4 t.Wh) Y2).Y9++[120]) (c.X4.getD (ix9 c.X4 t.Wh) Y2).Yl (c.X4.getD (ix9 c.X4 t.Wh) Y2).Wf) (ix9 c.X4 t.Wh) 1 1 [.val (Ys ((c.X4.getD (Zu8 c t) Y2).Y9++[120]))] (tv:=.one (dS ((c.X4.getD (Zu8 c t) Y2).Y9++[120]))) (off:=(ix9 c.X4 t.Wh)*(Xm false).sz+1) cells_60 ⟨.inl rfl,trivial⟩ rfl rfl ‹_› (by decide) rfl (by intro j hj;replace hj:j<4:=hj;rcases j with _|_|_|_|j<;>rfl) trivial)] pZ8 pZ8 ?_
    refine nB ?_
    refine eN ⟨[(Zu6 c),(Zu7 t),pv 0 0,pv 1 0,pv 2 0,(Zu9 c t),aa,aa,aa,(Zua c),aa,aa,aa,aa,aa,aa,aa,aa,aa,aa,aa,aa,aa,aa,aa,aa,aa,aa,aa,vB false,aa,aa,aa,aa,aa,aa,aa,aa,aa,aa,aa,aa,aa,aa,aa,aa,aa,aa,aa,aa,(Zup t),aa,aa,aa,aa,aa,aa,aa,aa,aa,(Zuq t),aa,aa,aa,aa,aa,aa,aa,(Zur t),aa,aa,aa,aa,aa,aa,aa,(Zua c)],(Zv8 c t)⟩ ?_
    refine X8 (s':=⟨Zun,(Zv8 c t)⟩) (fun _ _ hG=>Wi [0,1,2,9,4] (bm 5 20) (t1:=Zun) (h1:=(Zv8 c t)) rfl rfl hG) ?_
    refine X8 (s':=⟨Zun,(Zv9 c t)⟩) (fun _ _ hG=>Wi [0,1,2,9,4] (bm 5 20) (h1:=(Zv9 c t)) (h2:=(Zv8 c t)) (t1:=Zun) rfl (by have e1:((c.X4.set (ix9 c.X4 t.Wh) (Yh.mk (c.X4.getD (ix9 c.X4 t.Wh) Y2).Xq ((c.X4.getD (ix9 c.X4 t.Wh) Y2).Y9++[120]) (c.X4.getD (ix9 c.X4 t.Wh) Y2).Yl (c.X4.getD (ix9 c.X4 t.Wh) Y2).Wf)).length:Nat)=c.X4.length:=(by (simp only [List.length_append,List.length_take,List.length_drop,List.length_set];done));have hE:=congrArg (fun (q1:Nat)=>([.live (.box 49 [(Ztv c),(Ztw c),(Ztx c),.own 4 (Xm false).sz 0 q1,(Ztz c),(Zu0 c),(Zu1 c),(Zu2 c),(Zu3 c),(Zu4 c)]),(Zuc t),Zue,.dead,(Zv7 c t)]:List HS)) e1;exact hE) hG) ?_
    refine X8 (s':=⟨Zun,[(Zva c t),(Zuc t),Zue,.dead,.dead]⟩) (fun _ _ hG=>Gs.freeze (s:=⟨Zun,(Zv9 c t)⟩) 4 (el:=W6 (Xm false) (c.X4.set (ix9 c.X4 t.Wh) (Yh.mk (c.X4.getD (ix9 c.X4 t.Wh) Y2).Xq ((c.X4.getD (ix9 c.X4 t.Wh) Y2).Y9++[120]) (c.X4.getD (ix9 c.X4 t.Wh) Y2).Yl (c.X4.getD (ix9 c.X4 t.Wh) Y2).Wf))) (sz:=(Xm false).sz) (n:=(c.X4.set (ix9 c.X4 t.Wh) (Yh.mk (c.X4.getD (ix9 c.X4 t.Wh) Y2).Xq ((c.X4.getD (ix9 c.X4 t.Wh) Y2).Y9++[120]) (c.X4.getD (ix9 c.X4 t.Wh) Y2).Yl (c.X4.getD (ix9 c.X4 t.Wh) Y2).Wf)).length) rfl ⟨.inl rfl,(kk4 trivial)⟩ ⟨pr,⟨pZ5,⟨pZ5,⟨pZ5,⟨(.inl ⟨rfl,rfl⟩),trivial⟩⟩⟩⟩⟩ hG) ?_
    have hx9:=trn_5 (c:=c) (t:=t) (by omega) (by omega)
    refine X8 (s':=(Zuk c t)) (fun _ _ hG=>Wi [0,2] (bm 5 20) (h1:=(Zuj c t)) (h2:=[(Zva c t),Zue]) (t1:=Zun) rfl (by have e1:((Yw c t).Xg:Int)=c.Xg:=pe;have e2:((Yw c t).Xo:List aE)=c.Xo:=pe;have e3:((Yw c t).Xc:List UInt8)=c.Xc:=pe;have e4:((Yw c t).X4:List Yh)=(c.X4.set (ix9 c.X4 t.Wh) (Yh.mk (c.X4.getD (ix9 c.X4 t.Wh) Y2).Xq ((c.X4.getD (ix9 c.X4 t.Wh) Y2).Y9++[120]) (c.X4.getD (ix9 c.X4 t.Wh) Y2).Yl (c.X4.getD (ix9 c.X4 t.Wh) Y2).Wf)):=(by (rw [hx9];rfl));have e5:((Yw c t).Ji:Int)=c.Ji:=pe;have e6:((Yw c t).Y1.X2:Int)=c.Y1.X2:=pe;have e7:((Yw c t).Y1.X7:List UInt8)=c.Y1.X7:=pe;have e8:((Yw c t).X0.Xu:Int)=c.X0.Xu:=pe;have e9:((Yw c t).X0.Xl:Int)=c.X0.Xl:=pe;have e10:((Yw c t).W4:List Yn)=c.W4:=pe;have hE:=congr pZ4 e10;exact hE) hG) ?_
    exact nJ
   refine cF (dF hq16) (sR [] ?_)
   by_cases hq17:t.Wu=6
   ·exact absurd hq17 (by omega)
   refine cF (dF hq17) (sR [] ?_)
   by_cases hq18:t.Wu=7
   ·exact absurd hq18 (by omega)
   refine cF (dF hq18) ?_
   by_cases hq19:t.Wu=8
   ·exact absurd hq19 (by omega)
   refine sR (Xr (hN · true (dF hq19)) [4,5,6,7] (hP 8 (dF hq19)::[])) (cF (b:=false) rfl ?_)
   by_cases hq20:t.Wu=9
   ·exact absurd hq20 (by omega)
   refine sR (Xr (hN · true (dF hq20)) [4,5,6,7] (hP 8 (dF hq20)::[])) (cF (b:=false) rfl (T.skip (nB ?_)))
   refine eN ⟨[(Zu6 c),(Zu7 t),pv 0 0,pv 1 0,pv 2 0,(Zu9 c t),aa,aa,aa,(Zua c),aa,aa,aa,aa,aa,aa,aa,aa,aa,aa,aa,aa,aa,aa,aa,aa,aa,aa,aa,vB false,aa,aa,aa,aa,aa,aa,aa,aa,aa,aa,aa,aa,aa,aa,aa,aa,aa,aa,aa,aa,(Zup t),aa,aa,aa,aa,aa,aa,aa,aa,aa,(Zuq t),aa,aa,aa,aa,aa,aa,aa,(Zur t),aa,aa,aa,aa,aa,aa,aa,(Zua c),aa,aa,aa,aa,aa,aa,aa,aa,aa,aa,aa,aa,aa,aa,aa,aa,aa,aa,(Zus t),aa,aa,aa,aa,aa,aa,aa,aa,aa,aa,(Zut t),aa,aa,aa,aa,aa,aa,aa,aa,aa,vB false,aa,aa,aa,aa,aa,aa,aa,aa,aa,aa,aa,aa,aa,vB false],(Zuw c t)⟩ ?_
   refine X8 (s':=(Zux c t)) (fun _ _ hG=>Wi [0,1,2,9,4] (bm 5 20) (t1:=Zun) (h1:=(Zuw c t)) rfl rfl hG) ?_
   refine X8 (s':=(Zuy c t)) (fun _ _ hG=>Gs.freeze (s:=(Zux c t)) 4 (el:=W6 (Xm false) c.X4) (sz:=(Xm false).sz) (n:=c.X4.length) rfl ⟨.inl rfl,(kk4 trivial)⟩ ⟨pr,⟨pZ5,⟨pZ5,⟨pZ5,⟨(.inl ⟨rfl,rfl⟩),trivial⟩⟩⟩⟩⟩ hG) ?_
   have hx9:=Xdj (c:=c) (t:=t) (by omega) (by omega) (by omega) (by omega) (by omega) (by omega) (by omega) (by omega) (by omega)
   refine X8 (s':=(Zuk c t)) (fun _ _ hG=>Wi [0,2] (bm 5 20) (h1:=(Zuj c t)) (h2:=(Zuz c)) (t1:=Zun) rfl pp hG) ?_
   exact nJ
  refine sR (Xr (hN · true (dF hq15)) [4,5,6,7] (hP 8 (dF hq15)::[])) (cF (b:=false) rfl (sR [] ?_))
  by_cases hq21:t.Wu=6
  ·refine cT (dT hq21) ?_
   refine xR [hR 0 rfl rfl (Ye 5 5 kU8 Vs ([]:List UInt8) [] (cs:=[]) Tryz.underlying25 J1 rfl Im rfl rfl rfl pd W5 pZ8 (V6 pZ8) (X3 rfl) trivial),hR 3 rfl rfl (W0 5 6 5 1 kU8 Vs ([]:List UInt8) c.Xc c.Xc ([]:List UInt8).length (sy:=((Ztx c))) (rhs:=[]) J8 (by omega) (Jc false false kU8 c.Xc) (by simp) (by (simp [maxLen,-List.getD_eq_getElem?_getD]<;>omega)) (by (simp [maxLen,-List.getD_eq_getElem?_getD]<;>omega)) (X3 rfl) trivial),hR 4 rfl rfl (Ye 7 5 kU8 Vs [(0:UInt8)] [⟨0,.const (.int .u8 0),.one (.d (.val (.int .u8 0))),0⟩] (cs:=[.d (.val (.int .u8 0))]) Tryz.underlying25 J1 rfl Im rfl rfl rfl pd (Yq rfl rfl pd W5) pZ8 (V6 pZ8) (X3 rfl) ⟨rfl,trivial⟩),hR 5 rfl rfl (W0 6 8 5 1 kU8 Vs c.Xc [(0:UInt8)] (c.Xc++[(0:UInt8)]) c.Xc.length (sy:=(.own 7 kU8.sz 0 [(0:UInt8)].length)) (rhs:=[(7,Zvb)]) J8 (by omega) (V0 7 5 kU8 [(0:UInt8)]) I7 (by (simp [maxLen,-List.getD_eq_getElem?_getD]<;>omega)) (by (simp [maxLen,-List.getD_eq_getElem?_getD]<;>omega)) (X3 rfl) trivial)] pZ8 pZ8 ?_
   refine nB ?_
   refine eN ⟨[(Zu6 c),(Zu7 t),pv 0 0,pv 1 0,pv 2 0,(Zu9 c t),aa,aa,aa,(Zua c),aa,aa,aa,aa,aa,aa,aa,aa,aa,aa,aa,aa,aa,aa,aa,aa,aa,aa,aa,vB false,aa,aa,aa,aa,aa,aa,aa,aa,aa,aa,aa,aa,aa,aa,aa,aa,aa,aa,aa,aa,(Zup t),aa,aa,aa,aa,aa,aa,aa,aa,aa,(Zuq t),aa,aa,aa,aa,aa,aa,aa,(Zur t),aa,aa,aa,aa,aa,aa,aa,vB false,aa,aa,aa,aa,aa,aa,aa,aa,aa,aa,aa,aa,aa,aa,aa,aa,aa,aa,(Zus t)],(Zvc c t)⟩ ?_
   refine X8 (s':=⟨Zun,(Zvc c t)⟩) (fun _ _ hG=>Wi [0,1,2,13,4,19,26,7,8] (bm 5 20) (t1:=Zun) (h1:=(Zvc c t)) rfl rfl hG) ?_
   refine X8 (s':=(Zvd c t)) (fun _ _ hG=>Gs.freeze (s:=⟨Zun,(Zvc c t)⟩) 8 (el:=W6 kU8 (c.Xc++[(0:UInt8)])) (sz:=kU8.sz) (n:=(c.Xc++[(0:UInt8)]).length) rfl ⟨.inl rfl,(kk4 trivial)⟩ ⟨p39,⟨pZ5,⟨pZ5,⟨pZ5,⟨pZ5,⟨pZ5,⟨pZ5,⟨pZ5,⟨(.inl ⟨rfl,rfl⟩),trivial⟩⟩⟩⟩⟩⟩⟩⟩⟩ hG) ?_
   refine X8 (s':=⟨Zun,[(Zve c),(Zuc t),Zue,.dead,.dead,.dead,.dead,Zvb,.dead]⟩) (fun _ _ hG=>Gs.freeze (s:=(Zvd c t)) 4 (el:=W6 (Xm false) c.X4) (sz:=(Xm false).sz) (n:=c.X4.length) rfl ⟨.inl rfl,(kk4 trivial)⟩ ⟨pr,⟨pZ5,⟨pZ5,⟨pZ5,⟨(.inl ⟨rfl,rfl⟩),⟨pZ5,⟨pZ5,⟨pZ5,⟨pZ5,trivial⟩⟩⟩⟩⟩⟩⟩⟩⟩ hG) ?_
   have hx9:=trn_6 (c:=c) (t:=t) (by omega)
   refine X8 (s':=(Zuk c t)) (fun _ _ hG=>Wi [0,2] (bm 5 20) (h1:=(Zuj c t)) (h2:=[(Zve c),Zue]) (t1:=Zun) rfl (by have e1:((Yw c t).Xg:Int)=c.Xg:=pe;have e2:((Yw c t).Xo:List aE)=c.Xo:=pe;have e3:((Yw c t).Xc:List UInt8)=c.Xc++[(0:UInt8)]:=pe;have e4:((Yw c t).X4:List Yh)=c.X4:=pe;have e5:((Yw c t).Ji:Int)=c.Ji:=pe;have e6:((Yw c t).Y1.X2:Int)=c.Y1.X2:=pe;have e7:((Yw c t).Y1.X7:List UInt8)=c.Y1.X7:=pe;have e8:((Yw c t).X0.Xu:Int)=c.X0.Xu:=pe;have e9:((Yw c t).X0.Xl:Int)=c.X0.Xl:=pe;have e10:((Yw c t).W4:List Yn)=c.W4:=pe;have hE:=congr pZ4 e10;exact hE) hG) ?_
   exact nJ
  refine cF (dF hq21) (sR [] ?_)
  by_cases hq22:t.Wu=7
  ·refine cT (dT hq22) (xK [hR 3 rfl rfl (Yg (u1:=.int .i64 c.Y1.X2) (u2:=.int .i64 1) (v:=.int .i64 (c.Y1.X2+1)) (W8 pb) (X3 rfl) ⟨rfl,trivial⟩)] (nB ?_))
   refine eN ⟨[(Zu6 c),(Zu7 t),pv 0 0,pv 1 0,pv 2 0,(Zu9 c t),aa,aa,aa,(Zua c),aa,aa,aa,aa,aa,aa,aa,aa,aa,aa,aa,aa,aa,aa,aa,aa,aa,aa,aa,vB false,aa,aa,aa,aa,aa,aa,aa,aa,aa,aa,aa,aa,aa,aa,aa,aa,aa,aa,aa,aa,(Zup t),aa,aa,aa,aa,aa,aa,aa,aa,aa,(Zuq t),aa,aa,aa,aa,aa,aa,aa,(Zur t),aa,aa,aa,aa,aa,aa,aa,vB false,aa,aa,aa,aa,aa,aa,aa,aa,aa,aa,aa,aa,aa,aa,aa,aa,aa,aa,(Zus t),aa,aa,aa,aa,aa,aa,aa,aa,aa,aa,(Zut t)],(Zvf c t)⟩ ?_
   refine X8 (s':=⟨Zun,(Zvf c t)⟩) (fun _ _ hG=>Wi [0,1,2,9,4] (bm 5 20) (t1:=Zun) (h1:=(Zvf c t)) rfl rfl hG) ?_
   refine X8 (s':=⟨Zun,[(Zvg c),(Zuc t),Zue,.dead,.dead]⟩) (fun _ _ hG=>Gs.freeze (s:=⟨Zun,(Zvf c t)⟩) 4 (el:=W6 (Xm false) c.X4) (sz:=(Xm false).sz) (n:=c.X4.length) rfl ⟨.inl rfl,(kk4 trivial)⟩ ⟨pr,⟨pZ5,⟨pZ5,⟨pZ5,⟨(.inl ⟨rfl,rfl⟩),trivial⟩⟩⟩⟩⟩ hG) ?_
   have hx9:=trn_7 (c:=c) (t:=t) (by omega)
   refine X8 (s':=(Zuk c t)) (fun _ _ hG=>Wi [0,2] (bm 5 20) (h1:=(Zuj c t)) (h2:=[(Zvg c),Zue]) (t1:=Zun) rfl (by have e1:((Yw c t).Xg:Int)=c.Xg:=pe;have e2:((Yw c t).Xo:List aE)=c.Xo:=pe;have e3:((Yw c t).Xc:List UInt8)=c.Xc:=pe;have e4:((Yw c t).X4:List Yh)=c.X4:=pe;have e5:((Yw c t).Ji:Int)=c.Ji:=pe;have e6:((Yw c t).Y1.X2:Int)=c.Y1.X2+1:=pe;have e7:((Yw c t).Y1.X7:List UInt8)=c.Y1.X7:=pe;have e8:((Yw c t).X0.Xu:Int)=c.X0.Xu:=pe;have e9:((Yw c t).X0.Xl:Int)=c.X0.Xl:=pe;have e10:((Yw c t).W4:List Yn)=c.W4:=pe;have hE:=congr pZ4 e10;exact hE) hG) ?_
   exact nJ
  refine cF (dF hq22) ?_
  by_cases hq23:t.Wu=8
  ·refine sR (Xr (hY · (dT hq23)) [4,5,6,7] (hP 8 (dT hq23)::[])) ?_
   by_cases hq24:((c.W4.length:Nat):Int)>0
   ·refine cT (dT hq24) (xK [hR 2 rfl rfl (Uz false false (Xz false) c.W4 (c.W4.drop 1) 1 c.W4.length (lo:=some (.const (.int .i64 1),1)) (hi:=none) Tryz.underlying47 Iz rfl rfl rfl rfl rfl (by omega) (by omega) I7 (X3 rfl) ⟨rfl,trivial⟩)] (nB ?_))
    refine eN ⟨[(Zu6 c),(Zu7 t),pv 0 0,pv 1 0,pv 2 0,(Zu9 c t),aa,aa,aa,(Zua c),aa,aa,aa,aa,aa,aa,aa,aa,aa,aa,aa,aa,aa,aa,aa,aa,aa,aa,aa,vB false,aa,aa,aa,aa,aa,aa,aa,aa,aa,aa,aa,aa,aa,aa,aa,aa,aa,aa,aa,aa,(Zup t),aa,aa,aa,aa,aa,aa,aa,aa,aa,(Zuq t),aa,aa,aa,aa,aa,aa,aa,(Zur t),aa,aa,aa,aa,aa,aa,aa,vB false,aa,aa,aa,aa,aa,aa,aa,aa,aa,aa,aa,aa,aa,aa,aa,aa,aa,aa,(Zus t),aa,aa,aa,aa,aa,aa,aa,aa,aa,aa,(Zut t),aa,aa,aa,aa,aa,aa,aa,aa,aa,vB (decide (((c.W4.length:Nat):Int)>0))],(Zvh c t)⟩ ?_
    refine X8 (s':=⟨Zun,(Zvh c t)⟩) (fun _ _ hG=>Wi [0,1,2,9,4] (bm 5 20) (t1:=Zun) (h1:=(Zvh c t)) rfl rfl hG) ?_
    refine X8 (s':=⟨Zun,[(Zvi c),(Zuc t),Zue,.dead,.dead]⟩) (fun _ _ hG=>Gs.freeze (s:=⟨Zun,(Zvh c t)⟩) 4 (el:=W6 (Xm false) c.X4) (sz:=(Xm false).sz) (n:=c.X4.length) rfl ⟨.inl rfl,(kk4 trivial)⟩ ⟨pr,⟨pZ5,⟨pZ5,⟨pZ5,⟨(.inl ⟨rfl,rfl⟩),trivial⟩⟩⟩⟩⟩ hG) ?_
    have hx9:=trn_8 (c:=c) (t:=t) (by omega) (by omega)
    refine X8 (s':=(Zuk c t)) (fun _ _ hG=>Wi [0,2] (bm 5 20) (h1:=(Zuj c t)) (h2:=[(Zvi c),Zue]) (t1:=Zun) rfl (by have e1:((Yw c t).Xg:Int)=c.Xg:=pe;have e2:((Yw c t).Xo:List aE)=c.Xo:=pe;have e3:((Yw c t).Xc:List UInt8)=c.Xc:=pe;have e4:((Yw c t).X4:List Yh)=c.X4:=pe;have e5:((Yw c t).Ji:Int)=c.Ji:=pe;have e6:((Yw c t).Y1.X2:Int)=c.Y1.X2:=pe;have e7:((Yw c t).Y1.X7:List UInt8)=c.Y1.X7:=pe;have e8:((Yw c t).X0.Xu:Int)=c.X0.Xu:=pe;have e9:((Yw c t).X0.Xl:Int)=c.X0.Xl:=pe;have e10:((Yw c t).W4:List Yn)=(c.W4.drop 1):=pe;have hE:=congr pZ4 e10;exact hE) hG) ?_
    exact nJ
   refine cF (dF hq24) ?_
   by_cases hq25:t.Wu=9
   ·exact absurd hq25 (by omega)
   refine sR (Xr (hN · true (dF hq25)) [4,5,6,7] (hP 8 (dF hq25)::[])) (cF (b:=false) rfl (T.skip (nB ?_)))
   refine eN ⟨[(Zu6 c),(Zu7 t),pv 0 0,pv 1 0,pv 2 0,(Zu9 c t),aa,aa,aa,(Zua c),aa,aa,aa,aa,aa,aa,aa,aa,aa,aa,aa,aa,aa,aa,aa,aa,aa,aa,aa,vB false,aa,aa,aa,aa,aa,aa,aa,aa,aa,aa,aa,aa,aa,aa,aa,aa,aa,aa,aa,aa,(Zup t),aa,aa,aa,aa,aa,aa,aa,aa,aa,(Zuq t),aa,aa,aa,aa,aa,aa,aa,(Zur t),aa,aa,aa,aa,aa,aa,aa,vB false,aa,aa,aa,aa,aa,aa,aa,aa,aa,aa,aa,aa,aa,aa,aa,aa,aa,aa,(Zus t),aa,aa,aa,aa,aa,aa,aa,aa,aa,aa,(Zut t),aa,aa,aa,aa,aa,aa,aa,aa,aa,vB (decide (((c.W4.length:Nat):Int)>0)),aa,aa,aa,aa,aa,aa,aa,aa,aa,aa,aa,aa,aa,vB false],(Zuw c t)⟩ ?_
   refine X8 (s':=(Zux c t)) (fun _ _ hG=>Wi [0,1,2,9,4] (bm 5 20) (t1:=Zun) (h1:=(Zuw c t)) rfl rfl hG) ?_
   refine X8 (s':=(Zuy c t)) (fun _ _ hG=>Gs.freeze (s:=(Zux c t)) 4 (el:=W6 (Xm false) c.X4) (sz:=(Xm false).sz) (n:=c.X4.length) rfl ⟨.inl rfl,(kk4 trivial)⟩ ⟨pr,⟨pZ5,⟨pZ5,⟨pZ5,⟨(.inl ⟨rfl,rfl⟩),trivial⟩⟩⟩⟩⟩ hG) ?_
   have hx9:=Xdj (c:=c) (t:=t) (by omega) (by omega) (by omega) (by omega) (by omega) (by omega) (by omega) (by omega) (by omega)
   refine X8 (s':=(Zuk c t)) (fun _ _ hG=>Wi [0,2] (bm 5 20) (h1:=(Zuj c t)) (h2:=(Zuz c)) (t1:=Zun) rfl pp hG) ?_
   exact nJ
  refine sR (Xr (hN · true (dF hq23)) [4,5,6,7] (hP 8 (dF hq23)::[])) (cF (b:=false) rfl ?_)
  by_cases hq26:t.Wu=9
  ·refine sR (Xr (hY · (dT hq26)) [4,5,6,7] (hP 8 (dT hq26)::[])) ?_
   by_cases hq27:((c.Xo.length:Nat):Int)>0
   ·refine cT (dT hq27) (xK [hR 2 rfl rfl (Uz false false (kE false) c.Xo (c.Xo.drop 1) 1 c.Xo.length (lo:=some (.const (.int .i64 1),1)) (hi:=none) Tryz.underlying37 Wy rfl rfl rfl rfl rfl (by omega) (by omega) I7 (X3 rfl) ⟨rfl,trivial⟩)] (nB ?_))
    refine eN ⟨(Zvj c t),(Zvk c t)⟩ ?_
    refine X8 (s':=⟨Zun,(Zvk c t)⟩) (fun _ _ hG=>Wi [0,1,2,9,4] (bm 5 20) (t1:=Zun) (h1:=(Zvk c t)) rfl rfl hG) ?_
    refine X8 (s':=⟨Zun,[(Zvl c),(Zuc t),Zue,.dead,.dead]⟩) (fun _ _ hG=>Gs.freeze (s:=⟨Zun,(Zvk c t)⟩) 4 (el:=W6 (Xm false) c.X4) (sz:=(Xm false).sz) (n:=c.X4.length) rfl ⟨.inl rfl,(kk4 trivial)⟩ ⟨pr,⟨pZ5,⟨pZ5,⟨pZ5,⟨(.inl ⟨rfl,rfl⟩),trivial⟩⟩⟩⟩⟩ hG) ?_
    have hx9:=trn_9 (c:=c) (t:=t) (by omega) (by omega)
    refine X8 (s':=(Zuk c t)) (fun _ _ hG=>Wi [0,2] (bm 5 20) (h1:=(Zuj c t)) (h2:=[(Zvl c),Zue]) (t1:=Zun) rfl (by have e1:((Yw c t).Xg:Int)=c.Xg:=pe;have e2:((Yw c t).Xo:List aE)=(c.Xo.drop 1):=pe;have e3:((Yw c t).Xc:List UInt8)=c.Xc:=pe;have e4:((Yw c t).X4:List Yh)=c.X4:=pe;have e5:((Yw c t).Ji:Int)=c.Ji:=pe;have e6:((Yw c t).Y1.X2:Int)=c.Y1.X2:=pe;have e7:((Yw c t).Y1.X7:List UInt8)=c.Y1.X7:=pe;have e8:((Yw c t).X0.Xu:Int)=c.X0.Xu:=pe;have e9:((Yw c t).X0.Xl:Int)=c.X0.Xl:=pe;have e10:((Yw c t).W4:List Yn)=c.W4:=pe;have hE:=congr pZ4 e10;exact hE) hG) ?_
    exact nJ
   refine cF (dF hq27) (T.skip (nB ?_))
   refine eN ⟨(Zvj c t),(Zuw c t)⟩ ?_
   refine X8 (s':=(Zux c t)) (fun _ _ hG=>Wi [0,1,2,9,4] (bm 5 20) (t1:=Zun) (h1:=(Zuw c t)) rfl rfl hG) ?_
   refine X8 (s':=(Zuy c t)) (fun _ _ hG=>Gs.freeze (s:=(Zux c t)) 4 (el:=W6 (Xm false) c.X4) (sz:=(Xm false).sz) (n:=c.X4.length) rfl ⟨.inl rfl,(kk4 trivial)⟩ ⟨pr,⟨pZ5,⟨pZ5,⟨pZ5,⟨(.inl ⟨rfl,rfl⟩),trivial⟩⟩⟩⟩⟩ hG) ?_
   have hx9:=Xdj (c:=c) (t:=t) (by omega) (by omega) (by omega) (by omega) (by omega) (by omega) (by omega) (by omega) (by omega)
   refine X8 (s':=(Zuk c t)) (fun _ _ hG=>Wi [0,2] (bm 5 20) (h1:=(Zuj c t)) (h2:=(Zuz c)) (t1:=Zun) rfl pp hG) ?_
   exact nJ
  refine sR (Xr (hN · true (dF hq26)) [4,5,6,7] (hP 8 (dF hq26)::[])) (cF (b:=false) rfl (T.skip (nB ?_)))
  refine eN ⟨[(Zu6 c),(Zu7 t),pv 0 0,pv 1 0,pv 2 0,(Zu9 c t),aa,aa,aa,(Zua c),aa,aa,aa,aa,aa,aa,aa,aa,aa,aa,aa,aa,aa,aa,aa,aa,aa,aa,aa,vB false,aa,aa,aa,aa,aa,aa,aa,aa,aa,aa,aa,aa,aa,aa,aa,aa,aa,aa,aa,aa,(Zup t),aa,aa,aa,aa,aa,aa,aa,aa,aa,(Zuq t),aa,aa,aa,aa,aa,aa,aa,(Zur t),aa,aa,aa,aa,aa,aa,aa,vB false,aa,aa,aa,aa,aa,aa,aa,aa,aa,aa,aa,aa,aa,aa,aa,aa,aa,aa,(Zus t),aa,aa,aa,aa,aa,aa,aa,aa,aa,aa,(Zut t),aa,aa,aa,aa,aa,aa,aa,aa,aa,vB false,aa,aa,aa,aa,aa,aa,aa,aa,aa,aa,aa,aa,aa,vB false],(Zuw c t)⟩ ?_
  refine X8 (s':=(Zux c t)) (fun _ _ hG=>Wi [0,1,2,9,4] (bm 5 20) (t1:=Zun) (h1:=(Zuw c t)) rfl rfl hG) ?_
  refine X8 (s':=(Zuy c t)) (fun _ _ hG=>Gs.freeze (s:=(Zux c t)) 4 (el:=W6 (Xm false) c.X4) (sz:=(Xm false).sz) (n:=c.X4.length) rfl ⟨.inl rfl,(kk4 trivial)⟩ ⟨pr,⟨pZ5,⟨pZ5,⟨pZ5,⟨(.inl ⟨rfl,rfl⟩),trivial⟩⟩⟩⟩⟩ hG) ?_
  have hx9:=Xdj (c:=c) (t:=t) (by omega) (by omega) (by omega) (by omega) (by omega) (by omega) (by omega) (by omega) (by omega)
  refine X8 (s':=(Zuk c t)) (fun _ _ hG=>Wi [0,2] (bm 5 20) (h1:=(Zuj c t)) (h2:=(Zuz c)) (t1:=Zun) rfl pp hG) ?_
  exact nJ
 refine sR [] (T.ret ?_)
 exact eX [.c 4 1 49 0 49 [dI (Yw c t).Xg,.d (dsl false false (kE false) (Yw c t).Xo),dU (Yw c t).Xc,.d (dsl false false (Xm false) (Yw c t).X4),dI (Yw c t).Ji,dI (Yw c t).Y1.X2,dU (Yw c t).Y1.X7,dI (Yw c t).X0.Xu,dI (Yw c t).X0.Xl,.d (dsl false false (Xz false) (Yw c t).W4)] (.agg (Zui c t))] ⟨⟨rfl,rfl,by kernel_rfl,by kernel_rfl,.inl ⟨10,Fe,rfl,Nat.le_of_ble_eq_true rfl⟩⟩,trivial⟩ [] rfl trivial
abbrev Zvn (a:List UInt8) (b:List UInt8):AV:=vB (decide (((a.length:Nat):Int)≠((b.length:Nat):Int)))
abbrev Zvo (a:List UInt8):AV:=vI ((a.length:Nat):Int)
theorem sl_Equal (ta:Bool) (na:Bool) (tb:Bool) (nb:Bool) (a:List UInt8) (b:List UInt8) (hl:a.length≤9223372036854775807):Holds Tryz.prog 74 ⟨[slV ta na kU8 a,slV tb nb kU8 b],[],vB (decide (a=b)),[]⟩:=by
 refine Holds.of Tryz.func74 rfl (N:=26) Tryz.ntmps74 rfl fun w0 B0 S0 U0=>?_
 show T _ (Y5 26 0 w0 S0 U0 B0) ⟨[slV ta na kU8 a,slV tb nb kU8 b],[]⟩ _ _
 refine sR [] (T.seq (sR [] ?_))
 by_cases hq1:((a.length:Nat):Int)≠((b.length:Nat):Int)
 ·refine cT (dT hq1) (sR [] (T.ret (rT ?_)))
  exact eRt 4 (.one (dB false)) [] (by have e1:((decide (a=b)):Bool)=false:=(by exact dF (fun e=>by have h9:a.length≠b.length:=(by omega);exact h9 (by rw [e])));have hE:=cB e1;exact hE) trivial
 refine cF (dF hq1) (T.skip (nT (T.seq (sR [] (T.block ?_)))))
 refine T.loop (ι:=Nat) (fun (k:Nat)=>⟨[slV ta na kU8 a,slV tb nb kU8 b,aa,aa,vB false,aa,aa,aa,aa,aa,(Zvn a b),aa,(Zvo a),vI ((k:Nat):Int)],[]⟩) (fun (k:Nat)=>(k≤a.length)∧(a.length=b.length)∧(∀ j,j<k→a.getD j 0=b.getD j 0)) (fun (k:Nat)=>a.length-k) (0) ⟨(Nat.zero_le _),(by omega),(fun j hj=>absurd hj (Nat.not_lt_zero _))⟩ (fun _ _ hG=>Yp [] (bm 14 13331) rfl rfl hG) ?_
 rintro k ⟨hk,hab,hb⟩
 show T _ _ ⟨[slV ta na kU8 a,slV tb nb kU8 b,aa,aa,vB false,aa,aa,aa,aa,aa,(Zvn a b),aa,(Zvo a),vI ((k:Nat):Int)],[]⟩ _ _
 replace hk:k≤a.length:=hk
 replace hab:a.length=b.length:=hab
 replace hb:∀ j,j<k→a.getD j 0=b.getD j 0:=hb
 refine sR [] (T.seq ?_)
 by_cases hq2:((k:Nat):Int)<((a.length:Nat):Int)
 ·refine cT (dT hq2) (T.skip (nT (T.seq (T.block (sR [] ?_)))))
  refine sD [[],[],[0,1],[0,1,2],[],[],[4,5],[4,5,6],[0,1,2,3,4,5,6,7]] [hR 2 rfl rfl (W9 ta na kU8 a k (k:=.i64) (i:=((k:Nat):Int)) Tryz.underlying25 J1 rfl rfl (by omega) (X3 rfl) trivial),hR 6 rfl rfl (W9 tb nb kU8 b k (k:=.i64) (i:=((k:Nat):Int)) Tryz.underlying25 J1 rfl rfl (by omega) (X3 rfl) trivial)] ?_
  by_cases hq3:(((a.getD k 0).toNat:Nat):Int)≠(((b.getD k 0).toNat:Nat):Int)
  ·have h9:a.getD k 0≠b.getD k 0:=fun w=>hq3 (by rw [w])
   refine cT (dT hq3) (sR [] (T.ret (rB (rT (rT (rB (rT ?_)))))))
   exact eRt 4 (.one (dB false)) [] (by have e1:((decide (a=b)):Bool)=false:=(by exact dF (fun e=>by have h9:a.getD k 0≠b.getD k 0:=‹_›;exact h9 (by rw [e])));have hE:=cB e1;exact hE) trivial
  have h9:¬¬a.getD k 0=b.getD k 0:=fun w=>w (UInt8.toNat.inj (by omega))
  refine cF (dF hq3) (T.skip (nB (nT (xK [hR 0 rfl rfl (Yg (u1:=.int .i64 ((k:Nat):Int)) (u2:=.int .i64 1) (v:=.int .i64 ((k+1:Nat):Int)) (W8 pb) (X3 rfl) ⟨rfl,trivial⟩)] ?_))))
  refine nL (k+1) ⟨(show (k+1)≤a.length from (by omega)),(show a.length=b.length from hab),(show ∀ j,j<(k+1)→a.getD j 0=b.getD j 0 from (Ud hb p1h))⟩ (show (a.length-(k+1):Nat)<a.length-k from (by omega)) (fun _ _ hG=>Yp [] (bm 14 13331) rfl rfl hG)
 refine cF (dF hq2) (T.exit (xT (xT (xH (nT (sR [] (T.ret ?_)))))))
 exact eRt 4 (.one (dB true)) [] (cB (by exact dT (Xia (z:=0) (k:=k) hab (by omega) hb))) trivial
section
variable (c:V4) (k:Nat)
end
end Go.Proofs.YtnaopgohccacmaaGreat.Q
namespace Go.Proofs.YtnaopgohccacmaaGreat.Q
set_option linter.unusedVariables false
set_option linter.unusedSimpArgs false
set_option maxRecDepth 100000
def ordE (C:aE→Int) (f:Int) (c:aC) (i:Int) (e:aE):Int :=
  if ceE C f c 4 (2*f+1)≠0 then ceE C f c 4 (2*f+1) else if i<0∨i≥(((ceV C f c 4 (2*f+1)).Xa.length:Nat):Int) then 2
  else if (ceV C f c 4 (2*f+1)).Xa.getD i.toNat zE≠e then 90 else 0
section
variable {C:aE→Int} {f:Int} {c:aC} {i:Int} {e:aE}
theorem ord_c (h:ceE C f c 4 (2*f+1)≠0):ordE C f c i e=ceE C f c 4 (2*f+1):=if_pos h
theorem ord_r (h:¬ceE C f c 4 (2*f+1)≠0) (h1:i<0∨i≥(((ceV C f c 4 (2*f+1)).Xa.length:Nat):Int)):ordE C f c i e=2:=(if_neg h).trans (if_pos h1)
theorem ord_p (h:¬ceE C f c 4 (2*f+1)≠0) (h1:¬i<0) (h2:¬i≥(((ceV C f c 4 (2*f+1)).Xa.length:Nat):Int)) (h3:(ceV C f c 4 (2*f+1)).Xa.getD i.toNat zE≠e):ordE C f c i e=90:=(if_neg h).trans ((if_neg (fun q=>q.elim h1 h2)).trans (if_pos h3))
theorem ord_ok (h:¬ceE C f c 4 (2*f+1)≠0) (h1:¬i<0) (h2:¬i≥(((ceV C f c 4 (2*f+1)).Xa.length:Nat):Int)) (h3:(ceV C f c 4 (2*f+1)).Xa.getD i.toNat zE=e):ordE C f c i e=0:=(if_neg h).trans ((if_neg (fun q=>q.elim h1 h2)).trans (if_neg (fun q=>q h3)))
end
theorem env_ext9 {a b:aE} (h1:a.X2=b.X2) (h2:a.X7=b.X7):a=b:=by
  cases a;cases b;cases h1;cases h2;rfl
theorem Xbx (C:aE→Int) (f:Int) (c:aC) (k n:Int) (i:Nat):((ceV C f c k n).Xa.getD i zE).X7.length≤9223372036854775807:=by
  have h:F9 (ceV C f c k n).Xa:=by
    unfold ceV
    split
    · exact X2d _
    · exact ⟨by decide,fun e he=>by cases he⟩
  by_cases hi:i<(ceV C f c k n).Xa.length
  · exact Nat.le_trans (Fr h hi).2 (by decide)
  · rw [List.getD_eq_getElem?_getD,List.getElem?_eq_none (by omega)];exact Nat.zero_le _
end Go.Proofs.YtnaopgohccacmaaGreat.Q
namespace Go.Proofs.YtnaopgohccacmaaGreat.Q
open Go Go.RowKit
set_option linter.unusedVariables false
set_option linter.unusedSimpArgs false
set_option maxRecDepth 100000
set_option maxHeartbeats 4000000
abbrev Zvz (c:aC):AV:=.tv (.agg [dI c.Yf.X2,dU c.Yf.X7,.d (dsl false false (kE false) c.Xo)])
theorem Xet (f:Int) (u:Int) (rows:List (Yb×Bool)) (c:aC) (i:Int) (e:aE) (hf:0≤f∧f≤2) (hu:0≤u∧u≤8) (hs:-9223372036854775808≤c.Yf.X2∧c.Yf.X2≤9223372036854775807) (hb9:c.Yf.X7.length≤100000000) (hx:F9 c.Xo):Holds Tryz.prog 30 ⟨[pv 0 0,.tv (.agg [dI c.Yf.X2,dU c.Yf.X7,.d (dsl false false (kE false) c.Xo)]),vI i,.tv (.agg [dI e.X2,dU e.X7])],[.box 130 [dI (3*f+1),dI u,.mref 1],mpK Xi Y8 rows],vI (ordE (Xd f u rows) f c i e),[.live (.box 130 [dI (3*f+1),dI u,.mref 1]),.live (mpK Xi Y8 rows)]⟩:=by
 refine Holds.of Tryz.func30 rfl (N:=53) Tryz.ntmps30 rfl fun w0 B0 S0 U0=>?_
 show T _ (Y5 53 2 w0 S0 U0 B0) ⟨[pv 0 0,(Zvz c),vI i,.tv (.agg [dI e.X2,dU e.X7])],[.live (.box 130 [dI (3*f+1),dI u,.mref 1]),.live (mpK Xi Y8 rows)]⟩ _ _
 have hbl:=Xbx (Xd f u rows) f c 4 (2*f+1) i.toNat
 refine sR [] (sR [hR 2 rfl rfl (rCa (X9y f u rows false c ‹_› ‹_› ‹_› ‹_› ‹_›) Tryz.func73 [0,1] [(.tmp 12,pv 0 0),(.tmp 13,(Zvz c))] 2 2)] (T.seq (T.block (sR [] ?_))))
 by_cases hq1:(ceE (Xd f u rows) f c 4 (2*f+1))≠0
 ·have hz9:=ord_c (i:=i) (e:=e) hq1
  refine cT (dT hq1) (sR [] (T.ret (rB (rT ?_))))
  exact eRt 8 (.one (dI (ceE (Xd f u rows) f c 4 (2*f+1)))) [0,1] p1f (ix (ix trivial))
 have h0:=hq1
 refine cF (dF hq1) ?_
 by_cases hq2:i<0
 ·have hz9:=ord_r (e:=e) h0 (.inl hq2)
  refine sR (Xr (hN · false (dT hq2)) [3,4,5,6,7] (hP 8 (dT hq2)::[])) (cT (b:=true) rfl (sR [] (T.ret (rB (rT ?_)))))
  exact eRt 8 (.one (dI 2)) [0,1] p1f (ix (ix trivial))
 have h1:=hq2
 refine sR (Xr (hY · (dF hq2)) [3,4,5,6,7] (hP 8 (dF hq2)::[])) ?_
 by_cases hq3:i≥(((ceV (Xd f u rows) f c 4 (2*f+1)).Xa.length:Nat):Int)
 ·have hz9:=ord_r (e:=e) h0 (.inr hq3)
  refine cT (dT hq3) (sR [] (T.ret (rB (rT ?_))))
  exact eRt 8 (.one (dI 2)) [0,1] p1f (ix (ix trivial))
 have h2:=hq3;have hin:i.toNat<(ceV (Xd f u rows) f c 4 (2*f+1)).Xa.length:=(by omega)
 refine cF (dF hq3) ?_
 by_cases hq4:((ceV (Xd f u rows) f c 4 (2*f+1)).Xa.getD (i).toNat zE).X2≠e.X2
 ·have hz9:=ord_p h0 h1 h2 (fun w=>hq4 (by rw [w]))
  refine sD [[],[0],[],[0,1,2],[0,1,2,3],[0,1,2,3,4],[],[6],[0,1,2,3,4,5,6,7],[0,1,2,3,4,5,6,7,8],[0,1,2,3,4,5,6,7,8,9],[0,1,2,3,4,5,6,7,8,9,10],[0,1,2,3,4,5,6,7,8,9],[0,1,2,3,4,5,6,7,8,9,10,11,12],[0,1,2,3,4,5,6,7,8,9,10,11,12,13],[0,1,2,3,4,5,6,7,8,9,10,11,12,13,14],[0,1,2,3,4,5,6,7,8,9],[0,1,2,3,4,5,6,7,8,9,16],[0,1,2,3,4,5,6,7,8,9,10,11,12,13,14,15,16,17],[0,1,2,3,4,5,6,7,8,9,10,11,12,13,14,15,16,17,18],[0,1,2,3,4,5,6,7,8,9,10,11,12,13,14,15,16,17,18,19],[0,1,2,3,4,5,6,7,8,9,10,11,12,13,14,15,16,17,18,19,20]] (hR 3 rfl rfl (W9 false false (kE false) (ceV (Xd f u rows) f c 4 (2*f+1)).Xa (i).toNat (k:=.i64) (i:=i) Tryz.underlying37 Wy rfl (by omega) ‹_› (X3 rfl) trivial)::(Xr (hN · false (dT hq4)) [10,11,12,13,14,15,16,17,18,19] (hP 20 (dT hq4)::[]))) ?_
  refine cT (b:=true) rfl (sR [] (T.ret (rB (rT ?_))))
  exact eRt 8 (.one (dI 90)) [0,1] p1f (ix (ix trivial))
 have h3:=Classical.not_not.1 hq4
 refine sD [[],[0],[],[0,1,2],[0,1,2,3],[0,1,2,3,4],[],[6],[0,1,2,3,4,5,6,7],[0,1,2,3,4,5,6,7,8],[0,1,2,3,4,5,6,7,8,9],[0,1,2,3,4,5,6,7,8,9,10],[0,1,2,3,4,5,6,7,8,9],[0,1,2,3,4,5,6,7,8,9,10,11,12],[0,1,2,3,4,5,6,7,8,9,10,11,12,13],[0,1,2,3,4,5,6,7,8,9,10,11,12,13,14],[0,1,2,3,4,5,6,7,8,9],[0,1,2,3,4,5,6,7,8,9,16],[0,1,2,3,4,5,6,7,8,9,10,11,12,13,14,15,16,17],[0,1,2,3,4,5,6,7,8,9,10,11,12,13,14,15,16,17,18],[0,1,2,3,4,5,6,7,8,9,10,11,12,13,14,15,16,17,18,19],[0,1,2,3,4,5,6,7,8,9,10,11,12,13,14,15,16,17,18,19,20]] (hR 3 rfl rfl (W9 false false (kE false) (ceV (Xd f u rows) f c 4 (2*f+1)).Xa (i).toNat (k:=.i64) (i:=i) Tryz.underlying37 Wy rfl (by omega) ‹_› (X3 rfl) trivial)::(Xr (hY · (dF hq4)) [10,11,12] (hS 13 (oY rfl rfl rfl rfl (X3 rfl) (dF hq4) (W9 false false (kE false) (ceV (Xd f u rows) f c 4 (2*f+1)).Xa (i).toNat (k:=.i64) (i:=i) Tryz.underlying37 Wy rfl (by omega) ‹_› (X3 rfl) p1s))::(Xr (hY · (dF hq4)) [14,15,16,17] (hS 18 (oY rfl rfl rfl rfl (X3 rfl) (dF hq4) (rCa (sl_Equal false false false false ((ceV (Xd f u rows) f c 4 (2*f+1)).Xa.getD (i).toNat zE).X7 e.X7 ‹_›) Tryz.func74 [] [(.tmp 47,slV false false kU8 ((ceV (Xd f u rows) f c 4 (2*f+1)).Xa.getD (i).toNat zE).X7),(.tmp 49,slV false false kU8 e.X7)] 0 0))::(hY 19 (dF hq4)::(hP 20 (dF hq4)::[]))))))) ?_
 by_cases hq5:((ceV (Xd f u rows) f c 4 (2*f+1)).Xa.getD (i).toNat zE).X7=e.X7
 ·have hz9:=ord_ok h0 h1 h2 (env_ext9 h3 hq5)
  refine cF (cn (dT hq5)) (T.skip (nB (nT (sR [] (T.ret ?_)))))
  exact eRt 8 (.one (dI 0)) [0,1] p1f (ix (ix trivial))
 have hz9:=ord_p h0 h1 h2 (fun w=>hq5 (by rw [w]))
 refine cT (cn (dF hq5)) (sR [] (T.ret (rB (rT ?_))))
 exact eRt 8 (.one (dI 90)) [0,1] p1f (ix (ix trivial))
abbrev Zw0 (c:aC):AV:=.tv (.agg [dI c.Yf.X2,dU c.Yf.X7,.d (dsl false false (kE false) c.Xo)])
theorem Xe1 (f:Int) (u:Int) (l:List aE) (c:aC) (i:Int) (e:aE) (hf:0≤f∧f≤2) (hu:0≤u∧u≤8) (hl:l.length≤9223372036854775806) (hs:-9223372036854775808≤c.Yf.X2∧c.Yf.X2≤9223372036854775807) (hb9:c.Yf.X7.length≤100000000) (hx:F9 c.Xo):Holds Tryz.prog 31 ⟨[pv 0 0,.tv (.agg [dI c.Yf.X2,dU c.Yf.X7,.d (dsl false false (kE false) c.Xo)]),vI i,.tv (.agg [dI e.X2,dU e.X7])],[.box 135 [dB true,dI f,dI u,.own 1 (kE false).sz 0 l.length],Xf 43 (kE false) l],vI (ordE (X9 f u l) f c i e),[.live (.box 135 [dB true,dI f,dI u,.own 1 (kE false).sz 0 l.length]),.live (Xf 43 (kE false) l)]⟩:=by
 refine Holds.of Tryz.func31 rfl (N:=37) Tryz.ntmps31 rfl fun w0 B0 S0 U0=>?_
 show T _ (Y5 37 2 w0 S0 U0 B0) ⟨[pv 0 0,(Zw0 c),vI i,.tv (.agg [dI e.X2,dU e.X7])],[.live (.box 135 [dB true,dI f,dI u,.own 1 (kE false).sz 0 l.length]),.live (Xf 43 (kE false) l)]⟩ _ _
 have hbl:=Xbx (X9 f u l) f c 4 (2*f+1) i.toNat
 refine sR [] (sR [hR 2 rfl rfl (rCa (X7b f u l c ‹_› ‹_› ‹_› ‹_› ‹_› ‹_›) Tryz.func75 [0,1] [(.tmp 12,pv 0 0),(.tmp 13,(Zw0 c))] 2 2)] (T.seq (sR [] ?_)))
 by_cases hq1:(ceE (X9 f u l) f c 4 (2*f+1))≠0
 ·have hz9:=ord_c (i:=i) (e:=e) hq1
  refine cT (dT hq1) (sR [] (T.ret (rT ?_)))
  exact eRt 8 (.one (dI (ceE (X9 f u l) f c 4 (2*f+1)))) [0,1] p1f (ix (ix trivial))
 have h0:=hq1
 refine cF (dF hq1) (T.skip (nT (T.seq ?_)))
 by_cases hq2:i<0
 ·have hz9:=ord_r (e:=e) h0 (.inl hq2)
  refine sR (Xr (hN · false (dT hq2)) [3,4,5,6,7] (hP 8 (dT hq2)::[])) (cT (b:=true) rfl (sR [] (T.ret (rT ?_))))
  exact eRt 8 (.one (dI 2)) [0,1] p1f (ix (ix trivial))
 have h1:=hq2
 refine sR (Xr (hY · (dF hq2)) [3,4,5,6,7] (hP 8 (dF hq2)::[])) ?_
 by_cases hq3:i≥(((ceV (X9 f u l) f c 4 (2*f+1)).Xa.length:Nat):Int)
 ·have hz9:=ord_r (e:=e) h0 (.inr hq3)
  refine cT (dT hq3) (sR [] (T.ret (rT ?_)))
  exact eRt 8 (.one (dI 2)) [0,1] p1f (ix (ix trivial))
 have h2:=hq3;have hin:i.toNat<(ceV (X9 f u l) f c 4 (2*f+1)).Xa.length:=(by omega)
 refine cF (dF hq3) (T.skip (nT (T.seq ?_)))
 refine sD [[],[0],[],[0,1,2],[0,1,2,3],[],[0,1,2,3,4,5],[0,1,2,3,4,5,6]] [hR 3 rfl rfl (W9 false false (kE false) (ceV (X9 f u l) f c 4 (2*f+1)).Xa (i).toNat (k:=.i64) (i:=i) Tryz.underlying37 Wy rfl (by omega) ‹_› (X3 rfl) trivial),hR 6 rfl rfl (rCa (Xgi false false ((ceV (X9 f u l) f c 4 (2*f+1)).Xa.getD (i).toNat zE) e ) Tryz.func21 [] [(.tmp 33,.tv (.agg [dI ((ceV (X9 f u l) f c 4 (2*f+1)).Xa.getD (i).toNat zE).X2,dU ((ceV (X9 f u l) f c 4 (2*f+1)).Xa.getD (i).toNat zE).X7])),(.tmp 34,.tv (.agg [dI e.X2,dU e.X7]))] 0 0)] ?_
 by_cases hq4:((ceV (X9 f u l) f c 4 (2*f+1)).Xa.getD (i).toNat zE)=e
 ·have hz9:=ord_ok h0 h1 h2 hq4
  refine cF (cn (dT hq4)) (T.skip (nT (sR [] (T.ret ?_))))
  exact eRt 8 (.one (dI 0)) [0,1] p1f (ix (ix trivial))
 have hz9:=ord_p h0 h1 h2 hq4
 refine cT (cn (dF hq4)) (sR [] (T.ret (rT ?_)))
 exact eRt 8 (.one (dI 90)) [0,1] p1f (ix (ix trivial))
end Go.Proofs.YtnaopgohccacmaaGreat.Q
namespace Go.Proofs.YtnaopgohccacmaaGreat.Q
set_option linter.unusedVariables false
set_option linter.unusedSimpArgs false
set_option maxRecDepth 100000
def gdB (b:Xs):Prop:=Fb b∧(0≤b.Xq∧b.Xq≤1000)∧b.Y9.length≤1000000∧(∀ e,e∈b.Xh→0≤e.X2∧e.X2≤100000)∧∀ r,r∈b.Xt→(0≤r.Xl∧r.Xl≤100000)∧r.Xu=0
theorem gdB_z:gdB Wp:=⟨by decide,by decide,by decide,fun e he=>(by cases he),fun r hr=>(by cases hr)⟩
theorem blk_gd9 {L:List Xs} {i n:Nat} (hn:n≤4) (hi:i≤100) (hL:(atB d9 L L.length).length≤1000000):gdB (Jy L i n):=by
  refine ⟨X6f hn (by omega),⟨?_,?_⟩,hL,fun e he=>?_,fun r hr=>?_⟩
  · show (0:Int)≤((i+1:Nat):Int);omega
  · show ((i+1:Nat):Int)≤1000;omega
  · obtain ⟨k,hk,rfl⟩:=List.mem_map.1 he
    have:=List.mem_range.1 hk
    show (0:Int)≤((1000+k:Nat):Int)∧((1000+k:Nat):Int)≤100000
    omega
  · obtain ⟨k,hk,rfl⟩:=List.mem_map.1 hr
    have:=List.mem_range.1 hk
    refine ⟨?_,rfl⟩
    show (0:Int)≤((i+k:Nat):Int)∧((i+k:Nat):Int)≤100000
    omega
theorem Xj9 (bs:List Int):∀ i,i≤30→∀ b,b∈Wl bs i→gdB b
  | 0,_=>fun b hb=>by cases hb
  | i+1,hi=>fun b hb=>by
    have hc:=X33 (bs.getD i 0)
    have h1:=(X34 bs i (by omega)).1
    rw [Wl] at hb
    rcases List.mem_append.1 hb with hb|hb
    · exact Xj9 bs i (by omega) b hb
    · rw [List.mem_singleton] at hb;rw [hb];exact blk_gd9 (by omega) (by omega) (by omega)
theorem rblk_gd9 {bs:List Int} {i:Nat} (hi:i≤30) (x:Int):gdB (rblk 0 (Wl bs i) x):=by
  unfold rblk
  split
  · rename_i h
    have h1:=h.1
    have h2:=h.2
    exact Xj9 bs i hi _ (Ur (by omega))
  · exact gdB_z
def gdH (h:Yh):Prop:=h.Y9.length≤1000000∧h.Wf.length≤1000000∧(0≤h.Yl∧h.Yl≤100000)∧X0w h.Xq
theorem gdH_of {b:Xs} (h:gdB b):gdH (V2 b):=by
  have h1:=Jh h.1
  have h2:(Wo (Yd b)).length≤25400:=J2 h1
  have h3:=h1.1
  have h4:=h.2.1
  refine ⟨h.2.2.1,Nat.le_trans h2 (by decide),?_,?_⟩
  · show 0≤(((Yd b).length:Nat):Int)∧(((Yd b).length:Nat):Int)≤100000;omega
  · show X0w b.Xq;unfold X0w;omega
def gd9 (c:V4):Prop:=F9 c.Xo∧c.Xc.length≤1000000∧(c.X4.length≤1000∧∀ h,h∈c.X4→gdH h)∧Ig szS 70 30000 c.W4∧c.Y1.X7.length≤500∧(0≤c.Xg∧c.Xg≤1000000)∧(0≤c.Ji∧c.Ji≤1000000)∧(0≤c.X0.Xl∧c.X0.Xl≤1000000)∧(0≤c.Y1.X2∧c.Y1.X2≤1000000)∧c.X0.Xu=0
theorem gd_z:gd9 Jz:=⟨⟨by decide,fun e he=>(by cases he)⟩,by decide,⟨by decide,fun e he=>(by cases he)⟩,⟨by decide,fun e he=>(by cases he)⟩,by decide,by decide,by decide,by decide,by decide,rfl⟩
theorem gd_sm {c:V4} (h:gd9 c):smT9 c:=by
  obtain ⟨h1,h2,⟨h3,h3b⟩,h4,h5,h6,h7,h8,h9,h10⟩:=h
  have h11:=h1.1
  have h41:=h4.1
  exact ⟨by omega,by omega,by omega,by omega,by omega,by omega,⟨by omega,by omega⟩,fun x hx=>Nat.le_trans (h3b x hx).1 (by decide)⟩
theorem gd_hs {l:List Yh} (h:∀ x,x∈l→gdH x):okHs l:=fun x hx=>by
  obtain ⟨h1,h2,h3,h4⟩:=h x hx
  exact ⟨by omega,by omega,by omega,h4⟩
theorem gd_ok {c:V4} (h:gd9 c):okC9 c:=by
  obtain ⟨h1,h2,⟨h3,h3b⟩,h4,h5,h6,h7,h8,h9,h10⟩:=h
  exact ⟨h1,by omega,gd_hs h3b,by omega,h4,h5,by unfold X0w;omega⟩
theorem Xkf {l:List aE} (h:F9 l) (k:Nat):F9 (l.drop k):=⟨by have:=h.1;rw [List.length_drop];omega,fun e he=>h.2 e (List.mem_of_mem_drop he)⟩
theorem hdX_ok {l:List Yh} (h:∀ x,x∈l→gdH x) (j:Nat) (hj:j<l.length):okHs (l.set j (hdX9 (l.getD j Y2))):=fun x hx=>by
  rcases List.mem_or_eq_of_mem_set hx with hx|hx
  · exact gd_hs h x hx
  · obtain ⟨h1,h2,h3,h4⟩:=h _ (Ur (z:=Y2) hj)
    rw [hx]
    refine ⟨?_,Nat.le_trans h2 (by decide),by show (l.getD j Y2).Yl≤_;omega,h4⟩
    show ((l.getD j Y2).Y9++[120]).length≤_
    rw [List.length_append,List.length_singleton];omega
theorem Xhc {c:V4} (h:gd9 c) (t:Yo):okC9 (Yw c t):=by
  have hk:=gd_ok h
  obtain ⟨h1,h2,⟨h3,h3b⟩,h4,h5,h6,h7,h8,h9,h10⟩:=h
  obtain ⟨k1,k2,k3,k4,k5,k6,k7⟩:=hk
  unfold Yw
  split
  · rename_i q
    refine ⟨h1,by omega,fun x hx=>?_,?_,h4,h5,k7⟩
    · rcases List.mem_append.1 hx with hx|hx
      · exact k3 x (List.mem_of_mem_take hx)
      · exact k3 x (List.mem_of_mem_drop hx)
    · show (c.X4.take _++c.X4.drop _).length≤_
      rw [List.length_append,List.length_take,List.length_drop];omega
  split
  · exact ⟨h1,by omega,k3,k4,h4,h5,k7⟩
  split
  · exact ⟨h1,by omega,k3,k4,h4,h5,k7⟩
  split
  · exact ⟨h1,by omega,k3,k4,h4,h5,by show X0w (c.Xg+1);unfold X0w;omega⟩
  split
  · rename_i q
    refine ⟨h1,by omega,hdX_ok h3b _ (X67 q.2).2,?_,h4,h5,k7⟩
    show (c.X4.set _ _).length≤_
    rw [List.length_set];omega
  split
  · refine ⟨h1,?_,k3,k4,h4,h5,k7⟩
    show (c.Xc++[0]).length≤_
    rw [List.length_append,List.length_singleton];omega
  split
  · exact ⟨h1,by omega,k3,k4,h4,h5,k7⟩
  split
  · exact ⟨h1,by omega,k3,k4,If h4 1,h5,k7⟩
  split
  · exact ⟨Xkf h1 1,by omega,k3,k4,h4,h5,k7⟩
  · exact ⟨h1,by omega,k3,k4,h4,h5,k7⟩
theorem prv_inv {bf:Int→Xs} {n:Nat} {seq:Int} {b:List UInt8} {h i:Int} (q:X4r bf n seq b h i=0):¬(h<1∨h>seq∨seq-h>999)∧¬seq>((n:Nat):Int)∧H2 (bf h) i=0:=by
  unfold X4r at q
  split at q
  · exact absurd q (by decide)
  split at q
  · exact absurd q (by decide)
  rename_i h1
  split at q
  · exact absurd q (by decide)
  rename_i h2
  exact ⟨h1,h2,q⟩
theorem prv_gd {bf:Int→Xs} {n:Nat} {seq:Int} {x:List aE} {b:List UInt8} {h i:Int} (hb:∀ y,gdB (bf y)) (hn:n≤1000) (hx:F9 x) (hd:b.length≤1000000):gd9 (Iu bf n seq x b h i):=by
  unfold Iu
  split
  · rename_i q
    obtain ⟨q1,q2,q3⟩:=prv_inv q
    obtain ⟨p1,p2,p3,p4,p5,p6,p7⟩:=Xii (hb h).1 q3
    have hf:=(hb h).1
    have hr:=hf.2.1
    obtain ⟨r1,r2,r3,r4,r5⟩:=hb h
    refine ⟨hx,hd,⟨?_,fun y hy=>?_⟩,p6,p7,⟨show (0:Int)≤seq by omega,show seq≤1000000 by omega⟩,⟨show (0:Int)≤i by omega,show i≤1000000 by omega⟩,?_,?_,?_⟩
    · rw [Xf2];omega
    · obtain ⟨t,_,rfl⟩:=List.mem_map.1 hy
      exact gdH_of (hb _)
    · have:=r5 _ (Ur (z:=Yk) (show i.toNat<(bf h).Xt.length by omega))
      exact ⟨this.1.1,Int.le_trans this.1.2 (by decide)⟩
    · have:=r4 _ (Ur (z:=zE) (show i.toNat<(bf h).Xh.length by omega))
      exact ⟨this.1,Int.le_trans this.2 (by decide)⟩
    · exact (r5 _ (Ur (z:=Yk) (show i.toNat<(bf h).Xt.length by omega))).2
  · exact gd_z
theorem made_gd9 {c:Yc} (hs:F8 c) (hr:rngW c) (k:Nat) (seq h i:Int):gd9 (Iu (rblk 0 (chL c)) (chL c).length seq (Ib c k) (Fc c) h i):=by
  have h0:=hs.1
  have hd:=X57 hs
  exact prv_gd (fun y=>rblk_gd9 (by omega) y) (by rw [X2f];omega) (Xhy hs hr) (by omega)
end Go.Proofs.YtnaopgohccacmaaGreat.Q
namespace Go.Proofs.YtnaopgohccacmaaGreat.Q
set_option linter.unusedVariables false
set_option linter.unusedSimpArgs false
set_option maxRecDepth 100000
def Xa7:Yc:=⟨[1,2],[],[0,1,3],false⟩
def X7k:List aE:=Hv (fOf 1) (cOf 1) Xa7 Xa7.Xv.length
def Jq:List Xs:=Wl Xa7.Xn Xa7.Xn.length
def X2k:List aE:=Ib Xa7 Xa7.Xv.length
def X15:List UInt8:=Fc Xa7
def Jj:V4:=Iu (rblk 0 Jq) Jq.length 2 X2k X15 1 0
theorem X47:F8 Xa7∧rngW Xa7:=⟨by decide,fun s hs=>by
  have h:s=0∨s=1∨s=3:=by simpa [Xa7] using hs
  unfold X0w;omega⟩
theorem Xa6:gd9 Jj:=made_gd9 X47.1 X47.2 3 2 1 0
theorem aw_pr9:Iu (Yz 0 (W3 Jq)) (W3 Jq).length 2 X2k X15 1 0=Jj∧X4r (Yz 0 (W3 Jq)) (W3 Jq).length 2 X15 1 0=0:=by
  rw [blk_fun,Id]
  exact ⟨rfl,by decide +kernel⟩
abbrev awF9:aE→Int:=Xd (fOf 1) (cOf 1) (Vr X7k)
theorem Xhr:c9E awF9 (fOf 1) Jj=0∧c9E awF9 (fOf 1) (Yw Jj ⟨2,0⟩)=90∧c9E awF9 (fOf 1) (Yw Jj ⟨9,0⟩)=32∧c9E awF9 (fOf 1) (Yw Jj ⟨1,1⟩)=100:=by decide +kernel
theorem aw_few9:F9 X2k∧X15.length≤1000000∧X72 Jq∧Jq.length=2:=⟨Xhy X47.1 X47.2,Nat.le_trans (X57 X47.1) (by decide),(X34 Xa7.Xn 2 (by decide)).2,rfl⟩
end Go.Proofs.YtnaopgohccacmaaGreat.Q
namespace Go.Proofs.YtnaopgohccacmaaGreat.Q
open Go Go.RowKit
set_option linter.unusedVariables false
set_option linter.unusedSimpArgs false
set_option maxRecDepth 100000
set_option maxHeartbeats 4000000
abbrev Zw1:SV:=.d (.val (.slice none 0 0))
abbrev Zw2:List AV:=[vB false,pv 10 0]
abbrev Zw3:HS:=.live (.box 130 [dI (3*(fOf 1)+1),dI (cOf 1),.mref 3])
abbrev Zw4:=(Yc.mk [1,2] ([]:List UInt8) [0,1,3] false)
abbrev Zw5:=(Hv (fOf 1) (cOf 1) Zw4 Zw4.Xv.length)
abbrev Zw6:SV:=dS (ofB 6 ([]:List (List UInt8)))
abbrev Zw7:=(Wl Zw4.Xn Zw4.Xn.length)
abbrev Zw8:List HS:=[.dead,.dead,Zw3,.live (mpK Xi Y8 (Vr Zw5)),.live (.box 135 [dB true,dI (fOf 1),dI (cOf 1),.own 5 (kE false).sz 0 Zw5.length]),.live (Xf 43 (kE false) Zw5),.live (.box 149 [dI 0,Zw6,dB true,.own 7 (Xj false).sz 0 (W3 Zw7).length]),.live (Xf 152 (Xj false) (W3 Zw7)),.live (.box 106 [dB true,dI 0,Zw6,.own 9 (Xy false).sz 0 Zw7.length]),.live (Xf 65 (Xy false) Zw7),.live (.box 39 [.ptr 2 0,.ptr 4 0,.ptr 6 0,.ptr 8 0,dU (Fc Zw4),.d (dsl false false (kE false) (Ib Zw4 Zw4.Xv.length))])]
abbrev Zw9:HS:=.live (mpK Xi Y8 (Vr X7k))
abbrev Zwa:HS:=.live (.box 135 [dB true,dI (fOf 1),dI (cOf 1),.own 5 (kE false).sz 0 X7k.length])
abbrev Zwb:HS:=.live (Xf 43 (kE false) X7k)
abbrev Zwc:HS:=.live (.box 149 [dI 0,Zw6,dB true,.own 7 (Xj false).sz 0 (W3 Jq).length])
abbrev Zwd:HS:=.live (Xf 152 (Xj false) (W3 Jq))
abbrev Zwe:HS:=.live (.box 106 [dB true,dI 0,Zw6,.own 9 (Xy false).sz 0 Jq.length])
abbrev Zwf:HS:=.live (Xf 65 (Xy false) Jq)
abbrev Zwg:HS:=.live (.box 39 [.ptr 2 0,.ptr 4 0,.ptr 6 0,.ptr 8 0,dU X15,.d (dsl false false (kE false) X2k)])
abbrev Zwh:List HS:=[.dead,.dead,Zw3,Zw9,Zwa,Zwb,Zwc,Zwd,Zwe,Zwf,Zwg]
abbrev Zwi:List AV:=[vB false,pv 10 0,pv 11 0,vI (X4r (Yz 0 (W3 Jq)) (W3 Jq).length 2 X15 1 0)]
abbrev Zwj:=(Iu (Yz 0 (W3 Jq)) (W3 Jq).length 2 X2k X15 1 0)
abbrev Zwk:List HS:=[.dead,.dead,Zw3,Zw9,Zwa,Zwb,Zwc,Zwd,Zwe,Zwf,Zwg,.live (.box 49 [dI Zwj.Xg,.d (dsl false false (kE false) Zwj.Xo),dU Zwj.Xc,.d (dsl false false (Xm false) Zwj.X4),dI Zwj.Ji,dI Zwj.Y1.X2,dU Zwj.Y1.X7,dI Zwj.X0.Xu,dI Zwj.X0.Xl,.d (dsl false false (Xz false) Zwj.W4)])]
abbrev Zwl:List AV:=[vB false,pv 10 0,pv 11 0,vI 0]
abbrev Zwm:List SV:=[dI Jj.Xg,.d (dsl false false (kE false) Jj.Xo),dU Jj.Xc,.d (dsl false false (Xm false) Jj.X4),dI Jj.Ji,dI Jj.Y1.X2,dU Jj.Y1.X7,dI Jj.X0.Xu,dI Jj.X0.Xl,.d (dsl false false (Xz false) Jj.W4)]
abbrev Zwn:List HS:=[.dead,.dead,Zw3,Zw9,Zwa,Zwb,Zwc,Zwd,Zwe,Zwf,Zwg,.live (.box 49 Zwm)]
abbrev Zwo:=(Yw Jj (Yo.mk 2 0))
abbrev Zwp:=(Yw Jj (Yo.mk 9 0))
abbrev Zwq:=(Yw Jj (Yo.mk 1 1))
theorem Xkl:Holds Tryz.prog 16 ⟨[],[],vB true,[]⟩:=by
 refine Holds.of Tryz.func16 rfl (N:=55) Tryz.ntmps16 rfl fun w0 B0 S0 U0=>?_
 show T _ (Y5 55 0 w0 S0 U0 B0) ⟨[],[]⟩ _ _
 have hf1:=Xhf 1
 have hu1:=Xho 1
 have hw1:F8 (Yc.mk [1,2] ([]:List UInt8) [0,1,3] false):=X47.1
 have hw2:rngW (Yc.mk [1,2] ([]:List UInt8) [0,1,3] false):=X47.2
 obtain ⟨hv1,hv2,hv3,hv4⟩:=aw_few9
 have hv5:=Xbi hv3
 have hv6:(W3 Jq).length≤100:=(by rw [Id,hv4];decide)
 have hk1:=gd_ok Xa6
 have hk2:=gd_sm Xa6
 have hk3:=Xhc Xa6 (Yo.mk 2 0)
 have hk4:=Xhc Xa6 (Yo.mk 9 0)
 have hk5:=Xhc Xa6 (Yo.mk 1 1)
 refine sR [] ?_
 refine sR [hR 1 rfl rfl (Ye 0 3 (U5 .i64) (X2w .i64) [1,2] [⟨0,.const (.int .i64 1),.one (dI 1),0⟩,⟨1,.const (.int .i64 2),.one (dI 2),1⟩] (cs:=[dI 1,dI 2]) Tryz.underlying24 X19 rfl X5m rfl rfl rfl pd (Yq rfl rfl pd (Yq rfl rfl pd W5)) pZ8 (V6 pZ8) (X3 rfl) ⟨rfl,⟨rfl,trivial⟩⟩),hR 2 rfl rfl (Ye 1 3 (U5 .i64) (X2w .i64) [0,1,3] [⟨0,.const (.int .i64 0),.one (dI 0),0⟩,⟨1,.const (.int .i64 1),.one (dI 1),1⟩,⟨2,.const (.int .i64 3),.one (dI 3),2⟩] (cs:=[dI 0,dI 1,dI 3]) Tryz.underlying24 X19 rfl X5m rfl rfl rfl pd (Yq rfl rfl pd (Yq rfl rfl pd (Yq rfl rfl pd W5))) pZ8 (V6 pZ8) (X3 rfl) ⟨rfl,⟨rfl,⟨rfl,trivial⟩⟩⟩),hR 4 rfl rfl (Ug 1 7 0 3 (U5 .i64) [1,2] (av:=.tv (.agg [.own 0 (U5 .i64).sz 0 [1,2].length,Zw1,.own 1 (U5 .i64).sz 0 [0,1,3].length,dB false])) (Ug 1 7 1 3 (U5 .i64) [0,1,3] (av:=.tv (.agg [.d (dsl false false (U5 .i64) [1,2]),Zw1,.own 1 (U5 .i64).sz 0 [0,1,3].length,dB false])) (rCn (Xex (V5.mk 1 1) (Yc.mk [1,2] ([]:List UInt8) [0,1,3] false) ‹_› ‹_›) Tryz.func10 [2,3,4,5,6,7,8,9] [(.tmp 4,.tv (.agg [dI 1,dI 1])),(.tmp 7,.tv (.agg [.d (dsl false false (U5 .i64) [1,2]),Zw1,.d (dsl false false (U5 .i64) [0,1,3]),dB false]))] 0 8 ⟨⟨.inl ⟨rfl,rfl⟩,⟨.inl ⟨rfl,rfl⟩,trivial⟩⟩,⟨⟨.inl ⟨rfl,rfl⟩,⟨.inr pq,⟨.inl ⟨rfl,rfl⟩,⟨.inl ⟨rfl,rfl⟩,trivial⟩⟩⟩⟩,trivial⟩⟩ trivial) rfl (.inr (kk2 ⟨pZ2,⟨.inl rfl,trivial⟩⟩)) p2g rfl rfl) rfl (.inr ⟨pZ2,⟨.inl rfl,(kk2 trivial)⟩⟩) p2g rfl rfl)] ?_
 refine tN ⟨Zw2,Zw8⟩ ?_
 refine Wr (s':=⟨Zw2,Zwh⟩) (fun _ _ hG=>Wi [12,14,2,3,4,5,6,7,8,9,10] [true,true] (h1:=Zwh) (h2:=Zw8) (t1:=Zw2) rfl (cg9 (fun (q1:List (Yb×Bool)) (q2:Nat) (q3:List aE) (q4:Nat) (q5:List Yi) (q6:Nat) (q7:List Xs) (q8:List UInt8) (q9:List aE)=>([.dead,.dead,Zw3,.live (mpK Xi Y8 q1),.live (.box 135 [dB true,dI (fOf 1),dI (cOf 1),.own 5 (kE false).sz 0 q2]),.live (Xf 43 (kE false) q3),.live (.box 149 [dI 0,Zw6,dB true,.own 7 (Xj false).sz 0 q4]),.live (Xf 152 (Xj false) q5),.live (.box 106 [dB true,dI 0,Zw6,.own 9 (Xy false).sz 0 q6]),.live (Xf 65 (Xy false) q7),.live (.box 39 [.ptr 2 0,.ptr 4 0,.ptr 6 0,.ptr 8 0,dU q8,.d (dsl false false (kE false) q9)])]:List HS)) (by rfl) (by rfl) (by rfl) (by rfl) (by rfl) (by rfl) (by rfl) (by rfl) (by rfl)) hG) ?_
 refine sR [hR 6 rfl rfl (rCa (Xes (ofB 6 ([]:List (List UInt8))) (W3 Jq) 2 X2k X15 1 0 ‹_› ‹_› ‹_› (by omega) (by omega) (by omega) (by omega)) Tryz.func17 [6,7] [(.tmp 11,pv 6 0),(.const (.int .i64 2),vI 2),(.tmp 13,slV false false (kE false) X2k),(.tmp 15,slV false false kU8 X15),(.const (.int .i64 1),vI 1),(.const (.int .i64 0),vI 0)] 2 2)] ?_
 by_cases hq1:(c9E (Xd (fOf 1) (cOf 1) (Vr X7k)) (fOf 1) Jj)=0
 ·by_cases hq2:(c9E (Xd (fOf 1) (cOf 1) (Vr X7k)) (fOf 1) (Yw Jj (Yo.mk 2 0)))=90
  ·by_cases hq3:(c9E (Xd (fOf 1) (cOf 1) (Vr X7k)) (fOf 1) (Yw Jj (Yo.mk 9 0)))=32
   ·refine tN ⟨Zwi,Zwk⟩ ?_
    refine Wr (s':=⟨Zwl,Zwn⟩) (fun _ _ hG=>Wi [13,15,2,3,4,5,6,7,8,9,10,11] (bm 4 15) (t1:=Zwl) (t2:=Zwi) (h1:=Zwn) (h2:=Zwk) (congrArg (fun (q1:Int)=>([vB false,pv 10 0,pv 11 0,vI q1]:List AV)) (by exact aw_pr9.2)) (by have e1:(Jj.Xg:Int)=(Iu (Yz 0 (W3 Jq)) (W3 Jq).length 2 X2k X15 1 0).Xg:=p2w;have e2:(Jj.Xo:List aE)=(Iu (Yz 0 (W3 Jq)) (W3 Jq).length 2 X2k X15 1 0).Xo:=p2w;have e3:(Jj.Xc:List UInt8)=(Iu (Yz 0 (W3 Jq)) (W3 Jq).length 2 X2k X15 1 0).Xc:=p2w;have e4:(Jj.X4:List Yh)=(Iu (Yz 0 (W3 Jq)) (W3 Jq).length 2 X2k X15 1 0).X4:=p2w;have e5:(Jj.Ji:Int)=(Iu (Yz 0 (W3 Jq)) (W3 Jq).length 2 X2k X15 1 0).Ji:=p2w;have e6:(Jj.Y1.X2:Int)=(Iu (Yz 0 (W3 Jq)) (W3 Jq).length 2 X2k X15 1 0).Y1.X2:=p2w;have e7:(Jj.Y1.X7:List UInt8)=(Iu (Yz 0 (W3 Jq)) (W3 Jq).length 2 X2k X15 1 0).Y1.X7:=p2w;have e8:(Jj.X0.Xu:Int)=(Iu (Yz 0 (W3 Jq)) (W3 Jq).length 2 X2k X15 1 0).X0.Xu:=p2w;have e9:(Jj.X0.Xl:Int)=(Iu (Yz 0 (W3 Jq)) (W3 Jq).length 2 X2k X15 1 0).X0.Xl:=p2w;have e10:(Jj.W4:List Yn)=(Iu (Yz 0 (W3 Jq)) (W3 Jq).length 2 X2k X15 1 0).W4:=p2w;have hE:=congr (congr (congr (congr (congr (congr (congr (congr (congr (congrArg (fun (q1:Int) (q2:List aE) (q3:List UInt8) (q4:List Yh) (q5:Int) (q6:Int) (q7:List UInt8) (q8:Int) (q9:Int) (q10:List Yn)=>([.dead,.dead,Zw3,Zw9,Zwa,Zwb,Zwc,Zwd,Zwe,Zwf,Zwg,.live (.box 49 [dI q1,.d (dsl false false (kE false) q2),dU q3,.d (dsl false false (Xm false) q4),dI q5,dI q6,dU q7,dI q8,dI q9,.d (dsl false false (Xz false) q10)])]:List HS)) e1) e2) e3) e4) e5) e6) e7) e8) e9) e10;exact hE) hG) ?_
    refine sD [[],[0],[0,1],[0,1,2],[0,1,2,3],[0,1,2],[0,1,2,3,4,5],[0,1,2,3,4,5,6],[0,1,2,3,4,5,6,7],[0,1,2,3,4,5,6,7,8],[0,1,2,3,4,5,6,7,8,9],[0,1,2,3,4,5,6,7,8,9,10],[0,1,2,3,4,5,6,7,8,9],[0,1,2,3,4,5,6,7,8,9],[0,1,2,3,4,5,6,7,8,9,12,13],[0,1,2,3,4,5,6,7,8,9,10,11,12,13,14],[0,1,2,3,4,5,6,7,8,9,10,11,12,13,14,15],[0,1,2,3,4,5,6,7,8,9,10,11,12,13,14,15,16],[0,1,2,3,4,5,6,7,8,9,10,11,12,13,14,15,16,17],[0,1,2,3,4,5,6,7,8,9,10,11,12,13,14,15,16,17,18],[0,1,2,3,4,5,6,7,8,9,10,11,12,13,14,15,16,17,18,19],[0,1,2,3,4,5,6,7,8,9,10,11,12,13,14,15,16,17,18],[0,1,2,3,4,5,6,7,8,9,10,11,12,13,14,15,16,17,18],[0,1,2,3,4,5,6,7,8,9,10,11,12,13,14,15,16,17,18,21,22],[0,1,2,3,4,5,6,7,8,9,10,11,12,13,14,15,16,17,18,19,20,21,22,23],[0,1,2,3,4,5,6,7,8,9,10,11,12,13,14,15,16,17,18,19,20,21,22,23,24],[0,1,2,3,4,5,6,7,8,9,10,11,12,13,14,15,16,17,18,19,20,21,22,23,24,25],[0,1,2,3,4,5,6,7,8,9,10,11,12,13,14,15,16,17,18,19,20,21,22,23,24,25,26],[0,1,2,3,4,5,6,7,8,9,10,11,12,13,14,15,16,17,18,19,20,21,22,23,24,25,26,27],[0,1,2,3,4,5,6,7,8,9,10,11,12,13,14,15,16,17,18,19,20,21,22,23,24,25,26,27,28],[0,1,2,3,4,5,6,7,8,9,10,11,12,13,14,15,16,17,18,19,20,21,22,23,24,25,26,27],[0,1,2,3,4,5,6,7,8,9,10,11,12,13,14,15,16,17,18,19,20,21,22,23,24,25,26,27],[0,1,2,3,4,5,6,7,8,9,10,11,12,13,14,15,16,17,18,19,20,21,22,23,24,25,26,27,30,31],[0,1,2,3,4,5,6,7,8,9,10,11,12,13,14,15,16,17,18,19,20,21,22,23,24,25,26,27,28,29,30,31,32],[0,1,2,3,4,5,6,7,8,9,10,11,12,13,14,15,16,17,18,19,20,21,22,23,24,25,26,27,28,29,30,31,32,33],[0,1,2,3,4,5,6,7,8,9,10,11,12,13,14,15,16,17,18,19,20,21,22,23,24,25,26,27,28,29,30,31,32,33,34],[0,1,2,3,4,5,6,7,8,9,10,11,12,13,14,15,16,17,18,19,20,21,22,23,24,25,26,27,28,29,30,31,32,33,34,35]] (Xr hY1 [3,4,5] (hS 6 (oY (b:=true) rfl rfl rfl rfl (X3 rfl) rfl (rCa (Ef (fOf 1) (cOf 1) (Vr X7k) Jj ‹_› ‹_› ‹_›) Tryz.func14 [2,3] [(.tmp 23,pv 2 0),(.tmp 24,.tv (.agg Zwm))] 2 2))::(hY1 7::(hP1 8::(Xr (hY · (dT hq1)) [10,11,12,13] (hS 14 (oY rfl rfl rfl rfl (X3 rfl) (dT hq1) (rCa (X40 Jj (Yo.mk 2 0) ‹_›) Tryz.func13 [] [(.tmp 31,.tv (.agg Zwm)),(.tmp 32,.tv (.agg [dI 2,dI 0]))] 0 0))::(hS 15 (oY rfl rfl rfl rfl (X3 rfl) (dT hq1) (rCa (Ef (fOf 1) (cOf 1) (Vr X7k) (Yw Jj (Yo.mk 2 0)) ‹_› ‹_› ‹_›) Tryz.func14 [2,3] [(.tmp 30,pv 2 0),(.tmp 33,.tv (.agg [dI Zwo.Xg,.d (dsl false false (kE false) Zwo.Xo),dU Zwo.Xc,.d (dsl false false (Xm false) Zwo.X4),dI Zwo.Ji,dI Zwo.Y1.X2,dU Zwo.Y1.X7,dI Zwo.X0.Xu,dI Zwo.X0.Xl,.d (dsl false false (Xz false) Zwo.W4)]))] 2 2))::(hY 16 (dT hq1)::(hP 17 (dT hq1)::(Xr (hY · (dT hq2)) [19,20,21,22] (hS 23 (oY rfl rfl rfl rfl (X3 rfl) (dT hq2) (rCa (X40 Jj (Yo.mk 9 0) ‹_›) Tryz.func13 [] [(.tmp 40,.tv (.agg Zwm)),(.tmp 41,.tv (.agg [dI 9,dI 0]))] 0 0))::(hS 24 (oY rfl rfl rfl rfl (X3 rfl) (dT hq2) (rCa (Ef (fOf 1) (cOf 1) (Vr X7k) (Yw Jj (Yo.mk 9 0)) ‹_› ‹_› ‹_›) Tryz.func14 [2,3] [(.tmp 39,pv 2 0),(.tmp 42,.tv (.agg [dI Zwp.Xg,.d (dsl false false (kE false) Zwp.Xo),dU Zwp.Xc,.d (dsl false false (Xm false) Zwp.X4),dI Zwp.Ji,dI Zwp.Y1.X2,dU Zwp.Y1.X7,dI Zwp.X0.Xu,dI Zwp.X0.Xl,.d (dsl false false (Xz false) Zwp.W4)]))] 2 2))::(hY 25 (dT hq2)::(hP 26 (dT hq2)::(Xr (hY · (dT hq3)) [28,29,30,31] (hS 32 (oY rfl rfl rfl rfl (X3 rfl) (dT hq3) (rCa (X40 Jj (Yo.mk 1 1) ‹_›) Tryz.func13 [] [(.tmp 49,.tv (.agg Zwm)),(.tmp 50,.tv (.agg [dI 1,dI 1]))] 0 0))::(hS 33 (oY rfl rfl rfl rfl (X3 rfl) (dT hq3) (rCa (Ef (fOf 1) (cOf 1) (Vr X7k) (Yw Jj (Yo.mk 1 1)) ‹_› ‹_› ‹_›) Tryz.func14 [2,3] [(.tmp 48,pv 2 0),(.tmp 51,.tv (.agg [dI Zwq.Xg,.d (dsl false false (kE false) Zwq.Xo),dU Zwq.Xc,.d (dsl false false (Xm false) Zwq.X4),dI Zwq.Ji,dI Zwq.Y1.X2,dU Zwq.Y1.X7,dI Zwq.X0.Xu,dI Zwq.X0.Xl,.d (dsl false false (Xz false) Zwq.W4)]))] 2 2))::(hY 34 (dT hq3)::(hP 35 (dT hq3)::[]))))))))))))))))))) ?_
    refine T.ret ?_
    exact eRt 0 (.one (dB (decide ((c9E (Xd (fOf 1) (cOf 1) (Vr X7k)) (fOf 1) Zwq)=100)))) [] (cB (by rfl)) trivial
   exact absurd Xhr.2.2.1 hq3
  exact absurd Xhr.2.1 hq2
 exact absurd Xhr.1 hq1
end Go.Proofs.YtnaopgohccacmaaGreat.Q
namespace Go.Proofs.YtnaopgohccacmaaGreat.Q
set_option linter.unusedVariables false
set_option linter.unusedSimpArgs false
set_option maxRecDepth 100000
theorem Xhh (f u:Int) (l:List aE):Xd f u (Vr l)=X9 f u l:=funext fun e=>Xkz f u l e
section
variable {bs:List Int} {n:Nat} {y:Int}
end
end Go.Proofs.YtnaopgohccacmaaGreat.Q
namespace Go.Proofs.YtnaopgohccacmaaGreat.Q
set_option linter.unusedVariables false
set_option linter.unusedSimpArgs false
set_option maxRecDepth 100000
end Go.Proofs.YtnaopgohccacmaaGreat.Q
namespace Go.Proofs.YtnaopgohccacmaaGreat.Q
set_option linter.unusedVariables false
set_option linter.unusedSimpArgs false
set_option maxRecDepth 100000
end Go.Proofs.YtnaopgohccacmaaGreat.Q
namespace Go.Proofs.YtnaopgohccacmaaGreat.Q
set_option linter.unusedVariables false
set_option linter.unusedSimpArgs false
set_option maxRecDepth 100000
def Jm (s:Int) (m:aM):aE:=⟨s,Vh m⟩
def X3h (k:Nat):aM:=⟨1,0,0,1000,((k+1:Nat):Int),[],[],Yk,[],[],[]⟩
abbrev reqE9 (k:Nat):aE:=Jm 1000 (X3h k)
def W7 (n:Nat):List aE:=(List.range n).map reqE9
theorem X3u (n:Nat):W7 (n+1)=W7 n++[reqE9 n]:=by unfold W7;rw [List.range_succ,List.map_append];rfl
theorem X5t (n:Nat):(W7 n).length=n:=by unfold W7;rw [List.length_map,List.length_range]
def J7 (v s:Int) (n:Nat):aM:=⟨2,v,s,0,0,X1k (W7 n),[],Yk,W7 n,[],[]⟩
def Iy (v s:Int) (n:Nat):aM:=⟨4,v,s,0,0,X1k (W7 n),[],Yk,[],[],[]⟩
abbrev comE9 (v s:Int) (n:Nat) (w:Int):aE:=Jm w (Iy v s n)
def Jp (v s:Int) (n:Nat) (ws:List Int) (k:Nat):List aE:=(ws.take k).map (comE9 v s n)
theorem X9v {v s:Int} {n:Nat} {ws:List Int} {k:Nat} (hk:k<ws.length):Jp v s n ws (k+1)=Jp v s n ws k++[comE9 v s n (ws.getD k 0)]:=by unfold Jp;rw [Ic (z:=0) hk,List.map_append];rfl
theorem Xkt {v s:Int} {n:Nat} {ws:List Int} {k:Nat} (hk:k≤ws.length):(Jp v s n ws k).length=k:=by unfold Jp;rw [List.length_map,List.length_take];omega
def It (f u:Int) (l:List aE):Nat→List aE
  | 0=>l
  | k+1=>Vg f u (It f u l k) 1000 (Vh (X3h k))
def X0f (f u v s:Int) (n:Nat) (ws:List Int) (l:List aE):Nat→List aE
  | 0=>l
  | k+1=>Vg f u (X0f f u v s n ws l k) (ws.getD k 0) (Vh (Iy v s n))
theorem Xdr (f u:Int) (l:List aE):∀ k,(It f u l k).length≤l.length+k
  | 0=>Nat.le_refl _
  | k+1=>by have:=X2r f u (It f u l k) 1000 (Vh (X3h k));have:=Xdr f u l k;rw [It];omega
theorem Xds (f u v s:Int) (n:Nat) (ws:List Int) (l:List aE):∀ k,(X0f f u v s n ws l k).length≤l.length+k
  | 0=>Nat.le_refl _
  | k+1=>by have:=X2r f u (X0f f u v s n ws l k) (ws.getD k 0) (Vh (Iy v s n));have:=Xds f u v s n ws l k;rw [X0f];omega
theorem X7y (m:aM):(Vh m).length≤(Ya m 9).length:=by
  unfold Vh;split
  · exact Nat.le_refl _
  · exact Nat.zero_le _
theorem Xb9 (k:Nat):(Ya (X3h k) 9).length≤100:=by
  have h:=X10 (X3h k)
  have h1:(Vd (X3h k).Xa).length=4:=rfl
  have h2:(Vd (X3h k).Xw).length=4:=rfl
  have h3:(Hs (X3h k).X5).length=4:=rfl
  have h4:(X3h k).X6.length=0:=rfl
  have h5:(X3h k).Xc.length=0:=rfl
  omega
theorem Xjy (k:Nat):(reqE9 k).X7.length≤100:=Nat.le_trans (X7y _) (Xb9 k)
theorem X32:∀ n,(Jf (W7 n)).length≤112*n
  | 0=>Nat.le_refl _
  | n+1=>by
    have:=X32 n
    have:=Xjy n
    rw [X3u]
    unfold Jf at *
    rw [List.flatMap_append,List.length_append]
    simp only [List.flatMap_cons,List.flatMap_nil,List.append_nil,X53]
    omega
theorem X5e {n:Nat} (hn:n≤4):(X1k (W7 n)).length≤500:=by
  have h:=X32 n
  have hl:=X5t n
  unfold X1k
  rw [X0q,X88]
  omega
theorem Xbc {v s:Int} {n:Nat} (hn:n≤4):(Ya (J7 v s n) 9).length≤1200:=by
  have h:=X10 (J7 v s n)
  have h1:(Vd (J7 v s n).Xa).length=4+(Jf (W7 n)).length:=Fv _
  have h2:(Vd (J7 v s n).Xw).length=4:=rfl
  have h3:(Hs (J7 v s n).X5).length=4:=rfl
  have h4:(J7 v s n).X6.length≤500:=X5e hn
  have h5:(J7 v s n).Xc.length=0:=rfl
  have h6:=X32 n
  omega
theorem Xbr {v s:Int} {n:Nat} (hn:n≤4):(Ya (Iy v s n) 9).length≤1200:=by
  have h:=X10 (Iy v s n)
  have h1:(Vd (Iy v s n).Xa).length=4:=rfl
  have h2:(Vd (Iy v s n).Xw).length=4:=rfl
  have h3:(Hs (Iy v s n).X5).length=4:=rfl
  have h4:(Iy v s n).X6.length≤500:=X5e hn
  have h5:(Iy v s n).Xc.length=0:=rfl
  omega
theorem comL_ok9 {v s:Int} {n:Nat} {ws:List Int} {k:Nat} (hn:n≤4) (hw:ws.length≤12) (hr:∀ w,w∈ws→X0w w):F9 (Jp v s n ws k):=⟨by
  unfold Jp;rw [List.length_map,List.length_take];omega,fun e he=>by
  obtain ⟨w,hw2,rfl⟩:=List.mem_map.1 he
  exact ⟨hr w (List.mem_of_mem_take hw2),Nat.le_trans (Nat.le_trans (X7y _) (Xbr hn)) (by decide)⟩⟩
theorem pri_rng9 {f:Int} (hf:0≤f∧f≤2) (v:Int):-9223372036854775808≤W1 f v∧W1 f v≤9223372036854775807:=by
  unfold W1
  split
  · omega
  · have h1:=Int.emod_nonneg v (b:=3*f+1) (by omega)
    have h2:=Int.emod_lt_of_pos v (b:=3*f+1) (by omega)
    omega
def X1b (l:List aE) (a:Int):aE:=if 0<l.length then l.getD ((Int.tmod a ((l.length:Nat):Int)+((l.length:Nat):Int)) % ((l.length:Nat):Int)).toNat zE else ⟨1000,[]⟩
theorem Xjg {l:List aE} {a:Int} (h:0<l.length):X1b l a=l.getD ((Int.tmod a ((l.length:Nat):Int)+((l.length:Nat):Int)) % ((l.length:Nat):Int)).toNat zE:=if_pos h
theorem ask_no {l:List aE} {a:Int} (h:¬0<l.length):X1b l a=⟨1000,[]⟩:=if_neg h
end Go.Proofs.YtnaopgohccacmaaGreat.Q
namespace Go.Proofs.YtnaopgohccacmaaGreat.Q
set_option linter.unusedVariables false
set_option linter.unusedSimpArgs false
section
variable {P:Program}
def Xf7 {H:Type} (P:Program) (t:TypeId) (d:DataW H):Prop:=∀ n,n∈d.weights P t→n≤reachBytes
def RdS {α:Type} (P:Program) (t:TypeId) (K:Kd α) (ok:α→Prop):Prop :=
  ∀ (H:Type) (enc:TypeId×Value→H) (w:World) (base:Nat) (sp:Nat→Bool) (held:Bool) (fuel:Nat) (cs:List Value) (x:DataW H×List MemPlace),DataW.trod enc P w base sp held fuel t cs=some x→Xf7 P t x.1→∃ a:α,ok a∧X5a w K a cs
theorem Rd.s {α:Type} {t:TypeId} {K:Kd α} {ok:α→Prop} (h:Rd P t K ok):RdS P t K ok:=fun H enc w base sp held fuel cs x hx _=>h H enc w base sp held fuel cs x hx
theorem X22 {H:Type} {e:TypeId} {n:Nat}:∀ {l:List (DataW H)} {i:Nat} {d:DataW H},l[i]?=some d→n∈d.weights P e→n∈DataW.weightsAll P e l
  | a::l,0,d,h,hn=>by
    simp only [List.getElem?_cons_zero,Option.some.injEq] at h
    subst h
    simp only [DataW.weightsAll,List.mem_append]
    exact .inl hn
  | a::l,i+1,d,h,hn=>by
    simp only [List.getElem?_cons_succ] at h
    simp only [DataW.weightsAll,List.mem_append]
    exact .inr (X22 h hn)
  | [],_,_,h,_=>by simp at h
theorem Xk2 {α:Type} {t e:TypeId} {K:Kd α} {ok:α→Prop} (ht:P.underlying t=some (.slice e)) (hc:P.cellsOf e=K.sz) (hK:0<K.sz) (hb:0<P.bytesOf e) (h:RdS P e K ok):RdS P t (kSl false K) (fun xs=>xs.length≤reachBytes∧∀ x,x∈xs→ok x):=fun H enc w base sp held fuel cs x hx hfit=>by
  have mk:∀ (xs:List α) (u:Value),cs=[u]→dOk (inW w) (inW w) w (dsl false false K xs) u→X5a w (kSl false K) xs cs:=fun xs u e hd=>⟨by rw [e];rfl,fun j hj=>by
    have hj:j<1:=hj
    obtain rfl:j=0:=by omega
    exact ⟨u,by rw [e];rfl,hd⟩⟩
  rcases DataW.trod_slice ht hx with ⟨hcs,_⟩|⟨a,len,cap,elems,rest,n,_,hcs,hxx,hb2,hl,hm,hlen,hel,_,_⟩
  · exact ⟨[],⟨by simp,fun x hx=>by cases hx⟩,mk [] _ hcs ⟨none,0,rfl,Nat.le_refl _,fun _=>rfl,pZs,fun i hi=>absurd hi (Nat.not_lt_zero _)⟩⟩
  · have hw:∀ n,n∈((elems.map (·.1)).length+(rest.map (·.1)).length)*P.bytesOf e::(DataW.weightsAll P e (elems.map (·.1))++DataW.weightsAll P e (rest.map (·.1)))→n≤reachBytes:=fun n hn=>hfit n (by
      rw [hxx]
      simp only [DataW.weights,ht]
      exact hn)
    have hlenR:len≤reachBytes:=by
      have h1:=hw _ (List.mem_cons_self ..)
      simp only [List.length_map,hlen] at h1
      have h2:len*1≤(len+rest.length)*P.bytesOf e:=Nat.mul_le_mul (Nat.le_add_right _ _) hb
      omega
    have hr:∀ i,i<len→∃ b:α,ok b∧∃ cs',w.cells? base (a.add (i*P.cellsOf e)) (P.cellsOf e)=some cs'∧X5a w K b cs':=fun i hi=>by
      have h1:=hel i hi
      rw [List.getElem?_eq_getElem (by omega),Option.bind_eq_some_iff] at h1
      obtain ⟨cs',h2,h3⟩:=h1
      obtain ⟨b,hb1,hb2⟩:=h H enc w base sp held n cs' _ h3 fun n hn=>hw n (List.mem_cons_of_mem _ (List.mem_append_left _ (X22 (i:=i) (by rw [List.getElem?_map,List.getElem?_eq_getElem (by omega)];rfl) hn)))
      exact ⟨b,hb1,cs',h2,hb2⟩
    obtain ⟨xs,hxl,hxs⟩:=X70 len hr
    refine ⟨xs,⟨by omega,fun x hx=>?_⟩,mk xs _ hcs ⟨some a,cap,by rw [hxl],by rw [hxl];exact hl,by simp,by simp,fun i hi=>?_⟩⟩
    · obtain ⟨i,hi,rfl⟩:=List.getElem_of_mem hx
      exact (hxs i _ (List.getElem?_eq_getElem hi)).1
    · have hi0:0<xs.length:=by omega
      obtain ⟨_,cs0,hc0,ho0⟩:=hxs 0 _ (List.getElem?_eq_getElem hi0)
      obtain ⟨_,hl0,hg0⟩:=World.cells?_some hc0
      have h00:=hg0 0 (by rw [hc];exact hK)
      obtain ⟨u0,hu0,_⟩:=ho0.2 0 hK
      rw [hu0] at h00
      have hcell:w.cell? a=some u0:=by simpa [Addr.add] using h00
      have hspot:a.spot=none:=by
        unfold World.cell? at hcell
        split at hcell
        · cases hs:a.spot with
          | none=>rfl
          | some q=>rw [hs] at hcell;simp at hcell
        · cases hcell
      have hblk:a.block<w.heap.size:=World.cells?_block (a:=a.add (0*P.cellsOf e)) hc0 (by rw [hc];exact hK) |> fun h=>by simpa [Addr.add] using h
      refine ⟨a,rfl,hspot,hblk,fun j hj=>?_⟩
      obtain ⟨_,cs',hc',ho'⟩:=hxs i _ (List.getElem?_eq_getElem hi)
      obtain ⟨_,hl',hg'⟩:=World.cells?_some hc'
      have hij:=hg' j (by rw [hc];exact hj)
      obtain ⟨u,hu,hd⟩:=ho'.2 j hj
      rw [hu,hc] at hij
      refine ⟨u,?_,?_⟩
      · rw [← hij]
        congr 1
        obtain ⟨b,o,s⟩:=a
        simp only at hspot
        subst hspot
        simp only [Addr.add]
        split<;>split<;>simp_all
        · omega
      · show dOk _ _ w (K.cell (xs.getD i K.z) j) u
        rw [List.getD_eq_getElem?_getD,List.getElem?_eq_getElem hi]
        exact hd
theorem X0k {H:Type} {enc:TypeId×Value→H} {w:World} {base:Nat} {sp:Nat→Bool} {held:Bool} {fuel:Nat} {cs:List Value} {x:DataW H×List MemPlace} {t:TypeId} {fs:Array Field} (ht:P.underlying t=some (.struct fs)) (h:DataW.trod enc P w base sp held fuel t cs=some x) (hfit:Xf7 P t x.1) :
    ∃ (xs:List (DataW H×List MemPlace)) (n:Nat),cs.length=P.cellsOf t∧xs.length=fs.size∧(∀ (i:Nat) (f:Field),fs[i]?=some f→DataW.trod enc P w base sp held n f.type ((cs.drop f.offset).take (P.cellsOf f.type))=xs[i]?)∧∀ (i:Nat) (f:Field) (y:DataW H×List MemPlace),fs[i]?=some f→xs[i]?=some y→Xf7 P f.type y.1:=by
  obtain ⟨xs,n,_,hx,hl,hxl,hf⟩:=DataW.trod_struct ht h
  refine ⟨xs,n,hl,hxl,hf,fun i f y h1 h2 k hk=>hfit k ?_⟩
  rw [hx]
  simp only [DataW.weights,ht]
  exact DataW.weights_mem_each (j:=i) (t:=f.type) (d:=y.1) (by rw [List.getElem?_map,Array.getElem?_toList,h1];rfl) (by rw [List.getElem?_map,h2];rfl) k hk
theorem Jd {α:Type} {K:Kd α} {ok:α→Prop} {H:Type} {enc:TypeId×Value→H} {w:World} {base:Nat} {sp:Nat→Bool} {held:Bool} {n:Nat} {cs:List Value} {xs:List (DataW H×List MemPlace)} {fs:Array Field} (hx:xs.length=fs.size)
    (h:∀ (i:Nat) (f:Field),fs[i]?=some f→DataW.trod enc P w base sp held n f.type ((cs.drop f.offset).take (P.cellsOf f.type))=xs[i]?) (hw:∀ (i:Nat) (f:Field) (y:DataW H×List MemPlace),fs[i]?=some f→xs[i]?=some y→Xf7 P f.type y.1) (i:Nat) {f:Field} (hf:fs[i]?=some f) {t:TypeId} {off:Nat} (ht:f.type=t) (ho:f.offset=off) (hr:RdS P t K ok) :
    ∃ a:α,ok a∧∀ j,j<K.sz→∃ u,cs[off+j]?=some u∧dOk (inW w) (inW w) w (K.cell a j) u:=by
  subst ht ho
  have hi:i<xs.length:=by rw [hx];exact (Array.getElem?_eq_some_iff.1 hf).1
  have h1:=h i f hf
  have hi2:=List.getElem?_eq_getElem hi
  rw [hi2] at h1
  obtain ⟨a,h2,h3,h4⟩:=hr H enc w base sp held n _ _ h1 (hw i f _ hf hi2)
  refine ⟨a,h2,fun j hj=>?_⟩
  obtain ⟨u,hu,hd⟩:=h4 j hj
  refine ⟨u,?_,hd⟩
  rw [List.getElem?_take] at hu
  split at hu
  · rwa [List.getElem?_drop] at hu
  · cases hu
theorem X9k {H:Type} {ts:List TypeId} {ds:List (DataW H)} (h:(DataW.weightsEach P ts ds).all (·≤reachBytes)=true) {j:Nat} {t:TypeId} {d:DataW H} (ht:ts[j]?=some t) (hd:ds[j]?=some d):Xf7 P t d:=fun n hn=>by
  have:=List.all_eq_true.1 h _ (DataW.weights_mem_each ht hd n hn)
  simpa using this
end
end Go.Proofs.YtnaopgohccacmaaGreat.Q
namespace Go.Proofs.YtnaopgohccacmaaGreat.Q
open Go Go.RowKit
set_option linter.unusedVariables false
set_option linter.unusedSimpArgs false
set_option maxRecDepth 100000
set_option maxHeartbeats 4000000
def X0p (x:V5):Prop:=(fun (n:Int)=>(Lit.int .i64 n).wf=true) x.V8∧(fun (n:Int)=>(Lit.int .i64 n).wf=true) x.Xx
theorem X0m:RdS Tryz.prog 23 (X25 false) X0p:=fun H enc w base sp held fuel cs x h hfit=>by
  obtain ⟨xs,n,hl,hxl,hf,hw⟩:=X0k Tryz.underlying23 h hfit
  obtain ⟨a0,o0,c0⟩:=Jd hxl hf hw 0 rfl (t:=3) (off:=0) rfl rfl (Rd.s (Ep Tryz.underlying3))
  obtain ⟨a1,o1,c1⟩:=Jd hxl hf hw 1 rfl (t:=3) (off:=1) rfl rfl (Rd.s (Ep Tryz.underlying3))
  refine ⟨⟨a0,a1⟩,⟨o0,o1⟩,by rw [hl];kernel_rfl,fun j hj=>?_⟩
  replace hj:j<2:=hj
  rcases j with _|_|j
  · exact c0 0 (by decide)
  · exact c1 0 (by decide)
  · omega
def Hd (x:Yo):Prop:=(fun (n:Int)=>(Lit.int .i64 n).wf=true) x.Wu∧(fun (n:Int)=>(Lit.int .i64 n).wf=true) x.Wh
theorem X0l:RdS Tryz.prog 29 (X24 false) Hd:=fun H enc w base sp held fuel cs x h hfit=>by
  obtain ⟨xs,n,hl,hxl,hf,hw⟩:=X0k Tryz.underlying29 h hfit
  obtain ⟨a0,o0,c0⟩:=Jd hxl hf hw 0 rfl (t:=3) (off:=0) rfl rfl (Rd.s (Ep Tryz.underlying3))
  obtain ⟨a1,o1,c1⟩:=Jd hxl hf hw 1 rfl (t:=3) (off:=1) rfl rfl (Rd.s (Ep Tryz.underlying3))
  refine ⟨⟨a0,a1⟩,⟨o0,o1⟩,by rw [hl];kernel_rfl,fun j hj=>?_⟩
  replace hj:j<2:=hj
  rcases j with _|_|j
  · exact c0 0 (by decide)
  · exact c1 0 (by decide)
  · omega
def X1e (x:Uf):Prop:=(fun (n:Int)=>(Lit.int .i64 n).wf=true) x.f_H∧(fun (n:Int)=>(Lit.int .i64 n).wf=true) x.Ji∧Hd x.f_T
theorem X1d:RdS Tryz.prog 31 (X36 false) X1e:=fun H enc w base sp held fuel cs x h hfit=>by
  obtain ⟨xs,n,hl,hxl,hf,hw⟩:=X0k Tryz.underlying31 h hfit
  obtain ⟨a0,o0,c0⟩:=Jd hxl hf hw 0 rfl (t:=3) (off:=0) rfl rfl (Rd.s (Ep Tryz.underlying3))
  obtain ⟨a1,o1,c1⟩:=Jd hxl hf hw 1 rfl (t:=3) (off:=1) rfl rfl (Rd.s (Ep Tryz.underlying3))
  obtain ⟨a2,o2,c2⟩:=Jd hxl hf hw 2 rfl (t:=29) (off:=2) rfl rfl X0l
  refine ⟨⟨a0,a1,a2⟩,⟨o0,o1,o2⟩,by rw [hl];kernel_rfl,fun j hj=>?_⟩
  replace hj:j<4:=hj
  rcases j with _|_|_|_|j
  · exact c0 0 (by decide)
  · exact c1 0 (by decide)
  · exact c2 0 (by decide)
  · exact c2 1 (by decide)
  · omega
def X04 (x:Vy):Prop:=(fun (n:Int)=>(Lit.int .i64 n).wf=true) x.Xb∧(fun (n:Int)=>(Lit.int .i64 n).wf=true) x.Xg∧(fun (n:Int)=>(Lit.int .i64 n).wf=true) x.Uv∧(fun (xs:List Int)=>xs.length≤reachBytes∧∀ x,x∈xs→(fun (n:Int)=>(Lit.int .i64 n).wf=true) x) x.Xv
theorem X01:RdS Tryz.prog 75 (X1g false) X04:=fun H enc w base sp held fuel cs x h hfit=>by
  obtain ⟨xs,n,hl,hxl,hf,hw⟩:=X0k Tryz.underlying75 h hfit
  obtain ⟨a0,o0,c0⟩:=Jd hxl hf hw 0 rfl (t:=3) (off:=0) rfl rfl (Rd.s (Ep Tryz.underlying3))
  obtain ⟨a1,o1,c1⟩:=Jd hxl hf hw 1 rfl (t:=3) (off:=1) rfl rfl (Rd.s (Ep Tryz.underlying3))
  obtain ⟨a2,o2,c2⟩:=Jd hxl hf hw 2 rfl (t:=3) (off:=2) rfl rfl (Rd.s (Ep Tryz.underlying3))
  obtain ⟨a3,o3,c3⟩:=Jd hxl hf hw 3 rfl (t:=24) (off:=3) rfl rfl (Xk2 Tryz.underlying24 pZ8 (by decide) (of_decide_eq_true pZ8) (Rd.s (Ep Tryz.underlying3)))
  refine ⟨⟨a0,a1,a2,a3⟩,⟨o0,o1,o2,o3⟩,by rw [hl];kernel_rfl,fun j hj=>?_⟩
  replace hj:j<4:=hj
  rcases j with _|_|_|_|j
  · exact c0 0 (by decide)
  · exact c1 0 (by decide)
  · exact c2 0 (by decide)
  · exact c3 0 (by decide)
  · omega
end Go.Proofs.YtnaopgohccacmaaGreat.Q
namespace Go.Proofs.YtnaopgohccacmaaGreat.Q
set_option linter.unusedVariables false
set_option linter.unusedSimpArgs false
theorem len_big9 {n:Nat} (h:n≤reachBytes):n≤9223372036854775807:=Nat.le_trans h (by decide)
end Go.Proofs.YtnaopgohccacmaaGreat.Q
namespace Go.Proofs.YtnaopgohccacmaaGreat.Q
open Go Go.RowKit
set_option linter.unusedVariables false
set_option linter.unusedSimpArgs false
set_option maxRecDepth 100000
set_option maxHeartbeats 4000000
abbrev Zwr (m:aM):AV:=.tv (.agg [dI m.X1,dI m.Xb,dI m.Xg,dI m.Xe,dI m.Y3,dS m.X6,dU m.Xc,dI m.X0.Xu,dI m.X0.Xl,.d (dsl false false (kE false) m.Xa),.d (dsl false false (kE false) m.Xw),.d (dsl false false (kC false) m.X5)])
theorem X9e (f:Int) (u:Int) (rows:List (Yb×Bool)) (L:List aE) (d:List UInt8) (l1:List Yi) (l2:List Xs) (b:List UInt8) (x:List aE) (s:Int) (m:aM) (hf:0≤f∧f≤2) (hu:0≤u∧u≤8) (hrl:rows=Vr L) (hl:L.length≤1000000) (hs:-9223372036854775808≤s∧s≤9223372036854775807) (ok1:(Ya m 9).length≤10000000) (ok2:m.Xa.length≤15) (ok3:m.Xw.length≤1) (ok4:m.X5.length≤1) (ok5:m.Xc.length≤1) (ok6:m.X6.length≤1000000):Holds Tryz.prog 24 ⟨[vI s,.tv (.agg [dI m.X1,dI m.Xb,dI m.Xg,dI m.Xe,dI m.Y3,dS m.X6,dU m.Xc,dI m.X0.Xu,dI m.X0.Xl,.d (dsl false false (kE false) m.Xa),.d (dsl false false (kE false) m.Xw),.d (dsl false false (kC false) m.X5)]),pv 0 0],[.box 39 [.ptr 1 0,.ptr 3 0,.ptr 5 0,.ptr 7 0,dU b,.d (dsl false false (kE false) x)],.box 130 [dI (3*f+1),dI u,.mref 2],mpK Xi Y8 rows,.box 135 [dB true,dI f,dI u,.own 4 (kE false).sz 0 L.length],Xf 43 (kE false) L,.box 149 [dI 0,dS d,dB true,.own 6 (Xj false).sz 0 l1.length],Xf 152 (Xj false) l1,.box 106 [dB true,dI 0,dS d,.own 8 (Xy false).sz 0 l2.length],Xf 65 (Xy false) l2],.tv (.agg [dI (Jm s m).X2,dU (Jm s m).X7]),[.live (.box 39 [.ptr 1 0,.ptr 3 0,.ptr 5 0,.ptr 7 0,dU b,.d (dsl false false (kE false) x)]),.live (.box 130 [dI (3*f+1),dI u,.mref 2]),.live (mpK Xi Y8 (Vr (Vg f u L s (Vh m)))),.live (.box 135 [dB true,dI f,dI u,.own 9 (kE false).sz 0 (Vg f u L s (Vh m)).length]),.dead,.live (.box 149 [dI 0,dS d,dB true,.own 6 (Xj false).sz 0 l1.length]),.live (Xf 152 (Xj false) l1),.live (.box 106 [dB true,dI 0,dS d,.own 8 (Xy false).sz 0 l2.length]),.live (Xf 65 (Xy false) l2),.live (Xf 43 (kE false) (Vg f u L s (Vh m)))]⟩:=by
 refine Holds.of Tryz.func24 rfl (N:=24) Tryz.ntmps24 rfl fun w0 B0 S0 U0=>?_
 show T _ (Y5 24 9 w0 S0 U0 B0) ⟨[vI s,(Zwr m),pv 0 0],[.live (.box 39 [.ptr 1 0,.ptr 3 0,.ptr 5 0,.ptr 7 0,dU b,.d (dsl false false (kE false) x)]),.live (.box 130 [dI (3*f+1),dI u,.mref 2]),.live (mpK Xi Y8 rows),.live (.box 135 [dB true,dI f,dI u,.own 4 (kE false).sz 0 L.length]),.live (Xf 43 (kE false) L),.live (.box 149 [dI 0,dS d,dB true,.own 6 (Xj false).sz 0 l1.length]),.live (Xf 152 (Xj false) l1),.live (.box 106 [dB true,dI 0,dS d,.own 8 (Xy false).sz 0 l2.length]),.live (Xf 65 (Xy false) l2)]⟩ _ _
 have hbl:(Vh m).length≤10000000:=Nat.le_trans (X7y m) ok1
 refine sR [] (sR [hR 2 rfl rfl (rCa (X4j false m (Nat.le_trans ok1 (by decide)) (Nat.le_trans ok2 (by decide)) (Nat.le_trans ok3 (by decide)) (Nat.le_trans ok4 (by decide)) (Nat.le_trans ok5 (by decide)) (Nat.le_trans ok6 (by decide))) Tryz.func25 [] [(.tmp 8,(Zwr m))] 0 0)] (sR [hR 5 rfl rfl (rCa (Xa8 f u rows s false false (Vh m) ‹_› ‹_› ‹_› (by omega)) Tryz.func26 [1,2] [(.tmp 12,pv 1 0),(.tmp 13,vI s),(.tmp 15,slV false false kU8 (Vh m))] 2 2)] (sR [hR 5 rfl rfl (rCa (X8u f u L s false false (Vh m) ‹_› ‹_› ‹_› (by omega) (by omega)) Tryz.func27 [3,4,12] [(.tmp 18,pv 3 0),(.tmp 19,vI s),(.tmp 21,slV false false kU8 (Vh m))] 2 3)] (sR [] (T.ret ?_)))))
 exact eX [.c 5 10 43 0 43 [dI s,dU (Vh m)] (.agg [dI s,dU (Vh m)])] ⟨⟨rfl,rfl,by kernel_rfl,by kernel_rfl,.inl ⟨2,Hx,rfl,Nat.le_of_ble_eq_true rfl⟩⟩,trivial⟩ [0,1,2,3,4,5,6,7,8,12] (cg2 (fun (q1:Int) (q2:List UInt8)=>(.tv (.agg [dI q1,dU q2]):AV)) (by rfl) (by rfl)) (ix (ix ⟨⟨rfl,(by have e1:((X4e f u rows s (Vh m)):List (Yb×Bool))=(Vr (Vg f u L s (Vh m))):=(by (rw [hrl,Xdo];done));have hE:=congrArg (fun (q1:List (Yb×Bool))=>(.live (mpK Xi Y8 q1):HS)) e1;exact Eq.trans pZ8 hE)⟩,(ix (ix (ix (ix (ix (ix trivial))))))⟩))
end Go.Proofs.YtnaopgohccacmaaGreat.Q
