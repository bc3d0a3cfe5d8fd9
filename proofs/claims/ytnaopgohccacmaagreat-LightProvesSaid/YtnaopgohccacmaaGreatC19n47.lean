import Derived.Test.YtnaopgohccacmaaGreatC19n45
import Derived.SizedLaws
namespace Go.Proofs.YtnaopgohccacmaaGreat.Q
open Go Go.RowKit
set_option linter.unusedVariables false
set_option linter.unusedSimpArgs false
set_option maxRecDepth 100000
set_option maxHeartbeats 4000000
abbrev Zw1:SV:=.d (.val (.slice none 0 0))
abbrev Zw2:List AV:=[vB false,pv 10 0]
abbrev Zw3:HS:=.live (.box 130 [dI (3*(fOf 1)+1),dI (cOf 1),.mref 3])
abbrev Zw4:=(Y3.mk [1,2] ([]:List UInt8) [0,1,3] false)
abbrev Zw5:=(H0 (fOf 1) (cOf 1) Zw4 Zw4.Xy.length)
abbrev Zw6:SV:=dS (ofB 6 ([]:List (List UInt8)))
abbrev Zw7:=(Ym Zw4.X4 Zw4.X4.length)
abbrev Zw8:List HS:=[.dead,.dead,Zw3,.live (mpK Xx Yg (J1 Zw5)),.live (.box 135 [dB true,dI (fOf 1),dI (cOf 1),.own 5 (kE false).sz 0 Zw5.length]),.live (Xf 43 (kE false) Zw5),.live (.box 149 [dI 0,Zw6,dB true,.own 7 (Xk false).sz 0 (Yn Zw7).length]),.live (Xf 152 (Xk false) (Yn Zw7)),.live (.box 106 [dB true,dI 0,Zw6,.own 9 (Xr false).sz 0 Zw7.length]),.live (Xf 65 (Xr false) Zw7),.live (.box 39 [.ptr 2 0,.ptr 4 0,.ptr 6 0,.ptr 8 0,dU (V8 Zw4),.d (dsl false false (kE false) (Vn Zw4 Zw4.Xy.length))])]
abbrev Zw9:HS:=.live (mpK Xx Yg (J1 X77))
abbrev Zwa:HS:=.live (.box 135 [dB true,dI (fOf 1),dI (cOf 1),.own 5 (kE false).sz 0 X77.length])
abbrev Zwb:HS:=.live (Xf 43 (kE false) X77)
abbrev Zwc:HS:=.live (.box 149 [dI 0,Zw6,dB true,.own 7 (Xk false).sz 0 (Yn Js).length])
abbrev Zwd:HS:=.live (Xf 152 (Xk false) (Yn Js))
abbrev Zwe:HS:=.live (.box 106 [dB true,dI 0,Zw6,.own 9 (Xr false).sz 0 Js.length])
abbrev Zwf:HS:=.live (Xf 65 (Xr false) Js)
abbrev Zwg:HS:=.live (.box 39 [.ptr 2 0,.ptr 4 0,.ptr 6 0,.ptr 8 0,dU X0u,.d (dsl false false (kE false) X2c)])
abbrev Zwh:List HS:=[.dead,.dead,Zw3,Zw9,Zwa,Zwb,Zwc,Zwd,Zwe,Zwf,Zwg]
abbrev Zwi:List AV:=[vB false,pv 10 0,pv 11 0,vI (Hy (Yz 0 (Yn Js)) (Yn Js).length 2 X0u 1 0)]
abbrev Zwj:=(Vc (Yz 0 (Yn Js)) (Yn Js).length 2 X2c X0u 1 0)
abbrev Zwk:List HS:=[.dead,.dead,Zw3,Zw9,Zwa,Zwb,Zwc,Zwd,Zwe,Zwf,Zwg,.live (.box 49 [dI Zwj.Xs,.d (dsl false false (kE false) Zwj.Xu),dU Zwj.Xc,.d (dsl false false (X8 false) Zwj.X2),dI Zwj.Vp,dI Zwj.Xl.X5,dU Zwj.Xl.Xd,dI Zwj.X0.Xt,dI Zwj.X0.Xn,.d (dsl false false (Xa false) Zwj.Yu)])]
abbrev Zwl:List AV:=[vB false,pv 10 0,pv 11 0,vI 0]
abbrev Zwm:List SV:=[dI Jn.Xs,.d (dsl false false (kE false) Jn.Xu),dU Jn.Xc,.d (dsl false false (X8 false) Jn.X2),dI Jn.Vp,dI Jn.Xl.X5,dU Jn.Xl.Xd,dI Jn.X0.Xt,dI Jn.X0.Xn,.d (dsl false false (Xa false) Jn.Yu)]
abbrev Zwn:List HS:=[.dead,.dead,Zw3,Zw9,Zwa,Zwb,Zwc,Zwd,Zwe,Zwf,Zwg,.live (.box 49 Zwm)]
abbrev Zwo:=(W0 Jn (Yo.mk 2 0))
abbrev Zwp:=(W0 Jn (Yo.mk 9 0))
abbrev Zwq:=(W0 Jn (Yo.mk 1 1))
theorem X5r:Holds Tryz.prog 16 ⟨[],[],vB true,[]⟩:=by
 refine Holds.of Tryz.func16 rfl (N:=55) Tryz.ntmps16 rfl fun w0 B0 S0 U0=>?_
 show T _ (Y2 55 0 w0 S0 U0 B0) ⟨[],[]⟩ _ _
 have hf1:=Xh0 1
 have hu1:=Xh9 1
 have hw1:Uj (Y3.mk [1,2] ([]:List UInt8) [0,1,3] false):=X3t.1
 have hw2:rngW (Y3.mk [1,2] ([]:List UInt8) [0,1,3] false):=X3t.2
 obtain ⟨hv1,hv2,hv3,hv4⟩:=aw_few9
 have hv5:=X5p hv3
 have hv6:(Yn Js).length≤100:=(by rw [Uy,hv4];decide)
 have hk1:=gd_ok X9t
 have hk2:=gd_sm X9t
 have hk3:=Xch X9t (Yo.mk 2 0)
 have hk4:=Xch X9t (Yo.mk 9 0)
 have hk5:=Xch X9t (Yo.mk 1 1)
 refine sR [] ?_
 refine sR [hR 1 rfl rfl (Yc 0 3 (Vv .i64) (X2o .i64) [1,2] [⟨0,.const (.int .i64 1),.one (dI 1),0⟩,⟨1,.const (.int .i64 2),.one (dI 2),1⟩] (cs:=[dI 1,dI 2]) Tryz.underlying24 X1z rfl X54 rfl rfl rfl pd (Yr rfl rfl pd (Yr rfl rfl pd W5)) pZ8 (V4 pZ8) (X3 rfl) ⟨rfl,⟨rfl,trivial⟩⟩),hR 2 rfl rfl (Yc 1 3 (Vv .i64) (X2o .i64) [0,1,3] [⟨0,.const (.int .i64 0),.one (dI 0),0⟩,⟨1,.const (.int .i64 1),.one (dI 1),1⟩,⟨2,.const (.int .i64 3),.one (dI 3),2⟩] (cs:=[dI 0,dI 1,dI 3]) Tryz.underlying24 X1z rfl X54 rfl rfl rfl pd (Yr rfl rfl pd (Yr rfl rfl pd (Yr rfl rfl pd W5))) pZ8 (V4 pZ8) (X3 rfl) ⟨rfl,⟨rfl,⟨rfl,trivial⟩⟩⟩),hR 4 rfl rfl (Uz 1 7 0 3 (Vv .i64) [1,2] (av:=.tv (.agg [.own 0 (Vv .i64).sz 0 [1,2].length,Zw1,.own 1 (Vv .i64).sz 0 [0,1,3].length,dB false])) (Uz 1 7 1 3 (Vv .i64) [0,1,3] (av:=.tv (.agg [.d (dsl false false (Vv .i64) [1,2]),Zw1,.own 1 (Vv .i64).sz 0 [0,1,3].length,dB false])) (rCn (Xei (V1.mk 1 1) (Y3.mk [1,2] ([]:List UInt8) [0,1,3] false) ‹_› ‹_›) Tryz.func10 [2,3,4,5,6,7,8,9] [(.tmp 4,.tv (.agg [dI 1,dI 1])),(.tmp 7,.tv (.agg [.d (dsl false false (Vv .i64) [1,2]),Zw1,.d (dsl false false (Vv .i64) [0,1,3]),dB false]))] 0 8 ⟨⟨.inl ⟨rfl,rfl⟩,⟨.inl ⟨rfl,rfl⟩,trivial⟩⟩,⟨⟨.inl ⟨rfl,rfl⟩,⟨.inr pZ5,⟨.inl ⟨rfl,rfl⟩,⟨.inl ⟨rfl,rfl⟩,trivial⟩⟩⟩⟩,trivial⟩⟩ trivial) rfl (.inr (kk2 ⟨pZ0,⟨.inl rfl,trivial⟩⟩)) X71 rfl rfl) rfl (.inr ⟨pZ0,⟨.inl rfl,(kk2 trivial)⟩⟩) X71 rfl rfl)] ?_
 refine tN ⟨Zw2,Zw8⟩ ?_
 refine Wx (s':=⟨Zw2,Zwh⟩) (fun _ _ hG=>Wf [12,14,2,3,4,5,6,7,8,9,10] [true,true] (h1:=Zwh) (h2:=Zw8) (t1:=Zw2) rfl (cg9 (fun (q1:List (Yl×Bool)) (q2:Nat) (q3:List aE) (q4:Nat) (q5:List Yq) (q6:Nat) (q7:List Xq) (q8:List UInt8) (q9:List aE)=>([.dead,.dead,Zw3,.live (mpK Xx Yg q1),.live (.box 135 [dB true,dI (fOf 1),dI (cOf 1),.own 5 (kE false).sz 0 q2]),.live (Xf 43 (kE false) q3),.live (.box 149 [dI 0,Zw6,dB true,.own 7 (Xk false).sz 0 q4]),.live (Xf 152 (Xk false) q5),.live (.box 106 [dB true,dI 0,Zw6,.own 9 (Xr false).sz 0 q6]),.live (Xf 65 (Xr false) q7),.live (.box 39 [.ptr 2 0,.ptr 4 0,.ptr 6 0,.ptr 8 0,dU q8,.d (dsl false false (kE false) q9)])]:List HS)) (by rfl) (by rfl) (by rfl) (by rfl) (by rfl) (by rfl) (by rfl) (by rfl) (by rfl)) hG) ?_
 refine sR [hR 6 rfl rfl (rCa (X6s (ofB 6 ([]:List (List UInt8))) (Yn Js) 2 X2c X0u 1 0 ‹_› ‹_› ‹_› (by omega) (by omega) (by omega) (by omega)) Tryz.func17 [6,7] [(.tmp 11,pv 6 0),(.const (.int .i64 2),vI 2),(.tmp 13,slV false false (kE false) X2c),(.tmp 15,slV false false kU8 X0u),(.const (.int .i64 1),vI 1),(.const (.int .i64 0),vI 0)] 2 2)] ?_
 by_cases hq1:(c9E (Y5 (fOf 1) (cOf 1) (J1 X77)) (fOf 1) Jn)=0
 ·by_cases hq2:(c9E (Y5 (fOf 1) (cOf 1) (J1 X77)) (fOf 1) (W0 Jn (Yo.mk 2 0)))=90
  ·by_cases hq3:(c9E (Y5 (fOf 1) (cOf 1) (J1 X77)) (fOf 1) (W0 Jn (Yo.mk 9 0)))=32
   ·refine tN ⟨Zwi,Zwk⟩ ?_
    refine Wx (s':=⟨Zwl,Zwn⟩) (fun _ _ hG=>Wf [13,15,2,3,4,5,6,7,8,9,10,11] (bm 4 15) (t1:=Zwl) (t2:=Zwi) (h1:=Zwn) (h2:=Zwk) (congrArg (fun (q1:Int)=>([vB false,pv 10 0,pv 11 0,vI q1]:List AV)) (by exact aw_pr9.2)) (by have e1:(Jn.Xs:Int)=(Vc (Yz 0 (Yn Js)) (Yn Js).length 2 X2c X0u 1 0).Xs:=p2w;have e2:(Jn.Xu:List aE)=(Vc (Yz 0 (Yn Js)) (Yn Js).length 2 X2c X0u 1 0).Xu:=p2w;have e3:(Jn.Xc:List UInt8)=(Vc (Yz 0 (Yn Js)) (Yn Js).length 2 X2c X0u 1 0).Xc:=p2w;have e4:(Jn.X2:List Yb)=(Vc (Yz 0 (Yn Js)) (Yn Js).length 2 X2c X0u 1 0).X2:=p2w;have e5:(Jn.Vp:Int)=(Vc (Yz 0 (Yn Js)) (Yn Js).length 2 X2c X0u 1 0).Vp:=p2w;have e6:(Jn.Xl.X5:Int)=(Vc (Yz 0 (Yn Js)) (Yn Js).length 2 X2c X0u 1 0).Xl.X5:=p2w;have e7:(Jn.Xl.Xd:List UInt8)=(Vc (Yz 0 (Yn Js)) (Yn Js).length 2 X2c X0u 1 0).Xl.Xd:=p2w;have e8:(Jn.X0.Xt:Int)=(Vc (Yz 0 (Yn Js)) (Yn Js).length 2 X2c X0u 1 0).X0.Xt:=p2w;have e9:(Jn.X0.Xn:Int)=(Vc (Yz 0 (Yn Js)) (Yn Js).length 2 X2c X0u 1 0).X0.Xn:=p2w;have e10:(Jn.Yu:List Xz)=(Vc (Yz 0 (Yn Js)) (Yn Js).length 2 X2c X0u 1 0).Yu:=p2w;have hE:=congr (congr (congr (congr (congr (congr (congr (congr (congr (congrArg (fun (q1:Int) (q2:List aE) (q3:List UInt8) (q4:List Yb) (q5:Int) (q6:Int) (q7:List UInt8) (q8:Int) (q9:Int) (q10:List Xz)=>([.dead,.dead,Zw3,Zw9,Zwa,Zwb,Zwc,Zwd,Zwe,Zwf,Zwg,.live (.box 49 [dI q1,.d (dsl false false (kE false) q2),dU q3,.d (dsl false false (X8 false) q4),dI q5,dI q6,dU q7,dI q8,dI q9,.d (dsl false false (Xa false) q10)])]:List HS)) e1) e2) e3) e4) e5) e6) e7) e8) e9) e10;exact hE) hG) ?_
    refine sD [[],[0],[0,1],[0,1,2],[0,1,2,3],[0,1,2],[0,1,2,3,4,5],[0,1,2,3,4,5,6],[0,1,2,3,4,5,6,7],[0,1,2,3,4,5,6,7,8],[0,1,2,3,4,5,6,7,8,9],[0,1,2,3,4,5,6,7,8,9,10],[0,1,2,3,4,5,6,7,8,9],[0,1,2,3,4,5,6,7,8,9],[0,1,2,3,4,5,6,7,8,9,12,13],[0,1,2,3,4,5,6,7,8,9,10,11,12,13,14],[0,1,2,3,4,5,6,7,8,9,10,11,12,13,14,15],[0,1,2,3,4,5,6,7,8,9,10,11,12,13,14,15,16],[0,1,2,3,4,5,6,7,8,9,10,11,12,13,14,15,16,17],[0,1,2,3,4,5,6,7,8,9,10,11,12,13,14,15,16,17,18],[0,1,2,3,4,5,6,7,8,9,10,11,12,13,14,15,16,17,18,19],[0,1,2,3,4,5,6,7,8,9,10,11,12,13,14,15,16,17,18],[0,1,2,3,4,5,6,7,8,9,10,11,12,13,14,15,16,17,18],[0,1,2,3,4,5,6,7,8,9,10,11,12,13,14,15,16,17,18,21,22],[0,1,2,3,4,5,6,7,8,9,10,11,12,13,14,15,16,17,18,19,20,21,22,23],[0,1,2,3,4,5,6,7,8,9,10,11,12,13,14,15,16,17,18,19,20,21,22,23,24],[0,1,2,3,4,5,6,7,8,9,10,11,12,13,14,15,16,17,18,19,20,21,22,23,24,25],[0,1,2,3,4,5,6,7,8,9,10,11,12,13,14,15,16,17,18,19,20,21,22,23,24,25,26],[0,1,2,3,4,5,6,7,8,9,10,11,12,13,14,15,16,17,18,19,20,21,22,23,24,25,26,27],[0,1,2,3,4,5,6,7,8,9,10,11,12,13,14,15,16,17,18,19,20,21,22,23,24,25,26,27,28],[0,1,2,3,4,5,6,7,8,9,10,11,12,13,14,15,16,17,18,19,20,21,22,23,24,25,26,27],[0,1,2,3,4,5,6,7,8,9,10,11,12,13,14,15,16,17,18,19,20,21,22,23,24,25,26,27],[0,1,2,3,4,5,6,7,8,9,10,11,12,13,14,15,16,17,18,19,20,21,22,23,24,25,26,27,30,31],[0,1,2,3,4,5,6,7,8,9,10,11,12,13,14,15,16,17,18,19,20,21,22,23,24,25,26,27,28,29,30,31,32],[0,1,2,3,4,5,6,7,8,9,10,11,12,13,14,15,16,17,18,19,20,21,22,23,24,25,26,27,28,29,30,31,32,33],[0,1,2,3,4,5,6,7,8,9,10,11,12,13,14,15,16,17,18,19,20,21,22,23,24,25,26,27,28,29,30,31,32,33,34],[0,1,2,3,4,5,6,7,8,9,10,11,12,13,14,15,16,17,18,19,20,21,22,23,24,25,26,27,28,29,30,31,32,33,34,35]] (Xm hY1 [3,4,5] (hS 6 (oY (b:=true) rfl rfl rfl rfl (X3 rfl) rfl (rCa (Hw (fOf 1) (cOf 1) (J1 X77) Jn ‹_› ‹_› ‹_›) Tryz.func14 [2,3] [(.tmp 23,pv 2 0),(.tmp 24,.tv (.agg Zwm))] 2 2))::(hY1 7::(hP1 8::(Xm (hY · (dT hq1)) [10,11,12,13] (hS 14 (oY rfl rfl rfl rfl (X3 rfl) (dT hq1) (rCa (X3m Jn (Yo.mk 2 0) ‹_›) Tryz.func13 [] [(.tmp 31,.tv (.agg Zwm)),(.tmp 32,.tv (.agg [dI 2,dI 0]))] 0 0))::(hS 15 (oY rfl rfl rfl rfl (X3 rfl) (dT hq1) (rCa (Hw (fOf 1) (cOf 1) (J1 X77) (W0 Jn (Yo.mk 2 0)) ‹_› ‹_› ‹_›) Tryz.func14 [2,3] [(.tmp 30,pv 2 0),(.tmp 33,.tv (.agg [dI Zwo.Xs,.d (dsl false false (kE false) Zwo.Xu),dU Zwo.Xc,.d (dsl false false (X8 false) Zwo.X2),dI Zwo.Vp,dI Zwo.Xl.X5,dU Zwo.Xl.Xd,dI Zwo.X0.Xt,dI Zwo.X0.Xn,.d (dsl false false (Xa false) Zwo.Yu)]))] 2 2))::(hY 16 (dT hq1)::(hP 17 (dT hq1)::(Xm (hY · (dT hq2)) [19,20,21,22] (hS 23 (oY rfl rfl rfl rfl (X3 rfl) (dT hq2) (rCa (X3m Jn (Yo.mk 9 0) ‹_›) Tryz.func13 [] [(.tmp 40,.tv (.agg Zwm)),(.tmp 41,.tv (.agg [dI 9,dI 0]))] 0 0))::(hS 24 (oY rfl rfl rfl rfl (X3 rfl) (dT hq2) (rCa (Hw (fOf 1) (cOf 1) (J1 X77) (W0 Jn (Yo.mk 9 0)) ‹_› ‹_› ‹_›) Tryz.func14 [2,3] [(.tmp 39,pv 2 0),(.tmp 42,.tv (.agg [dI Zwp.Xs,.d (dsl false false (kE false) Zwp.Xu),dU Zwp.Xc,.d (dsl false false (X8 false) Zwp.X2),dI Zwp.Vp,dI Zwp.Xl.X5,dU Zwp.Xl.Xd,dI Zwp.X0.Xt,dI Zwp.X0.Xn,.d (dsl false false (Xa false) Zwp.Yu)]))] 2 2))::(hY 25 (dT hq2)::(hP 26 (dT hq2)::(Xm (hY · (dT hq3)) [28,29,30,31] (hS 32 (oY rfl rfl rfl rfl (X3 rfl) (dT hq3) (rCa (X3m Jn (Yo.mk 1 1) ‹_›) Tryz.func13 [] [(.tmp 49,.tv (.agg Zwm)),(.tmp 50,.tv (.agg [dI 1,dI 1]))] 0 0))::(hS 33 (oY rfl rfl rfl rfl (X3 rfl) (dT hq3) (rCa (Hw (fOf 1) (cOf 1) (J1 X77) (W0 Jn (Yo.mk 1 1)) ‹_› ‹_› ‹_›) Tryz.func14 [2,3] [(.tmp 48,pv 2 0),(.tmp 51,.tv (.agg [dI Zwq.Xs,.d (dsl false false (kE false) Zwq.Xu),dU Zwq.Xc,.d (dsl false false (X8 false) Zwq.X2),dI Zwq.Vp,dI Zwq.Xl.X5,dU Zwq.Xl.Xd,dI Zwq.X0.Xt,dI Zwq.X0.Xn,.d (dsl false false (Xa false) Zwq.Yu)]))] 2 2))::(hY 34 (dT hq3)::(hP 35 (dT hq3)::[]))))))))))))))))))) ?_
    refine T.ret ?_
    exact eRt 0 (.one (dB (decide ((c9E (Y5 (fOf 1) (cOf 1) (J1 X77)) (fOf 1) Zwq)=100)))) [] (cB (by rfl)) trivial
   exact absurd Xhc.2.2.1 hq3
  exact absurd Xhc.2.1 hq2
 exact absurd Xhc.1 hq1
end Go.Proofs.YtnaopgohccacmaaGreat.Q
namespace Go.Proofs.YtnaopgohccacmaaGreat.Q
set_option linter.unusedVariables false
set_option linter.unusedSimpArgs false
set_option maxRecDepth 100000
theorem Xh4 (f u:Int) (l:List aE):Y5 f u (J1 l)=Xw f u l:=funext fun e=>Xkj f u l e
theorem X27 (bs:List Int):∀ (i j:Nat),j<i→(Ym bs i).getD j W1=I2 (Ym bs j) j (Jr (bs.getD j 0)).toNat
  | 0,_,h=>absurd h (Nat.not_lt_zero _)
  | i+1,j,h=>by
    have hl:=Iw bs i
    rw [Ym,List.getD_eq_getElem?_getD]
    by_cases q:j<i
    · rw [List.getElem?_append_left (by omega),← List.getD_eq_getElem?_getD];exact X27 bs i j q
    · obtain rfl:j=i:=by omega
      rw [List.getElem?_append_right (by omega),hl,Nat.sub_self];rfl
theorem at_chn9 (bs:List Int) {i j:Nat} (h:j≤i):atB d9 (Ym bs i) j=atB d9 (Ym bs j) (Ym bs j).length:=by
  rw [Iw]
  cases j with
  | zero=>rfl
  | succ j=>unfold atB;rw [if_neg (by omega),if_neg (by omega),Nat.add_sub_cancel,X27 bs i j (by omega),X27 bs (j+1) j (by omega)]
section
variable {bs:List Int} {n:Nat} {y:Int}
theorem X5g (h1:1≤y) (h2:y≤((n:Nat):Int)):rblk 0 (Ym bs n) y=(Ym bs n).getD (y.toNat-1) W1:=by
  unfold rblk
  have hl:=Iw bs n
  rw [if_pos ⟨by omega,by omega⟩,show (y-0-1).toNat=y.toNat-1 by omega]
theorem blk_hgt9 (h1:1≤y) (h2:y≤((n:Nat):Int)):(rblk 0 (Ym bs n) y).Xg=y:=by
  rw [X5g h1 h2,X27 bs n _ (by omega)]
  show ((y.toNat-1+1:Nat):Int)=y
  omega
theorem Xkm (h1:1≤y) (h2:y≤((n:Nat):Int)):(rblk 0 (Ym bs n) y).Y0=atB d9 (Ym bs n) (y.toNat-1):=by
  rw [X5g h1 h2,X27 bs n _ (by omega),at_chn9 bs (by omega)]
  rfl
theorem blk_dig9 (h1:1≤y) (h2:y≤((n:Nat):Int)):Fa (Wp (rblk 0 (Ym bs n) y))=atB d9 (Ym bs n) y.toNat:=by
  rw [X5g h1 h2]
  unfold atB
  rw [if_neg (by omega)]
end
theorem X4n {bf:Int→Xq} {h:Int} {k t:Nat} (ht:t<k):(hdrs bf h k).getD t Xo=Wp (bf (h+((t:Nat):Int))):=by
  unfold hdrs
  rw [List.getD_eq_getElem?_getD,List.getElem?_map,List.getElem?_range ht]
  rfl
theorem prv_un {bf:Int→Xq} {n:Nat} {seq:Int} {b:List UInt8} {h i:Int} (q:Hy bf n seq b h i=0):unE ((b.length:Nat):Int) b=0∧unH ((b.length:Nat):Int) b=seq:=by
  unfold Hy at q
  split at q
  · exact absurd q (by decide)
  rename_i h1
  exact ⟨Classical.byContradiction fun w=>h1 (.inl w),Classical.byContradiction fun w=>h1 (.inr w)⟩
theorem dat_un9 {c:Y3} (hs:Uj c):unE (((V8 c).length:Nat):Int) (V8 c)=0∧unH (((V8 c).length:Nat):Int) (V8 c)=((c.X4.length:Nat):Int)∧unD (((V8 c).length:Nat):Int) (V8 c)=atB d9 (chL c) (chL c).length:=by
  have h1:=hs.1
  have h2:=hs.2.1
  have h3:(atB d9 (chL c) (chL c).length).length≤5000+26000*c.X4.length:=(E9 c.X4 c.X4.length (by omega)).1
  obtain ⟨a1,a2⟩:=un_ok (h:=((c.X4.length:Nat):Int)) (d:=atB d9 (chL c) (chL c).length) (s:=c.Uf) (M:=(((V8 c).length:Nat):Int)) (by unfold Ek;omega) (by omega) (by omega) (Int.le_refl _)
  have a3:=a1.2 ⟨by omega,by omega⟩
  exact ⟨a3,(a2 a3).1,(a2 a3).2.1⟩
theorem Xjv {c:Y3} (hs:Uj c) {C:aE→Int} {f seq h i:Int} {x:List aE} (he:Hy (rblk 0 (chL c)) (chL c).length seq (V8 c) h i=0) (h9:s9E C f seq x (V8 c)=0) :
    c9E C f (Vc (rblk 0 (chL c)) (chL c).length seq x (V8 c) h i)=0:=by
  have hc:=hs.1
  have hl:=Iw c.X4 c.X4.length
  obtain ⟨u1,u2,u3⟩:=dat_un9 hs
  obtain ⟨_,v2⟩:=prv_un he
  have hsq:seq=((c.X4.length:Nat):Int):=by rw [← v2,u2]
  obtain ⟨q1,q2,q3⟩:=Xi0 he
  obtain ⟨p1,p2,p3,p4,p5,p6,p7⟩:=X7i (Xdt (by omega) h).1 q3
  have hk:(seq-h+1).toNat=c.X4.length+1-h.toNat:=by omega
  have hp:Vc (rblk 0 (chL c)) (chL c).length seq x (V8 c) h i=⟨seq,x,V8 c,hdrs (rblk 0 (chL c)) h (seq-h+1).toNat,i,(rblk 0 (chL c) h).Xb.getD i.toNat zE,(rblk 0 (chL c) h).Xj.getD i.toNat Yj,Is (rblk 0 (chL c) h) i⟩:=if_pos he
  rw [hp]
  generalize hkk:(seq-h+1).toNat=k at *
  have hkl:(hdrs (rblk 0 (chL c)) h k).length=k:=X4m _ _ _
  have hsd:s9D C f seq x (V8 c)=atB d9 (chL c) (chL c).length:=(if_pos h9).trans u3
  have hh:X5v (hdrs (rblk 0 (chL c)) h k) seq (hdrs (rblk 0 (chL c)) h k).length:=fun t h1 h2=>by
    rw [hkl] at h1 ⊢
    rw [X4n h1]
    show (rblk 0 (chL c) (h+((t:Nat):Int))).Xg=_
    rw [blk_hgt9 (by omega) (by omega)]
    omega
  have hd:Fv (hdrs (rblk 0 (chL c)) h k) (atB d9 (chL c) (chL c).length) (hdrs (rblk 0 (chL c)) h k).length:=fun t h1 h2=>by
    rw [hkl] at h1
    rw [X4n h1,blk_dig9 (by omega) (by omega)]
    unfold X3k
    rw [hkl]
    split
    · rename_i h3
      rw [X4n h3]
      show _=(rblk 0 (chL c) (h+((t+1:Nat):Int))).Y0
      rw [Xkm (by omega) (by omega),show (h+((t+1:Nat):Int)).toNat-1=(h+((t:Nat):Int)).toNat by omega]
    · rw [show (h+((t:Nat):Int)).toNat=(chL c).length by rw [hl];omega]
  have hlk:X95 (hdrs (rblk 0 (chL c)) h k) seq (s9D C f seq x (V8 c))=0:=by rw [hsd];exact (if_pos hh).trans (if_pos hd)
  refine (c9_i (fun w=>w h9) (by show ¬((hdrs (rblk 0 (chL c)) h k).length=0∨1000<(hdrs (rblk 0 (chL c)) h k).length);rw [hkl];omega) (fun w=>w hlk)).trans ?_
  unfold inc9
  show I1 ((hdrs (rblk 0 (chL c)) h k).getD 0 Xo).W3 _ i ((hdrs (rblk 0 (chL c)) h k).getD 0 Xo).Ye _=0
  rw [X4n (by omega),show h+((0:Nat):Int)=h by omega]
  exact p5
def If (c:Y3) (y:Wy):Wr:=Vc (rblk 0 (chL c)) (chL c).length (0+(((chL c).length:Nat):Int)) (Vn c c.Xy.length) (V8 c) y.f_H y.Vp
def trc9 (c:Y3) (y:Wy):Wr:=W0 (If c y) y.f_T
theorem Xis {c:Y3} (hs:Uj c) (hr:rngW c) (y:Wy):gd9 (If c y):=Xeb hs hr _ _ _ _
theorem trc_ok9 {c:Y3} (hs:Uj c) (hr:rngW c) (y:Wy):okC9 (trc9 c y):=Xch (Xis hs hr y) _
end Go.Proofs.YtnaopgohccacmaaGreat.Q
namespace Go.Proofs.YtnaopgohccacmaaGreat.Q
set_option linter.unusedVariables false
set_option linter.unusedSimpArgs false
set_option maxRecDepth 100000
end Go.Proofs.YtnaopgohccacmaaGreat.Q
namespace Go.Proofs.YtnaopgohccacmaaGreat.Q
set_option linter.unusedVariables false
set_option linter.unusedSimpArgs false
set_option maxRecDepth 100000
end Go.Proofs.YtnaopgohccacmaaGreat.Q
namespace Go.Proofs.YtnaopgohccacmaaGreat.Q
set_option linter.unusedVariables false
set_option linter.unusedSimpArgs false
set_option maxRecDepth 100000
end Go.Proofs.YtnaopgohccacmaaGreat.Q
namespace Go.Proofs.YtnaopgohccacmaaGreat.Q
set_option linter.unusedVariables false
set_option linter.unusedSimpArgs false
section
variable {P:Program}
def Xer {H:Type} (P:Program) (t:TypeId) (d:DataW H):Prop:=∀ n,n∈d.weights P t→n≤reachBytes
def RdS {α:Type} (P:Program) (t:TypeId) (K:Kd α) (ok:α→Prop):Prop :=
  ∀ (H:Type) (enc:TypeId×Value→H) (w:World) (base:Nat) (sp:Nat→Bool) (held:Bool) (fuel:Nat) (cs:List Value) (x:DataW H×List MemPlace),DataW.trod enc P w base sp held fuel t cs=some x→Xer P t x.1→∃ a:α,ok a∧X4v w K a cs
theorem Rd.s {α:Type} {t:TypeId} {K:Kd α} {ok:α→Prop} (h:Rd P t K ok):RdS P t K ok:=fun H enc w base sp held fuel cs x hx _=>h H enc w base sp held fuel cs x hx
theorem X1s {H:Type} {e:TypeId} {n:Nat}:∀ {l:List (DataW H)} {i:Nat} {d:DataW H},l[i]?=some d→n∈d.weights P e→n∈DataW.weightsAll P e l
  | a::l,0,d,h,hn=>by
    simp only [List.getElem?_cons_zero,Option.some.injEq] at h
    subst h
    simp only [DataW.weightsAll,List.mem_append]
    exact .inl hn
  | a::l,i+1,d,h,hn=>by
    simp only [List.getElem?_cons_succ] at h
    simp only [DataW.weightsAll,List.mem_append]
    exact .inr (X1s h hn)
  | [],_,_,h,_=>by simp at h
theorem X5c {α:Type} {t e:TypeId} {K:Kd α} {ok:α→Prop} (ht:P.underlying t=some (.slice e)) (hc:P.cellsOf e=K.sz) (hK:0<K.sz) (hb:0<P.bytesOf e) (h:RdS P e K ok):RdS P t (kSl false K) (fun xs=>xs.length≤reachBytes∧∀ x,x∈xs→ok x):=fun H enc w base sp held fuel cs x hx hfit=>by
  have mk:∀ (xs:List α) (u:Value),cs=[u]→dOk (inW w) (inW w) w (dsl false false K xs) u→X4v w (kSl false K) xs cs:=fun xs u e hd=>⟨by rw [e];rfl,fun j hj=>by
    have hj:j<1:=hj
    obtain rfl:j=0:=by omega
    exact ⟨u,by rw [e];rfl,hd⟩⟩
  rcases DataW.trod_slice ht hx with ⟨hcs,_⟩|⟨a,len,cap,elems,rest,n,_,hcs,hxx,hb2,hl,hm,hlen,hel,_,_⟩
  · exact ⟨[],⟨by simp,fun x hx=>by cases hx⟩,mk [] _ hcs ⟨none,0,rfl,Nat.le_refl _,fun _=>rfl,pZv,fun i hi=>absurd hi (Nat.not_lt_zero _)⟩⟩
  · have hw:∀ n,n∈((elems.map (·.1)).length+(rest.map (·.1)).length)*P.bytesOf e::(DataW.weightsAll P e (elems.map (·.1))++DataW.weightsAll P e (rest.map (·.1)))→n≤reachBytes:=fun n hn=>hfit n (by
      rw [hxx]
      simp only [DataW.weights,ht]
      exact hn)
    have hlenR:len≤reachBytes:=by
      have h1:=hw _ (List.mem_cons_self ..)
      simp only [List.length_map,hlen] at h1
      have h2:len*1≤(len+rest.length)*P.bytesOf e:=Nat.mul_le_mul (Nat.le_add_right _ _) hb
      omega
    have hr:∀ i,i<len→∃ b:α,ok b∧∃ cs',w.cells? base (a.add (i*P.cellsOf e)) (P.cellsOf e)=some cs'∧X4v w K b cs':=fun i hi=>by
      have h1:=hel i hi
      rw [List.getElem?_eq_getElem (by omega),Option.bind_eq_some_iff] at h1
      obtain ⟨cs',h2,h3⟩:=h1
      obtain ⟨b,hb1,hb2⟩:=h H enc w base sp held n cs' _ h3 fun n hn=>hw n (List.mem_cons_of_mem _ (List.mem_append_left _ (X1s (i:=i) (by rw [List.getElem?_map,List.getElem?_eq_getElem (by omega)];rfl) hn)))
      exact ⟨b,hb1,cs',h2,hb2⟩
    obtain ⟨xs,hxl,hxs⟩:=X6r len hr
    refine ⟨xs,⟨by omega,fun x hx=>?_⟩,mk xs _ hcs ⟨some a,cap,by rw [hxl],by rw [hxl];exact hl,by simp,by simp,fun i hi=>?_⟩⟩
    · obtain ⟨i,hi,rfl⟩:=List.getElem_of_mem hx
      exact (hxs i _ (List.getElem?_eq_getElem hi)).1
    · have hi0:0<xs.length:=by omega
      obtain ⟨_,cs0,hc0,ho0⟩:=hxs 0 _ (List.getElem?_eq_getElem hi0)
      obtain ⟨_,hl0,hg0⟩:=World.cells?_some hc0
      have h00:=hg0 0 (by rw [hc];exact hK)
      obtain ⟨u0,hu0,_⟩:=ho0.2 0 hK
      rw [hu0] at h00
      have hcell:w.cell? a=some u0:=by simpa [Addr.add] using h00
      have hspot:a.spot=none:=by
        unfold World.cell? at hcell
        split at hcell
        · cases hs:a.spot with
          | none=>rfl
          | some q=>rw [hs] at hcell;simp at hcell
        · cases hcell
      have hblk:a.block<w.heap.size:=World.cells?_block (a:=a.add (0*P.cellsOf e)) hc0 (by rw [hc];exact hK) |> fun h=>by simpa [Addr.add] using h
      refine ⟨a,rfl,hspot,hblk,fun j hj=>?_⟩
      obtain ⟨_,cs',hc',ho'⟩:=hxs i _ (List.getElem?_eq_getElem hi)
      obtain ⟨_,hl',hg'⟩:=World.cells?_some hc'
      have hij:=hg' j (by rw [hc];exact hj)
      obtain ⟨u,hu,hd⟩:=ho'.2 j hj
      rw [hu,hc] at hij
      refine ⟨u,?_,?_⟩
      · rw [← hij]
        congr 1
        obtain ⟨b,o,s⟩:=a
        simp only at hspot
        subst hspot
        simp only [Addr.add]
        split<;>split<;>simp_all
        · omega
      · show dOk _ _ w (K.cell (xs.getD i K.z) j) u
        rw [List.getD_eq_getElem?_getD,List.getElem?_eq_getElem hi]
        exact hd
theorem X09 {H:Type} {enc:TypeId×Value→H} {w:World} {base:Nat} {sp:Nat→Bool} {held:Bool} {fuel:Nat} {cs:List Value} {x:DataW H×List MemPlace} {t:TypeId} {fs:Array Field} (ht:P.underlying t=some (.struct fs)) (h:DataW.trod enc P w base sp held fuel t cs=some x) (hfit:Xer P t x.1) :
    ∃ (xs:List (DataW H×List MemPlace)) (n:Nat),cs.length=P.cellsOf t∧xs.length=fs.size∧(∀ (i:Nat) (f:Field),fs[i]?=some f→DataW.trod enc P w base sp held n f.type ((cs.drop f.offset).take (P.cellsOf f.type))=xs[i]?)∧∀ (i:Nat) (f:Field) (y:DataW H×List MemPlace),fs[i]?=some f→xs[i]?=some y→Xer P f.type y.1:=by
  obtain ⟨xs,n,_,hx,hl,hxl,hf⟩:=DataW.trod_struct ht h
  refine ⟨xs,n,hl,hxl,hf,fun i f y h1 h2 k hk=>hfit k ?_⟩
  rw [hx]
  simp only [DataW.weights,ht]
  exact DataW.weights_mem_each (j:=i) (t:=f.type) (d:=y.1) (by rw [List.getElem?_map,Array.getElem?_toList,h1];rfl) (by rw [List.getElem?_map,h2];rfl) k hk
theorem Jg {α:Type} {K:Kd α} {ok:α→Prop} {H:Type} {enc:TypeId×Value→H} {w:World} {base:Nat} {sp:Nat→Bool} {held:Bool} {n:Nat} {cs:List Value} {xs:List (DataW H×List MemPlace)} {fs:Array Field} (hx:xs.length=fs.size)
    (h:∀ (i:Nat) (f:Field),fs[i]?=some f→DataW.trod enc P w base sp held n f.type ((cs.drop f.offset).take (P.cellsOf f.type))=xs[i]?) (hw:∀ (i:Nat) (f:Field) (y:DataW H×List MemPlace),fs[i]?=some f→xs[i]?=some y→Xer P f.type y.1) (i:Nat) {f:Field} (hf:fs[i]?=some f) {t:TypeId} {off:Nat} (ht:f.type=t) (ho:f.offset=off) (hr:RdS P t K ok) :
    ∃ a:α,ok a∧∀ j,j<K.sz→∃ u,cs[off+j]?=some u∧dOk (inW w) (inW w) w (K.cell a j) u:=by
  subst ht ho
  have hi:i<xs.length:=by rw [hx];exact (Array.getElem?_eq_some_iff.1 hf).1
  have h1:=h i f hf
  have hi2:=List.getElem?_eq_getElem hi
  rw [hi2] at h1
  obtain ⟨a,h2,h3,h4⟩:=hr H enc w base sp held n _ _ h1 (hw i f _ hf hi2)
  refine ⟨a,h2,fun j hj=>?_⟩
  obtain ⟨u,hu,hd⟩:=h4 j hj
  refine ⟨u,?_,hd⟩
  rw [List.getElem?_take] at hu
  split at hu
  · rwa [List.getElem?_drop] at hu
  · cases hu
theorem X9c {H:Type} {ts:List TypeId} {ds:List (DataW H)} (h:(DataW.weightsEach P ts ds).all (·≤reachBytes)=true) {j:Nat} {t:TypeId} {d:DataW H} (ht:ts[j]?=some t) (hd:ds[j]?=some d):Xer P t d:=fun n hn=>by
  have:=List.all_eq_true.1 h _ (DataW.weights_mem_each ht hd n hn)
  simpa using this
end
end Go.Proofs.YtnaopgohccacmaaGreat.Q
namespace Go.Proofs.YtnaopgohccacmaaGreat.Q
open Go Go.RowKit
set_option linter.unusedVariables false
set_option linter.unusedSimpArgs false
set_option maxRecDepth 100000
set_option maxHeartbeats 4000000
def X0e (x:V1):Prop:=(fun (n:Int)=>(Lit.int .i64 n).wf=true) x.H4∧(fun (n:Int)=>(Lit.int .i64 n).wf=true) x.Yp
theorem X0b:RdS Tryz.prog 23 (X1v false) X0e:=fun H enc w base sp held fuel cs x h hfit=>by
  obtain ⟨xs,n,hl,hxl,hf,hw⟩:=X09 Tryz.underlying23 h hfit
  obtain ⟨a0,o0,c0⟩:=Jg hxl hf hw 0 rfl (t:=3) (off:=0) rfl rfl (Rd.s (X1i Tryz.underlying3))
  obtain ⟨a1,o1,c1⟩:=Jg hxl hf hw 1 rfl (t:=3) (off:=1) rfl rfl (Rd.s (X1i Tryz.underlying3))
  refine ⟨⟨a0,a1⟩,⟨o0,o1⟩,by rw [hl];kernel_rfl,fun j hj=>?_⟩
  replace hj:j<2:=hj
  rcases j with _|_|j
  · exact c0 0 (by decide)
  · exact c1 0 (by decide)
  · omega
def Eu (x:Y3):Prop:=(fun (xs:List Int)=>xs.length≤reachBytes∧∀ x,x∈xs→(fun (n:Int)=>(Lit.int .i64 n).wf=true) x) x.X4∧(fun (xs:List UInt8)=>xs.length≤reachBytes∧∀ x,x∈xs→(fun (_:UInt8)=>True) x) x.Uf∧(fun (xs:List Int)=>xs.length≤reachBytes∧∀ x,x∈xs→(fun (n:Int)=>(Lit.int .i64 n).wf=true) x) x.Xy∧(fun (_:Bool)=>True) x.Iy
theorem Es:RdS Tryz.prog 27 (X17 false) Eu:=fun H enc w base sp held fuel cs x h hfit=>by
  obtain ⟨xs,n,hl,hxl,hf,hw⟩:=X09 Tryz.underlying27 h hfit
  obtain ⟨a0,o0,c0⟩:=Jg hxl hf hw 0 rfl (t:=24) (off:=0) rfl rfl (X5c Tryz.underlying24 pZ8 (by decide) (of_decide_eq_true pZ8) (Rd.s (X1i Tryz.underlying3)))
  obtain ⟨a1,o1,c1⟩:=Jg hxl hf hw 1 rfl (t:=25) (off:=1) rfl rfl (X5c Tryz.underlying25 pZ8 (by decide) (of_decide_eq_true pZ8) (Rd.s (rd_u8 Tryz.underlying5)))
  obtain ⟨a2,o2,c2⟩:=Jg hxl hf hw 2 rfl (t:=24) (off:=2) rfl rfl (X5c Tryz.underlying24 pZ8 (by decide) (of_decide_eq_true pZ8) (Rd.s (X1i Tryz.underlying3)))
  obtain ⟨a3,o3,c3⟩:=Jg hxl hf hw 3 rfl (t:=4) (off:=3) rfl rfl (Rd.s (rd_bool Tryz.underlying4))
  refine ⟨⟨a0,a1,a2,a3⟩,⟨o0,o1,o2,o3⟩,by rw [hl];kernel_rfl,fun j hj=>?_⟩
  replace hj:j<4:=hj
  rcases j with _|_|_|_|j
  · exact c0 0 (by decide)
  · exact c1 0 (by decide)
  · exact c2 0 (by decide)
  · exact c3 0 (by decide)
  · omega
def Ha (x:Yo):Prop:=(fun (n:Int)=>(Lit.int .i64 n).wf=true) x.Wq∧(fun (n:Int)=>(Lit.int .i64 n).wf=true) x.Wm
theorem X0a:RdS Tryz.prog 29 (X1u false) Ha:=fun H enc w base sp held fuel cs x h hfit=>by
  obtain ⟨xs,n,hl,hxl,hf,hw⟩:=X09 Tryz.underlying29 h hfit
  obtain ⟨a0,o0,c0⟩:=Jg hxl hf hw 0 rfl (t:=3) (off:=0) rfl rfl (Rd.s (X1i Tryz.underlying3))
  obtain ⟨a1,o1,c1⟩:=Jg hxl hf hw 1 rfl (t:=3) (off:=1) rfl rfl (Rd.s (X1i Tryz.underlying3))
  refine ⟨⟨a0,a1⟩,⟨o0,o1⟩,by rw [hl];kernel_rfl,fun j hj=>?_⟩
  replace hj:j<2:=hj
  rcases j with _|_|j
  · exact c0 0 (by decide)
  · exact c1 0 (by decide)
  · omega
def X15 (x:Wy):Prop:=(fun (n:Int)=>(Lit.int .i64 n).wf=true) x.f_H∧(fun (n:Int)=>(Lit.int .i64 n).wf=true) x.Vp∧Ha x.f_T
theorem X14:RdS Tryz.prog 31 (X2s false) X15:=fun H enc w base sp held fuel cs x h hfit=>by
  obtain ⟨xs,n,hl,hxl,hf,hw⟩:=X09 Tryz.underlying31 h hfit
  obtain ⟨a0,o0,c0⟩:=Jg hxl hf hw 0 rfl (t:=3) (off:=0) rfl rfl (Rd.s (X1i Tryz.underlying3))
  obtain ⟨a1,o1,c1⟩:=Jg hxl hf hw 1 rfl (t:=3) (off:=1) rfl rfl (Rd.s (X1i Tryz.underlying3))
  obtain ⟨a2,o2,c2⟩:=Jg hxl hf hw 2 rfl (t:=29) (off:=2) rfl rfl X0a
  refine ⟨⟨a0,a1,a2⟩,⟨o0,o1,o2⟩,by rw [hl];kernel_rfl,fun j hj=>?_⟩
  replace hj:j<4:=hj
  rcases j with _|_|_|_|j
  · exact c0 0 (by decide)
  · exact c1 0 (by decide)
  · exact c2 0 (by decide)
  · exact c2 1 (by decide)
  · omega
end Go.Proofs.YtnaopgohccacmaaGreat.Q
namespace Go.Proofs.YtnaopgohccacmaaGreat.Q
set_option linter.unusedVariables false
set_option linter.unusedSimpArgs false
theorem X96 {n:Nat} (h:n≤reachBytes):n≤9223372036854775807:=Nat.le_trans h (by decide)
end Go.Proofs.YtnaopgohccacmaaGreat.Q
namespace Go.Proofs.YtnaopgohccacmaaGreat.Q
open Go Go.RowKit
set_option linter.unusedVariables false
set_option linter.unusedSimpArgs false
set_option maxRecDepth 100000
set_option maxHeartbeats 4000000
end Go.Proofs.YtnaopgohccacmaaGreat.Q
