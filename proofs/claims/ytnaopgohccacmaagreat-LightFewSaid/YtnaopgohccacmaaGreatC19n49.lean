import Derived.Test.YtnaopgohccacmaaGreatC19n45
import Derived.SizedLaws
namespace Go.Proofs.YtnaopgohccacmaaGreat.Q
open Go Go.RowKit
set_option linter.unusedVariables false
set_option linter.unusedSimpArgs false
set_option maxRecDepth 100000
set_option maxHeartbeats 4000000
abbrev Zw1:SV:=.d (.val (.slice none 0 0))
abbrev Zw2:List AV:=[vB false,pv 10 0]
abbrev Zw3:HS:=.live (.box 130 [dI (3*(fOf 1)+1),dI (cOf 1),.mref 3])
abbrev Zw4:=(Xs.mk [1,2] ([]:List UInt8) [0,1,3] false)
abbrev Zw5:=(Ux (fOf 1) (cOf 1) Zw4 Zw4.Y3.length)
abbrev Zw6:SV:=dS (ofB 6 ([]:List (List UInt8)))
abbrev Zw7:=(Yy Zw4.X4 Zw4.X4.length)
abbrev Zw8:List HS:=[.dead,.dead,Zw3,.live (mpK Xp Yc (Ug Zw5)),.live (.box 135 [dB true,dI (fOf 1),dI (cOf 1),.own 5 (kE false).sz 0 Zw5.length]),.live (Xc 43 (kE false) Zw5),.live (.box 149 [dI 0,Zw6,dB true,.own 7 (Xj false).sz 0 (Yx Zw7).length]),.live (Xc 152 (Xj false) (Yx Zw7)),.live (.box 106 [dB true,dI 0,Zw6,.own 9 (Xo false).sz 0 Zw7.length]),.live (Xc 65 (Xo false) Zw7),.live (.box 39 [.ptr 2 0,.ptr 4 0,.ptr 6 0,.ptr 8 0,dU (Jn Zw4),.d (dsl false false (kE false) (J1 Zw4 Zw4.Y3.length))])]
abbrev Zw9:HS:=.live (mpK Xp Yc (Ug X77))
abbrev Zwa:HS:=.live (.box 135 [dB true,dI (fOf 1),dI (cOf 1),.own 5 (kE false).sz 0 X77.length])
abbrev Zwb:HS:=.live (Xc 43 (kE false) X77)
abbrev Zwc:HS:=.live (.box 149 [dI 0,Zw6,dB true,.own 7 (Xj false).sz 0 (Yx I1).length])
abbrev Zwd:HS:=.live (Xc 152 (Xj false) (Yx I1))
abbrev Zwe:HS:=.live (.box 106 [dB true,dI 0,Zw6,.own 9 (Xo false).sz 0 I1.length])
abbrev Zwf:HS:=.live (Xc 65 (Xo false) I1)
abbrev Zwg:HS:=.live (.box 39 [.ptr 2 0,.ptr 4 0,.ptr 6 0,.ptr 8 0,dU X0u,.d (dsl false false (kE false) X2i)])
abbrev Zwh:List HS:=[.dead,.dead,Zw3,Zw9,Zwa,Zwb,Zwc,Zwd,Zwe,Zwf,Zwg]
abbrev Zwi:List AV:=[vB false,pv 10 0,pv 11 0,vI (X3z (Yw 0 (Yx I1)) (Yx I1).length 2 X0u 1 0)]
abbrev Zwj:=(Uw (Yw 0 (Yx I1)) (Yx I1).length 2 X2i X0u 1 0)
abbrev Zwk:List HS:=[.dead,.dead,Zw3,Zw9,Zwa,Zwb,Zwc,Zwd,Zwe,Zwf,Zwg,.live (.box 49 [dI Zwj.Xu,.d (dsl false false (kE false) Zwj.Xi),dU Zwj.Xd,.d (dsl false false (X6 false) Zwj.X1),dI Zwj.Vt,dI Zwj.Xm.f_Signer,dU Zwj.Xm.Xh,dI Zwj.X3.Y0,dI Zwj.X3.Xq,.d (dsl false false (X8 false) Zwj.Yr)])]
abbrev Zwl:List AV:=[vB false,pv 10 0,pv 11 0,vI 0]
abbrev Zwm:List SV:=[dI Jq.Xu,.d (dsl false false (kE false) Jq.Xi),dU Jq.Xd,.d (dsl false false (X6 false) Jq.X1),dI Jq.Vt,dI Jq.Xm.f_Signer,dU Jq.Xm.Xh,dI Jq.X3.Y0,dI Jq.X3.Xq,.d (dsl false false (X8 false) Jq.Yr)]
abbrev Zwn:List HS:=[.dead,.dead,Zw3,Zw9,Zwa,Zwb,Zwc,Zwd,Zwe,Zwf,Zwg,.live (.box 49 Zwm)]
abbrev Zwo:=(Yl Jq (Yi.mk 2 0))
abbrev Zwp:=(Yl Jq (Yi.mk 9 0))
abbrev Zwq:=(Yl Jq (Yi.mk 1 1))
theorem X2w:Holds Tryz.prog 16 ⟨[],[],vB true,[]⟩:=by
 refine Holds.of Tryz.func16 rfl (N:=55) Tryz.ntmps16 rfl fun w0 B0 S0 U0=>?_
 show T _ (Y2 55 0 w0 S0 U0 B0) ⟨[],[]⟩ _ _
 have hf1:=Xdh 1
 have hu1:=Xdp 1
 have hw1:Vj (Xs.mk [1,2] ([]:List UInt8) [0,1,3] false):=X47.1
 have hw2:rngW (Xs.mk [1,2] ([]:List UInt8) [0,1,3] false):=X47.2
 obtain ⟨hv1,hv2,hv3,hv4⟩:=aw_few9
 have hv5:=X2u hv3
 have hv6:(Yx I1).length≤100:=(by rw [Jg,hv4];decide)
 have hk1:=gd_ok Xa8
 have hk2:=gd_sm Xa8
 have hk3:=Xdc Xa8 (Yi.mk 2 0)
 have hk4:=Xdc Xa8 (Yi.mk 9 0)
 have hk5:=Xdc Xa8 (Yi.mk 1 1)
 refine sR [] ?_
 refine sR [hR 1 rfl rfl (Y7 0 3 (Yf .i64) (H2 .i64) [1,2] [⟨0,.const (.int .i64 1),.one (dI 1),0⟩,⟨1,.const (.int .i64 2),.one (dI 2),1⟩] (cs:=[dI 1,dI 2]) Tryz.underlying24 Ut rfl Fs rfl rfl rfl pb (Ym rfl rfl pb (Ym rfl rfl pb W3)) pZ4 (V2 pZ4) (X2 rfl) ⟨rfl,⟨rfl,trivial⟩⟩),hR 2 rfl rfl (Y7 1 3 (Yf .i64) (H2 .i64) [0,1,3] [⟨0,.const (.int .i64 0),.one (dI 0),0⟩,⟨1,.const (.int .i64 1),.one (dI 1),1⟩,⟨2,.const (.int .i64 3),.one (dI 3),2⟩] (cs:=[dI 0,dI 1,dI 3]) Tryz.underlying24 Ut rfl Fs rfl rfl rfl pb (Ym rfl rfl pb (Ym rfl rfl pb (Ym rfl rfl pb W3))) pZ4 (V2 pZ4) (X2 rfl) ⟨rfl,⟨rfl,⟨rfl,trivial⟩⟩⟩),hR 4 rfl rfl (Uz 1 7 0 3 (Yf .i64) [1,2] (av:=.tv (.agg [.own 0 (Yf .i64).sz 0 [1,2].length,Zw1,.own 1 (Yf .i64).sz 0 [0,1,3].length,dB false])) (Uz 1 7 1 3 (Yf .i64) [0,1,3] (av:=.tv (.agg [.d (dsl false false (Yf .i64) [1,2]),Zw1,.own 1 (Yf .i64).sz 0 [0,1,3].length,dB false])) (rCn (X9o (Ws.mk 1 1) (Xs.mk [1,2] ([]:List UInt8) [0,1,3] false) ‹_› ‹_›) Tryz.func10 [2,3,4,5,6,7,8,9] [(.tmp 4,.tv (.agg [dI 1,dI 1])),(.tmp 7,.tv (.agg [.d (dsl false false (Yf .i64) [1,2]),Zw1,.d (dsl false false (Yf .i64) [0,1,3]),dB false]))] 0 8 ⟨⟨.inl ⟨rfl,rfl⟩,⟨.inl ⟨rfl,rfl⟩,trivial⟩⟩,⟨⟨.inl ⟨rfl,rfl⟩,⟨.inr pZ8,⟨.inl ⟨rfl,rfl⟩,⟨.inl ⟨rfl,rfl⟩,trivial⟩⟩⟩⟩,trivial⟩⟩ trivial) rfl (.inr (kk2 ⟨pZ0,⟨.inl rfl,trivial⟩⟩)) p2t rfl rfl) rfl (.inr ⟨pZ0,⟨.inl rfl,(kk2 trivial)⟩⟩) p2t rfl rfl)] ?_
 refine tN ⟨Zw2,Zw8⟩ ?_
 refine Wy (s':=⟨Zw2,Zwh⟩) (fun _ _ hG=>Wf [12,14,2,3,4,5,6,7,8,9,10] [true,true] (h1:=Zwh) (h2:=Zw8) (t1:=Zw2) rfl (cg9 (fun (q1:List (Yg×Bool)) (q2:Nat) (q3:List aE) (q4:Nat) (q5:List Yj) (q6:Nat) (q7:List Xn) (q8:List UInt8) (q9:List aE)=>([.dead,.dead,Zw3,.live (mpK Xp Yc q1),.live (.box 135 [dB true,dI (fOf 1),dI (cOf 1),.own 5 (kE false).sz 0 q2]),.live (Xc 43 (kE false) q3),.live (.box 149 [dI 0,Zw6,dB true,.own 7 (Xj false).sz 0 q4]),.live (Xc 152 (Xj false) q5),.live (.box 106 [dB true,dI 0,Zw6,.own 9 (Xo false).sz 0 q6]),.live (Xc 65 (Xo false) q7),.live (.box 39 [.ptr 2 0,.ptr 4 0,.ptr 6 0,.ptr 8 0,dU q8,.d (dsl false false (kE false) q9)])]:List HS)) (by rfl) (by rfl) (by rfl) (by rfl) (by rfl) (by rfl) (by rfl) (by rfl) (by rfl)) hG) ?_
 refine sR [hR 6 rfl rfl (rCa (Xfe (ofB 6 ([]:List (List UInt8))) (Yx I1) 2 X2i X0u 1 0 ‹_› ‹_› ‹_› (by omega) (by omega) (by omega) (by omega)) Tryz.func17 [6,7] [(.tmp 11,pv 6 0),(.const (.int .i64 2),vI 2),(.tmp 13,slV false false (kE false) X2i),(.tmp 15,slV false false kU8 X0u),(.const (.int .i64 1),vI 1),(.const (.int .i64 0),vI 0)] 2 2)] ?_
 by_cases hq1:(c9E (Xz (fOf 1) (cOf 1) (Ug X77)) (fOf 1) Jq)=0
 ·by_cases hq2:(c9E (Xz (fOf 1) (cOf 1) (Ug X77)) (fOf 1) (Yl Jq (Yi.mk 2 0)))=90
  ·by_cases hq3:(c9E (Xz (fOf 1) (cOf 1) (Ug X77)) (fOf 1) (Yl Jq (Yi.mk 9 0)))=32
   ·refine tN ⟨Zwi,Zwk⟩ ?_
    refine Wy (s':=⟨Zwl,Zwn⟩) (fun _ _ hG=>Wf [13,15,2,3,4,5,6,7,8,9,10,11] (bm 4 15) (t1:=Zwl) (t2:=Zwi) (h1:=Zwn) (h2:=Zwk) (congrArg (fun (q1:Int)=>([vB false,pv 10 0,pv 11 0,vI q1]:List AV)) (by exact aw_pr9.2)) (by have e1:(Jq.Xu:Int)=(Uw (Yw 0 (Yx I1)) (Yx I1).length 2 X2i X0u 1 0).Xu:=p2q;have e2:(Jq.Xi:List aE)=(Uw (Yw 0 (Yx I1)) (Yx I1).length 2 X2i X0u 1 0).Xi:=p2q;have e3:(Jq.Xd:List UInt8)=(Uw (Yw 0 (Yx I1)) (Yx I1).length 2 X2i X0u 1 0).Xd:=p2q;have e4:(Jq.X1:List Y6)=(Uw (Yw 0 (Yx I1)) (Yx I1).length 2 X2i X0u 1 0).X1:=p2q;have e5:(Jq.Vt:Int)=(Uw (Yw 0 (Yx I1)) (Yx I1).length 2 X2i X0u 1 0).Vt:=p2q;have e6:(Jq.Xm.f_Signer:Int)=(Uw (Yw 0 (Yx I1)) (Yx I1).length 2 X2i X0u 1 0).Xm.f_Signer:=p2q;have e7:(Jq.Xm.Xh:List UInt8)=(Uw (Yw 0 (Yx I1)) (Yx I1).length 2 X2i X0u 1 0).Xm.Xh:=p2q;have e8:(Jq.X3.Y0:Int)=(Uw (Yw 0 (Yx I1)) (Yx I1).length 2 X2i X0u 1 0).X3.Y0:=p2q;have e9:(Jq.X3.Xq:Int)=(Uw (Yw 0 (Yx I1)) (Yx I1).length 2 X2i X0u 1 0).X3.Xq:=p2q;have e10:(Jq.Yr:List Y1)=(Uw (Yw 0 (Yx I1)) (Yx I1).length 2 X2i X0u 1 0).Yr:=p2q;have hE:=congr (congr (congr (congr (congr (congr (congr (congr (congr (congrArg (fun (q1:Int) (q2:List aE) (q3:List UInt8) (q4:List Y6) (q5:Int) (q6:Int) (q7:List UInt8) (q8:Int) (q9:Int) (q10:List Y1)=>([.dead,.dead,Zw3,Zw9,Zwa,Zwb,Zwc,Zwd,Zwe,Zwf,Zwg,.live (.box 49 [dI q1,.d (dsl false false (kE false) q2),dU q3,.d (dsl false false (X6 false) q4),dI q5,dI q6,dU q7,dI q8,dI q9,.d (dsl false false (X8 false) q10)])]:List HS)) e1) e2) e3) e4) e5) e6) e7) e8) e9) e10;exact hE) hG) ?_
    refine sD [[],[0],[0,1],[0,1,2],[0,1,2,3],[0,1,2],[0,1,2,3,4,5],[0,1,2,3,4,5,6],[0,1,2,3,4,5,6,7],[0,1,2,3,4,5,6,7,8],[0,1,2,3,4,5,6,7,8,9],[0,1,2,3,4,5,6,7,8,9,10],[0,1,2,3,4,5,6,7,8,9],[0,1,2,3,4,5,6,7,8,9],[0,1,2,3,4,5,6,7,8,9,12,13],[0,1,2,3,4,5,6,7,8,9,10,11,12,13,14],[0,1,2,3,4,5,6,7,8,9,10,11,12,13,14,15],[0,1,2,3,4,5,6,7,8,9,10,11,12,13,14,15,16],[0,1,2,3,4,5,6,7,8,9,10,11,12,13,14,15,16,17],[0,1,2,3,4,5,6,7,8,9,10,11,12,13,14,15,16,17,18],[0,1,2,3,4,5,6,7,8,9,10,11,12,13,14,15,16,17,18,19],[0,1,2,3,4,5,6,7,8,9,10,11,12,13,14,15,16,17,18],[0,1,2,3,4,5,6,7,8,9,10,11,12,13,14,15,16,17,18],[0,1,2,3,4,5,6,7,8,9,10,11,12,13,14,15,16,17,18,21,22],[0,1,2,3,4,5,6,7,8,9,10,11,12,13,14,15,16,17,18,19,20,21,22,23],[0,1,2,3,4,5,6,7,8,9,10,11,12,13,14,15,16,17,18,19,20,21,22,23,24],[0,1,2,3,4,5,6,7,8,9,10,11,12,13,14,15,16,17,18,19,20,21,22,23,24,25],[0,1,2,3,4,5,6,7,8,9,10,11,12,13,14,15,16,17,18,19,20,21,22,23,24,25,26],[0,1,2,3,4,5,6,7,8,9,10,11,12,13,14,15,16,17,18,19,20,21,22,23,24,25,26,27],[0,1,2,3,4,5,6,7,8,9,10,11,12,13,14,15,16,17,18,19,20,21,22,23,24,25,26,27,28],[0,1,2,3,4,5,6,7,8,9,10,11,12,13,14,15,16,17,18,19,20,21,22,23,24,25,26,27],[0,1,2,3,4,5,6,7,8,9,10,11,12,13,14,15,16,17,18,19,20,21,22,23,24,25,26,27],[0,1,2,3,4,5,6,7,8,9,10,11,12,13,14,15,16,17,18,19,20,21,22,23,24,25,26,27,30,31],[0,1,2,3,4,5,6,7,8,9,10,11,12,13,14,15,16,17,18,19,20,21,22,23,24,25,26,27,28,29,30,31,32],[0,1,2,3,4,5,6,7,8,9,10,11,12,13,14,15,16,17,18,19,20,21,22,23,24,25,26,27,28,29,30,31,32,33],[0,1,2,3,4,5,6,7,8,9,10,11,12,13,14,15,16,17,18,19,20,21,22,23,24,25,26,27,28,29,30,31,32,33,34],[0,1,2,3,4,5,6,7,8,9,10,11,12,13,14,15,16,17,18,19,20,21,22,23,24,25,26,27,28,29,30,31,32,33,34,35]] (Xl hY1 [3,4,5] (hS 6 (oY (b:=true) rfl rfl rfl rfl (X2 rfl) rfl (rCa (Ih (fOf 1) (cOf 1) (Ug X77) Jq ‹_› ‹_› ‹_›) Tryz.func14 [2,3] [(.tmp 23,pv 2 0),(.tmp 24,.tv (.agg Zwm))] 2 2))::(hY1 7::(hP1 8::(Xl (hY · (dT hq1)) [10,11,12,13] (hS 14 (oY rfl rfl rfl rfl (X2 rfl) (dT hq1) (rCa (Fy Jq (Yi.mk 2 0) ‹_›) Tryz.func13 [] [(.tmp 31,.tv (.agg Zwm)),(.tmp 32,.tv (.agg [dI 2,dI 0]))] 0 0))::(hS 15 (oY rfl rfl rfl rfl (X2 rfl) (dT hq1) (rCa (Ih (fOf 1) (cOf 1) (Ug X77) (Yl Jq (Yi.mk 2 0)) ‹_› ‹_› ‹_›) Tryz.func14 [2,3] [(.tmp 30,pv 2 0),(.tmp 33,.tv (.agg [dI Zwo.Xu,.d (dsl false false (kE false) Zwo.Xi),dU Zwo.Xd,.d (dsl false false (X6 false) Zwo.X1),dI Zwo.Vt,dI Zwo.Xm.f_Signer,dU Zwo.Xm.Xh,dI Zwo.X3.Y0,dI Zwo.X3.Xq,.d (dsl false false (X8 false) Zwo.Yr)]))] 2 2))::(hY 16 (dT hq1)::(hP 17 (dT hq1)::(Xl (hY · (dT hq2)) [19,20,21,22] (hS 23 (oY rfl rfl rfl rfl (X2 rfl) (dT hq2) (rCa (Fy Jq (Yi.mk 9 0) ‹_›) Tryz.func13 [] [(.tmp 40,.tv (.agg Zwm)),(.tmp 41,.tv (.agg [dI 9,dI 0]))] 0 0))::(hS 24 (oY rfl rfl rfl rfl (X2 rfl) (dT hq2) (rCa (Ih (fOf 1) (cOf 1) (Ug X77) (Yl Jq (Yi.mk 9 0)) ‹_› ‹_› ‹_›) Tryz.func14 [2,3] [(.tmp 39,pv 2 0),(.tmp 42,.tv (.agg [dI Zwp.Xu,.d (dsl false false (kE false) Zwp.Xi),dU Zwp.Xd,.d (dsl false false (X6 false) Zwp.X1),dI Zwp.Vt,dI Zwp.Xm.f_Signer,dU Zwp.Xm.Xh,dI Zwp.X3.Y0,dI Zwp.X3.Xq,.d (dsl false false (X8 false) Zwp.Yr)]))] 2 2))::(hY 25 (dT hq2)::(hP 26 (dT hq2)::(Xl (hY · (dT hq3)) [28,29,30,31] (hS 32 (oY rfl rfl rfl rfl (X2 rfl) (dT hq3) (rCa (Fy Jq (Yi.mk 1 1) ‹_›) Tryz.func13 [] [(.tmp 49,.tv (.agg Zwm)),(.tmp 50,.tv (.agg [dI 1,dI 1]))] 0 0))::(hS 33 (oY rfl rfl rfl rfl (X2 rfl) (dT hq3) (rCa (Ih (fOf 1) (cOf 1) (Ug X77) (Yl Jq (Yi.mk 1 1)) ‹_› ‹_› ‹_›) Tryz.func14 [2,3] [(.tmp 48,pv 2 0),(.tmp 51,.tv (.agg [dI Zwq.Xu,.d (dsl false false (kE false) Zwq.Xi),dU Zwq.Xd,.d (dsl false false (X6 false) Zwq.X1),dI Zwq.Vt,dI Zwq.Xm.f_Signer,dU Zwq.Xm.Xh,dI Zwq.X3.Y0,dI Zwq.X3.Xq,.d (dsl false false (X8 false) Zwq.Yr)]))] 2 2))::(hY 34 (dT hq3)::(hP 35 (dT hq3)::[]))))))))))))))))))) ?_
    refine T.ret ?_
    exact eRt 0 (.one (dB (decide ((c9E (Xz (fOf 1) (cOf 1) (Ug X77)) (fOf 1) Zwq)=100)))) [] (cB (by rfl)) trivial
   exact absurd Xib.2.2.1 hq3
  exact absurd Xib.2.1 hq2
 exact absurd Xib.1 hq1
end Go.Proofs.YtnaopgohccacmaaGreat.Q
namespace Go.Proofs.YtnaopgohccacmaaGreat.Q
set_option linter.unusedVariables false
set_option linter.unusedSimpArgs false
set_option maxRecDepth 100000
theorem Xi3 (f u:Int) (l:List aE):Xz f u (Ug l)=Ex f u l:=funext fun e=>Xlf f u l e
theorem X2d (bs:List Int):∀ (i j:Nat),j<i→(Yy bs i).getD j Ys=I0 (Yy bs j) j (Jy (bs.getD j 0)).toNat
  | 0,_,h=>absurd h (Nat.not_lt_zero _)
  | i+1,j,h=>by
    have hl:=Jz bs i
    rw [Yy,List.getD_eq_getElem?_getD]
    by_cases q:j<i
    · rw [List.getElem?_append_left (by omega),← List.getD_eq_getElem?_getD];exact X2d bs i j q
    · obtain rfl:j=i:=by omega
      rw [List.getElem?_append_right (by omega),hl,Nat.sub_self];rfl
theorem at_chn9 (bs:List Int) {i j:Nat} (h:j≤i):atB d9 (Yy bs i) j=atB d9 (Yy bs j) (Yy bs j).length:=by
  rw [Jz]
  cases j with
  | zero=>rfl
  | succ j=>unfold atB;rw [if_neg (by omega),if_neg (by omega),Nat.add_sub_cancel,X2d bs i j (by omega),X2d bs (j+1) j (by omega)]
section
variable {bs:List Int} {n:Nat} {y:Int}
theorem X5w (h1:1≤y) (h2:y≤((n:Nat):Int)):rblk 0 (Yy bs n) y=(Yy bs n).getD (y.toNat-1) Ys:=by
  unfold rblk
  have hl:=Jz bs n
  rw [if_pos ⟨by omega,by omega⟩,show (y-0-1).toNat=y.toNat-1 by omega]
theorem Xli (h1:1≤y) (h2:y≤((n:Nat):Int)):(rblk 0 (Yy bs n) y).Xy=atB d9 (Yy bs n) (y.toNat-1):=by
  rw [X5w h1 h2,X2d bs n _ (by omega),at_chn9 bs (by omega)]
  rfl
theorem blk_dig9 (h1:1≤y) (h2:y≤((n:Nat):Int)):Hw (Wn (rblk 0 (Yy bs n) y))=atB d9 (Yy bs n) y.toNat:=by
  rw [X5w h1 h2]
  unfold atB
  rw [if_neg (by omega)]
end
theorem dat_un9 {c:Xs} (hs:Vj c):unE (((Jn c).length:Nat):Int) (Jn c)=0∧unH (((Jn c).length:Nat):Int) (Jn c)=((c.X4.length:Nat):Int)∧unD (((Jn c).length:Nat):Int) (Jn c)=atB d9 (chL c) (chL c).length:=by
  have h1:=hs.1
  have h2:=hs.2.1
  have h3:(atB d9 (chL c) (chL c).length).length≤5000+26000*c.X4.length:=(Fm c.X4 c.X4.length (by omega)).1
  obtain ⟨a1,a2⟩:=un_ok (h:=((c.X4.length:Nat):Int)) (d:=atB d9 (chL c) (chL c).length) (s:=c.Vq) (M:=(((Jn c).length:Nat):Int)) (by unfold Wm;omega) (by omega) (by omega) (Int.le_refl _)
  have a3:=a1.2 ⟨by omega,by omega⟩
  exact ⟨a3,(a2 a3).1,(a2 a3).2.1⟩
def J4 (c:Xs) (y:Wr):Wl:=Uw (rblk 0 (chL c)) (chL c).length (0+(((chL c).length:Nat):Int)) (J1 c c.Y3.length) (Jn c) y.f_H y.Vt
def Wa (c:Xs) (y:Wr):Wl:=Yl (J4 c y) y.f_T
theorem Xdl {c:Xs} (hs:Vj c) (hr:rngW c) (y:Wr):gd9 (J4 c y):=Xf9 hs hr _ _ _ _
theorem Xik {c:Xs} (hs:Vj c) (hr:rngW c) (y:Wr):okC9 (Wa c y):=Xdc (Xdl hs hr y) _
end Go.Proofs.YtnaopgohccacmaaGreat.Q
namespace Go.Proofs.YtnaopgohccacmaaGreat.Q
set_option linter.unusedVariables false
set_option linter.unusedSimpArgs false
set_option maxRecDepth 100000
theorem Xbx {h:Nat→Int}:∀ {n:Nat},Hp h n=0→∀ j,j<n→h j=0
  | 0,_,j,hj=>absurd hj (Nat.not_lt_zero _)
  | n+1,q,j,hj=>by
    rw [Hp] at q
    split at q
    · rename_i w;exact absurd q w
    · rename_i w
      rcases Nat.lt_or_ge j n with h1|h1
      · exact Xbx (Classical.not_not.1 w) j h1
      · rw [show j=n by omega];exact q
theorem Xil {g:aE→Int} {x:List aE} {need:Int} (h:¬X3p g x need≠0):(∀ j,j<x.length→¬g (x.getD j zE)≠0∧¬X0d x j)∧¬((x.length:Nat):Int)<need:=by
  have h:=Classical.not_not.1 h
  unfold X3p at h
  split at h
  · rename_i w;exact absurd h w
  · rename_i w
    refine ⟨fun j hj=>?_,fun q=>by rw [if_pos q] at h;cases h⟩
    have e:=Xbx (Classical.not_not.1 w) j hj
    unfold X33 at e
    split at e
    · rename_i w2;exact absurd e w2
    · rename_i w2
      refine ⟨w2,fun q=>?_⟩
      rw [if_pos q] at e;cases e
theorem vt_inv {C:aE→Int} {f k:Int} {e:aE} (h:¬vtE C f e k≠0):C e=0∧(Vr e.Xh).X0=k∧Yz f e.f_Signer∧¬opE C e k≠0:=by
  have h:=Classical.not_not.1 h
  unfold vtE at h
  split at h
  · rename_i w;exact absurd h w
  · rename_i w
    split at h
    · cases h
    · split at h
      · cases h
      · rename_i w3
        have w':=w
        have w:=Classical.not_not.1 w
        unfold opE at w
        split at w
        · rename_i q;exact absurd w q
        · rename_i q
          split at w
          · cases w
          · split at w
            · cases w
            · rename_i q3
              exact ⟨Classical.not_not.1 q,Classical.not_not.1 q3,Classical.not_not.1 w3,w'⟩
theorem Xio (x:List aE):sgn x x.length=x.map (·.f_Signer):=by unfold sgn;rw [List.take_length]
theorem Xke {x:List aE} (h:∀ j,j<x.length→¬X0d x j):(sgn x x.length).Nodup:=by
  rw [Xio,List.Nodup,List.pairwise_iff_getElem]
  intro i j hi hj hij e
  rw [List.length_map] at hi hj
  refine h j hj ⟨i,hij,?_⟩
  rw [List.getElem_map,List.getElem_map] at e
  rw [List.getD_eq_getElem?_getD,List.getD_eq_getElem?_getD,List.getElem?_eq_getElem hi,List.getElem?_eq_getElem hj]
  exact e
theorem sgn_mem {x:List aE} {s:Int} (h:s∈sgn x x.length):∃ j,j<x.length∧(x.getD j zE).f_Signer=s:=by
  rw [Xio] at h
  obtain ⟨e,he,rfl⟩:=List.mem_map.1 h
  obtain ⟨j,hj,rfl⟩:=List.getElem_of_mem he
  exact ⟨j,hj,by rw [List.getD_eq_getElem?_getD,List.getElem?_eq_getElem hj];rfl⟩
theorem cnt_all {f:Int} (hf:0≤f∧f≤2) {x:List aE} (h1:∀ j,j<x.length→Yz f (x.getD j zE).f_Signer) (h2:∀ j,j<x.length→¬X0d x j):cntR f (sgn x x.length)=x.length:=by
  rw [← Xi2 (l:=sgn x x.length) hf (Xke h2) fun s=>⟨fun h=>⟨by obtain ⟨j,hj,rfl⟩:=sgn_mem h;exact h1 j hj,h⟩,And.right⟩,Xce (Nat.le_refl _)]
end Go.Proofs.YtnaopgohccacmaaGreat.Q
namespace Go.Proofs.YtnaopgohccacmaaGreat.Q
set_option linter.unusedVariables false
set_option linter.unusedSimpArgs false
set_option maxRecDepth 100000
theorem Xkt {P:aE→Prop} {l:List aE} {e:aE} (hl:∀ x,x∈l→P x) (he:P e):∀ x,x∈X9d l e→P x:=fun x hx=>by
  unfold X9d at hx
  split at hx
  · exact hl x hx
  · rcases List.mem_append.1 hx with hx|hx
    · exact hl x hx
    · rw [List.mem_singleton.1 hx];exact he
theorem X6c {f u:Int} {c:Xs}:∀ {k:Nat} (e:aE),e∈Ux f u c k→e.Xh=Jm (Vx c)
  | 0,_,h=>by cases h
  | k+1,e,h=>by
    rw [Ux] at h
    unfold Hy at h
    split at h
    · exact Xkt (P:=fun e=>e.Xh=Jm (Vx c)) (fun x hx=>X6c x hx) rfl e h
    · exact X6c e h
theorem op_back9 {C:aE→Int} {s k:Int} {m:aM} (hl:(Y4 m 9).length≤16777216) (hr:Fg m→rngM (((Y4 m 9).length:Nat):Int) 16777216 m) (h:¬opE C ⟨s,Jm m⟩ k≠0):Vr (Jm m)=m:=by
  have h:=Classical.not_not.1 h
  have hd:X75 (Jm m)=0:=by
    unfold opE at h
    split at h
    · rename_i q;exact absurd h q
    · split at h
      · cases h
      · rename_i q;exact Classical.not_not.1 q
  by_cases hw:Fg m
  · exact (dec_back hw hl (hr hw)).1
  · rw [(enc_bad hw).1] at hd;cases hd
theorem ck_open9 {c:Xs} (hs:Vj c) {C:aE→Int} {s k:Int} (h:¬opE C ⟨s,Jm (Vx c)⟩ k≠0):Vr (Jm (Vx c))=Vx c:=by
  have hl:=Xa3 hs
  exact op_back9 (by omega) (fun hw=>rng_of hw (show Wm 0 by unfold Wm;decide) (show Wm 0 by unfold Wm;decide) (by omega) (fun e he=>by cases he) (fun e he=>by cases he) (fun e he=>by cases he)) h
theorem st_dig9 {c:Xs} (hs:Vj c) {f u seq:Int} {n:Nat} {x:List aE} (hq:¬seq<1) (h:stE (Ex f u (Ux f u c n)) f seq x=0):stD (Ex f u (Ux f u c n)) f seq x=ckD9 c:=by
  have hd:stD (Ex f u (Ux f u c n)) f seq x=Hq x:=if_pos ⟨by omega,h⟩
  rw [hd]
  unfold stE at h
  rw [if_neg (by omega)] at h
  obtain ⟨h1,h2⟩:=Xil (fun q=>q h)
  have hx:0<x.length:=by omega
  have h3:=(h1 0 hx).1
  have hv:¬vtE (Ex f u (Ux f u c n)) f (x.getD 0 zE) 5≠0:=fun q=>h3 (by unfold gS;rw [if_pos q];exact q)
  obtain ⟨v1,_,_,v4⟩:=vt_inv hv
  have hm:x.getD 0 zE∈Ux f u c n:=by
    unfold Ex at v1
    split at v1
    · split at v1
      · assumption
      · cases v1
    · cases v1
  have hb:=X6c _ hm
  unfold Hq
  generalize x.getD 0 zE=e at hb v4 ⊢
  obtain ⟨s,b⟩:=e
  have hb:b=Jm (Vx c):=hb
  subst hb
  show (Vr (Jm (Vx c))).Xe=_
  rw [ck_open9 hs v4]
  rfl
theorem hd_zero9 {h:Y6} (h1:h.Xy.length≤10000000) (h2:h.W4.length≤10000000) (he:Hw h=d9):False:=by
  have:=(X4u (s:=5) (t:=6) (m:=[]) p50 (by decide)).1 he
  exact absurd this.1 (by decide)
theorem hds_are9 {c:Xs} (hs:Vj c) {l:List Y6} (ho:okHs l) (hn:∀ x,x∈l→Wm x.Ye) (hd:E1 l (atB d9 (chL c) (chL c).length) l.length) :
    ∀ j,j<l.length→j<c.X4.length∧l.getD (l.length-1-j) Xg=Wn (rblk 0 (chL c) (((c.X4.length-j:Nat)):Int)):=by
  have hc:=hs.1
  have hl:=Jz c.X4 c.X4.length
  have at_:∀ j,j<l.length→Hw (l.getD (l.length-1-j) Xg)=atB d9 (chL c) (c.X4.length-j)→j<c.X4.length∧l.getD (l.length-1-j) Xg=Wn (rblk 0 (chL c) (((c.X4.length-j:Nat)):Int)):=fun j hj he=>by
    obtain ⟨o1,o2,_,o4⟩:=X9h ho (l.length-1-j)
    have oc:=hn _ (Vc (z:=Xg) (show l.length-1-j<l.length by omega))
    by_cases q:j<c.X4.length
    · refine ⟨q,?_⟩
      have hg:gdH (Wn (rblk 0 (chL c) (((c.X4.length-j:Nat)):Int))):=gdH_of (X97 (bs:=c.X4) (i:=c.X4.length) (by omega) (((c.X4.length-j:Nat)):Int))
      obtain ⟨g1,g2,g3,g4⟩:=hg
      have hb:=blk_dig9 (bs:=c.X4) (n:=c.X4.length) (y:=(((c.X4.length-j:Nat)):Int)) (by omega) (by omega)
      rw [show ((((c.X4.length-j:Nat)):Int)).toNat=c.X4.length-j by omega] at hb
      refine digB_inj o4 g4 oc ?_ o1 (by omega) o2 (by omega) (he.trans hb.symm)
      show Wm (((Y5 _).length:Nat):Int)
      unfold Wm
      have g3:(((Y5 (rblk 0 (chL c) (((c.X4.length-j:Nat)):Int))).length:Nat):Int)≤100000:=g3.2
      omega
    · exact (hd_zero9 o1 o2 (by rw [he,show c.X4.length-j=0 by omega];rfl)).elim
  intro j
  induction j with
  | zero =>
    intro hj
    refine at_ 0 hj ?_
    rw [hd (l.length-1-0) (by omega) (by omega),Xj6 (by omega),hl,Nat.sub_zero]
  | succ j ih =>
    intro hj
    obtain ⟨q1,q2⟩:=ih (by omega)
    refine at_ (j+1) hj ?_
    rw [hd (l.length-1-(j+1)) (by omega) (by omega),Xf2 (by omega),q2]
    show (rblk 0 (chL c) (((c.X4.length-j:Nat)):Int)).Xy=_
    rw [Xli (by omega) (by omega),show ((((c.X4.length-j:Nat)):Int)).toNat-1=c.X4.length-(j+1) by omega]
theorem chn_rng9 {bs:List Int} {n:Nat} (hn:n≤100) {y:Int} (h1:1≤y) (h2:y≤((n:Nat):Int)):Xhf (rblk 0 (Yy bs n) y):=by
  have hc:=X2z (bs.getD (y.toNat-1) 0)
  rw [X5w h1 h2,X2d bs n _ (by omega)]
  exact blk_rng9 (by omega) (by omega)
theorem oth_ne9 (b:List UInt8):X7w≠ofB 7 [b]:=fun h=>by
  have:=congrArg (fun l=>l.getD 0 0) h
  exact absurd (show (97:UInt8)=7 from this) (by decide)
theorem sound9 {c:Xs} (hs:Vj c) {f u:Int} {n:Nat} {k:Wl} (hk:okC9 k) (hn:∀ x,x∈k.X1→Wm x.Ye) (r1:Wm k.Xm.f_Signer) (r2:Wm k.X3.Y0) (r3:Wm k.X3.Xq)
    (h:c9E (Ex f u (Ux f u c n)) f k=0):c.Us=false∧0<k.X1.length∧(1≤(k.X1.getD 0 Xg).X9∧(k.X1.getD 0 Xg).X9≤((c.X4.length:Nat):Int)) ∧
      0≤k.Vt∧k.Vt<(((rblk 0 (chL c) (k.X1.getD 0 Xg).X9).X7.length:Nat):Int)∧k.Vt<(((rblk 0 (chL c) (k.X1.getD 0 Xg).X9).Xf.length:Nat):Int) ∧
      (rblk 0 (chL c) (k.X1.getD 0 Xg).X9).X7.getD k.Vt.toNat zE=k.Xm∧(rblk 0 (chL c) (k.X1.getD 0 Xg).X9).Xf.getD k.Vt.toNat Ya=k.X3:=by
  have hc:=hs.1
  have hl:=Jz c.X4 c.X4.length
  obtain ⟨o1,o2,o3,o4,o5,o6,o7⟩:=hk
  unfold c9E at h
  split at h
  · rename_i q;exact absurd h q
  rename_i h0
  have h0:=Classical.not_not.1 h0
  split at h
  · cases h
  rename_i h1
  split at h
  · rename_i q;exact absurd h q
  rename_i h2
  have h2:=Classical.not_not.1 h2
  have hsd:s9D (Ex f u (Ux f u c n)) f k.Xu k.Xi k.Xd=unD ((k.Xd.length:Nat):Int) k.Xd:=if_pos h0
  rw [hsd] at h2
  unfold s9E at h0
  split at h0
  · cases h0
  rename_i a1
  split at h0
  · rename_i q;exact absurd h0 q
  rename_i a2
  split at h0
  · cases h0
  rename_i a3
  split at h0
  · cases h0
  rename_i a4
  have a3:=Classical.not_not.1 a3
  rw [st_dig9 hs a1 (Classical.not_not.1 a2)] at a3
  have hdl:=E2 hs
  have hO:c.Us=false:=by
    by_cases q:c.Us=true
    · rw [show ckD9 c=X7w from if_pos q] at a3;exact absurd a3 (oth_ne9 _)
    · simpa using q
  rw [show ckD9 c=ofB 7 [Jn c] from if_neg (by rw [hO];decide)] at a3
  have hD:Jn c=k.Xd:=by
    have:=((X4u (by show 5+(4+(Jn c).length)≤_;omega) (by show 5+(4+k.Xd.length)≤_;omega)).1 a3).2
    simpa using this
  obtain ⟨u1,u2,u3⟩:=dat_un9 hs
  rw [← hD,u3] at h2
  rw [← hD] at a4
  have hsq:k.Xu=((c.X4.length:Nat):Int):=by rw [← u2];exact (Classical.byContradiction fun w=>a4 (.inr (fun e=>w e.symm)))
  have hhg:X63 k.X1 k.Xu k.X1.length:=Classical.byContradiction fun w=>by unfold X74 at h2;rw [if_neg w] at h2;cases h2
  have hdg:E1 k.X1 (atB d9 (chL c) (chL c).length) k.X1.length:=Classical.byContradiction fun w=>by unfold X74 at h2;rw [if_pos hhg] at h2;unfold Fl at h2;rw [if_neg w] at h2;cases h2
  have hlen:0<k.X1.length:=by omega
  obtain ⟨p1,p2⟩:=hds_are9 hs o3 hn hdg (k.X1.length-1) (by omega)
  rw [show k.X1.length-1-(k.X1.length-1)=0 by omega] at p2
  have hht:=hhg 0 hlen (by omega)
  have e1:(k.X1.getD 0 Xg).X9=((c.X4.length-(k.X1.length-1):Nat):Int):=by omega
  have b1:1≤(k.X1.getD 0 Xg).X9∧(k.X1.getD 0 Xg).X9≤((c.X4.length:Nat):Int):=by omega
  rw [← e1] at p2
  unfold inc9 at h
  generalize hH:(k.X1.getD 0 Xg).X9=H at *
  rw [p2] at h
  obtain ⟨s1,s2,s3,s4,s5⟩:=sound10 (X97 (bs:=c.X4) (i:=c.X4.length) (by omega) H).1 (chn_rng9 (by omega) b1.1 b1.2) r1 r2 r3 o6 o5 h
  exact ⟨hO,hlen,b1,s1,s2,s3,s4,s5⟩
theorem few9 {C:aE→Int} {f:Int} {k:Wl} (hf:0≤f∧f≤2) (h:c9E C f k=0):cntR f (sgn k.Xi k.Xi.length)=k.Xi.length∧2*f+1≤((k.Xi.length:Nat):Int):=by
  unfold c9E at h
  split at h
  · rename_i q;exact absurd h q
  rename_i h0
  have h0:=Classical.not_not.1 h0
  unfold s9E at h0
  split at h0
  · cases h0
  rename_i a1
  split at h0
  · rename_i q;exact absurd h0 q
  rename_i a2
  have a2:=Classical.not_not.1 a2
  unfold stE at a2
  rw [if_neg (by omega)] at a2
  obtain ⟨h1,h2⟩:=Xil (fun q=>q a2)
  have hv:∀ j,j<k.Xi.length→Yz f (k.Xi.getD j zE).f_Signer:=fun j hj=>(vt_inv (fun q=>(h1 j hj).1 (by unfold gS;rw [if_pos q];exact q))).2.2.1
  exact ⟨cnt_all hf hv fun j hj=>(h1 j hj).2,by omega⟩
end Go.Proofs.YtnaopgohccacmaaGreat.Q
namespace Go.Proofs.YtnaopgohccacmaaGreat.Q
set_option linter.unusedVariables false
set_option linter.unusedSimpArgs false
set_option maxRecDepth 100000
end Go.Proofs.YtnaopgohccacmaaGreat.Q
namespace Go.Proofs.YtnaopgohccacmaaGreat.Q
set_option linter.unusedVariables false
set_option linter.unusedSimpArgs false
section
variable {P:Program}
def Xfr {H:Type} (P:Program) (t:TypeId) (d:DataW H):Prop:=∀ n,n∈d.weights P t→n≤reachBytes
def RdS {α:Type} (P:Program) (t:TypeId) (K:Kd α) (ok:α→Prop):Prop :=
  ∀ (H:Type) (enc:TypeId×Value→H) (w:World) (base:Nat) (sp:Nat→Bool) (held:Bool) (fuel:Nat) (cs:List Value) (x:DataW H×List MemPlace),DataW.trod enc P w base sp held fuel t cs=some x→Xfr P t x.1→∃ a:α,ok a∧X5d w K a cs
theorem Rd.s {α:Type} {t:TypeId} {K:Kd α} {ok:α→Prop} (h:Rd P t K ok):RdS P t K ok:=fun H enc w base sp held fuel cs x hx _=>h H enc w base sp held fuel cs x hx
theorem X1x {H:Type} {e:TypeId} {n:Nat}:∀ {l:List (DataW H)} {i:Nat} {d:DataW H},l[i]?=some d→n∈d.weights P e→n∈DataW.weightsAll P e l
  | a::l,0,d,h,hn=>by
    simp only [List.getElem?_cons_zero,Option.some.injEq] at h
    subst h
    simp only [DataW.weightsAll,List.mem_append]
    exact .inl hn
  | a::l,i+1,d,h,hn=>by
    simp only [List.getElem?_cons_succ] at h
    simp only [DataW.weightsAll,List.mem_append]
    exact .inr (X1x h hn)
  | [],_,_,h,_=>by simp at h
theorem X5v {α:Type} {t e:TypeId} {K:Kd α} {ok:α→Prop} (ht:P.underlying t=some (.slice e)) (hc:P.cellsOf e=K.sz) (hK:0<K.sz) (hb:0<P.bytesOf e) (h:RdS P e K ok):RdS P t (kSl false K) (fun xs=>xs.length≤reachBytes∧∀ x,x∈xs→ok x):=fun H enc w base sp held fuel cs x hx hfit=>by
  have mk:∀ (xs:List α) (u:Value),cs=[u]→dOk (inW w) (inW w) w (dsl false false K xs) u→X5d w (kSl false K) xs cs:=fun xs u e hd=>⟨by rw [e];rfl,fun j hj=>by
    have hj:j<1:=hj
    obtain rfl:j=0:=by omega
    exact ⟨u,by rw [e];rfl,hd⟩⟩
  rcases DataW.trod_slice ht hx with ⟨hcs,_⟩|⟨a,len,cap,elems,rest,n,_,hcs,hxx,hb2,hl,hm,hlen,hel,_,_⟩
  · exact ⟨[],⟨by simp,fun x hx=>by cases hx⟩,mk [] _ hcs ⟨none,0,rfl,Nat.le_refl _,fun _=>rfl,pZs,fun i hi=>absurd hi (Nat.not_lt_zero _)⟩⟩
  · have hw:∀ n,n∈((elems.map (·.1)).length+(rest.map (·.1)).length)*P.bytesOf e::(DataW.weightsAll P e (elems.map (·.1))++DataW.weightsAll P e (rest.map (·.1)))→n≤reachBytes:=fun n hn=>hfit n (by
      rw [hxx]
      simp only [DataW.weights,ht]
      exact hn)
    have hlenR:len≤reachBytes:=by
      have h1:=hw _ (List.mem_cons_self ..)
      simp only [List.length_map,hlen] at h1
      have h2:len*1≤(len+rest.length)*P.bytesOf e:=Nat.mul_le_mul (Nat.le_add_right _ _) hb
      omega
    have hr:∀ i,i<len→∃ b:α,ok b∧∃ cs',w.cells? base (a.add (i*P.cellsOf e)) (P.cellsOf e)=some cs'∧X5d w K b cs':=fun i hi=>by
      have h1:=hel i hi
      rw [List.getElem?_eq_getElem (by omega),Option.bind_eq_some_iff] at h1
      obtain ⟨cs',h2,h3⟩:=h1
      obtain ⟨b,hb1,hb2⟩:=h H enc w base sp held n cs' _ h3 fun n hn=>hw n (List.mem_cons_of_mem _ (List.mem_append_left _ (X1x (i:=i) (by rw [List.getElem?_map,List.getElem?_eq_getElem (by omega)];rfl) hn)))
      exact ⟨b,hb1,cs',h2,hb2⟩
    obtain ⟨xs,hxl,hxs⟩:=X6u len hr
    refine ⟨xs,⟨by omega,fun x hx=>?_⟩,mk xs _ hcs ⟨some a,cap,by rw [hxl],by rw [hxl];exact hl,by simp,by simp,fun i hi=>?_⟩⟩
    · obtain ⟨i,hi,rfl⟩:=List.getElem_of_mem hx
      exact (hxs i _ (List.getElem?_eq_getElem hi)).1
    · have hi0:0<xs.length:=by omega
      obtain ⟨_,cs0,hc0,ho0⟩:=hxs 0 _ (List.getElem?_eq_getElem hi0)
      obtain ⟨_,hl0,hg0⟩:=World.cells?_some hc0
      have h00:=hg0 0 (by rw [hc];exact hK)
      obtain ⟨u0,hu0,_⟩:=ho0.2 0 hK
      rw [hu0] at h00
      have hcell:w.cell? a=some u0:=by simpa [Addr.add] using h00
      have hspot:a.spot=none:=by
        unfold World.cell? at hcell
        split at hcell
        · cases hs:a.spot with
          | none=>rfl
          | some q=>rw [hs] at hcell;simp at hcell
        · cases hcell
      have hblk:a.block<w.heap.size:=World.cells?_block (a:=a.add (0*P.cellsOf e)) hc0 (by rw [hc];exact hK) |> fun h=>by simpa [Addr.add] using h
      refine ⟨a,rfl,hspot,hblk,fun j hj=>?_⟩
      obtain ⟨_,cs',hc',ho'⟩:=hxs i _ (List.getElem?_eq_getElem hi)
      obtain ⟨_,hl',hg'⟩:=World.cells?_some hc'
      have hij:=hg' j (by rw [hc];exact hj)
      obtain ⟨u,hu,hd⟩:=ho'.2 j hj
      rw [hu,hc] at hij
      refine ⟨u,?_,?_⟩
      · rw [← hij]
        congr 1
        obtain ⟨b,o,s⟩:=a
        simp only at hspot
        subst hspot
        simp only [Addr.add]
        split<;>split<;>simp_all
        · omega
      · show dOk _ _ w (K.cell (xs.getD i K.z) j) u
        rw [List.getD_eq_getElem?_getD,List.getElem?_eq_getElem hi]
        exact hd
theorem X0g {H:Type} {enc:TypeId×Value→H} {w:World} {base:Nat} {sp:Nat→Bool} {held:Bool} {fuel:Nat} {cs:List Value} {x:DataW H×List MemPlace} {t:TypeId} {fs:Array Field} (ht:P.underlying t=some (.struct fs)) (h:DataW.trod enc P w base sp held fuel t cs=some x) (hfit:Xfr P t x.1) :
    ∃ (xs:List (DataW H×List MemPlace)) (n:Nat),cs.length=P.cellsOf t∧xs.length=fs.size∧(∀ (i:Nat) (f:Field),fs[i]?=some f→DataW.trod enc P w base sp held n f.type ((cs.drop f.offset).take (P.cellsOf f.type))=xs[i]?)∧∀ (i:Nat) (f:Field) (y:DataW H×List MemPlace),fs[i]?=some f→xs[i]?=some y→Xfr P f.type y.1:=by
  obtain ⟨xs,n,_,hx,hl,hxl,hf⟩:=DataW.trod_struct ht h
  refine ⟨xs,n,hl,hxl,hf,fun i f y h1 h2 k hk=>hfit k ?_⟩
  rw [hx]
  simp only [DataW.weights,ht]
  exact DataW.weights_mem_each (j:=i) (t:=f.type) (d:=y.1) (by rw [List.getElem?_map,Array.getElem?_toList,h1];rfl) (by rw [List.getElem?_map,h2];rfl) k hk
theorem Je {α:Type} {K:Kd α} {ok:α→Prop} {H:Type} {enc:TypeId×Value→H} {w:World} {base:Nat} {sp:Nat→Bool} {held:Bool} {n:Nat} {cs:List Value} {xs:List (DataW H×List MemPlace)} {fs:Array Field} (hx:xs.length=fs.size)
    (h:∀ (i:Nat) (f:Field),fs[i]?=some f→DataW.trod enc P w base sp held n f.type ((cs.drop f.offset).take (P.cellsOf f.type))=xs[i]?) (hw:∀ (i:Nat) (f:Field) (y:DataW H×List MemPlace),fs[i]?=some f→xs[i]?=some y→Xfr P f.type y.1) (i:Nat) {f:Field} (hf:fs[i]?=some f) {t:TypeId} {off:Nat} (ht:f.type=t) (ho:f.offset=off) (hr:RdS P t K ok) :
    ∃ a:α,ok a∧∀ j,j<K.sz→∃ u,cs[off+j]?=some u∧dOk (inW w) (inW w) w (K.cell a j) u:=by
  subst ht ho
  have hi:i<xs.length:=by rw [hx];exact (Array.getElem?_eq_some_iff.1 hf).1
  have h1:=h i f hf
  have hi2:=List.getElem?_eq_getElem hi
  rw [hi2] at h1
  obtain ⟨a,h2,h3,h4⟩:=hr H enc w base sp held n _ _ h1 (hw i f _ hf hi2)
  refine ⟨a,h2,fun j hj=>?_⟩
  obtain ⟨u,hu,hd⟩:=h4 j hj
  refine ⟨u,?_,hd⟩
  rw [List.getElem?_take] at hu
  split at hu
  · rwa [List.getElem?_drop] at hu
  · cases hu
theorem X07 {H:Type} {ts:List TypeId} {ds:List (DataW H)} (h:(DataW.weightsEach P ts ds).all (·≤reachBytes)=true) {j:Nat} {t:TypeId} {d:DataW H} (ht:ts[j]?=some t) (hd:ds[j]?=some d):Xfr P t d:=fun n hn=>by
  have:=List.all_eq_true.1 h _ (DataW.weights_mem_each ht hd n hn)
  simpa using this
end
end Go.Proofs.YtnaopgohccacmaaGreat.Q
namespace Go.Proofs.YtnaopgohccacmaaGreat.Q
open Go Go.RowKit
set_option linter.unusedVariables false
set_option linter.unusedSimpArgs false
set_option maxRecDepth 100000
set_option maxHeartbeats 4000000
def X0k (x:Ws):Prop:=(fun (n:Int)=>(Lit.int .i64 n).wf=true) x.Jl∧(fun (n:Int)=>(Lit.int .i64 n).wf=true) x.Yd
theorem Hh:RdS Tryz.prog 23 (X21 false) X0k:=fun H enc w base sp held fuel cs x h hfit=>by
  obtain ⟨xs,n,hl,hxl,hf,hw⟩:=X0g Tryz.underlying23 h hfit
  obtain ⟨a0,o0,c0⟩:=Je hxl hf hw 0 rfl (t:=3) (off:=0) rfl rfl (Rd.s (X1k Tryz.underlying3))
  obtain ⟨a1,o1,c1⟩:=Je hxl hf hw 1 rfl (t:=3) (off:=1) rfl rfl (Rd.s (X1k Tryz.underlying3))
  refine ⟨⟨a0,a1⟩,⟨o0,o1⟩,by rw [hl];kernel_rfl,fun j hj=>?_⟩
  replace hj:j<2:=hj
  rcases j with _|_|j
  · exact c0 0 (by decide)
  · exact c1 0 (by decide)
  · omega
def X03 (x:Xs):Prop:=(fun (xs:List Int)=>xs.length≤reachBytes∧∀ x,x∈xs→(fun (n:Int)=>(Lit.int .i64 n).wf=true) x) x.X4∧(fun (xs:List UInt8)=>xs.length≤reachBytes∧∀ x,x∈xs→(fun (_:UInt8)=>True) x) x.Vq∧(fun (xs:List Int)=>xs.length≤reachBytes∧∀ x,x∈xs→(fun (n:Int)=>(Lit.int .i64 n).wf=true) x) x.Y3∧(fun (_:Bool)=>True) x.Us
theorem H6:RdS Tryz.prog 27 (X13 false) X03:=fun H enc w base sp held fuel cs x h hfit=>by
  obtain ⟨xs,n,hl,hxl,hf,hw⟩:=X0g Tryz.underlying27 h hfit
  obtain ⟨a0,o0,c0⟩:=Je hxl hf hw 0 rfl (t:=24) (off:=0) rfl rfl (X5v Tryz.underlying24 pZ4 (by decide) (of_decide_eq_true pZ4) (Rd.s (X1k Tryz.underlying3)))
  obtain ⟨a1,o1,c1⟩:=Je hxl hf hw 1 rfl (t:=25) (off:=1) rfl rfl (X5v Tryz.underlying25 pZ4 (by decide) (of_decide_eq_true pZ4) (Rd.s (rd_u8 Tryz.underlying5)))
  obtain ⟨a2,o2,c2⟩:=Je hxl hf hw 2 rfl (t:=24) (off:=2) rfl rfl (X5v Tryz.underlying24 pZ4 (by decide) (of_decide_eq_true pZ4) (Rd.s (X1k Tryz.underlying3)))
  obtain ⟨a3,o3,c3⟩:=Je hxl hf hw 3 rfl (t:=4) (off:=3) rfl rfl (Rd.s (rd_bool Tryz.underlying4))
  refine ⟨⟨a0,a1,a2,a3⟩,⟨o0,o1,o2,o3⟩,by rw [hl];kernel_rfl,fun j hj=>?_⟩
  replace hj:j<4:=hj
  rcases j with _|_|_|_|j
  · exact c0 0 (by decide)
  · exact c1 0 (by decide)
  · exact c2 0 (by decide)
  · exact c3 0 (by decide)
  · omega
def Hl (x:Yi):Prop:=(fun (n:Int)=>(Lit.int .i64 n).wf=true) x.Wo∧(fun (n:Int)=>(Lit.int .i64 n).wf=true) x.Wj
theorem X0h:RdS Tryz.prog 29 (X20 false) Hl:=fun H enc w base sp held fuel cs x h hfit=>by
  obtain ⟨xs,n,hl,hxl,hf,hw⟩:=X0g Tryz.underlying29 h hfit
  obtain ⟨a0,o0,c0⟩:=Je hxl hf hw 0 rfl (t:=3) (off:=0) rfl rfl (Rd.s (X1k Tryz.underlying3))
  obtain ⟨a1,o1,c1⟩:=Je hxl hf hw 1 rfl (t:=3) (off:=1) rfl rfl (Rd.s (X1k Tryz.underlying3))
  refine ⟨⟨a0,a1⟩,⟨o0,o1⟩,by rw [hl];kernel_rfl,fun j hj=>?_⟩
  replace hj:j<2:=hj
  rcases j with _|_|j
  · exact c0 0 (by decide)
  · exact c1 0 (by decide)
  · omega
def X11 (x:Wr):Prop:=(fun (n:Int)=>(Lit.int .i64 n).wf=true) x.f_H∧(fun (n:Int)=>(Lit.int .i64 n).wf=true) x.Vt∧Hl x.f_T
theorem Hz:RdS Tryz.prog 31 (X34 false) X11:=fun H enc w base sp held fuel cs x h hfit=>by
  obtain ⟨xs,n,hl,hxl,hf,hw⟩:=X0g Tryz.underlying31 h hfit
  obtain ⟨a0,o0,c0⟩:=Je hxl hf hw 0 rfl (t:=3) (off:=0) rfl rfl (Rd.s (X1k Tryz.underlying3))
  obtain ⟨a1,o1,c1⟩:=Je hxl hf hw 1 rfl (t:=3) (off:=1) rfl rfl (Rd.s (X1k Tryz.underlying3))
  obtain ⟨a2,o2,c2⟩:=Je hxl hf hw 2 rfl (t:=29) (off:=2) rfl rfl X0h
  refine ⟨⟨a0,a1,a2⟩,⟨o0,o1,o2⟩,by rw [hl];kernel_rfl,fun j hj=>?_⟩
  replace hj:j<4:=hj
  rcases j with _|_|_|_|j
  · exact c0 0 (by decide)
  · exact c1 0 (by decide)
  · exact c2 0 (by decide)
  · exact c2 1 (by decide)
  · omega
end Go.Proofs.YtnaopgohccacmaaGreat.Q
namespace Go.Proofs.YtnaopgohccacmaaGreat.Q
set_option linter.unusedVariables false
set_option linter.unusedSimpArgs false
theorem X04 {n:Nat} (h:n≤reachBytes):n≤9223372036854775807:=Nat.le_trans h (by decide)
end Go.Proofs.YtnaopgohccacmaaGreat.Q
