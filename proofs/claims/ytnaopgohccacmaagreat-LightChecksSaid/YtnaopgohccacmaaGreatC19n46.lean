import Derived.Test.YtnaopgohccacmaaGreatC19n45
import Derived.SizedLaws
namespace Go.Proofs.YtnaopgohccacmaaGreat.Q
set_option linter.unusedVariables false
set_option linter.unusedSimpArgs false
set_option maxRecDepth 100000
def Xa4:Y3:=⟨[1,2],[],[0,1,3],false⟩
def X7h:List aE:=Uh (fOf 1) (cOf 1) Xa4 Xa4.Xt.length
def Ju:List Xq:=W8 Xa4.X6 Xa4.X6.length
def X2f:List aE:=Vq Xa4 Xa4.Xt.length
def X11:List UInt8:=Ud Xa4
def Jq:Wo:=J1 (rblk 0 Ju) Ju.length 2 X2f X11 1 0
theorem X42:Ux Xa4∧rngW Xa4:=⟨by decide,fun s hs=>by
  have h:s=0∨s=1∨s=3:=by simpa [Xa4] using hs
  unfold X24;omega⟩
theorem Xa3:gd9 Jq:=Xeb X42.1 X42.2 3 2 1 0
theorem aw_pr9:J1 (W0 0 (W1 Ju)) (W1 Ju).length 2 X2f X11 1 0=Jq∧X3s (W0 0 (W1 Ju)) (W1 Ju).length 2 X11 1 0=0:=by
  rw [blk_fun,Jk]
  exact ⟨rfl,by decide +kernel⟩
abbrev awF9:aE→Int:=Xz (fOf 1) (cOf 1) (U8 X7h)
theorem Xh1:c9E awF9 (fOf 1) Jq=0∧c9E awF9 (fOf 1) (Yw Jq ⟨2,0⟩)=90∧c9E awF9 (fOf 1) (Yw Jq ⟨9,0⟩)=32∧c9E awF9 (fOf 1) (Yw Jq ⟨1,1⟩)=100:=by decide +kernel
theorem aw_few9:X0l X2f∧X11.length≤1000000∧X04 Ju∧Ju.length=2:=⟨X7k X42.1 X42.2,Nat.le_trans (X06 X42.1) (by decide),(Ed Xa4.X6 2 (by decide)).2,rfl⟩
end Go.Proofs.YtnaopgohccacmaaGreat.Q
namespace Go.Proofs.YtnaopgohccacmaaGreat.Q
open Go Go.RowKit
set_option linter.unusedVariables false
set_option linter.unusedSimpArgs false
set_option maxRecDepth 100000
set_option maxHeartbeats 4000000
abbrev Zwd:SV:=.d (.val (.slice none 0 0))
abbrev Zwe:List AV:=[vB false,pv 10 0]
abbrev Zwf:HS:=.live (.box 130 [dI (3*(fOf 1)+1),dI (cOf 1),.mref 3])
abbrev Zwg:=(Y3.mk [1,2] ([]:List UInt8) [0,1,3] false)
abbrev Zwh:=(Uh (fOf 1) (cOf 1) Zwg Zwg.Xt.length)
abbrev Zwi:SV:=dS (ofB 6 ([]:List (List UInt8)))
abbrev Zwj:=(W8 Zwg.X6 Zwg.X6.length)
abbrev Zwk:List HS:=[.dead,.dead,Zwf,.live (mpK Y0 Yc (U8 Zwh)),.live (.box 135 [dB true,dI (fOf 1),dI (cOf 1),.own 5 (kE false).sz 0 Zwh.length]),.live (Xe 43 (kE false) Zwh),.live (.box 149 [dI 0,Zwi,dB true,.own 7 (Xk false).sz 0 (W1 Zwj).length]),.live (Xe 152 (Xk false) (W1 Zwj)),.live (.box 106 [dB true,dI 0,Zwi,.own 9 (Xr false).sz 0 Zwj.length]),.live (Xe 65 (Xr false) Zwj),.live (.box 39 [.ptr 2 0,.ptr 4 0,.ptr 6 0,.ptr 8 0,dU (Ud Zwg),.d (dsl false false (kE false) (Vq Zwg Zwg.Xt.length))])]
abbrev Zwl:HS:=.live (mpK Y0 Yc (U8 X7h))
abbrev Zwm:HS:=.live (.box 135 [dB true,dI (fOf 1),dI (cOf 1),.own 5 (kE false).sz 0 X7h.length])
abbrev Zwn:HS:=.live (Xe 43 (kE false) X7h)
abbrev Zwo:HS:=.live (.box 149 [dI 0,Zwi,dB true,.own 7 (Xk false).sz 0 (W1 Ju).length])
abbrev Zwp:HS:=.live (Xe 152 (Xk false) (W1 Ju))
abbrev Zwq:HS:=.live (.box 106 [dB true,dI 0,Zwi,.own 9 (Xr false).sz 0 Ju.length])
abbrev Zwr:HS:=.live (Xe 65 (Xr false) Ju)
abbrev Zws:HS:=.live (.box 39 [.ptr 2 0,.ptr 4 0,.ptr 6 0,.ptr 8 0,dU X11,.d (dsl false false (kE false) X2f)])
abbrev Zwt:List HS:=[.dead,.dead,Zwf,Zwl,Zwm,Zwn,Zwo,Zwp,Zwq,Zwr,Zws]
abbrev Zwu:List AV:=[vB false,pv 10 0,pv 11 0,vI (X3s (W0 0 (W1 Ju)) (W1 Ju).length 2 X11 1 0)]
abbrev Zwv:=(J1 (W0 0 (W1 Ju)) (W1 Ju).length 2 X2f X11 1 0)
abbrev Zww:List HS:=[.dead,.dead,Zwf,Zwl,Zwm,Zwn,Zwo,Zwp,Zwq,Zwr,Zws,.live (.box 49 [dI Zwv.Xo,.d (dsl false false (kE false) Zwv.Xv),dU Zwv.Xa,.d (dsl false false (X7 false) Zwv.X0),dI Zwv.J6,dI Zwv.Xs.X4,dU Zwv.Xs.Xf,dI Zwv.X1.Xw,dI Zwv.X1.Xn,.d (dsl false false (Xb false) Zwv.Yv)])]
abbrev Zwx:List AV:=[vB false,pv 10 0,pv 11 0,vI 0]
abbrev Zwy:List SV:=[dI Jq.Xo,.d (dsl false false (kE false) Jq.Xv),dU Jq.Xa,.d (dsl false false (X7 false) Jq.X0),dI Jq.J6,dI Jq.Xs.X4,dU Jq.Xs.Xf,dI Jq.X1.Xw,dI Jq.X1.Xn,.d (dsl false false (Xb false) Jq.Yv)]
abbrev Zwz:List HS:=[.dead,.dead,Zwf,Zwl,Zwm,Zwn,Zwo,Zwp,Zwq,Zwr,Zws,.live (.box 49 Zwy)]
abbrev Zx0:=(Yw Jq (Yo.mk 2 0))
abbrev Zx1:=(Yw Jq (Yo.mk 9 0))
abbrev Zx2:=(Yw Jq (Yo.mk 1 1))
theorem X62:Holds Tryz.prog 16 ⟨[],[],vB true,[]⟩:=by
 refine Holds.of Tryz.func16 rfl (N:=55) Tryz.ntmps16 rfl fun w0 B0 S0 U0=>?_
 show T _ (Y2 55 0 w0 S0 U0 B0) ⟨[],[]⟩ _ _
 have hf1:=Xcr 1
 have hu1:=Xcw 1
 have hw1:Ux (Y3.mk [1,2] ([]:List UInt8) [0,1,3] false):=X42.1
 have hw2:rngW (Y3.mk [1,2] ([]:List UInt8) [0,1,3] false):=X42.2
 obtain ⟨hv1,hv2,hv3,hv4⟩:=aw_few9
 have hv5:=X2r hv3
 have hv6:(W1 Ju).length≤100:=(by rw [Jk,hv4];decide)
 have hk1:=gd_ok Xa3
 have hk2:=gd_sm Xa3
 have hk3:=Xcm Xa3 (Yo.mk 2 0)
 have hk4:=Xcm Xa3 (Yo.mk 9 0)
 have hk5:=Xcm Xa3 (Yo.mk 1 1)
 refine sR [] ?_
 refine sR [hR 1 rfl rfl (Yd 0 3 (Vi .i64) (X2t .i64) [1,2] [⟨0,.const (.int .i64 1),.one (dI 1),0⟩,⟨1,.const (.int .i64 2),.one (dI 2),1⟩] (cs:=[dI 1,dI 2]) Tryz.underlying24 X23 rfl X5i rfl rfl rfl pd (Yp rfl rfl pd (Yp rfl rfl pd W4)) pZ7 (V1 pZ7) (X3 rfl) ⟨rfl,⟨rfl,trivial⟩⟩),hR 2 rfl rfl (Yd 1 3 (Vi .i64) (X2t .i64) [0,1,3] [⟨0,.const (.int .i64 0),.one (dI 0),0⟩,⟨1,.const (.int .i64 1),.one (dI 1),1⟩,⟨2,.const (.int .i64 3),.one (dI 3),2⟩] (cs:=[dI 0,dI 1,dI 3]) Tryz.underlying24 X23 rfl X5i rfl rfl rfl pd (Yp rfl rfl pd (Yp rfl rfl pd (Yp rfl rfl pd W4))) pZ7 (V1 pZ7) (X3 rfl) ⟨rfl,⟨rfl,⟨rfl,trivial⟩⟩⟩),hR 4 rfl rfl (J0 1 7 0 3 (Vi .i64) [1,2] (av:=.tv (.agg [.own 0 (Vi .i64).sz 0 [1,2].length,Zwd,.own 1 (Vi .i64).sz 0 [0,1,3].length,dB false])) (J0 1 7 1 3 (Vi .i64) [0,1,3] (av:=.tv (.agg [.d (dsl false false (Vi .i64) [1,2]),Zwd,.own 1 (Vi .i64).sz 0 [0,1,3].length,dB false])) (rCn (X9j (Wm.mk 1 1) (Y3.mk [1,2] ([]:List UInt8) [0,1,3] false) ‹_› ‹_›) Tryz.func10 [2,3,4,5,6,7,8,9] [(.tmp 4,.tv (.agg [dI 1,dI 1])),(.tmp 7,.tv (.agg [.d (dsl false false (Vi .i64) [1,2]),Zwd,.d (dsl false false (Vi .i64) [0,1,3]),dB false]))] 0 8 ⟨⟨.inl ⟨rfl,rfl⟩,⟨.inl ⟨rfl,rfl⟩,trivial⟩⟩,⟨⟨.inl ⟨rfl,rfl⟩,⟨.inr pZ5,⟨.inl ⟨rfl,rfl⟩,⟨.inl ⟨rfl,rfl⟩,trivial⟩⟩⟩⟩,trivial⟩⟩ trivial) rfl (.inr (kk2 ⟨pZ0,⟨.inl rfl,trivial⟩⟩)) p3c rfl rfl) rfl (.inr ⟨pZ0,⟨.inl rfl,(kk2 trivial)⟩⟩) p3c rfl rfl)] ?_
 refine tN ⟨Zwe,Zwk⟩ ?_
 refine Wv (s':=⟨Zwe,Zwt⟩) (fun _ _ hG=>Vb [12,14,2,3,4,5,6,7,8,9,10] [true,true] (h1:=Zwt) (h2:=Zwk) (t1:=Zwe) rfl (cg9 (fun (q1:List (Yn×Bool)) (q2:Nat) (q3:List aE) (q4:Nat) (q5:List Yq) (q6:Nat) (q7:List Xq) (q8:List UInt8) (q9:List aE)=>([.dead,.dead,Zwf,.live (mpK Y0 Yc q1),.live (.box 135 [dB true,dI (fOf 1),dI (cOf 1),.own 5 (kE false).sz 0 q2]),.live (Xe 43 (kE false) q3),.live (.box 149 [dI 0,Zwi,dB true,.own 7 (Xk false).sz 0 q4]),.live (Xe 152 (Xk false) q5),.live (.box 106 [dB true,dI 0,Zwi,.own 9 (Xr false).sz 0 q6]),.live (Xe 65 (Xr false) q7),.live (.box 39 [.ptr 2 0,.ptr 4 0,.ptr 6 0,.ptr 8 0,dU q8,.d (dsl false false (kE false) q9)])]:List HS)) (by rfl) (by rfl) (by rfl) (by rfl) (by rfl) (by rfl) (by rfl) (by rfl) (by rfl)) hG) ?_
 refine sR [hR 6 rfl rfl (rCa (Xef (ofB 6 ([]:List (List UInt8))) (W1 Ju) 2 X2f X11 1 0 ‹_› ‹_› ‹_› (by omega) (by omega) (by omega) (by omega)) Tryz.func17 [6,7] [(.tmp 11,pv 6 0),(.const (.int .i64 2),vI 2),(.tmp 13,slV false false (kE false) X2f),(.tmp 15,slV false false kU8 X11),(.const (.int .i64 1),vI 1),(.const (.int .i64 0),vI 0)] 2 2)] ?_
 by_cases hq1:(c9E (Xz (fOf 1) (cOf 1) (U8 X7h)) (fOf 1) Jq)=0
 ·by_cases hq2:(c9E (Xz (fOf 1) (cOf 1) (U8 X7h)) (fOf 1) (Yw Jq (Yo.mk 2 0)))=90
  ·by_cases hq3:(c9E (Xz (fOf 1) (cOf 1) (U8 X7h)) (fOf 1) (Yw Jq (Yo.mk 9 0)))=32
   ·refine tN ⟨Zwu,Zww⟩ ?_
    refine Wv (s':=⟨Zwx,Zwz⟩) (fun _ _ hG=>Vb [13,15,2,3,4,5,6,7,8,9,10,11] (bm 4 15) (t1:=Zwx) (t2:=Zwu) (h1:=Zwz) (h2:=Zww) (congrArg (fun (q1:Int)=>([vB false,pv 10 0,pv 11 0,vI q1]:List AV)) (by exact aw_pr9.2)) (by have e1:(Jq.Xo:Int)=(J1 (W0 0 (W1 Ju)) (W1 Ju).length 2 X2f X11 1 0).Xo:=p38;have e2:(Jq.Xv:List aE)=(J1 (W0 0 (W1 Ju)) (W1 Ju).length 2 X2f X11 1 0).Xv:=p38;have e3:(Jq.Xa:List UInt8)=(J1 (W0 0 (W1 Ju)) (W1 Ju).length 2 X2f X11 1 0).Xa:=p38;have e4:(Jq.X0:List Yf)=(J1 (W0 0 (W1 Ju)) (W1 Ju).length 2 X2f X11 1 0).X0:=p38;have e5:(Jq.J6:Int)=(J1 (W0 0 (W1 Ju)) (W1 Ju).length 2 X2f X11 1 0).J6:=p38;have e6:(Jq.Xs.X4:Int)=(J1 (W0 0 (W1 Ju)) (W1 Ju).length 2 X2f X11 1 0).Xs.X4:=p38;have e7:(Jq.Xs.Xf:List UInt8)=(J1 (W0 0 (W1 Ju)) (W1 Ju).length 2 X2f X11 1 0).Xs.Xf:=p38;have e8:(Jq.X1.Xw:Int)=(J1 (W0 0 (W1 Ju)) (W1 Ju).length 2 X2f X11 1 0).X1.Xw:=p38;have e9:(Jq.X1.Xn:Int)=(J1 (W0 0 (W1 Ju)) (W1 Ju).length 2 X2f X11 1 0).X1.Xn:=p38;have e10:(Jq.Yv:List Y7)=(J1 (W0 0 (W1 Ju)) (W1 Ju).length 2 X2f X11 1 0).Yv:=p38;have hE:=congr (congr (congr (congr (congr (congr (congr (congr (congr (congrArg (fun (q1:Int) (q2:List aE) (q3:List UInt8) (q4:List Yf) (q5:Int) (q6:Int) (q7:List UInt8) (q8:Int) (q9:Int) (q10:List Y7)=>([.dead,.dead,Zwf,Zwl,Zwm,Zwn,Zwo,Zwp,Zwq,Zwr,Zws,.live (.box 49 [dI q1,.d (dsl false false (kE false) q2),dU q3,.d (dsl false false (X7 false) q4),dI q5,dI q6,dU q7,dI q8,dI q9,.d (dsl false false (Xb false) q10)])]:List HS)) e1) e2) e3) e4) e5) e6) e7) e8) e9) e10;exact hE) hG) ?_
    refine sD [[],[0],[0,1],[0,1,2],[0,1,2,3],[0,1,2],[0,1,2,3,4,5],[0,1,2,3,4,5,6],[0,1,2,3,4,5,6,7],[0,1,2,3,4,5,6,7,8],[0,1,2,3,4,5,6,7,8,9],[0,1,2,3,4,5,6,7,8,9,10],[0,1,2,3,4,5,6,7,8,9],[0,1,2,3,4,5,6,7,8,9],[0,1,2,3,4,5,6,7,8,9,12,13],[0,1,2,3,4,5,6,7,8,9,10,11,12,13,14],[0,1,2,3,4,5,6,7,8,9,10,11,12,13,14,15],[0,1,2,3,4,5,6,7,8,9,10,11,12,13,14,15,16],[0,1,2,3,4,5,6,7,8,9,10,11,12,13,14,15,16,17],[0,1,2,3,4,5,6,7,8,9,10,11,12,13,14,15,16,17,18],[0,1,2,3,4,5,6,7,8,9,10,11,12,13,14,15,16,17,18,19],[0,1,2,3,4,5,6,7,8,9,10,11,12,13,14,15,16,17,18],[0,1,2,3,4,5,6,7,8,9,10,11,12,13,14,15,16,17,18],[0,1,2,3,4,5,6,7,8,9,10,11,12,13,14,15,16,17,18,21,22],[0,1,2,3,4,5,6,7,8,9,10,11,12,13,14,15,16,17,18,19,20,21,22,23],[0,1,2,3,4,5,6,7,8,9,10,11,12,13,14,15,16,17,18,19,20,21,22,23,24],[0,1,2,3,4,5,6,7,8,9,10,11,12,13,14,15,16,17,18,19,20,21,22,23,24,25],[0,1,2,3,4,5,6,7,8,9,10,11,12,13,14,15,16,17,18,19,20,21,22,23,24,25,26],[0,1,2,3,4,5,6,7,8,9,10,11,12,13,14,15,16,17,18,19,20,21,22,23,24,25,26,27],[0,1,2,3,4,5,6,7,8,9,10,11,12,13,14,15,16,17,18,19,20,21,22,23,24,25,26,27,28],[0,1,2,3,4,5,6,7,8,9,10,11,12,13,14,15,16,17,18,19,20,21,22,23,24,25,26,27],[0,1,2,3,4,5,6,7,8,9,10,11,12,13,14,15,16,17,18,19,20,21,22,23,24,25,26,27],[0,1,2,3,4,5,6,7,8,9,10,11,12,13,14,15,16,17,18,19,20,21,22,23,24,25,26,27,30,31],[0,1,2,3,4,5,6,7,8,9,10,11,12,13,14,15,16,17,18,19,20,21,22,23,24,25,26,27,28,29,30,31,32],[0,1,2,3,4,5,6,7,8,9,10,11,12,13,14,15,16,17,18,19,20,21,22,23,24,25,26,27,28,29,30,31,32,33],[0,1,2,3,4,5,6,7,8,9,10,11,12,13,14,15,16,17,18,19,20,21,22,23,24,25,26,27,28,29,30,31,32,33,34],[0,1,2,3,4,5,6,7,8,9,10,11,12,13,14,15,16,17,18,19,20,21,22,23,24,25,26,27,28,29,30,31,32,33,34,35]] (Xm hY1 [3,4,5] (hS 6 (oY (b:=true) rfl rfl rfl rfl (X3 rfl) rfl (rCa (Hy (fOf 1) (cOf 1) (U8 X7h) Jq ‹_› ‹_› ‹_›) Tryz.func14 [2,3] [(.tmp 23,pv 2 0),(.tmp 24,.tv (.agg Zwy))] 2 2))::(hY1 7::(hP1 8::(Xm (hY · (dT hq1)) [10,11,12,13] (hS 14 (oY rfl rfl rfl rfl (X3 rfl) (dT hq1) (rCa (X0q Jq (Yo.mk 2 0) ‹_›) Tryz.func13 [] [(.tmp 31,.tv (.agg Zwy)),(.tmp 32,.tv (.agg [dI 2,dI 0]))] 0 0))::(hS 15 (oY rfl rfl rfl rfl (X3 rfl) (dT hq1) (rCa (Hy (fOf 1) (cOf 1) (U8 X7h) (Yw Jq (Yo.mk 2 0)) ‹_› ‹_› ‹_›) Tryz.func14 [2,3] [(.tmp 30,pv 2 0),(.tmp 33,.tv (.agg [dI Zx0.Xo,.d (dsl false false (kE false) Zx0.Xv),dU Zx0.Xa,.d (dsl false false (X7 false) Zx0.X0),dI Zx0.J6,dI Zx0.Xs.X4,dU Zx0.Xs.Xf,dI Zx0.X1.Xw,dI Zx0.X1.Xn,.d (dsl false false (Xb false) Zx0.Yv)]))] 2 2))::(hY 16 (dT hq1)::(hP 17 (dT hq1)::(Xm (hY · (dT hq2)) [19,20,21,22] (hS 23 (oY rfl rfl rfl rfl (X3 rfl) (dT hq2) (rCa (X0q Jq (Yo.mk 9 0) ‹_›) Tryz.func13 [] [(.tmp 40,.tv (.agg Zwy)),(.tmp 41,.tv (.agg [dI 9,dI 0]))] 0 0))::(hS 24 (oY rfl rfl rfl rfl (X3 rfl) (dT hq2) (rCa (Hy (fOf 1) (cOf 1) (U8 X7h) (Yw Jq (Yo.mk 9 0)) ‹_› ‹_› ‹_›) Tryz.func14 [2,3] [(.tmp 39,pv 2 0),(.tmp 42,.tv (.agg [dI Zx1.Xo,.d (dsl false false (kE false) Zx1.Xv),dU Zx1.Xa,.d (dsl false false (X7 false) Zx1.X0),dI Zx1.J6,dI Zx1.Xs.X4,dU Zx1.Xs.Xf,dI Zx1.X1.Xw,dI Zx1.X1.Xn,.d (dsl false false (Xb false) Zx1.Yv)]))] 2 2))::(hY 25 (dT hq2)::(hP 26 (dT hq2)::(Xm (hY · (dT hq3)) [28,29,30,31] (hS 32 (oY rfl rfl rfl rfl (X3 rfl) (dT hq3) (rCa (X0q Jq (Yo.mk 1 1) ‹_›) Tryz.func13 [] [(.tmp 49,.tv (.agg Zwy)),(.tmp 50,.tv (.agg [dI 1,dI 1]))] 0 0))::(hS 33 (oY rfl rfl rfl rfl (X3 rfl) (dT hq3) (rCa (Hy (fOf 1) (cOf 1) (U8 X7h) (Yw Jq (Yo.mk 1 1)) ‹_› ‹_› ‹_›) Tryz.func14 [2,3] [(.tmp 48,pv 2 0),(.tmp 51,.tv (.agg [dI Zx2.Xo,.d (dsl false false (kE false) Zx2.Xv),dU Zx2.Xa,.d (dsl false false (X7 false) Zx2.X0),dI Zx2.J6,dI Zx2.Xs.X4,dU Zx2.Xs.Xf,dI Zx2.X1.Xw,dI Zx2.X1.Xn,.d (dsl false false (Xb false) Zx2.Yv)]))] 2 2))::(hY 34 (dT hq3)::(hP 35 (dT hq3)::[]))))))))))))))))))) ?_
    refine T.ret ?_
    exact eRt 0 (.one (dB (decide ((c9E (Xz (fOf 1) (cOf 1) (U8 X7h)) (fOf 1) Zx2)=100)))) [] (cB (by rfl)) trivial
   exact absurd Xh1.2.2.1 hq3
  exact absurd Xh1.2.1 hq2
 exact absurd Xh1.1 hq1
end Go.Proofs.YtnaopgohccacmaaGreat.Q
namespace Go.Proofs.YtnaopgohccacmaaGreat.Q
set_option linter.unusedVariables false
set_option linter.unusedSimpArgs false
set_option maxRecDepth 100000
theorem Xgu (f u:Int) (l:List aE):Xz f u (U8 l)=Xu f u l:=funext fun e=>Xjx f u l e
theorem tmod39 (a:Int):-3<a.tmod 3∧a.tmod 3<3:=X7l (by decide)
section
variable {bs:List Int} {n:Nat} {y:Int}
end
def Fv (c:Y3) (y:Wy):Wo:=J1 (rblk 0 (chL c)) (chL c).length (0+(((chL c).length:Nat):Int)) (Vq c c.Xt.length) (Ud c) y.f_H y.J6
def X3h (c:Y3) (y:Wy):Wo:=Yw (Fv c y) y.f_T
theorem Xi9 {c:Y3} (hs:Ux c) (hr:rngW c) (y:Wy):gd9 (Fv c y):=Xeb hs hr _ _ _ _
theorem trc_ok9 {c:Y3} (hs:Ux c) (hr:rngW c) (y:Wy):okC9 (X3h c y):=Xcm (Xi9 hs hr y) _
end Go.Proofs.YtnaopgohccacmaaGreat.Q
namespace Go.Proofs.YtnaopgohccacmaaGreat.Q
set_option linter.unusedVariables false
set_option linter.unusedSimpArgs false
set_option maxRecDepth 100000
end Go.Proofs.YtnaopgohccacmaaGreat.Q
namespace Go.Proofs.YtnaopgohccacmaaGreat.Q
set_option linter.unusedVariables false
set_option linter.unusedSimpArgs false
set_option maxRecDepth 100000
end Go.Proofs.YtnaopgohccacmaaGreat.Q
namespace Go.Proofs.YtnaopgohccacmaaGreat.Q
set_option linter.unusedVariables false
set_option linter.unusedSimpArgs false
section
variable {P:Program}
def Xeq {H:Type} (P:Program) (t:TypeId) (d:DataW H):Prop:=∀ n,n∈d.weights P t→n≤reachBytes
def RdS {α:Type} (P:Program) (t:TypeId) (K:Kd α) (ok:α→Prop):Prop :=
  ∀ (H:Type) (enc:TypeId×Value→H) (w:World) (base:Nat) (sp:Nat→Bool) (held:Bool) (fuel:Nat) (cs:List Value) (x:DataW H×List MemPlace),DataW.trod enc P w base sp held fuel t cs=some x→Xeq P t x.1→∃ a:α,ok a∧X2w w K a cs
theorem Rd.s {α:Type} {t:TypeId} {K:Kd α} {ok:α→Prop} (h:Rd P t K ok):RdS P t K ok:=fun H enc w base sp held fuel cs x hx _=>h H enc w base sp held fuel cs x hx
theorem X1v {H:Type} {e:TypeId} {n:Nat}:∀ {l:List (DataW H)} {i:Nat} {d:DataW H},l[i]?=some d→n∈d.weights P e→n∈DataW.weightsAll P e l
  | a::l,0,d,h,hn=>by
    simp only [List.getElem?_cons_zero,Option.some.injEq] at h
    subst h
    simp only [DataW.weightsAll,List.mem_append]
    exact .inl hn
  | a::l,i+1,d,h,hn=>by
    simp only [List.getElem?_cons_succ] at h
    simp only [DataW.weightsAll,List.mem_append]
    exact .inr (X1v h hn)
  | [],_,_,h,_=>by simp at h
theorem X5r {α:Type} {t e:TypeId} {K:Kd α} {ok:α→Prop} (ht:P.underlying t=some (.slice e)) (hc:P.cellsOf e=K.sz) (hK:0<K.sz) (hb:0<P.bytesOf e) (h:RdS P e K ok):RdS P t (kSl false K) (fun xs=>xs.length≤reachBytes∧∀ x,x∈xs→ok x):=fun H enc w base sp held fuel cs x hx hfit=>by
  have mk:∀ (xs:List α) (u:Value),cs=[u]→dOk (inW w) (inW w) w (dsl false false K xs) u→X2w w (kSl false K) xs cs:=fun xs u e hd=>⟨by rw [e];rfl,fun j hj=>by
    have hj:j<1:=hj
    obtain rfl:j=0:=by omega
    exact ⟨u,by rw [e];rfl,hd⟩⟩
  rcases DataW.trod_slice ht hx with ⟨hcs,_⟩|⟨a,len,cap,elems,rest,n,_,hcs,hxx,hb2,hl,hm,hlen,hel,_,_⟩
  · exact ⟨[],⟨by simp,fun x hx=>by cases hx⟩,mk [] _ hcs ⟨none,0,rfl,Nat.le_refl _,fun _=>rfl,px,fun i hi=>absurd hi (Nat.not_lt_zero _)⟩⟩
  · have hw:∀ n,n∈((elems.map (·.1)).length+(rest.map (·.1)).length)*P.bytesOf e::(DataW.weightsAll P e (elems.map (·.1))++DataW.weightsAll P e (rest.map (·.1)))→n≤reachBytes:=fun n hn=>hfit n (by
      rw [hxx]
      simp only [DataW.weights,ht]
      exact hn)
    have hlenR:len≤reachBytes:=by
      have h1:=hw _ (List.mem_cons_self ..)
      simp only [List.length_map,hlen] at h1
      have h2:len*1≤(len+rest.length)*P.bytesOf e:=Nat.mul_le_mul (Nat.le_add_right _ _) hb
      omega
    have hr:∀ i,i<len→∃ b:α,ok b∧∃ cs',w.cells? base (a.add (i*P.cellsOf e)) (P.cellsOf e)=some cs'∧X2w w K b cs':=fun i hi=>by
      have h1:=hel i hi
      rw [List.getElem?_eq_getElem (by omega),Option.bind_eq_some_iff] at h1
      obtain ⟨cs',h2,h3⟩:=h1
      obtain ⟨b,hb1,hb2⟩:=h H enc w base sp held n cs' _ h3 fun n hn=>hw n (List.mem_cons_of_mem _ (List.mem_append_left _ (X1v (i:=i) (by rw [List.getElem?_map,List.getElem?_eq_getElem (by omega)];rfl) hn)))
      exact ⟨b,hb1,cs',h2,hb2⟩
    obtain ⟨xs,hxl,hxs⟩:=X71 len hr
    refine ⟨xs,⟨by omega,fun x hx=>?_⟩,mk xs _ hcs ⟨some a,cap,by rw [hxl],by rw [hxl];exact hl,by simp,by simp,fun i hi=>?_⟩⟩
    · obtain ⟨i,hi,rfl⟩:=List.getElem_of_mem hx
      exact (hxs i _ (List.getElem?_eq_getElem hi)).1
    · have hi0:0<xs.length:=by omega
      obtain ⟨_,cs0,hc0,ho0⟩:=hxs 0 _ (List.getElem?_eq_getElem hi0)
      obtain ⟨_,hl0,hg0⟩:=World.cells?_some hc0
      have h00:=hg0 0 (by rw [hc];exact hK)
      obtain ⟨u0,hu0,_⟩:=ho0.2 0 hK
      rw [hu0] at h00
      have hcell:w.cell? a=some u0:=by simpa [Addr.add] using h00
      have hspot:a.spot=none:=by
        unfold World.cell? at hcell
        split at hcell
        · cases hs:a.spot with
          | none=>rfl
          | some q=>rw [hs] at hcell;simp at hcell
        · cases hcell
      have hblk:a.block<w.heap.size:=World.cells?_block (a:=a.add (0*P.cellsOf e)) hc0 (by rw [hc];exact hK) |> fun h=>by simpa [Addr.add] using h
      refine ⟨a,rfl,hspot,hblk,fun j hj=>?_⟩
      obtain ⟨_,cs',hc',ho'⟩:=hxs i _ (List.getElem?_eq_getElem hi)
      obtain ⟨_,hl',hg'⟩:=World.cells?_some hc'
      have hij:=hg' j (by rw [hc];exact hj)
      obtain ⟨u,hu,hd⟩:=ho'.2 j hj
      rw [hu,hc] at hij
      refine ⟨u,?_,?_⟩
      · rw [← hij]
        congr 1
        obtain ⟨b,o,s⟩:=a
        simp only at hspot
        subst hspot
        simp only [Addr.add]
        split<;>split<;>simp_all
        · omega
      · show dOk _ _ w (K.cell (xs.getD i K.z) j) u
        rw [List.getD_eq_getElem?_getD,List.getElem?_eq_getElem hi]
        exact hd
theorem X0f {H:Type} {enc:TypeId×Value→H} {w:World} {base:Nat} {sp:Nat→Bool} {held:Bool} {fuel:Nat} {cs:List Value} {x:DataW H×List MemPlace} {t:TypeId} {fs:Array Field} (ht:P.underlying t=some (.struct fs)) (h:DataW.trod enc P w base sp held fuel t cs=some x) (hfit:Xeq P t x.1) :
    ∃ (xs:List (DataW H×List MemPlace)) (n:Nat),cs.length=P.cellsOf t∧xs.length=fs.size∧(∀ (i:Nat) (f:Field),fs[i]?=some f→DataW.trod enc P w base sp held n f.type ((cs.drop f.offset).take (P.cellsOf f.type))=xs[i]?)∧∀ (i:Nat) (f:Field) (y:DataW H×List MemPlace),fs[i]?=some f→xs[i]?=some y→Xeq P f.type y.1:=by
  obtain ⟨xs,n,_,hx,hl,hxl,hf⟩:=DataW.trod_struct ht h
  refine ⟨xs,n,hl,hxl,hf,fun i f y h1 h2 k hk=>hfit k ?_⟩
  rw [hx]
  simp only [DataW.weights,ht]
  exact DataW.weights_mem_each (j:=i) (t:=f.type) (d:=y.1) (by rw [List.getElem?_map,Array.getElem?_toList,h1];rfl) (by rw [List.getElem?_map,h2];rfl) k hk
theorem Jj {α:Type} {K:Kd α} {ok:α→Prop} {H:Type} {enc:TypeId×Value→H} {w:World} {base:Nat} {sp:Nat→Bool} {held:Bool} {n:Nat} {cs:List Value} {xs:List (DataW H×List MemPlace)} {fs:Array Field} (hx:xs.length=fs.size)
    (h:∀ (i:Nat) (f:Field),fs[i]?=some f→DataW.trod enc P w base sp held n f.type ((cs.drop f.offset).take (P.cellsOf f.type))=xs[i]?) (hw:∀ (i:Nat) (f:Field) (y:DataW H×List MemPlace),fs[i]?=some f→xs[i]?=some y→Xeq P f.type y.1) (i:Nat) {f:Field} (hf:fs[i]?=some f) {t:TypeId} {off:Nat} (ht:f.type=t) (ho:f.offset=off) (hr:RdS P t K ok) :
    ∃ a:α,ok a∧∀ j,j<K.sz→∃ u,cs[off+j]?=some u∧dOk (inW w) (inW w) w (K.cell a j) u:=by
  subst ht ho
  have hi:i<xs.length:=by rw [hx];exact (Array.getElem?_eq_some_iff.1 hf).1
  have h1:=h i f hf
  have hi2:=List.getElem?_eq_getElem hi
  rw [hi2] at h1
  obtain ⟨a,h2,h3,h4⟩:=hr H enc w base sp held n _ _ h1 (hw i f _ hf hi2)
  refine ⟨a,h2,fun j hj=>?_⟩
  obtain ⟨u,hu,hd⟩:=h4 j hj
  refine ⟨u,?_,hd⟩
  rw [List.getElem?_take] at hu
  split at hu
  · rwa [List.getElem?_drop] at hu
  · cases hu
theorem X00 {H:Type} {ts:List TypeId} {ds:List (DataW H)} (h:(DataW.weightsEach P ts ds).all (·≤reachBytes)=true) {j:Nat} {t:TypeId} {d:DataW H} (ht:ts[j]?=some t) (hd:ds[j]?=some d):Xeq P t d:=fun n hn=>by
  have:=List.all_eq_true.1 h _ (DataW.weights_mem_each ht hd n hn)
  simpa using this
end
end Go.Proofs.YtnaopgohccacmaaGreat.Q
