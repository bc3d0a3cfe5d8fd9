import Derived.Test.YtnaopgohccacmaaGreatC19n47
namespace Go.Proofs.YtnaopgohccacmaaGreat.Q
open Go Go.RowKit
set_option linter.unusedVariables false
set_option linter.unusedSimpArgs false
set_option maxRecDepth 100000
set_option maxHeartbeats 4000000
section
variable (x:Wm) (c:Y3) (y:Wy)
abbrev Zx8:List SV:=[dI x.Vj,dI x.Xy]
abbrev Zx9:List SV:=[.d (dsl false false (Vi .i64) c.X6),dU c.U4,.d (dsl false false (Vi .i64) c.Xt),dB c.I2]
abbrev Zxa:List SV:=[dI y.f_H,dI y.J6,dI y.f_T.Wn,dI y.f_T.Wj]
abbrev Zxb:=(W8 c.X6 c.X6.length)
abbrev Zxc:List AV:=[.tv (.agg (Zx8 x)),.tv (.agg (Zx9 c)),.tv (.agg (Zxa y)),pv 0 0,pv 1 0,pv 2 0,vB false,pv 11 0,pv 12 0,aa,aa,aa,vB (!(decide (Ux c)))]
abbrev Zxd:HS:=.live (.box 130 [dI (3*(fOf x.Vj)+1),dI (cOf x.Xy),.mref 4])
abbrev Zxe:=(Uh (fOf x.Vj) (cOf x.Xy) c c.Xt.length)
abbrev Zxf:HS:=.live (mpK Y0 Yc (U8 (Zxe x c)))
abbrev Zxg:HS:=.live (.box 135 [dB true,dI (fOf x.Vj),dI (cOf x.Xy),.own 6 (kE false).sz 0 (Zxe x c).length])
abbrev Zxh:HS:=.live (Xe 43 (kE false) (Zxe x c))
abbrev Zxi:HS:=.live (.box 149 [dI 0,dS (ofB 6 ([]:List (List UInt8))),dB true,.own 8 (Xk false).sz 0 (W1 (Zxb c)).length])
abbrev Zxj:HS:=.live (Xe 152 (Xk false) (W1 (Zxb c)))
abbrev Zxk:HS:=.live (.box 106 [dB true,dI 0,dS (ofB 6 ([]:List (List UInt8))),.own 10 (Xr false).sz 0 (Zxb c).length])
abbrev Zxl:HS:=.live (Xe 65 (Xr false) (Zxb c))
abbrev Zxm:HS:=.live (.box 39 [.ptr 3 0,.ptr 5 0,.ptr 7 0,.ptr 9 0,dU (Ud c),.d (dsl false false (kE false) (Vq c c.Xt.length))])
abbrev Zxn:=(J1 (rblk 0 (Zxb c)) (Zxb c).length (0+(((Zxb c).length:Nat):Int)) (Vq c c.Xt.length) (Ud c) y.f_H y.J6)
abbrev Zxo:List HS:=[.live (.box 23 (Zx8 x)),.live (.box 27 (Zx9 c)),.live (.box 31 (Zxa y)),(Zxd x),(Zxf x c),(Zxg x c),(Zxh x c),(Zxi c),(Zxj c),(Zxk c),(Zxl c),(Zxm c),.live (.box 49 [dI (Zxn c y).Xo,.d (dsl false false (kE false) (Zxn c y).Xv),dU (Zxn c y).Xa,.d (dsl false false (X7 false) (Zxn c y).X0),dI (Zxn c y).J6,dI (Zxn c y).Xs.X4,dU (Zxn c y).Xs.Xf,dI (Zxn c y).X1.Xw,dI (Zxn c y).X1.Xn,.d (dsl false false (Xb false) (Zxn c y).Yv)])]
abbrev Zxp:List SV:=[dI (Fv c y).Xo,.d (dsl false false (kE false) (Fv c y).Xv),dU (Fv c y).Xa,.d (dsl false false (X7 false) (Fv c y).X0),dI (Fv c y).J6,dI (Fv c y).Xs.X4,dU (Fv c y).Xs.Xf,dI (Fv c y).X1.Xw,dI (Fv c y).X1.Xn,.d (dsl false false (Xb false) (Fv c y).Yv)]
abbrev Zxq:List HS:=[.live (.box 23 (Zx8 x)),.live (.box 27 (Zx9 c)),.live (.box 31 (Zxa y)),(Zxd x),(Zxf x c),(Zxg x c),(Zxh x c),(Zxi c),(Zxj c),(Zxk c),(Zxl c),(Zxm c),.live (.box 49 (Zxp c y))]
abbrev Zxr:List HS:=[.live (.box 23 (Zx8 x)),.live (.box 27 (Zx9 c)),.live (.box 31 (Zxa y)),(Zxd x),(Zxf x c),(Zxg x c),(Zxh x c),(Zxi c),(Zxj c),(Zxk c),(Zxl c),(Zxm c),.live (.box 49 [dI (Yw (Fv c y) y.f_T).Xo,.d (dsl false false (kE false) (Yw (Fv c y) y.f_T).Xv),dU (Yw (Fv c y) y.f_T).Xa,.d (dsl false false (X7 false) (Yw (Fv c y) y.f_T).X0),dI (Yw (Fv c y) y.f_T).J6,dI (Yw (Fv c y) y.f_T).Xs.X4,dU (Yw (Fv c y) y.f_T).Xs.Xf,dI (Yw (Fv c y) y.f_T).X1.Xw,dI (Yw (Fv c y) y.f_T).X1.Xn,.d (dsl false false (Xb false) (Yw (Fv c y) y.f_T).Yv)])]
abbrev Zxs:List SV:=[dI (X3h c y).Xo,.d (dsl false false (kE false) (X3h c y).Xv),dU (X3h c y).Xa,.d (dsl false false (X7 false) (X3h c y).X0),dI (X3h c y).J6,dI (X3h c y).Xs.X4,dU (X3h c y).Xs.Xf,dI (X3h c y).X1.Xw,dI (X3h c y).X1.Xn,.d (dsl false false (Xb false) (X3h c y).Yv)]
abbrev Zxt:List HS:=[.live (.box 23 (Zx8 x)),.live (.box 27 (Zx9 c)),.live (.box 31 (Zxa y)),(Zxd x),(Zxf x c),(Zxg x c),(Zxh x c),(Zxi c),(Zxj c),(Zxk c),(Zxl c),(Zxm c),.live (.box 49 (Zxs c y))]
end
theorem X7d (x:Wm) (c:Y3) (y:Wy) (h0:c.X6.length≤9223372036854775807) (h1:c.U4.length≤9223372036854775807) (h2:c.Xt.length≤9223372036854775807) (hr:rngW c) (hy1:-9223372036854775808≤y.f_H∧y.f_H≤9223372036854775807) (hy2:-9223372036854775808≤y.J6∧y.J6≤9223372036854775807):Holds Tryz.prog 3 ⟨[.tv (.agg [dI x.Vj,dI x.Xy]),.tv (.agg [.d (dsl false false (Vi .i64) c.X6),dU c.U4,.d (dsl false false (Vi .i64) c.Xt),dB c.I2]),.tv (.agg [dI y.f_H,dI y.J6,dI y.f_T.Wn,dI y.f_T.Wj])],[],vB true,[]⟩:=by
 refine Holds.of Tryz.func3 rfl (N:=49) Tryz.ntmps3 rfl fun w0 B0 S0 U0=>?_
 show T _ (Y2 49 0 w0 S0 U0 B0) ⟨[.tv (.agg (Zx8 x)),.tv (.agg (Zx9 c)),.tv (.agg (Zxa y))],[]⟩ _ _
 have hfx:=Xcr x.Vj
 have hux:=Xcw x.Xy
 refine sR [] ?_
 refine T.seq ?_
 refine sR [hR 1 rfl rfl (rCa (Xba c ‹_› ‹_› ‹_›) Tryz.func9 [] [(.tmp 10,.tv (.agg (Zx9 c)))] 0 0)] ?_
 by_cases hq1:Ux c
 ·have hsm:Ux c:=hq1;obtain ⟨hs1,hs2,hs3⟩:=id hsm;have hdl:=X06 hsm;have hvo:X0l (Vq c c.Xt.length):=X7k hsm hr;have hcl:=Fx c.X6 c.X6.length;have hcw:X04 (W8 c.X6 c.X6.length):=(Ed c.X6 c.X6.length (by omega)).2;have hlw:=X2r hcw;have hll:=Jk (W8 c.X6 c.X6.length);have hvl:=X87 (c:=c) (Nat.le_refl c.Xt.length);have hal:=X5b (fOf x.Vj) (cOf x.Xy) c c.Xt.length;have hgd:=Xi9 hsm hr y;have hg1:=gd_sm hgd;have hg2:=gd_ok hgd;have hg3:=gd_path hgd;have hg4:=trc_ok9 hsm hr y
  refine cF (cn (dT hq1)) ?_
  refine T.skip (nT ?_)
  refine sR [hR 2 rfl rfl (rCa (X9j x c ‹_› ‹_›) Tryz.func10 [3,4,5,6,7,8,9,10] [(.tmp 13,.tv (.agg (Zx8 x))),(.tmp 14,.tv (.agg (Zx9 c)))] 0 8)] ?_
  refine sD [[],[0],[],[2],[2,3],[],[5],[],[7],[],[9],[],[11],[0,1,2,3,4,5,6,7,8,9,10,11,12],[0,1,2,3,4,5,6,7,8,9,10,11,12,13],[0,1,2,3,4,5,6,7,8,9,10,11,12,13,14],[0,1,2,3,4,5,6,7,8,9,10,11,12,13,14],[],[0,1,2,3,4,5,6,7,8,9,10,11,12,13,14,15,17],[0,1,2,3,4,5,6,7,8,9,10,11,12,13,14,15,16,17,18]] [hR 4 rfl rfl (rCa (H7 0 (ofB 6 ([]:List (List UInt8))) (W8 c.X6 c.X6.length) (by omega) (by omega)) Tryz.func12 [9,10] [(.tmp 20,pv 9 0)] 2 2),hR 13 rfl rfl (rCa (Xdo (ofB 6 ([]:List (List UInt8))) (W8 c.X6 c.X6.length) (0+(((W8 c.X6 c.X6.length).length:Nat):Int)) (Vq c c.Xt.length) (Ud c) y.f_H y.J6 (by omega) ‹_› ‹_› (by omega) (by omega) ‹_› ‹_›) Tryz.func11 [9,10] [(.tmp 18,pv 9 0),(.tmp 21,vI (0+(((Zxb c).length:Nat):Int))),(.tmp 23,slV false false (kE false) (Vq c c.Xt.length)),(.tmp 25,slV false false kU8 (Ud c)),(.tmp 27,vI y.f_H),(.tmp 29,vI y.J6)] 2 2)] ?_
  refine tN ⟨(Zxc x c y),(Zxo x c y)⟩ ?_
  refine Wv (s':=⟨(Zxc x c y),(Zxq x c y)⟩) (fun _ _ hG=>Yt [0,1,2,3,4,5,6,7,8,9,10,11,12] (bm 13 4607) (h2:=(Zxo x c y)) rfl (cg10 (fun (q1:Int) (q2:List aE) (q3:List UInt8) (q4:List Yf) (q5:Int) (q6:Int) (q7:List UInt8) (q8:Int) (q9:Int) (q10:List Y7)=>([.live (.box 23 (Zx8 x)),.live (.box 27 (Zx9 c)),.live (.box 31 (Zxa y)),(Zxd x),(Zxf x c),(Zxg x c),(Zxh x c),(Zxi c),(Zxj c),(Zxk c),(Zxl c),(Zxm c),.live (.box 49 [dI q1,.d (dsl false false (kE false) q2),dU q3,.d (dsl false false (X7 false) q4),dI q5,dI q6,dU q7,dI q8,dI q9,.d (dsl false false (Xb false) q10)])]:List HS)) (by rfl) (by rfl) (by rfl) (by rfl) (by rfl) (by rfl) (by rfl) (by rfl) (by rfl) (by rfl)) hG) ?_
  refine sR [hR 3 rfl rfl (rCa (X0q (Fv c y) y.f_T ‹_›) Tryz.func13 [] [(.tmp 33,.tv (.agg (Zxp c y))),(.tmp 35,.tv (.agg [dI y.f_T.Wn,dI y.f_T.Wj]))] 0 0)] ?_
  by_cases hq2:(c9E (Xz (fOf x.Vj) (cOf x.Xy) (U8 (Uh (fOf x.Vj) (cOf x.Xy) c c.Xt.length))) (fOf x.Vj) (X3h c y))=(c9E (Xu (fOf x.Vj) (cOf x.Xy) (Uh (fOf x.Vj) (cOf x.Xy) c c.Xt.length)) (fOf x.Vj) (X3h c y))
  ·refine tN ⟨(Zxc x c y),(Zxr x c y)⟩ ?_
   refine Wv (s':=⟨(Zxc x c y),(Zxt x c y)⟩) (fun _ _ hG=>Yt [0,1,2,3,4,5,6,7,8,9,10,11,12] (bm 13 4607) (h2:=(Zxr x c y)) rfl (cg10 (fun (q1:Int) (q2:List aE) (q3:List UInt8) (q4:List Yf) (q5:Int) (q6:Int) (q7:List UInt8) (q8:Int) (q9:Int) (q10:List Y7)=>([.live (.box 23 (Zx8 x)),.live (.box 27 (Zx9 c)),.live (.box 31 (Zxa y)),(Zxd x),(Zxf x c),(Zxg x c),(Zxh x c),(Zxi c),(Zxj c),(Zxk c),(Zxl c),(Zxm c),.live (.box 49 [dI q1,.d (dsl false false (kE false) q2),dU q3,.d (dsl false false (X7 false) q4),dI q5,dI q6,dU q7,dI q8,dI q9,.d (dsl false false (Xb false) q10)])]:List HS)) (by rfl) (by rfl) (by rfl) (by rfl) (by rfl) (by rfl) (by rfl) (by rfl) (by rfl) (by rfl)) hG) ?_
   refine sD [[],[0],[],[0,1,2],[],[4],[],[0,1,2,3,4,5,6],[0,1,2,3,4,5,6,7],[0,1,2,3,4,5,6,7,8],[0,1,2,3,4,5,6,7,8,9],[0,1,2,3,4,5,6,7,8,9,10],[0,1,2,3,4,5,6,7,8,9,10,11]] [hR 3 rfl rfl (rCa (Hy (fOf x.Vj) (cOf x.Xy) (U8 (Uh (fOf x.Vj) (cOf x.Xy) c c.Xt.length)) (X3h c y) ‹_› ‹_› ‹_›) Tryz.func14 [3,4] [(.tmp 38,pv 3 0),(.tmp 39,.tv (.agg (Zxs c y)))] 2 2),hR 7 rfl rfl (rCa (Xdp (fOf x.Vj) (cOf x.Xy) (Uh (fOf x.Vj) (cOf x.Xy) c c.Xt.length) (X3h c y) ‹_› ‹_› (by omega) ‹_›) Tryz.func15 [5,6] [(.tmp 42,pv 5 0),(.tmp 43,.tv (.agg (Zxs c y)))] 2 2),hS 10 (oY rfl rfl rfl rfl (X3 rfl) (dT hq2) (rCa (X62  ) Tryz.func16 [] [] 0 0)),hP 11 (dT hq2)] ?_
   refine T.ret ?_
   exact eRt 6 (.one (dB true)) [] rfl trivial
  exact absurd p4n hq2
 refine cT (cn (dF hq1)) ?_
 refine sR [] ?_
 refine T.ret (rT ?_)
 exact eRt 6 (.one (dB true)) [] rfl trivial
end Go.Proofs.YtnaopgohccacmaaGreat.Q
