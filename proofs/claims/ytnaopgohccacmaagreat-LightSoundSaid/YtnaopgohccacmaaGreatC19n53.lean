import Derived.Test.YtnaopgohccacmaaGreatC19n49
namespace Go.Proofs.YtnaopgohccacmaaGreat.Q
open Go Go.RowKit
set_option linter.unusedVariables false
set_option linter.unusedSimpArgs false
set_option maxRecDepth 100000
set_option maxHeartbeats 4000000
section
variable (x:Ws) (c:Xs) (y:Wr)
abbrev Z10q:List SV:=[dI x.Jl,dI x.Yd]
abbrev Z10r:List SV:=[.d (dsl false false (Yf .i64) c.X4),dU c.Vq,.d (dsl false false (Yf .i64) c.Y3),dB c.Us]
abbrev Z10s:List SV:=[dI y.f_H,dI y.Vt,dI y.f_T.Wo,dI y.f_T.Wj]
abbrev Z10t:=(Yy c.X4 c.X4.length)
abbrev Z10u:List AV:=[.tv (.agg (Z10q x)),.tv (.agg (Z10r c)),.tv (.agg (Z10s y)),pv 0 0,pv 1 0,pv 2 0,vB false,pv 11 0,pv 12 0,aa,aa,aa,aa,aa,vB (!(decide (Vj c)))]
abbrev Z10v:HS:=.live (.box 130 [dI (3*(fOf x.Jl)+1),dI (cOf x.Yd),.mref 4])
abbrev Z10w:=(Ux (fOf x.Jl) (cOf x.Yd) c c.Y3.length)
abbrev Z10x:HS:=.live (mpK Xp Yc (Ug (Z10w x c)))
abbrev Z10y:HS:=.live (.box 135 [dB true,dI (fOf x.Jl),dI (cOf x.Yd),.own 6 (kE false).sz 0 (Z10w x c).length])
abbrev Z10z:HS:=.live (Xc 43 (kE false) (Z10w x c))
abbrev Z110:HS:=.live (.box 149 [dI 0,dS (ofB 6 ([]:List (List UInt8))),dB true,.own 8 (Xj false).sz 0 (Yx (Z10t c)).length])
abbrev Z111:HS:=.live (Xc 152 (Xj false) (Yx (Z10t c)))
abbrev Z112:HS:=.live (.box 106 [dB true,dI 0,dS (ofB 6 ([]:List (List UInt8))),.own 10 (Xo false).sz 0 (Z10t c).length])
abbrev Z113:HS:=.live (Xc 65 (Xo false) (Z10t c))
abbrev Z114:HS:=.live (.box 39 [.ptr 3 0,.ptr 5 0,.ptr 7 0,.ptr 9 0,dU (Jn c),.d (dsl false false (kE false) (J1 c c.Y3.length))])
abbrev Z115:=(Uw (rblk 0 (Z10t c)) (Z10t c).length (0+(((Z10t c).length:Nat):Int)) (J1 c c.Y3.length) (Jn c) y.f_H y.Vt)
abbrev Z116:List HS:=[.live (.box 23 (Z10q x)),.live (.box 27 (Z10r c)),.live (.box 31 (Z10s y)),(Z10v x),(Z10x x c),(Z10y x c),(Z10z x c),(Z110 c),(Z111 c),(Z112 c),(Z113 c),(Z114 c),.live (.box 49 [dI (Z115 c y).Xu,.d (dsl false false (kE false) (Z115 c y).Xi),dU (Z115 c y).Xd,.d (dsl false false (X6 false) (Z115 c y).X1),dI (Z115 c y).Vt,dI (Z115 c y).Xm.f_Signer,dU (Z115 c y).Xm.Xh,dI (Z115 c y).X3.Y0,dI (Z115 c y).X3.Xq,.d (dsl false false (X8 false) (Z115 c y).Yr)])]
abbrev Z117:List SV:=[dI (J4 c y).Xu,.d (dsl false false (kE false) (J4 c y).Xi),dU (J4 c y).Xd,.d (dsl false false (X6 false) (J4 c y).X1),dI (J4 c y).Vt,dI (J4 c y).Xm.f_Signer,dU (J4 c y).Xm.Xh,dI (J4 c y).X3.Y0,dI (J4 c y).X3.Xq,.d (dsl false false (X8 false) (J4 c y).Yr)]
abbrev Z118:List HS:=[.live (.box 23 (Z10q x)),.live (.box 27 (Z10r c)),.live (.box 31 (Z10s y)),(Z10v x),(Z10x x c),(Z10y x c),(Z10z x c),(Z110 c),(Z111 c),(Z112 c),(Z113 c),(Z114 c),.live (.box 49 (Z117 c y))]
abbrev Z119:List HS:=[.live (.box 23 (Z10q x)),.live (.box 27 (Z10r c)),.live (.box 31 (Z10s y)),(Z10v x),(Z10x x c),(Z10y x c),(Z10z x c),(Z110 c),(Z111 c),(Z112 c),(Z113 c),(Z114 c),.live (.box 49 [dI (Yl (J4 c y) y.f_T).Xu,.d (dsl false false (kE false) (Yl (J4 c y) y.f_T).Xi),dU (Yl (J4 c y) y.f_T).Xd,.d (dsl false false (X6 false) (Yl (J4 c y) y.f_T).X1),dI (Yl (J4 c y) y.f_T).Vt,dI (Yl (J4 c y) y.f_T).Xm.f_Signer,dU (Yl (J4 c y) y.f_T).Xm.Xh,dI (Yl (J4 c y) y.f_T).X3.Y0,dI (Yl (J4 c y) y.f_T).X3.Xq,.d (dsl false false (X8 false) (Yl (J4 c y) y.f_T).Yr)])]
abbrev Z11a:List SV:=[dI (Wa c y).Xu,.d (dsl false false (kE false) (Wa c y).Xi),dU (Wa c y).Xd,.d (dsl false false (X6 false) (Wa c y).X1),dI (Wa c y).Vt,dI (Wa c y).Xm.f_Signer,dU (Wa c y).Xm.Xh,dI (Wa c y).X3.Y0,dI (Wa c y).X3.Xq,.d (dsl false false (X8 false) (Wa c y).Yr)]
abbrev Z11b:List HS:=[.live (.box 23 (Z10q x)),.live (.box 27 (Z10r c)),.live (.box 31 (Z10s y)),(Z10v x),(Z10x x c),(Z10y x c),(Z10z x c),(Z110 c),(Z111 c),(Z112 c),(Z113 c),(Z114 c),.live (.box 49 (Z11a c y))]
abbrev Z11c:TV:=.one (dB true)
abbrev Z11d:=(rblk 0 (Z10t c) ((Wa c y).X1.getD 0 Xg).X9)
end
theorem X9p (x:Ws) (c:Xs) (y:Wr) (h0:c.X4.length≤9223372036854775807) (h1:c.Vq.length≤9223372036854775807) (h2:c.Y3.length≤9223372036854775807) (hr:rngW c) (hy1:-9223372036854775808≤y.f_H∧y.f_H≤9223372036854775807) (hy2:-9223372036854775808≤y.Vt∧y.Vt≤9223372036854775807):Holds Tryz.prog 5 ⟨[.tv (.agg [dI x.Jl,dI x.Yd]),.tv (.agg [.d (dsl false false (Yf .i64) c.X4),dU c.Vq,.d (dsl false false (Yf .i64) c.Y3),dB c.Us]),.tv (.agg [dI y.f_H,dI y.Vt,dI y.f_T.Wo,dI y.f_T.Wj])],[],vB true,[]⟩:=by
 refine Holds.of Tryz.func5 rfl (N:=102) Tryz.ntmps5 rfl fun w0 B0 S0 U0=>?_
 show T _ (Y2 102 0 w0 S0 U0 B0) ⟨[.tv (.agg (Z10q x)),.tv (.agg (Z10r c)),.tv (.agg (Z10s y))],[]⟩ _ _
 have hfx:=Xdh x.Jl
 have hux:=Xdp x.Yd
 refine sR [] (T.seq (sR [hR 1 rfl rfl (rCa (Xbo c ‹_› ‹_› ‹_›) Tryz.func9 [] [(.tmp 12,.tv (.agg (Z10r c)))] 0 0)] ?_))
 by_cases hq1:Vj c
 rotate_left
 ·refine cT (cn (dF hq1)) (sR [] (T.ret (rT ?_)))
  exact eRt 6 (Z11c) [] rfl trivial
 have hsm:Vj c:=hq1;obtain ⟨hs1,hs2,hs3⟩:=id hsm;have hdl:=E2 hsm;have hvo:X1t (J1 c c.Y3.length):=X7m hsm hr;have hcl:=Jz c.X4 c.X4.length;have hcw:X0a (Yy c.X4 c.X4.length):=(Fm c.X4 c.X4.length (by omega)).2;have hlw:=X2u hcw;have hll:=Jg (Yy c.X4 c.X4.length);have hvl:=X89 (c:=c) (Nat.le_refl c.Y3.length);have hal:=X5i (fOf x.Jl) (cOf x.Yd) c c.Y3.length;have hgd:=Xdl hsm hr y;have hg1:=gd_sm hgd;have hg2:=gd_ok hgd;have hg3:=Xjf hgd;have hg4:=Xik hsm hr y
 refine cF (cn (dT hq1)) (T.skip (nT (sR [hR 2 rfl rfl (rCa (X9o x c ‹_› ‹_›) Tryz.func10 [3,4,5,6,7,8,9,10] [(.tmp 15,.tv (.agg (Z10q x))),(.tmp 16,.tv (.agg (Z10r c)))] 0 8)] ?_)))
 refine sD [[],[0],[],[2],[2,3],[],[5],[],[7],[],[9],[],[11],[0,1,2,3,4,5,6,7,8,9,10,11,12],[0,1,2,3,4,5,6,7,8,9,10,11,12,13],[0,1,2,3,4,5,6,7,8,9,10,11,12,13,14],[0,1,2,3,4,5,6,7,8,9,10,11,12,13,14],[],[0,1,2,3,4,5,6,7,8,9,10,11,12,13,14,15,17],[0,1,2,3,4,5,6,7,8,9,10,11,12,13,14,15,16,17,18]] [hR 4 rfl rfl (rCa (Hg 0 (ofB 6 ([]:List (List UInt8))) (Yy c.X4 c.X4.length) (by omega) (by omega)) Tryz.func12 [9,10] [(.tmp 22,pv 9 0)] 2 2),hR 13 rfl rfl (rCa (X6p (ofB 6 ([]:List (List UInt8))) (Yy c.X4 c.X4.length) (0+(((Yy c.X4 c.X4.length).length:Nat):Int)) (J1 c c.Y3.length) (Jn c) y.f_H y.Vt (by omega) ‹_› ‹_› (by omega) (by omega) ‹_› ‹_›) Tryz.func11 [9,10] [(.tmp 20,pv 9 0),(.tmp 23,vI (0+(((Z10t c).length:Nat):Int))),(.tmp 25,slV false false (kE false) (J1 c c.Y3.length)),(.tmp 27,slV false false kU8 (Jn c)),(.tmp 29,vI y.f_H),(.tmp 31,vI y.Vt)] 2 2)] ?_
 refine tN ⟨(Z10u x c y),(Z116 x c y)⟩ ?_
 refine Wy (s':=⟨(Z10u x c y),(Z118 x c y)⟩) (fun _ _ hG=>Yu [0,1,2,3,4,5,6,7,8,9,10,11,12] (bm 15 16895) (h2:=(Z116 x c y)) rfl (cg10 (fun (q1:Int) (q2:List aE) (q3:List UInt8) (q4:List Y6) (q5:Int) (q6:Int) (q7:List UInt8) (q8:Int) (q9:Int) (q10:List Y1)=>([.live (.box 23 (Z10q x)),.live (.box 27 (Z10r c)),.live (.box 31 (Z10s y)),(Z10v x),(Z10x x c),(Z10y x c),(Z10z x c),(Z110 c),(Z111 c),(Z112 c),(Z113 c),(Z114 c),.live (.box 49 [dI q1,.d (dsl false false (kE false) q2),dU q3,.d (dsl false false (X6 false) q4),dI q5,dI q6,dU q7,dI q8,dI q9,.d (dsl false false (X8 false) q10)])]:List HS)) (by rfl) (by rfl) (by rfl) (by rfl) (by rfl) (by rfl) (by rfl) (by rfl) (by rfl) (by rfl)) hG) ?_
 refine sR [hR 3 rfl rfl (rCa (Fy (J4 c y) y.f_T ‹_›) Tryz.func13 [] [(.tmp 35,.tv (.agg (Z117 c y))),(.tmp 37,.tv (.agg [dI y.f_T.Wo,dI y.f_T.Wj]))] 0 0)] (T.seq ?_)
 refine tN ⟨(Z10u x c y),(Z119 x c y)⟩ ?_
 refine Wy (s':=⟨(Z10u x c y),(Z11b x c y)⟩) (fun _ _ hG=>Yu [0,1,2,3,4,5,6,7,8,9,10,11,12] (bm 15 16895) (h2:=(Z119 x c y)) rfl (cg10 (fun (q1:Int) (q2:List aE) (q3:List UInt8) (q4:List Y6) (q5:Int) (q6:Int) (q7:List UInt8) (q8:Int) (q9:Int) (q10:List Y1)=>([.live (.box 23 (Z10q x)),.live (.box 27 (Z10r c)),.live (.box 31 (Z10s y)),(Z10v x),(Z10x x c),(Z10y x c),(Z10z x c),(Z110 c),(Z111 c),(Z112 c),(Z113 c),(Z114 c),.live (.box 49 [dI q1,.d (dsl false false (kE false) q2),dU q3,.d (dsl false false (X6 false) q4),dI q5,dI q6,dU q7,dI q8,dI q9,.d (dsl false false (X8 false) q10)])]:List HS)) (by rfl) (by rfl) (by rfl) (by rfl) (by rfl) (by rfl) (by rfl) (by rfl) (by rfl) (by rfl)) hG) ?_
 refine sR [hR 3 rfl rfl (rCa (Ih (fOf x.Jl) (cOf x.Yd) (Ug (Ux (fOf x.Jl) (cOf x.Yd) c c.Y3.length)) (Wa c y) ‹_› ‹_› ‹_›) Tryz.func14 [3,4] [(.tmp 40,pv 3 0),(.tmp 41,.tv (.agg (Z11a c y)))] 2 2)] ?_
 by_cases hq2:(c9E (Xz (fOf x.Jl) (cOf x.Yd) (Ug (Ux (fOf x.Jl) (cOf x.Yd) c c.Y3.length))) (fOf x.Jl) (Wa c y))≠0
 ·refine cT (dT hq2) (sR [hR 0 rfl rfl (rCa (X2w  ) Tryz.func16 [] [] 0 0)] (T.ret (rT ?_)))
  exact eRt 6 (Z11c) [] rfl trivial
 obtain ⟨t1,t2,t3,t4⟩:=gd_rng9 hgd y.f_T;obtain ⟨w1,w2,w3,w4,w5,w6,w7,w8⟩:=sound9 hsm (k:=(Wa c y)) hg4 t1 t2 t3 t4 (by rw [← Xi3];exact Classical.not_not.1 hq2);have hbe:Ey 0 (Yy c.X4 c.X4.length).length ((Wa c y).X1.getD 0 Xg).X9=0:=if_pos ⟨by omega,by omega⟩;have v5:(Wa c y).Vt<(((rblk 0 (Yy c.X4 c.X4.length) (((Wa c y).X1.getD 0 Xg).X9)).X7.length:Nat):Int):=w5;have v6:(Wa c y).Vt<(((rblk 0 (Yy c.X4 c.X4.length) (((Wa c y).X1.getD 0 Xg).X9)).Xf.length:Nat):Int):=w6;have v6n:(Wa c y).Vt.toNat<(rblk 0 (Yy c.X4 c.X4.length) (((Wa c y).X1.getD 0 Xg).X9)).Xf.length:=(by omega)
 refine cF (dF hq2) (T.skip (nT (T.seq ?_)))
 by_cases hq3:(((Wa c y).X1.length:Nat):Int)=0
 ·exact absurd w2 (by omega)
 refine sR [hY 5 (dF hq3),hY 6 (dF hq3),hP 7 (dF hq3)] ?_
 by_cases hq4:c.Us=true
 ·exact absurd (w1.symm.trans hq4) (by decide)
 replace hq4:=Bool.eq_false_iff.2 hq4
 refine cF hq4 (T.skip (nT ?_))
 refine sD [[],[0],[],[2],[2,3],[2,3,4],[2,3,4,5],[0,1,2,3,4,5,6],[0,1,2,3,4,5,6,7],[0,1,2,3,4,5,6,7,8],[0,1,2,3,4,5,6,7,8],[],[0,1,2,3,4,5,6,7,8,9,11],[0,1,2,3,4,5,6,7,8,9,10,11,12]] [hR 4 rfl rfl (Wi false false (X6 false) (Wa c y).X1 0 (k:=.i64) (i:=0) Tryz.underlying41 Ik rfl rfl ‹_› (X2 rfl) ⟨rfl,trivial⟩),hR 7 rfl rfl (rCa (X1i 0 (ofB 6 ([]:List (List UInt8))) (Yy c.X4 c.X4.length) ((Wa c y).X1.getD 0 Xg).X9 (by omega) (by omega) ‹_›) Tryz.func20 [9,10] [(.tmp 55,pv 9 0),(.tmp 60,vI ((Wa c y).X1.getD 0 Xg).X9)] 2 2)] (T.seq ?_)
 by_cases hq5:(Ey 0 (Yy c.X4 c.X4.length).length ((Wa c y).X1.getD 0 Xg).X9)≠0
 ·exact absurd hbe hq5
 by_cases hq6:(Wa c y).Vt<0
 ·exact absurd hq6 (by omega)
 refine sR (Xl (hY · (dF hq5)) [3,4,5] (hP 6 (dF hq5)::(Xl (hY · (dF hq6)) [8,9,10,11,12,13] (hP 14 (dF hq6)::[])))) ?_
 by_cases hq7:(Wa c y).Vt≥(((rblk 0 (Yy c.X4 c.X4.length) ((Wa c y).X1.getD 0 Xg).X9).X7.length:Nat):Int)
 ·exact absurd hq7 (by omega)
 refine cF (dF hq7) (T.skip (nT ?_))
 by_cases hq8:((rblk 0 (Yy c.X4 c.X4.length) ((Wa c y).X1.getD 0 Xg).X9).X7.getD ((Wa c y).Vt).toNat zE)=(Wa c y).Xm
 ·by_cases hq9:((rblk 0 (Yy c.X4 c.X4.length) ((Wa c y).X1.getD 0 Xg).X9).Xf.getD ((Wa c y).Vt).toNat Ya)=(Wa c y).X3
  ·refine sD [[],[0],[],[2],[0,1,2,3],[0,1,2,3,4],[],[6],[0,1,2,3,4,5,6,7],[0,1,2,3,4,5,6,7,8],[0,1,2,3,4,5,6,7,8,9],[0,1,2,3,4,5,6,7,8,9,10],[0,1,2,3,4,5,6,7,8,9],[0,1,2,3,4,5,6,7,8,9,12],[0,1,2,3,4,5,6,7,8,9,10,11,12,13],[0,1,2,3,4,5,6,7,8,9,10,11,12,13,14],[0,1,2,3,4,5,6,7,8,9],[0,1,2,3,4,5,6,7,8,9,16],[0,1,2,3,4,5,6,7,8,9,10,11,12,13,14,15,16,17],[0,1,2,3,4,5,6,7,8,9,10,11,12,13,14,15,16,17,18],[0,1,2,3,4,5,6,7,8,9,10,11,12,13,14,15,16,17,18,19],[0,1,2,3,4,5,6,7,8,9,10,11,12,13,14,15,16,17,18,19,20],[0,1,2,3,4,5,6,7,8,9,10,11,12,13,14,15,16,17,18,19,20,21],[0,1,2,3,4,5,6,7,8,9,10,11,12,13,14,15,16,17,18,19,20,21,22]] (hR 4 rfl rfl (Wi false false (kE false) (rblk 0 (Yy c.X4 c.X4.length) ((Wa c y).X1.getD 0 Xg).X9).X7 ((Wa c y).Vt).toNat (k:=.i64) (i:=(Wa c y).Vt) Tryz.underlying37 Vv rfl (by omega) (by omega) (X2 rfl) trivial)::(hR 8 rfl rfl (rCa (Xh8 false false ((rblk 0 (Yy c.X4 c.X4.length) ((Wa c y).X1.getD 0 Xg).X9).X7.getD ((Wa c y).Vt).toNat zE) (Wa c y).Xm ) Tryz.func21 [] [(.tmp 84,.tv (.agg [dI ((Z11d c y).X7.getD ((Wa c y).Vt).toNat zE).f_Signer,dU ((Z11d c y).X7.getD ((Wa c y).Vt).toNat zE).Xh])),(.tmp 86,.tv (.agg [dI (Wa c y).Xm.f_Signer,dU (Wa c y).Xm.Xh]))] 0 0)::(Xl (hY · (dT hq8)) [10,11,12,13] (hS 14 (oY rfl rfl rfl rfl (X2 rfl) (dT hq8) (Wi false false (Xb false) (rblk 0 (Yy c.X4 c.X4.length) ((Wa c y).X1.getD 0 Xg).X9).Xf ((Wa c y).Vt).toNat (k:=.i64) (i:=(Wa c y).Vt) Tryz.underlying63 E0 rfl (by omega) ‹_› (X2 rfl) p1h))::(Xl (hY · (dT hq8)) [15,16,17] (hS 18 (oY rfl rfl rfl rfl (X2 rfl) (dT hq8) (r_eqSt (ax:=.tv (.agg [dI ((Z11d c y).Xf.getD ((Wa c y).Vt).toNat Ya).Y0,dI ((Z11d c y).Xf.getD ((Wa c y).Vt).toNat Ya).Xq])) (ay:=.tv (.agg [dI (Wa c y).X3.Y0,dI (Wa c y).X3.Xq])) (a:=((rblk 0 (Yy c.X4 c.X4.length) ((Wa c y).X1.getD 0 Xg).X9).Xf.getD ((Wa c y).Vt).toNat Ya)) (b:=(Wa c y).X3) I7 ⟨[.int .i64 ((rblk 0 (Yy c.X4 c.X4.length) ((Wa c y).X1.getD 0 Xg).X9).Xf.getD ((Wa c y).Vt).toNat Ya).Y0,.int .i64 ((rblk 0 (Yy c.X4 c.X4.length) ((Wa c y).X1.getD 0 Xg).X9).Xf.getD ((Wa c y).Vt).toNat Ya).Xq],rfl,rfl⟩ ⟨[.int .i64 (Wa c y).X3.Y0,.int .i64 (Wa c y).X3.Xq],rfl,rfl⟩ (X2 rfl) p1h))::(hP 19 (dT hq8)::(hS 21 (oY rfl rfl rfl rfl (X2 rfl) (dT hq9) (rCa (X2w  ) Tryz.func16 [] [] 0 0))::(hP 22 (dT hq9)::[]))))))))) ?_
   refine T.ret ?_
   exact eRt 6 (Z11c) [] rfl trivial
  exact absurd w8 hq9
 exact absurd w7 hq8
end Go.Proofs.YtnaopgohccacmaaGreat.Q
