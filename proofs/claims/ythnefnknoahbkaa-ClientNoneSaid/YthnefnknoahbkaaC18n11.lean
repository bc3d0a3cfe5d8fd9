import Derived.Test.YthnefnknoahbkaaC18n7
namespace Go.Proofs.Ythnefnknoahbkaa.Q
open Go Go.RowKit
set_option linter.unusedVariables false
set_option linter.unusedSimpArgs false
set_option maxRecDepth 100000
set_option maxHeartbeats 4000000
section
variable (tm:Bool) (m:aM) (h:aH) (k:Nat)
abbrev Z29:List SV:=[dI m.X3,dI m.Xt,dI m.Xy,dI m.Xb,dI m.Xv,dS m.Xc,.d (dsl tm false kU8 m.Xk),dI m.X1.Xs,dI m.X1.Xo,.d (dsl tm false (kE tm) m.Xf),.d (dsl tm false (kE tm) m.Xr),.d (dsl tm false (kC tm) m.X7)]
abbrev Z2a:AV:=.tv (.agg (Z29 tm m))
abbrev Z2b:List SV:=[dB h.Xt,dB h.Xy,dB h.Xb,dB h.Xc,dB h.Xk,dB h.X1,dB h.Xf,dB h.Xr,dB h.X7]
abbrev Z2c:AV:=.tv (.agg (Z2b h))
abbrev Z2d:List AV:=[(Z2a tm m),(Z2c h),pv 0 0,pv 1 0,vB false,vI (if h.Xf=true then 7 else 0),aa,aa,aa,vB h.Xf]
abbrev Z2e:List HS:=[.live (.box 42 (Z29 tm m)),.live (.box 90 (Z2b h))]
abbrev Z2f:List AV:=[(Z2a tm m),(Z2c h),pv 0 0,pv 1 0,vB false,vI 7,aa,aa,aa,vB h.Xf]
abbrev Z2g:List AV:=[(Z2a tm m),(Z2c h),pv 0 0,pv 1 0,vB false,vI 0,aa,aa,aa,vB h.Xf]
abbrev Z2h:AV:=vI (maxB m.X3 h)
abbrev Z2i:AV:=vB (decide (m.X3=2))
abbrev Z2j:List AV:=[(Z2a tm m),(Z2c h),pv 0 0,pv 1 0,vB false,(Z2h m h),aa,aa,aa,vB h.Xf,aa,aa,(Z2i m)]
abbrev Z2k:List AV:=[(Z2a tm m),(Z2c h),pv 0 0,pv 1 0,vB false,vI 4,aa,aa,aa,vB h.Xf,aa,aa,(Z2i m)]
abbrev Z2l:List AV:=[(Z2a tm m),(Z2c h),pv 0 0,pv 1 0,vB false,vI (if h.Xf=true then 7 else 0),aa,aa,aa,vB h.Xf,aa,aa,(Z2i m)]
abbrev Z2m:List AV:=[(Z2a tm m),(Z2c h),pv 0 0,pv 1 0,vB false,(Z2h m h),vI (maxP h),aa,aa,vB h.Xf,aa,aa,(Z2i m),aa,vB h.Xr]
abbrev Z2n:List AV:=[(Z2a tm m),(Z2c h),pv 0 0,pv 1 0,vB false,(Z2h m h),vI 8,aa,aa,vB h.Xf,aa,aa,(Z2i m),aa,vB h.Xr]
abbrev Z2o:List AV:=[(Z2a tm m),(Z2c h),pv 0 0,pv 1 0,vB false,(Z2h m h),vI 0,aa,aa,vB h.Xf,aa,aa,(Z2i m),aa,vB h.Xr]
abbrev Z2p:TV:=.one (dB false)
abbrev Z2q:AV:=vB (decide (((m.Xr.length:Nat):Int)>(maxP h)))
abbrev Z2r:AV:=vB (decide (((m.X7.length:Nat):Int)>8))
abbrev Z2s:St:=⟨[(Z2a tm m),(Z2c h),pv 0 0,pv 1 0,vB false,(Z2h m h),vI (maxP h),vI ((k:Nat):Int),aa,vB h.Xf,aa,aa,(Z2i m),aa,vB h.Xr,aa,aa,aa,aa,aa,aa,aa,aa,aa,aa,aa,(Z2q m h),aa,aa,aa,aa,aa,aa,aa,aa,aa,aa,aa,aa,aa,aa,aa,aa,aa,aa,aa,aa,aa,aa,aa,aa,aa,(Z2r m)],(Z2e tm m h)⟩
abbrev Z2v:TV:=.one (dB true)
abbrev Z2w:AV:=vB (decide (((m.X7.length:Nat):Int)>0))
end
theorem Wi (tm:Bool) (m:aM) (h:aH) (hq:m.Xf.length≤9223372036854775807) (hr:m.Xr.length≤9223372036854775807) (hc:m.X7.length≤9223372036854775807):Holds Try.prog 64 ⟨[.tv (.agg [dI m.X3,dI m.Xt,dI m.Xy,dI m.Xb,dI m.Xv,dS m.Xc,.d (dsl tm false kU8 m.Xk),dI m.X1.Xs,dI m.X1.Xo,.d (dsl tm false (kE tm) m.Xf),.d (dsl tm false (kE tm) m.Xr),.d (dsl tm false (kC tm) m.X7)]),.tv (.agg [dB h.Xt,dB h.Xy,dB h.Xb,dB h.Xc,dB h.Xk,dB h.X1,dB h.Xf,dB h.Xr,dB h.X7])],[],vB (decide (Fd m h)),[]⟩:=by
 refine Holds.of Try.func64 rfl (N:=68) Try.ntmps64 rfl fun w0 B0 S0 U0=>?_
 show T _ (Xz 68 0 w0 S0 U0 B0) ⟨[(Z2a tm m),(Z2c h)],[]⟩ _ _
 refine sR [] (sR [] ?_)
 refine Ve ⟨(Z2d tm m h),(Z2e tm m h)⟩ ?_ ?_
 ·refine sR [] ?_
  by_cases hq1:h.Xf=true
  ·refine cT hq1 (xK [] ?_)
   refine eN ⟨(Z2f tm m h),(Z2e tm m h)⟩ ?_
   refine Xm (s':=⟨(Z2d tm m h),(Z2e tm m h)⟩) (fun _ _ hG=>Yc [0,1] (bm 10 575) (t2:=(Z2f tm m h)) (congrArg (fun (q1:Int)=>([(Z2a tm m),(Z2c h),pv 0 0,pv 1 0,vB false,vI q1,aa,aa,aa,vB h.Xf]:List AV)) (by exact if_pos ‹_›)) rfl hG) ?_
   exact nJ
  replace hq1:=Bool.eq_false_iff.2 hq1
  refine cF hq1 (T.skip ?_)
  refine eN ⟨(Z2g tm m h),(Z2e tm m h)⟩ ?_
  refine Xm (s':=⟨(Z2d tm m h),(Z2e tm m h)⟩) (fun _ _ hG=>Yc [0,1] (bm 10 575) (t2:=(Z2g tm m h)) (congrArg (fun (q1:Int)=>([(Z2a tm m),(Z2c h),pv 0 0,pv 1 0,vB false,vI q1,aa,aa,aa,vB h.Xf]:List AV)) (by exact if_neg (nbB ‹_›))) rfl hG) ?_
  exact nJ
 refine Ve ⟨(Z2j tm m h),(Z2e tm m h)⟩ ?_ ?_
 ·refine sR [] ?_
  by_cases hq2:m.X3=2
  ·refine cT (dT hq2) (xK [] ?_)
   refine eN ⟨(Z2k tm m h),(Z2e tm m h)⟩ ?_
   refine Xm (s':=⟨(Z2j tm m h),(Z2e tm m h)⟩) (fun _ _ hG=>Yc [0,1] (bm 13 4671) (t2:=(Z2k tm m h)) (congrArg (fun (q1:Int)=>([(Z2a tm m),(Z2c h),pv 0 0,pv 1 0,vB false,vI q1,aa,aa,aa,vB h.Xf,aa,aa,(Z2i m)]:List AV)) (by exact if_pos ‹_›)) rfl hG) ?_
   exact nJ
  refine cF (dF hq2) (T.skip ?_)
  refine eN ⟨(Z2l tm m h),(Z2e tm m h)⟩ ?_
  refine Xm (s':=⟨(Z2j tm m h),(Z2e tm m h)⟩) (fun _ _ hG=>Yc [0,1] (bm 13 4671) (t2:=(Z2l tm m h)) (congrArg (fun (q1:Int)=>([(Z2a tm m),(Z2c h),pv 0 0,pv 1 0,vB false,vI q1,aa,aa,aa,vB h.Xf,aa,aa,(Z2i m)]:List AV)) (by exact if_neg ‹_›)) rfl hG) ?_
  exact nJ
 refine sR [] ?_
 refine Ve ⟨(Z2m tm m h),(Z2e tm m h)⟩ ?_ ?_
 ·refine sR [] ?_
  by_cases hq3:h.Xr=true
  ·refine cT hq3 (xK [] ?_)
   refine eN ⟨(Z2n tm m h),(Z2e tm m h)⟩ ?_
   refine Xm (s':=⟨(Z2m tm m h),(Z2e tm m h)⟩) (fun _ _ hG=>Yc [0,1] (bm 15 21119) (t2:=(Z2n tm m h)) (congrArg (fun (q1:Int)=>([(Z2a tm m),(Z2c h),pv 0 0,pv 1 0,vB false,(Z2h m h),vI q1,aa,aa,vB h.Xf,aa,aa,(Z2i m),aa,vB h.Xr]:List AV)) (by exact if_pos ‹_›)) rfl hG) ?_
   exact nJ
  replace hq3:=Bool.eq_false_iff.2 hq3
  refine cF hq3 (T.skip ?_)
  refine eN ⟨(Z2o tm m h),(Z2e tm m h)⟩ ?_
  refine Xm (s':=⟨(Z2m tm m h),(Z2e tm m h)⟩) (fun _ _ hG=>Yc [0,1] (bm 15 21119) (t2:=(Z2o tm m h)) (congrArg (fun (q1:Int)=>([(Z2a tm m),(Z2c h),pv 0 0,pv 1 0,vB false,(Z2h m h),vI q1,aa,aa,vB h.Xf,aa,aa,(Z2i m),aa,vB h.Xr]:List AV)) (by exact if_neg (nbB ‹_›))) rfl hG) ?_
  exact nJ
 refine T.seq ?_
 by_cases hq4:((m.Xf.length:Nat):Int)>(maxB m.X3 h)
 ·refine sR (Xl (hN · false (dT hq4)) [6,7,8,9,10] (hP 11 (dT hq4)::[])) (cT (b:=true) rfl (sR [] (T.ret (rT ?_))))
  exact eRt 4 (Z2p) [] (cB (by (refine dF (fun h9=>?_);exact absurd h9.1 (by omega)))) trivial
 refine sR (Xl (hY · (dF hq4)) [6,7,8,9,10] (hP 11 (dF hq4)::[])) ?_
 by_cases hq5:((m.Xr.length:Nat):Int)>(maxP h)
 ·refine cT (dT hq5) (sR [] (T.ret (rT ?_)))
  exact eRt 4 (Z2p) [] (cB (by (refine dF (fun h9=>?_);exact absurd h9.2.1 (by omega)))) trivial
 refine cF (dF hq5) (T.skip (nT (T.seq ?_)))
 by_cases hq6:m.X3=10
 ·by_cases hq7:((m.X7.length:Nat):Int)≠1
  ·refine sR (Xl (hY · (dT hq6)) [4,5,6,7] (hP 8 (dT hq6)::(Xl (hN · false (dT hq7)) [10,11,12,13] (hU 14::(hU 15::(hU 16::(hU 17::(hN 18 false (dT hq7)::(hP 19 (dT hq7)::(Xl hN0 [21,22,23,24] (hP1 25::[]))))))))))) (cT (b:=true) rfl (sR [] (T.ret (rT ?_))))
   exact eRt 4 (Z2p) [] (cB (by (refine dF (fun h9=>?_);exact h9.2.2.1 ⟨by assumption,by assumption⟩))) trivial
  by_cases hq8:h.X7=true
  ·refine sR (Xl (hY · (dT hq6)) [4,5,6,7] (hP 8 (dT hq6)::(Xl (hY · (dF hq7)) [10,11,12,13] (Xl (hN · true (cn hq8)) [14,15,16,17] (hS 18 (oY rfl rfl rfl rfl (X8 rfl) (dF hq7) (Yz (b:=(!h.X7)) (av:=vB false) (X8 rfl) ⟨rfl,trivial⟩ (cn hq8)))::(hP 19 (dF hq7)::(Xl hY0 [21,22,23,24] (hP0 25::[])))))))) ?_
   by_cases hq9:((m.X7.length:Nat):Int)>8
   ·refine cT (dT hq9) (sR [] (T.ret (rT ?_)))
    exact eRt 4 (Z2p) [] (cB (by (refine dF (fun h9=>?_);exact absurd h9.2.2.2.2.1 (by omega)))) trivial
   refine cF (dF hq9) (T.skip (nT (T.seq (sR [] (T.block ?_)))))
   refine T.loop (ι:=Nat) (fun (k:Nat)=>(Z2s tm m h k)) (fun (k:Nat)=>(k≤m.X7.length)∧(∀ j,j<k→(m.X7.getD j zC).Yg.length≤7)) (fun (k:Nat)=>m.X7.length-k) (0) ⟨(Nat.zero_le _),(fun j hj=>absurd hj (Nat.not_lt_zero _))⟩ (fun _ _ hG=>Yc [0,1] (bm 53 4503599694500607) rfl rfl hG) ?_
   rintro k ⟨hk,hb⟩
   show T _ _ (Z2s tm m h k) _ _
   replace hk:k≤m.X7.length:=hk
   replace hb:∀ j,j<k→(m.X7.getD j zC).Yg.length≤7:=hb
   refine T.seq (sR [] ?_)
   by_cases hq10:((k:Nat):Int)<((m.X7.length:Nat):Int)
   ·refine cT (dT hq10) (T.skip (nT (T.seq (T.block (sR [hR 3 rfl rfl (Wc tm false (kC tm) m.X7 k (k:=.i64) (i:=((k:Nat):Int)) Try.underlying40 I3 rfl rfl (by omega) (X8 rfl) trivial)] ?_)))))
    by_cases hq11:(((m.X7.getD k zC).Yg.length:Nat):Int)>7
    ·refine cT (dT hq11) (sR [] (T.ret (rB (rT (rT (rB (rT ?_)))))))
     exact eRt 4 (Z2p) [] (cB (by (refine dF (fun h9=>?_);exact absurd (h9.2.2.2.2.2 _ (Vt (z:=zC) (k:=k) (by omega))) (by omega)))) trivial
    refine cF (dF hq11) (T.skip (nB (nT (xK [hR 1 rfl rfl (Y9 (u1:=.int .i64 ((k:Nat):Int)) (u2:=.int .i64 1) (v:=.int .i64 ((k+1:Nat):Int)) (W6 pZ5) (X8 rfl) ⟨rfl,trivial⟩)] ?_))))
    refine nL (k+1) ⟨(show (k+1)≤m.X7.length from (by omega)),(show ∀ j,j<(k+1)→(m.X7.getD j zC).Yg.length≤7 from (Jy hb (by omega)))⟩ (show (m.X7.length-(k+1):Nat)<m.X7.length-k from (by omega)) (fun _ _ hG=>Yc [0,1] (bm 53 4503599694500607) rfl rfl hG)
   refine cF (dF hq10) (T.exit (xT (xT (xH (nT (sR [] (T.ret ?_)))))))
   exact eRt 4 (Z2v) [] (cB (by (refine dT ⟨by omega,by omega,(fun h8=>by exact absurd h8.2 ‹_›),(fun h8=>by exact absurd ‹_› h8.1),by omega,X02 hb (by omega)⟩))) trivial
  replace hq8:=Bool.eq_false_iff.2 hq8
  by_cases hq12:((m.X7.length:Nat):Int)>0
  ·refine sR (Xl (hY · (dT hq6)) [4,5,6,7] (hP 8 (dT hq6)::(Xl (hY · (dF hq7)) [10,11,12,13] (Xl (hY · (cn hq8)) [14,15,16,17] (hS 18 (oY rfl rfl rfl rfl (X8 rfl) (dF hq7) (Yq (b:=(!h.X7)) (av:=(Z2w m)) (X8 rfl) trivial (cn hq8)))::(hP 19 (dF hq7)::(Xl (hN · false (dT hq12)) [21,22,23,24] (hP 25 (dT hq12)::[])))))))) (cT (b:=true) rfl (sR [] (T.ret (rT ?_))))
   exact eRt 4 (Z2p) [] (cB (by (refine dF (fun h9=>?_);exact h9.2.2.2.1 ⟨(by exact nbB ‹_›),by assumption⟩))) trivial
  refine sR (Xl (hY · (dT hq6)) [4,5,6,7] (hP 8 (dT hq6)::(Xl (hY · (dF hq7)) [10,11,12,13] (Xl (hY · (cn hq8)) [14,15,16,17] (hS 18 (oY rfl rfl rfl rfl (X8 rfl) (dF hq7) (Yq (b:=(!h.X7)) (av:=(Z2w m)) (X8 rfl) trivial (cn hq8)))::(hP 19 (dF hq7)::(Xl (hY · (dF hq12)) [21,22,23,24] (hP 25 (dF hq12)::[])))))))) ?_
  by_cases hq13:((m.X7.length:Nat):Int)>8
  ·refine cT (dT hq13) (sR [] (T.ret (rT ?_)))
   exact eRt 4 (Z2p) [] (cB (by (refine dF (fun h9=>?_);exact absurd h9.2.2.2.2.1 (by omega)))) trivial
  refine cF (dF hq13) (T.skip (nT (T.seq (sR [] (T.block ?_)))))
  refine T.loop (ι:=Nat) (fun (k:Nat)=>(Z2s tm m h k)) (fun (k:Nat)=>(k≤m.X7.length)∧(∀ j,j<k→(m.X7.getD j zC).Yg.length≤7)) (fun (k:Nat)=>m.X7.length-k) (0) ⟨(Nat.zero_le _),(fun j hj=>absurd hj (Nat.not_lt_zero _))⟩ (fun _ _ hG=>Yc [0,1] (bm 53 4503599694500607) rfl rfl hG) ?_
  rintro k ⟨hk,hb⟩
  show T _ _ (Z2s tm m h k) _ _
  replace hk:k≤m.X7.length:=hk
  replace hb:∀ j,j<k→(m.X7.getD j zC).Yg.length≤7:=hb
  refine T.seq (sR [] ?_)
  by_cases hq14:((k:Nat):Int)<((m.X7.length:Nat):Int)
  ·refine cT (dT hq14) (T.skip (nT (T.seq (T.block (sR [hR 3 rfl rfl (Wc tm false (kC tm) m.X7 k (k:=.i64) (i:=((k:Nat):Int)) Try.underlying40 I3 rfl rfl (by omega) (X8 rfl) trivial)] ?_)))))
   by_cases hq15:(((m.X7.getD k zC).Yg.length:Nat):Int)>7
   ·refine cT (dT hq15) (sR [] (T.ret (rB (rT (rT (rB (rT ?_)))))))
    exact eRt 4 (Z2p) [] (cB (by (refine dF (fun h9=>?_);exact absurd h9.2.2.2.2.1 (by omega)))) trivial
   refine cF (dF hq15) (T.skip (nB (nT (xK [hR 1 rfl rfl (Y9 (u1:=.int .i64 ((k:Nat):Int)) (u2:=.int .i64 1) (v:=.int .i64 ((k+1:Nat):Int)) (W6 pZ5) (X8 rfl) ⟨rfl,trivial⟩)] ?_))))
   refine nL (k+1) ⟨(show (k+1)≤m.X7.length from (by omega)),(show ∀ j,j<(k+1)→(m.X7.getD j zC).Yg.length≤7 from (Jy hb (by omega)))⟩ (show (m.X7.length-(k+1):Nat)<m.X7.length-k from (by omega)) (fun _ _ hG=>Yc [0,1] (bm 53 4503599694500607) rfl rfl hG)
  refine cF (dF hq14) (T.exit (xT (xT (xH (nT (sR [] (T.ret ?_)))))))
  exact eRt 4 (Z2v) [] (cB (by (refine dT ⟨by omega,by omega,(fun h8=>by exact absurd h8.2 ‹_›),(fun h8=>by exact absurd h8.2 ‹_›),by omega,X02 hb (by omega)⟩))) trivial
 by_cases hq16:h.X7=true
 ·refine sR (Xl (hN · true (dF hq6)) [4,5,6,7] (hP 8 (dF hq6)::(Xl hY0 [10,11,12,13] (Xl (hN · true (cn hq16)) [14,15,16,17] (hS 18 (oY (b:=false) rfl rfl rfl rfl (X8 rfl) rfl (Yz (b:=(!h.X7)) (av:=vB false) (X8 rfl) ⟨rfl,trivial⟩ (cn hq16)))::(hP0 19::(Xl hY0 [21,22,23,24] (hP0 25::[])))))))) ?_
  by_cases hq17:((m.X7.length:Nat):Int)>8
  ·refine cT (dT hq17) (sR [] (T.ret (rT ?_)))
   exact eRt 4 (Z2p) [] (cB (by (refine dF (fun h9=>?_);exact absurd h9.2.2.2.2.1 (by omega)))) trivial
  refine cF (dF hq17) (T.skip (nT (T.seq (sR [] (T.block ?_)))))
  refine T.loop (ι:=Nat) (fun (k:Nat)=>(Z2s tm m h k)) (fun (k:Nat)=>(k≤m.X7.length)∧(∀ j,j<k→(m.X7.getD j zC).Yg.length≤7)) (fun (k:Nat)=>m.X7.length-k) (0) ⟨(Nat.zero_le _),(fun j hj=>absurd hj (Nat.not_lt_zero _))⟩ (fun _ _ hG=>Yc [0,1] (bm 53 4503599694500607) rfl rfl hG) ?_
  rintro k ⟨hk,hb⟩
  show T _ _ (Z2s tm m h k) _ _
  replace hk:k≤m.X7.length:=hk
  replace hb:∀ j,j<k→(m.X7.getD j zC).Yg.length≤7:=hb
  refine T.seq (sR [] ?_)
  by_cases hq18:((k:Nat):Int)<((m.X7.length:Nat):Int)
  ·refine cT (dT hq18) (T.skip (nT (T.seq (T.block (sR [hR 3 rfl rfl (Wc tm false (kC tm) m.X7 k (k:=.i64) (i:=((k:Nat):Int)) Try.underlying40 I3 rfl rfl (by omega) (X8 rfl) trivial)] ?_)))))
   by_cases hq19:(((m.X7.getD k zC).Yg.length:Nat):Int)>7
   ·refine cT (dT hq19) (sR [] (T.ret (rB (rT (rT (rB (rT ?_)))))))
    exact eRt 4 (Z2p) [] (cB (by (refine dF (fun h9=>?_);exact absurd (h9.2.2.2.2.2 _ (Vt (z:=zC) (k:=k) (by omega))) (by omega)))) trivial
   refine cF (dF hq19) (T.skip (nB (nT (xK [hR 1 rfl rfl (Y9 (u1:=.int .i64 ((k:Nat):Int)) (u2:=.int .i64 1) (v:=.int .i64 ((k+1:Nat):Int)) (W6 pZ5) (X8 rfl) ⟨rfl,trivial⟩)] ?_))))
   refine nL (k+1) ⟨(show (k+1)≤m.X7.length from (by omega)),(show ∀ j,j<(k+1)→(m.X7.getD j zC).Yg.length≤7 from (Jy hb (by omega)))⟩ (show (m.X7.length-(k+1):Nat)<m.X7.length-k from (by omega)) (fun _ _ hG=>Yc [0,1] (bm 53 4503599694500607) rfl rfl hG)
  refine cF (dF hq18) (T.exit (xT (xT (xH (nT (sR [] (T.ret ?_)))))))
  exact eRt 4 (Z2v) [] (cB (by (refine dT ⟨by omega,by omega,(fun h8=>by exact absurd h8.1 ‹_›),(fun h8=>by exact absurd ‹_› h8.1),by omega,X02 hb (by omega)⟩))) trivial
 replace hq16:=Bool.eq_false_iff.2 hq16
 by_cases hq20:((m.X7.length:Nat):Int)>0
 ·refine sR (Xl (hN · true (dF hq6)) [4,5,6,7] (hP 8 (dF hq6)::(Xl hY0 [10,11,12,13] (Xl (hY · (cn hq16)) [14,15,16,17] (hS 18 (oY (b:=false) rfl rfl rfl rfl (X8 rfl) rfl (Yq (b:=(!h.X7)) (av:=(Z2w m)) (X8 rfl) trivial (cn hq16)))::(hP0 19::(Xl (hN · false (dT hq20)) [21,22,23,24] (hP 25 (dT hq20)::[])))))))) (cT (b:=true) rfl (sR [] (T.ret (rT ?_))))
  exact eRt 4 (Z2p) [] (cB (by (refine dF (fun h9=>?_);exact h9.2.2.2.1 ⟨(by exact nbB ‹_›),by assumption⟩))) trivial
 refine sR (Xl (hN · true (dF hq6)) [4,5,6,7] (hP 8 (dF hq6)::(Xl hY0 [10,11,12,13] (Xl (hY · (cn hq16)) [14,15,16,17] (hS 18 (oY (b:=false) rfl rfl rfl rfl (X8 rfl) rfl (Yq (b:=(!h.X7)) (av:=(Z2w m)) (X8 rfl) trivial (cn hq16)))::(hP0 19::(Xl (hY · (dF hq20)) [21,22,23,24] (hP 25 (dF hq20)::[])))))))) ?_
 by_cases hq21:((m.X7.length:Nat):Int)>8
 ·refine cT (dT hq21) (sR [] (T.ret (rT ?_)))
  exact eRt 4 (Z2p) [] (cB (by (refine dF (fun h9=>?_);exact absurd h9.2.2.2.2.1 (by omega)))) trivial
 refine cF (dF hq21) (T.skip (nT (T.seq (sR [] (T.block ?_)))))
 refine T.loop (ι:=Nat) (fun (k:Nat)=>(Z2s tm m h k)) (fun (k:Nat)=>(k≤m.X7.length)∧(∀ j,j<k→(m.X7.getD j zC).Yg.length≤7)) (fun (k:Nat)=>m.X7.length-k) (0) ⟨(Nat.zero_le _),(fun j hj=>absurd hj (Nat.not_lt_zero _))⟩ (fun _ _ hG=>Yc [0,1] (bm 53 4503599694500607) rfl rfl hG) ?_
 rintro k ⟨hk,hb⟩
 show T _ _ (Z2s tm m h k) _ _
 replace hk:k≤m.X7.length:=hk
 replace hb:∀ j,j<k→(m.X7.getD j zC).Yg.length≤7:=hb
 refine T.seq (sR [] ?_)
 by_cases hq22:((k:Nat):Int)<((m.X7.length:Nat):Int)
 ·refine cT (dT hq22) (T.skip (nT (T.seq (T.block (sR [hR 3 rfl rfl (Wc tm false (kC tm) m.X7 k (k:=.i64) (i:=((k:Nat):Int)) Try.underlying40 I3 rfl rfl (by omega) (X8 rfl) trivial)] ?_)))))
  by_cases hq23:(((m.X7.getD k zC).Yg.length:Nat):Int)>7
  ·refine cT (dT hq23) (sR [] (T.ret (rB (rT (rT (rB (rT ?_)))))))
   exact eRt 4 (Z2p) [] (cB (by (refine dF (fun h9=>?_);exact absurd h9.2.2.2.2.1 (by omega)))) trivial
  refine cF (dF hq23) (T.skip (nB (nT (xK [hR 1 rfl rfl (Y9 (u1:=.int .i64 ((k:Nat):Int)) (u2:=.int .i64 1) (v:=.int .i64 ((k+1:Nat):Int)) (W6 pZ5) (X8 rfl) ⟨rfl,trivial⟩)] ?_))))
  refine nL (k+1) ⟨(show (k+1)≤m.X7.length from (by omega)),(show ∀ j,j<(k+1)→(m.X7.getD j zC).Yg.length≤7 from (Jy hb (by omega)))⟩ (show (m.X7.length-(k+1):Nat)<m.X7.length-k from (by omega)) (fun _ _ hG=>Yc [0,1] (bm 53 4503599694500607) rfl rfl hG)
 refine cF (dF hq22) (T.exit (xT (xT (xH (nT (sR [] (T.ret ?_)))))))
 exact eRt 4 (Z2v) [] (cB (by (refine dT ⟨by omega,by omega,(fun h8=>by exact absurd h8.1 ‹_›),(fun h8=>by exact absurd h8.2 ‹_›),by omega,X02 hb (by omega)⟩))) trivial
theorem iat_42:Try.prog.info? 42=some Try.t42:=by kernel_rfl
theorem I2:Wide Try.prog 42 (some 12):=⟨_,_,Try.underlying42,.inl ⟨_,rfl⟩,iat_42,rfl⟩
section
variable (tm:Bool) (m:aM)
abbrev Z2x:AV:=.tv (.agg [dI m.X3,dI m.Xt,dI m.Xy,dI m.Xb,dI m.Xv,dS m.Xc,.d (dsl tm false kU8 m.Xk),dI m.X1.Xs,dI m.X1.Xo,.d (dsl tm false (kE tm) m.Xf),.d (dsl tm false (kE tm) m.Xr),.d (dsl tm false (kC tm) m.X7)])
abbrev Z2y:AV:=vB (Xh m.X3).Xt
abbrev Z2z:AV:=vI (Ez m.X3)
abbrev Z30:TV:=.one (dI 120)
abbrev Z31:AV:=.tv (.agg [dB (Xh m.X3).Xt,dB (Xh m.X3).Xy,dB (Xh m.X3).Xb,dB (Xh m.X3).Xc,dB (Xh m.X3).Xk,dB (Xh m.X3).X1,dB (Xh m.X3).Xf,dB (Xh m.X3).Xr,dB (Xh m.X3).X7])
abbrev Z32:TV:=.one (dI 0)
abbrev Z33:AV:=.tv (.agg [dI m.X1.Xs,dI m.X1.Xo])
abbrev Z34:AV:=.tv (.agg [dI 0,dI 0])
abbrev Z35:AV:=vB (decide (m.X1≠(Xd.mk 0 0)))
abbrev Z36:AV:=vB (decide (((m.Xk.length:Nat):Int)>0))
end
theorem X45 (tm:Bool) (m:aM) (hq:m.Xf.length≤9223372036854775807) (hr:m.Xr.length≤9223372036854775807) (hc:m.X7.length≤9223372036854775807) (hd:m.Xk.length≤9223372036854775807) (hg:m.Xc.length≤9223372036854775807):Holds Try.prog 38 ⟨[.tv (.agg [dI m.X3,dI m.Xt,dI m.Xy,dI m.Xb,dI m.Xv,dS m.Xc,.d (dsl tm false kU8 m.Xk),dI m.X1.Xs,dI m.X1.Xo,.d (dsl tm false (kE tm) m.Xf),.d (dsl tm false (kE tm) m.Xr),.d (dsl tm false (kC tm) m.X7)])],[],vI (X20 m),[]⟩:=by
 refine Holds.of Try.func38 rfl (N:=100) Try.ntmps38 rfl fun w0 B0 S0 U0=>?_
 show T _ (Xz 100 0 w0 S0 U0 B0) ⟨[(Z2x tm m)],[]⟩ _ _
 refine sR [] (sR [hR 2 rfl rfl (rCa (Fp m.X3 ) Try.func35 [] [(.tmp 9,vI m.X3)] 0 0)] (sR [hR 2 rfl rfl (rCa (X96 m.X3 ) Try.func62 [] [(.tmp 15,vI m.X3)] 0 0)] (T.seq ?_)))
 by_cases hq1:okK m.X3
 rotate_left
 ·refine sR (Xl (hN · false (cn (dF hq1))) [3,4,5,6,7,8,9] (hP 10 (cn (dF hq1))::(Xl hN0 [12,13,14,15,16,17,18] (hP1 19::(Xl hN0 [21,22,23,24,25,26] (hP1 27::(Xl hN0 [29,30,31,32,33,34] (hP1 35::[])))))))) (cT (b:=true) rfl (sR [] (T.ret (rT ?_))))
  exact eRt 2 (Z30) [] (cI (by exact if_neg (fun h9=>by obtain ⟨q1,q2,q3,q4,q5,q6,q7,q8,q9,q10⟩:=(Wg m).1 h9;exact absurd q1 ‹_›))) trivial
 by_cases hq2:Hh m.Xt (Xh m.X3).Xt (Ez m.X3)
 rotate_left
 ·refine sR (Xl (hY · (cn (dT hq1))) [3,4,5,6,7] (hS 8 (oY rfl rfl rfl rfl (X8 rfl) (cn (dT hq1)) (rCa (Vm m.Xt (Xh m.X3).Xt (Ez m.X3) ) Try.func63 [] [(.tmp 23,vI m.Xt),(.tmp 25,(Z2y m)),(.tmp 26,(Z2z m))] 0 0))::(hY 9 (cn (dT hq1))::(hP 10 (cn (dT hq1))::(Xl (hN · false (cn (dF hq2))) [12,13,14,15,16,17,18] (hP 19 (cn (dF hq2))::(Xl hN0 [21,22,23,24,25,26] (hP1 27::(Xl hN0 [29,30,31,32,33,34] (hP1 35::[])))))))))) (cT (b:=true) rfl (sR [] (T.ret (rT ?_))))
  exact eRt 2 (Z30) [] (cI (by exact if_neg (fun h9=>by obtain ⟨q1,q2,q3,q4,q5,q6,q7,q8,q9,q10⟩:=(Wg m).1 h9;exact absurd q2 ‹_›))) trivial
 by_cases hq3:Hh m.Xy (Xh m.X3).Xy (Ea m.X3)
 rotate_left
 ·refine sR (Xl (hY · (cn (dT hq1))) [3,4,5,6,7] (hS 8 (oY rfl rfl rfl rfl (X8 rfl) (cn (dT hq1)) (rCa (Vm m.Xt (Xh m.X3).Xt (Ez m.X3) ) Try.func63 [] [(.tmp 23,vI m.Xt),(.tmp 25,(Z2y m)),(.tmp 26,(Z2z m))] 0 0))::(hY 9 (cn (dT hq1))::(hP 10 (cn (dT hq1))::(Xl (hY · (cn (dT hq2))) [12,13,14,15,16] (hS 17 (oY rfl rfl rfl rfl (X8 rfl) (cn (dT hq2)) (rCa (Vm m.Xy (Xh m.X3).Xy (Ea m.X3) ) Try.func63 [] [(.tmp 32,vI m.Xy),(.tmp 34,vB (Xh m.X3).Xy),(.tmp 35,vI (Ea m.X3))] 0 0))::(hY 18 (cn (dT hq2))::(hP 19 (cn (dT hq2))::(Xl (hN · false (cn (dF hq3))) [21,22,23,24,25,26] (hP 27 (cn (dF hq3))::(Xl hN0 [29,30,31,32,33,34] (hP1 35::[])))))))))))) (cT (b:=true) rfl (sR [] (T.ret (rT ?_))))
  exact eRt 2 (Z30) [] (cI (by exact if_neg (fun h9=>by obtain ⟨q1,q2,q3,q4,q5,q6,q7,q8,q9,q10⟩:=(Wg m).1 h9;exact absurd q3 ‹_›))) trivial
 by_cases hq4:Hh m.Xb (Xh m.X3).Xb 0
 rotate_left
 ·refine sR (Xl (hY · (cn (dT hq1))) [3,4,5,6,7] (hS 8 (oY rfl rfl rfl rfl (X8 rfl) (cn (dT hq1)) (rCa (Vm m.Xt (Xh m.X3).Xt (Ez m.X3) ) Try.func63 [] [(.tmp 23,vI m.Xt),(.tmp 25,(Z2y m)),(.tmp 26,(Z2z m))] 0 0))::(hY 9 (cn (dT hq1))::(hP 10 (cn (dT hq1))::(Xl (hY · (cn (dT hq2))) [12,13,14,15,16] (hS 17 (oY rfl rfl rfl rfl (X8 rfl) (cn (dT hq2)) (rCa (Vm m.Xy (Xh m.X3).Xy (Ea m.X3) ) Try.func63 [] [(.tmp 32,vI m.Xy),(.tmp 34,vB (Xh m.X3).Xy),(.tmp 35,vI (Ea m.X3))] 0 0))::(hY 18 (cn (dT hq2))::(hP 19 (cn (dT hq2))::(Xl (hY · (cn (dT hq3))) [21,22,23,24] (hS 25 (oY rfl rfl rfl rfl (X8 rfl) (cn (dT hq3)) (rCa (Vm m.Xb (Xh m.X3).Xb 0 ) Try.func63 [] [(.tmp 41,vI m.Xb),(.tmp 43,vB (Xh m.X3).Xb),(.const (.int .i64 0),vI 0)] 0 0))::(hY 26 (cn (dT hq3))::(hP 27 (cn (dT hq3))::(Xl (hN · false (cn (dF hq4))) [29,30,31,32,33,34] (hP 35 (cn (dF hq4))::[])))))))))))))) ?_
  refine cT (b:=true) rfl (sR [] (T.ret (rT ?_)))
  exact eRt 2 (Z30) [] (cI (by exact if_neg (fun h9=>by obtain ⟨q1,q2,q3,q4,q5,q6,q7,q8,q9,q10⟩:=(Wg m).1 h9;exact absurd q4 ‹_›))) trivial
 refine sR (Xl (hY · (cn (dT hq1))) [3,4,5,6,7] (hS 8 (oY rfl rfl rfl rfl (X8 rfl) (cn (dT hq1)) (rCa (Vm m.Xt (Xh m.X3).Xt (Ez m.X3) ) Try.func63 [] [(.tmp 23,vI m.Xt),(.tmp 25,(Z2y m)),(.tmp 26,(Z2z m))] 0 0))::(hY 9 (cn (dT hq1))::(hP 10 (cn (dT hq1))::(Xl (hY · (cn (dT hq2))) [12,13,14,15,16] (hS 17 (oY rfl rfl rfl rfl (X8 rfl) (cn (dT hq2)) (rCa (Vm m.Xy (Xh m.X3).Xy (Ea m.X3) ) Try.func63 [] [(.tmp 32,vI m.Xy),(.tmp 34,vB (Xh m.X3).Xy),(.tmp 35,vI (Ea m.X3))] 0 0))::(hY 18 (cn (dT hq2))::(hP 19 (cn (dT hq2))::(Xl (hY · (cn (dT hq3))) [21,22,23,24] (hS 25 (oY rfl rfl rfl rfl (X8 rfl) (cn (dT hq3)) (rCa (Vm m.Xb (Xh m.X3).Xb 0 ) Try.func63 [] [(.tmp 41,vI m.Xb),(.tmp 43,vB (Xh m.X3).Xb),(.const (.int .i64 0),vI 0)] 0 0))::(hY 26 (cn (dT hq3))::(hP 27 (cn (dT hq3))::(Xl (hY · (cn (dT hq4))) [29,30,31,32] (hS 33 (oY rfl rfl rfl rfl (X8 rfl) (cn (dT hq4)) (rCa (Vm m.Xv (Xh m.X3).Xb 1 ) Try.func63 [] [(.tmp 49,vI m.Xv),(.tmp 51,vB (Xh m.X3).Xb),(.const (.int .i64 1),vI 1)] 0 0))::(hY 34 (cn (dT hq4))::(hP 35 (cn (dT hq4))::[])))))))))))))))) ?_
 by_cases hq5:Hh m.Xv (Xh m.X3).Xb 1
 rotate_left
 ·refine cT (cn (dF hq5)) (sR [] (T.ret (rT ?_)))
  exact eRt 2 (Z30) [] (cI (by exact if_neg (fun h9=>by obtain ⟨q1,q2,q3,q4,q5,q6,q7,q8,q9,q10⟩:=(Wg m).1 h9;exact absurd q5 ‹_›))) trivial
 refine cF (cn (dT hq5)) (T.skip (nT (T.seq ?_)))
 by_cases hq6:m.X3=1
 ·refine sR (Xl (hY · (dT hq6)) [4,5,6,7] (hP 8 (dT hq6)::[])) ?_
  by_cases hq7:((m.Xk.length:Nat):Int)>4096
  ·refine cT (dT hq7) (sR [] (T.ret (rT ?_)))
   exact eRt 2 (Z30) [] (cI (by exact if_neg (fun h9=>by obtain ⟨q1,q2,q3,q4,q5,q6,q7,q8,q9,q10⟩:=(Wg m).1 h9;exact q6 ⟨by assumption,by assumption⟩))) trivial
  refine cF (dF hq7) (T.skip (nT (T.seq ?_)))
  by_cases hq8:(Xh m.X3).Xc=true
  ·by_cases hq9:(Xh m.X3).Xk=true
   ·by_cases hq10:(Xh m.X3).X1=true
    ·refine sR (Xl (hN · true (cn hq8)) [4,5,6] (hP 7 (cn hq8)::(Xl hY0 [9,10,11,12] (Xl (hN · true (cn hq9)) [13,14,15,16] (hS 17 (oY (b:=false) rfl rfl rfl rfl (X8 rfl) rfl (Yz (b:=(!(Xh m.X3).Xk)) (av:=vB false) (X8 rfl) ⟨rfl,trivial⟩ (cn hq9)))::(hP0 18::(Xl hY0 [20,21,22,23] (Xl (hN · true (cn hq10)) [24,25,26,27] (hS 28 (oY (b:=false) rfl rfl rfl rfl (X8 rfl) rfl (Yz (b:=(!(Xh m.X3).X1)) (av:=vB false) (X8 rfl) ⟨rfl,trivial⟩ (cn hq10)))::(hP0 29::(hY0 31::(hY0 32::(hS 33 (oY (b:=false) rfl rfl rfl rfl (X8 rfl) rfl (rCa (Wi tm m (aH.mk (Xh m.X3).Xt (Xh m.X3).Xy (Xh m.X3).Xb (Xh m.X3).Xc (Xh m.X3).Xk (Xh m.X3).X1 (Xh m.X3).Xf (Xh m.X3).Xr (Xh m.X3).X7) ‹_› ‹_› ‹_›) Try.func64 [] [(.tmp 95,(Z2x tm m)),(.tmp 96,(Z31 m))] 0 0))::(hY0 34::(hP0 35::[]))))))))))))))) ?_
     by_cases hq11:Fd m (aH.mk (Xh m.X3).Xt (Xh m.X3).Xy (Xh m.X3).Xb (Xh m.X3).Xc (Xh m.X3).Xk (Xh m.X3).X1 (Xh m.X3).Xf (Xh m.X3).Xr (Xh m.X3).X7)
     ·refine cF (cn (dT hq11)) (T.skip (nT (sR [] (T.ret ?_))))
      exact eRt 2 (Z32) [] (cI (by exact if_pos ((Wg m).2 ⟨‹_›,‹_›,‹_›,‹_›,‹_›,(fun h8=>by exact absurd h8.2 ‹_›),(fun h8=>by exact absurd ‹_› h8.1),(fun h8=>by exact absurd ‹_› h8.1),(fun h8=>by exact absurd ‹_› h8.1),‹_›⟩))) trivial
     refine cT (cn (dF hq11)) (sR [] (T.ret (rT ?_)))
     exact eRt 2 (Z30) [] pa trivial
    replace hq10:=Bool.eq_false_iff.2 hq10
    by_cases hq12:m.X1≠(Xd.mk 0 0)
    ·refine sR (Xl (hN · true (cn hq8)) [4,5,6] (hP 7 (cn hq8)::(Xl hY0 [9,10,11,12] (Xl (hN · true (cn hq9)) [13,14,15,16] (hS 17 (oY (b:=false) rfl rfl rfl rfl (X8 rfl) rfl (Yz (b:=(!(Xh m.X3).Xk)) (av:=vB false) (X8 rfl) ⟨rfl,trivial⟩ (cn hq9)))::(hP0 18::(Xl hY0 [20,21,22,23] (Xl (hY · (cn hq10)) [24,25,26] (hS 27 (oY rfl rfl rfl rfl (X8 rfl) (cn hq10) (Ji (ax:=(Z33 m)) (ay:=Z34) (a:=m.X1) (b:=(Xd.mk 0 0)) Ui ⟨[.int .i64 m.X1.Xs,.int .i64 m.X1.Xo],rfl,rfl⟩ ⟨[.int .i64 0,.int .i64 0],rfl,rfl⟩ (X8 rfl) p1n))::(hS 28 (oY (b:=false) rfl rfl rfl rfl (X8 rfl) rfl (Yq (b:=(!(Xh m.X3).X1)) (av:=(Z35 m)) (X8 rfl) trivial (cn hq10)))::(hP0 29::(Xl (hN · false (dT hq12)) [31,32,33,34] (hP 35 (dT hq12)::[]))))))))))))) ?_
     refine cT (b:=true) rfl (sR [] (T.ret (rT ?_)))
     exact eRt 2 (Z30) [] pg trivial
    refine sR (Xl (hN · true (cn hq8)) [4,5,6] (hP 7 (cn hq8)::(Xl hY0 [9,10,11,12] (Xl (hN · true (cn hq9)) [13,14,15,16] (hS 17 (oY (b:=false) rfl rfl rfl rfl (X8 rfl) rfl (Yz (b:=(!(Xh m.X3).Xk)) (av:=vB false) (X8 rfl) ⟨rfl,trivial⟩ (cn hq9)))::(hP0 18::(Xl hY0 [20,21,22,23] (Xl (hY · (cn hq10)) [24,25,26] (hS 27 (oY rfl rfl rfl rfl (X8 rfl) (cn hq10) (Ji (ax:=(Z33 m)) (ay:=Z34) (a:=m.X1) (b:=(Xd.mk 0 0)) Ui ⟨[.int .i64 m.X1.Xs,.int .i64 m.X1.Xo],rfl,rfl⟩ ⟨[.int .i64 0,.int .i64 0],rfl,rfl⟩ (X8 rfl) p1n))::(hS 28 (oY (b:=false) rfl rfl rfl rfl (X8 rfl) rfl (Yq (b:=(!(Xh m.X3).X1)) (av:=(Z35 m)) (X8 rfl) trivial (cn hq10)))::(hP0 29::(hY 31 (dF hq12)::(hY 32 (dF hq12)::(hS 33 (oY rfl rfl rfl rfl (X8 rfl) (dF hq12) (rCa (Wi tm m (aH.mk (Xh m.X3).Xt (Xh m.X3).Xy (Xh m.X3).Xb (Xh m.X3).Xc (Xh m.X3).Xk (Xh m.X3).X1 (Xh m.X3).Xf (Xh m.X3).Xr (Xh m.X3).X7) ‹_› ‹_› ‹_›) Try.func64 [] [(.tmp 95,(Z2x tm m)),(.tmp 96,(Z31 m))] 0 0))::(hY 34 (dF hq12)::(hP 35 (dF hq12)::[])))))))))))))))) ?_
    by_cases hq13:Fd m (aH.mk (Xh m.X3).Xt (Xh m.X3).Xy (Xh m.X3).Xb (Xh m.X3).Xc (Xh m.X3).Xk (Xh m.X3).X1 (Xh m.X3).Xf (Xh m.X3).Xr (Xh m.X3).X7)
    ·refine cF (cn (dT hq13)) (T.skip (nT (sR [] (T.ret ?_))))
     exact eRt 2 (Z32) [] (cI (by exact if_pos ((Wg m).2 ⟨‹_›,‹_›,‹_›,‹_›,‹_›,(fun h8=>by exact absurd h8.2 ‹_›),(fun h8=>by exact absurd ‹_› h8.1),(fun h8=>by exact absurd ‹_› h8.1),(fun h8=>by exact absurd h8.2 ‹_›),‹_›⟩))) trivial
    refine cT (cn (dF hq13)) (sR [] (T.ret (rT ?_)))
    exact eRt 2 (Z30) [] pa trivial
   replace hq9:=Bool.eq_false_iff.2 hq9
   by_cases hq14:((m.Xk.length:Nat):Int)>0
   ·refine sR (Xl (hN · true (cn hq8)) [4,5,6] (hP 7 (cn hq8)::(Xl hY0 [9,10,11,12] (Xl (hY · (cn hq9)) [13,14,15,16] (hS 17 (oY (b:=false) rfl rfl rfl rfl (X8 rfl) rfl (Yq (b:=(!(Xh m.X3).Xk)) (av:=(Z36 m)) (X8 rfl) trivial (cn hq9)))::(hP0 18::(Xl (hN · false (dT hq14)) [20,21,22,23] (hU 24::(hU 25::(hU 26::(hU 27::(hN 28 false (dT hq14)::(hP 29 (dT hq14)::(Xl hN0 [31,32,33,34] (hP1 35::[]))))))))))))))) (cT (b:=true) rfl (sR [] (T.ret (rT ?_))))
    exact eRt 2 (Z30) [] p1d trivial
   by_cases hq15:(Xh m.X3).X1=true
   ·refine sR (Xl (hN · true (cn hq8)) [4,5,6] (hP 7 (cn hq8)::(Xl hY0 [9,10,11,12] (Xl (hY · (cn hq9)) [13,14,15,16] (hS 17 (oY (b:=false) rfl rfl rfl rfl (X8 rfl) rfl (Yq (b:=(!(Xh m.X3).Xk)) (av:=(Z36 m)) (X8 rfl) trivial (cn hq9)))::(hP0 18::(Xl (hY · (dF hq14)) [20,21,22,23] (Xl (hN · true (cn hq15)) [24,25,26,27] (hS 28 (oY rfl rfl rfl rfl (X8 rfl) (dF hq14) (Yz (b:=(!(Xh m.X3).X1)) (av:=vB false) (X8 rfl) ⟨rfl,trivial⟩ (cn hq15)))::(hP 29 (dF hq14)::(hY0 31::(hY0 32::(hS 33 (oY (b:=false) rfl rfl rfl rfl (X8 rfl) rfl (rCa (Wi tm m (aH.mk (Xh m.X3).Xt (Xh m.X3).Xy (Xh m.X3).Xb (Xh m.X3).Xc (Xh m.X3).Xk (Xh m.X3).X1 (Xh m.X3).Xf (Xh m.X3).Xr (Xh m.X3).X7) ‹_› ‹_› ‹_›) Try.func64 [] [(.tmp 95,(Z2x tm m)),(.tmp 96,(Z31 m))] 0 0))::(hY0 34::(hP0 35::[]))))))))))))))) ?_
    by_cases hq16:Fd m (aH.mk (Xh m.X3).Xt (Xh m.X3).Xy (Xh m.X3).Xb (Xh m.X3).Xc (Xh m.X3).Xk (Xh m.X3).X1 (Xh m.X3).Xf (Xh m.X3).Xr (Xh m.X3).X7)
    ·refine cF (cn (dT hq16)) (T.skip (nT (sR [] (T.ret ?_))))
     exact eRt 2 (Z32) [] (cI (by exact if_pos ((Wg m).2 ⟨‹_›,‹_›,‹_›,‹_›,‹_›,(fun h8=>by exact absurd h8.2 ‹_›),(fun h8=>by exact absurd ‹_› h8.1),(fun h8=>by exact absurd h8.2 ‹_›),(fun h8=>by exact absurd ‹_› h8.1),‹_›⟩))) trivial
    refine cT (cn (dF hq16)) (sR [] (T.ret (rT ?_)))
    exact eRt 2 (Z30) [] pa trivial
   replace hq15:=Bool.eq_false_iff.2 hq15
   by_cases hq17:m.X1≠(Xd.mk 0 0)
   ·refine sR (Xl (hN · true (cn hq8)) [4,5,6] (hP 7 (cn hq8)::(Xl hY0 [9,10,11,12] (Xl (hY · (cn hq9)) [13,14,15,16] (hS 17 (oY (b:=false) rfl rfl rfl rfl (X8 rfl) rfl (Yq (b:=(!(Xh m.X3).Xk)) (av:=(Z36 m)) (X8 rfl) trivial (cn hq9)))::(hP0 18::(Xl (hY · (dF hq14)) [20,21,22,23] (Xl (hY · (cn hq15)) [24,25,26] (hS 27 (oY rfl rfl rfl rfl (X8 rfl) (cn hq15) (Ji (ax:=(Z33 m)) (ay:=Z34) (a:=m.X1) (b:=(Xd.mk 0 0)) Ui ⟨[.int .i64 m.X1.Xs,.int .i64 m.X1.Xo],rfl,rfl⟩ ⟨[.int .i64 0,.int .i64 0],rfl,rfl⟩ (X8 rfl) p1n))::(hS 28 (oY rfl rfl rfl rfl (X8 rfl) (dF hq14) (Yq (b:=(!(Xh m.X3).X1)) (av:=(Z35 m)) (X8 rfl) trivial (cn hq15)))::(hP 29 (dF hq14)::(Xl (hN · false (dT hq17)) [31,32,33,34] (hP 35 (dT hq17)::[]))))))))))))) ?_
    refine cT (b:=true) rfl (sR [] (T.ret (rT ?_)))
    exact eRt 2 (Z30) [] pg trivial
   refine sR (Xl (hN · true (cn hq8)) [4,5,6] (hP 7 (cn hq8)::(Xl hY0 [9,10,11,12] (Xl (hY · (cn hq9)) [13,14,15,16] (hS 17 (oY (b:=false) rfl rfl rfl rfl (X8 rfl) rfl (Yq (b:=(!(Xh m.X3).Xk)) (av:=(Z36 m)) (X8 rfl) trivial (cn hq9)))::(hP0 18::(Xl (hY · (dF hq14)) [20,21,22,23] (Xl (hY · (cn hq15)) [24,25,26] (hS 27 (oY rfl rfl rfl rfl (X8 rfl) (cn hq15) (Ji (ax:=(Z33 m)) (ay:=Z34) (a:=m.X1) (b:=(Xd.mk 0 0)) Ui ⟨[.int .i64 m.X1.Xs,.int .i64 m.X1.Xo],rfl,rfl⟩ ⟨[.int .i64 0,.int .i64 0],rfl,rfl⟩ (X8 rfl) p1n))::(hS 28 (oY rfl rfl rfl rfl (X8 rfl) (dF hq14) (Yq (b:=(!(Xh m.X3).X1)) (av:=(Z35 m)) (X8 rfl) trivial (cn hq15)))::(hP 29 (dF hq14)::(hY 31 (dF hq17)::(hY 32 (dF hq17)::(hS 33 (oY rfl rfl rfl rfl (X8 rfl) (dF hq17) (rCa (Wi tm m (aH.mk (Xh m.X3).Xt (Xh m.X3).Xy (Xh m.X3).Xb (Xh m.X3).Xc (Xh m.X3).Xk (Xh m.X3).X1 (Xh m.X3).Xf (Xh m.X3).Xr (Xh m.X3).X7) ‹_› ‹_› ‹_›) Try.func64 [] [(.tmp 95,(Z2x tm m)),(.tmp 96,(Z31 m))] 0 0))::(hY 34 (dF hq17)::(hP 35 (dF hq17)::[])))))))))))))))) ?_
   by_cases hq18:Fd m (aH.mk (Xh m.X3).Xt (Xh m.X3).Xy (Xh m.X3).Xb (Xh m.X3).Xc (Xh m.X3).Xk (Xh m.X3).X1 (Xh m.X3).Xf (Xh m.X3).Xr (Xh m.X3).X7)
   ·refine cF (cn (dT hq18)) (T.skip (nT (sR [] (T.ret ?_))))
    exact eRt 2 (Z32) [] (cI (by exact if_pos ((Wg m).2 ⟨‹_›,‹_›,‹_›,‹_›,‹_›,(fun h8=>by exact absurd h8.2 ‹_›),(fun h8=>by exact absurd ‹_› h8.1),(fun h8=>by exact absurd h8.2 ‹_›),(fun h8=>by exact absurd h8.2 ‹_›),‹_›⟩))) trivial
   refine cT (cn (dF hq18)) (sR [] (T.ret (rT ?_)))
   exact eRt 2 (Z30) [] pa trivial
  replace hq8:=Bool.eq_false_iff.2 hq8
  by_cases hq19:m.Xc≠[]
  ·refine sR (Xl (hY · (cn hq8)) [4,5,6] (hP 7 (cn hq8)::(Xl (hN · false (dT hq19)) [9,10,11,12] (hU 13::(hU 14::(hU 15::(hU 16::(hN 17 false (dT hq19)::(hP 18 (dT hq19)::(Xl hN0 [20,21,22,23] (hU 24::(hU 25::(hU 26::(hU 27::(hN0 28::(hP1 29::(Xl hN0 [31,32,33,34] (hP1 35::[])))))))))))))))))) (cT (b:=true) rfl (sR [] (T.ret (rT ?_))))
   exact eRt 2 (Z30) [] p36 trivial
  by_cases hq20:(Xh m.X3).Xk=true
  ·by_cases hq21:(Xh m.X3).X1=true
   ·refine sR (Xl (hY · (cn hq8)) [4,5,6] (hP 7 (cn hq8)::(Xl (hY · (dF hq19)) [9,10,11,12] (Xl (hN · true (cn hq20)) [13,14,15,16] (hS 17 (oY rfl rfl rfl rfl (X8 rfl) (dF hq19) (Yz (b:=(!(Xh m.X3).Xk)) (av:=vB false) (X8 rfl) ⟨rfl,trivial⟩ (cn hq20)))::(hP 18 (dF hq19)::(Xl hY0 [20,21,22,23] (Xl (hN · true (cn hq21)) [24,25,26,27] (hS 28 (oY (b:=false) rfl rfl rfl rfl (X8 rfl) rfl (Yz (b:=(!(Xh m.X3).X1)) (av:=vB false) (X8 rfl) ⟨rfl,trivial⟩ (cn hq21)))::(hP0 29::(hY0 31::(hY0 32::(hS 33 (oY (b:=false) rfl rfl rfl rfl (X8 rfl) rfl (rCa (Wi tm m (aH.mk (Xh m.X3).Xt (Xh m.X3).Xy (Xh m.X3).Xb (Xh m.X3).Xc (Xh m.X3).Xk (Xh m.X3).X1 (Xh m.X3).Xf (Xh m.X3).Xr (Xh m.X3).X7) ‹_› ‹_› ‹_›) Try.func64 [] [(.tmp 95,(Z2x tm m)),(.tmp 96,(Z31 m))] 0 0))::(hY0 34::(hP0 35::[]))))))))))))))) ?_
    by_cases hq22:Fd m (aH.mk (Xh m.X3).Xt (Xh m.X3).Xy (Xh m.X3).Xb (Xh m.X3).Xc (Xh m.X3).Xk (Xh m.X3).X1 (Xh m.X3).Xf (Xh m.X3).Xr (Xh m.X3).X7)
    ·refine cF (cn (dT hq22)) (T.skip (nT (sR [] (T.ret ?_))))
     exact eRt 2 (Z32) [] (cI (by exact if_pos ((Wg m).2 ⟨‹_›,‹_›,‹_›,‹_›,‹_›,(fun h8=>by exact absurd h8.2 ‹_›),(fun h8=>by exact absurd h8.2 ‹_›),(fun h8=>by exact absurd ‹_› h8.1),(fun h8=>by exact absurd ‹_› h8.1),‹_›⟩))) trivial
    refine cT (cn (dF hq22)) (sR [] (T.ret (rT ?_)))
    exact eRt 2 (Z30) [] pa trivial
   replace hq21:=Bool.eq_false_iff.2 hq21
   by_cases hq23:m.X1≠(Xd.mk 0 0)
   ·refine sR (Xl (hY · (cn hq8)) [4,5,6] (hP 7 (cn hq8)::(Xl (hY · (dF hq19)) [9,10,11,12] (Xl (hN · true (cn hq20)) [13,14,15,16] (hS 17 (oY rfl rfl rfl rfl (X8 rfl) (dF hq19) (Yz (b:=(!(Xh m.X3).Xk)) (av:=vB false) (X8 rfl) ⟨rfl,trivial⟩ (cn hq20)))::(hP 18 (dF hq19)::(Xl hY0 [20,21,22,23] (Xl (hY · (cn hq21)) [24,25,26] (hS 27 (oY rfl rfl rfl rfl (X8 rfl) (cn hq21) (Ji (ax:=(Z33 m)) (ay:=Z34) (a:=m.X1) (b:=(Xd.mk 0 0)) Ui ⟨[.int .i64 m.X1.Xs,.int .i64 m.X1.Xo],rfl,rfl⟩ ⟨[.int .i64 0,.int .i64 0],rfl,rfl⟩ (X8 rfl) p1n))::(hS 28 (oY (b:=false) rfl rfl rfl rfl (X8 rfl) rfl (Yq (b:=(!(Xh m.X3).X1)) (av:=(Z35 m)) (X8 rfl) trivial (cn hq21)))::(hP0 29::(Xl (hN · false (dT hq23)) [31,32,33,34] (hP 35 (dT hq23)::[]))))))))))))) ?_
    refine cT (b:=true) rfl (sR [] (T.ret (rT ?_)))
    exact eRt 2 (Z30) [] pg trivial
   refine sR (Xl (hY · (cn hq8)) [4,5,6] (hP 7 (cn hq8)::(Xl (hY · (dF hq19)) [9,10,11,12] (Xl (hN · true (cn hq20)) [13,14,15,16] (hS 17 (oY rfl rfl rfl rfl (X8 rfl) (dF hq19) (Yz (b:=(!(Xh m.X3).Xk)) (av:=vB false) (X8 rfl) ⟨rfl,trivial⟩ (cn hq20)))::(hP 18 (dF hq19)::(Xl hY0 [20,21,22,23] (Xl (hY · (cn hq21)) [24,25,26] (hS 27 (oY rfl rfl rfl rfl (X8 rfl) (cn hq21) (Ji (ax:=(Z33 m)) (ay:=Z34) (a:=m.X1) (b:=(Xd.mk 0 0)) Ui ⟨[.int .i64 m.X1.Xs,.int .i64 m.X1.Xo],rfl,rfl⟩ ⟨[.int .i64 0,.int .i64 0],rfl,rfl⟩ (X8 rfl) p1n))::(hS 28 (oY (b:=false) rfl rfl rfl rfl (X8 rfl) rfl (Yq (b:=(!(Xh m.X3).X1)) (av:=(Z35 m)) (X8 rfl) trivial (cn hq21)))::(hP0 29::(hY 31 (dF hq23)::(hY 32 (dF hq23)::(hS 33 (oY rfl rfl rfl rfl (X8 rfl) (dF hq23) (rCa (Wi tm m (aH.mk (Xh m.X3).Xt (Xh m.X3).Xy (Xh m.X3).Xb (Xh m.X3).Xc (Xh m.X3).Xk (Xh m.X3).X1 (Xh m.X3).Xf (Xh m.X3).Xr (Xh m.X3).X7) ‹_› ‹_› ‹_›) Try.func64 [] [(.tmp 95,(Z2x tm m)),(.tmp 96,(Z31 m))] 0 0))::(hY 34 (dF hq23)::(hP 35 (dF hq23)::[])))))))))))))))) ?_
   by_cases hq24:Fd m (aH.mk (Xh m.X3).Xt (Xh m.X3).Xy (Xh m.X3).Xb (Xh m.X3).Xc (Xh m.X3).Xk (Xh m.X3).X1 (Xh m.X3).Xf (Xh m.X3).Xr (Xh m.X3).X7)
   ·refine cF (cn (dT hq24)) (T.skip (nT (sR [] (T.ret ?_))))
    exact eRt 2 (Z32) [] (cI (by exact if_pos ((Wg m).2 ⟨‹_›,‹_›,‹_›,‹_›,‹_›,(fun h8=>by exact absurd h8.2 ‹_›),(fun h8=>by exact absurd h8.2 ‹_›),(fun h8=>by exact absurd ‹_› h8.1),(fun h8=>by exact absurd h8.2 ‹_›),‹_›⟩))) trivial
   refine cT (cn (dF hq24)) (sR [] (T.ret (rT ?_)))
   exact eRt 2 (Z30) [] pa trivial
  replace hq20:=Bool.eq_false_iff.2 hq20
  by_cases hq25:((m.Xk.length:Nat):Int)>0
  ·refine sR (Xl (hY · (cn hq8)) [4,5,6] (hP 7 (cn hq8)::(Xl (hY · (dF hq19)) [9,10,11,12] (Xl (hY · (cn hq20)) [13,14,15,16] (hS 17 (oY rfl rfl rfl rfl (X8 rfl) (dF hq19) (Yq (b:=(!(Xh m.X3).Xk)) (av:=(Z36 m)) (X8 rfl) trivial (cn hq20)))::(hP 18 (dF hq19)::(Xl (hN · false (dT hq25)) [20,21,22,23] (hU 24::(hU 25::(hU 26::(hU 27::(hN 28 false (dT hq25)::(hP 29 (dT hq25)::(Xl hN0 [31,32,33,34] (hP1 35::[]))))))))))))))) (cT (b:=true) rfl (sR [] (T.ret (rT ?_))))
   exact eRt 2 (Z30) [] p1d trivial
  by_cases hq26:(Xh m.X3).X1=true
  ·refine sR (Xl (hY · (cn hq8)) [4,5,6] (hP 7 (cn hq8)::(Xl (hY · (dF hq19)) [9,10,11,12] (Xl (hY · (cn hq20)) [13,14,15,16] (hS 17 (oY rfl rfl rfl rfl (X8 rfl) (dF hq19) (Yq (b:=(!(Xh m.X3).Xk)) (av:=(Z36 m)) (X8 rfl) trivial (cn hq20)))::(hP 18 (dF hq19)::(Xl (hY · (dF hq25)) [20,21,22,23] (Xl (hN · true (cn hq26)) [24,25,26,27] (hS 28 (oY rfl rfl rfl rfl (X8 rfl) (dF hq25) (Yz (b:=(!(Xh m.X3).X1)) (av:=vB false) (X8 rfl) ⟨rfl,trivial⟩ (cn hq26)))::(hP 29 (dF hq25)::(hY0 31::(hY0 32::(hS 33 (oY (b:=false) rfl rfl rfl rfl (X8 rfl) rfl (rCa (Wi tm m (aH.mk (Xh m.X3).Xt (Xh m.X3).Xy (Xh m.X3).Xb (Xh m.X3).Xc (Xh m.X3).Xk (Xh m.X3).X1 (Xh m.X3).Xf (Xh m.X3).Xr (Xh m.X3).X7) ‹_› ‹_› ‹_›) Try.func64 [] [(.tmp 95,(Z2x tm m)),(.tmp 96,(Z31 m))] 0 0))::(hY0 34::(hP0 35::[]))))))))))))))) ?_
   by_cases hq27:Fd m (aH.mk (Xh m.X3).Xt (Xh m.X3).Xy (Xh m.X3).Xb (Xh m.X3).Xc (Xh m.X3).Xk (Xh m.X3).X1 (Xh m.X3).Xf (Xh m.X3).Xr (Xh m.X3).X7)
   ·refine cF (cn (dT hq27)) (T.skip (nT (sR [] (T.ret ?_))))
    exact eRt 2 (Z32) [] (cI (by exact if_pos ((Wg m).2 ⟨‹_›,‹_›,‹_›,‹_›,‹_›,(fun h8=>by exact absurd h8.2 ‹_›),(fun h8=>by exact absurd h8.2 ‹_›),(fun h8=>by exact absurd h8.2 ‹_›),(fun h8=>by exact absurd ‹_› h8.1),‹_›⟩))) trivial
   refine cT (cn (dF hq27)) (sR [] (T.ret (rT ?_)))
   exact eRt 2 (Z30) [] pa trivial
  replace hq26:=Bool.eq_false_iff.2 hq26
  by_cases hq28:m.X1≠(Xd.mk 0 0)
  ·refine sR (Xl (hY · (cn hq8)) [4,5,6] (hP 7 (cn hq8)::(Xl (hY · (dF hq19)) [9,10,11,12] (Xl (hY · (cn hq20)) [13,14,15,16] (hS 17 (oY rfl rfl rfl rfl (X8 rfl) (dF hq19) (Yq (b:=(!(Xh m.X3).Xk)) (av:=(Z36 m)) (X8 rfl) trivial (cn hq20)))::(hP 18 (dF hq19)::(Xl (hY · (dF hq25)) [20,21,22,23] (Xl (hY · (cn hq26)) [24,25,26] (hS 27 (oY rfl rfl rfl rfl (X8 rfl) (cn hq26) (Ji (ax:=(Z33 m)) (ay:=Z34) (a:=m.X1) (b:=(Xd.mk 0 0)) Ui ⟨[.int .i64 m.X1.Xs,.int .i64 m.X1.Xo],rfl,rfl⟩ ⟨[.int .i64 0,.int .i64 0],rfl,rfl⟩ (X8 rfl) p1n))::(hS 28 (oY rfl rfl rfl rfl (X8 rfl) (dF hq25) (Yq (b:=(!(Xh m.X3).X1)) (av:=(Z35 m)) (X8 rfl) trivial (cn hq26)))::(hP 29 (dF hq25)::(Xl (hN · false (dT hq28)) [31,32,33,34] (hP 35 (dT hq28)::[]))))))))))))) ?_
   refine cT (b:=true) rfl (sR [] (T.ret (rT ?_)))
   exact eRt 2 (Z30) [] pg trivial
  refine sR (Xl (hY · (cn hq8)) [4,5,6] (hP 7 (cn hq8)::(Xl (hY · (dF hq19)) [9,10,11,12] (Xl (hY · (cn hq20)) [13,14,15,16] (hS 17 (oY rfl rfl rfl rfl (X8 rfl) (dF hq19) (Yq (b:=(!(Xh m.X3).Xk)) (av:=(Z36 m)) (X8 rfl) trivial (cn hq20)))::(hP 18 (dF hq19)::(Xl (hY · (dF hq25)) [20,21,22,23] (Xl (hY · (cn hq26)) [24,25,26] (hS 27 (oY rfl rfl rfl rfl (X8 rfl) (cn hq26) (Ji (ax:=(Z33 m)) (ay:=Z34) (a:=m.X1) (b:=(Xd.mk 0 0)) Ui ⟨[.int .i64 m.X1.Xs,.int .i64 m.X1.Xo],rfl,rfl⟩ ⟨[.int .i64 0,.int .i64 0],rfl,rfl⟩ (X8 rfl) p1n))::(hS 28 (oY rfl rfl rfl rfl (X8 rfl) (dF hq25) (Yq (b:=(!(Xh m.X3).X1)) (av:=(Z35 m)) (X8 rfl) trivial (cn hq26)))::(hP 29 (dF hq25)::(hY 31 (dF hq28)::(hY 32 (dF hq28)::(hS 33 (oY rfl rfl rfl rfl (X8 rfl) (dF hq28) (rCa (Wi tm m (aH.mk (Xh m.X3).Xt (Xh m.X3).Xy (Xh m.X3).Xb (Xh m.X3).Xc (Xh m.X3).Xk (Xh m.X3).X1 (Xh m.X3).Xf (Xh m.X3).Xr (Xh m.X3).X7) ‹_› ‹_› ‹_›) Try.func64 [] [(.tmp 95,(Z2x tm m)),(.tmp 96,(Z31 m))] 0 0))::(hY 34 (dF hq28)::(hP 35 (dF hq28)::[])))))))))))))))) ?_
  by_cases hq29:Fd m (aH.mk (Xh m.X3).Xt (Xh m.X3).Xy (Xh m.X3).Xb (Xh m.X3).Xc (Xh m.X3).Xk (Xh m.X3).X1 (Xh m.X3).Xf (Xh m.X3).Xr (Xh m.X3).X7)
  ·refine cF (cn (dT hq29)) (T.skip (nT (sR [] (T.ret ?_))))
   exact eRt 2 (Z32) [] (cI (by exact if_pos ((Wg m).2 ⟨‹_›,‹_›,‹_›,‹_›,‹_›,(fun h8=>by exact absurd h8.2 ‹_›),(fun h8=>by exact absurd h8.2 ‹_›),(fun h8=>by exact absurd h8.2 ‹_›),(fun h8=>by exact absurd h8.2 ‹_›),‹_›⟩))) trivial
  refine cT (cn (dF hq29)) (sR [] (T.ret (rT ?_)))
  exact eRt 2 (Z30) [] pa trivial
 refine sR (Xl (hN · true (dF hq6)) [4,5,6,7] (hP 8 (dF hq6)::[])) (cF (b:=false) rfl (T.skip (nT (T.seq ?_))))
 by_cases hq30:(Xh m.X3).Xc=true
 ·by_cases hq31:(Xh m.X3).Xk=true
  ·by_cases hq32:(Xh m.X3).X1=true
   ·refine sR (Xl (hN · true (cn hq30)) [4,5,6] (hP 7 (cn hq30)::(Xl hY0 [9,10,11,12] (Xl (hN · true (cn hq31)) [13,14,15,16] (hS 17 (oY (b:=false) rfl rfl rfl rfl (X8 rfl) rfl (Yz (b:=(!(Xh m.X3).Xk)) (av:=vB false) (X8 rfl) ⟨rfl,trivial⟩ (cn hq31)))::(hP0 18::(Xl hY0 [20,21,22,23] (Xl (hN · true (cn hq32)) [24,25,26,27] (hS 28 (oY (b:=false) rfl rfl rfl rfl (X8 rfl) rfl (Yz (b:=(!(Xh m.X3).X1)) (av:=vB false) (X8 rfl) ⟨rfl,trivial⟩ (cn hq32)))::(hP0 29::(hY0 31::(hY0 32::(hS 33 (oY (b:=false) rfl rfl rfl rfl (X8 rfl) rfl (rCa (Wi tm m (aH.mk (Xh m.X3).Xt (Xh m.X3).Xy (Xh m.X3).Xb (Xh m.X3).Xc (Xh m.X3).Xk (Xh m.X3).X1 (Xh m.X3).Xf (Xh m.X3).Xr (Xh m.X3).X7) ‹_› ‹_› ‹_›) Try.func64 [] [(.tmp 95,(Z2x tm m)),(.tmp 96,(Z31 m))] 0 0))::(hY0 34::(hP0 35::[]))))))))))))))) ?_
    by_cases hq33:Fd m (aH.mk (Xh m.X3).Xt (Xh m.X3).Xy (Xh m.X3).Xb (Xh m.X3).Xc (Xh m.X3).Xk (Xh m.X3).X1 (Xh m.X3).Xf (Xh m.X3).Xr (Xh m.X3).X7)
    ·refine cF (cn (dT hq33)) (T.skip (nT (sR [] (T.ret ?_))))
     exact eRt 2 (Z32) [] (cI (by exact if_pos ((Wg m).2 ⟨‹_›,‹_›,‹_›,‹_›,‹_›,(fun h8=>by exact absurd h8.1 ‹_›),(fun h8=>by exact absurd ‹_› h8.1),(fun h8=>by exact absurd ‹_› h8.1),(fun h8=>by exact absurd ‹_› h8.1),‹_›⟩))) trivial
    refine cT (cn (dF hq33)) (sR [] (T.ret (rT ?_)))
    exact eRt 2 (Z30) [] pa trivial
   replace hq32:=Bool.eq_false_iff.2 hq32
   by_cases hq34:m.X1≠(Xd.mk 0 0)
   ·refine sR (Xl (hN · true (cn hq30)) [4,5,6] (hP 7 (cn hq30)::(Xl hY0 [9,10,11,12] (Xl (hN · true (cn hq31)) [13,14,15,16] (hS 17 (oY (b:=false) rfl rfl rfl rfl (X8 rfl) rfl (Yz (b:=(!(Xh m.X3).Xk)) (av:=vB false) (X8 rfl) ⟨rfl,trivial⟩ (cn hq31)))::(hP0 18::(Xl hY0 [20,21,22,23] (Xl (hY · (cn hq32)) [24,25,26] (hS 27 (oY rfl rfl rfl rfl (X8 rfl) (cn hq32) (Ji (ax:=(Z33 m)) (ay:=Z34) (a:=m.X1) (b:=(Xd.mk 0 0)) Ui ⟨[.int .i64 m.X1.Xs,.int .i64 m.X1.Xo],rfl,rfl⟩ ⟨[.int .i64 0,.int .i64 0],rfl,rfl⟩ (X8 rfl) p1n))::(hS 28 (oY (b:=false) rfl rfl rfl rfl (X8 rfl) rfl (Yq (b:=(!(Xh m.X3).X1)) (av:=(Z35 m)) (X8 rfl) trivial (cn hq32)))::(hP0 29::(Xl (hN · false (dT hq34)) [31,32,33,34] (hP 35 (dT hq34)::[]))))))))))))) ?_
    refine cT (b:=true) rfl (sR [] (T.ret (rT ?_)))
    exact eRt 2 (Z30) [] pg trivial
   refine sR (Xl (hN · true (cn hq30)) [4,5,6] (hP 7 (cn hq30)::(Xl hY0 [9,10,11,12] (Xl (hN · true (cn hq31)) [13,14,15,16] (hS 17 (oY (b:=false) rfl rfl rfl rfl (X8 rfl) rfl (Yz (b:=(!(Xh m.X3).Xk)) (av:=vB false) (X8 rfl) ⟨rfl,trivial⟩ (cn hq31)))::(hP0 18::(Xl hY0 [20,21,22,23] (Xl (hY · (cn hq32)) [24,25,26] (hS 27 (oY rfl rfl rfl rfl (X8 rfl) (cn hq32) (Ji (ax:=(Z33 m)) (ay:=Z34) (a:=m.X1) (b:=(Xd.mk 0 0)) Ui ⟨[.int .i64 m.X1.Xs,.int .i64 m.X1.Xo],rfl,rfl⟩ ⟨[.int .i64 0,.int .i64 0],rfl,rfl⟩ (X8 rfl) p1n))::(hS 28 (oY (b:=false) rfl rfl rfl rfl (X8 rfl) rfl (Yq (b:=(!(Xh m.X3).X1)) (av:=(Z35 m)) (X8 rfl) trivial (cn hq32)))::(hP0 29::(hY 31 (dF hq34)::(hY 32 (dF hq34)::(hS 33 (oY rfl rfl rfl rfl (X8 rfl) (dF hq34) (rCa (Wi tm m (aH.mk (Xh m.X3).Xt (Xh m.X3).Xy (Xh m.X3).Xb (Xh m.X3).Xc (Xh m.X3).Xk (Xh m.X3).X1 (Xh m.X3).Xf (Xh m.X3).Xr (Xh m.X3).X7) ‹_› ‹_› ‹_›) Try.func64 [] [(.tmp 95,(Z2x tm m)),(.tmp 96,(Z31 m))] 0 0))::(hY 34 (dF hq34)::(hP 35 (dF hq34)::[])))))))))))))))) ?_
   by_cases hq35:Fd m (aH.mk (Xh m.X3).Xt (Xh m.X3).Xy (Xh m.X3).Xb (Xh m.X3).Xc (Xh m.X3).Xk (Xh m.X3).X1 (Xh m.X3).Xf (Xh m.X3).Xr (Xh m.X3).X7)
   ·refine cF (cn (dT hq35)) (T.skip (nT (sR [] (T.ret ?_))))
    exact eRt 2 (Z32) [] (cI (by exact if_pos ((Wg m).2 ⟨‹_›,‹_›,‹_›,‹_›,‹_›,(fun h8=>by exact absurd h8.1 ‹_›),(fun h8=>by exact absurd ‹_› h8.1),(fun h8=>by exact absurd ‹_› h8.1),(fun h8=>by exact absurd h8.2 ‹_›),‹_›⟩))) trivial
   refine cT (cn (dF hq35)) (sR [] (T.ret (rT ?_)))
   exact eRt 2 (Z30) [] pa trivial
  replace hq31:=Bool.eq_false_iff.2 hq31
  by_cases hq36:((m.Xk.length:Nat):Int)>0
  ·refine sR (Xl (hN · true (cn hq30)) [4,5,6] (hP 7 (cn hq30)::(Xl hY0 [9,10,11,12] (Xl (hY · (cn hq31)) [13,14,15,16] (hS 17 (oY (b:=false) rfl rfl rfl rfl (X8 rfl) rfl (Yq (b:=(!(Xh m.X3).Xk)) (av:=(Z36 m)) (X8 rfl) trivial (cn hq31)))::(hP0 18::(Xl (hN · false (dT hq36)) [20,21,22,23] (hU 24::(hU 25::(hU 26::(hU 27::(hN 28 false (dT hq36)::(hP 29 (dT hq36)::(Xl hN0 [31,32,33,34] (hP1 35::[]))))))))))))))) (cT (b:=true) rfl (sR [] (T.ret (rT ?_))))
   exact eRt 2 (Z30) [] p1d trivial
  by_cases hq37:(Xh m.X3).X1=true
  ·refine sR (Xl (hN · true (cn hq30)) [4,5,6] (hP 7 (cn hq30)::(Xl hY0 [9,10,11,12] (Xl (hY · (cn hq31)) [13,14,15,16] (hS 17 (oY (b:=false) rfl rfl rfl rfl (X8 rfl) rfl (Yq (b:=(!(Xh m.X3).Xk)) (av:=(Z36 m)) (X8 rfl) trivial (cn hq31)))::(hP0 18::(Xl (hY · (dF hq36)) [20,21,22,23] (Xl (hN · true (cn hq37)) [24,25,26,27] (hS 28 (oY rfl rfl rfl rfl (X8 rfl) (dF hq36) (Yz (b:=(!(Xh m.X3).X1)) (av:=vB false) (X8 rfl) ⟨rfl,trivial⟩ (cn hq37)))::(hP 29 (dF hq36)::(hY0 31::(hY0 32::(hS 33 (oY (b:=false) rfl rfl rfl rfl (X8 rfl) rfl (rCa (Wi tm m (aH.mk (Xh m.X3).Xt (Xh m.X3).Xy (Xh m.X3).Xb (Xh m.X3).Xc (Xh m.X3).Xk (Xh m.X3).X1 (Xh m.X3).Xf (Xh m.X3).Xr (Xh m.X3).X7) ‹_› ‹_› ‹_›) Try.func64 [] [(.tmp 95,(Z2x tm m)),(.tmp 96,(Z31 m))] 0 0))::(hY0 34::(hP0 35::[]))))))))))))))) ?_
   by_cases hq38:Fd m (aH.mk (Xh m.X3).Xt (Xh m.X3).Xy (Xh m.X3).Xb (Xh m.X3).Xc (Xh m.X3).Xk (Xh m.X3).X1 (Xh m.X3).Xf (Xh m.X3).Xr (Xh m.X3).X7)
   ·refine cF (cn (dT hq38)) (T.skip (nT (sR [] (T.ret ?_))))
    exact eRt 2 (Z32) [] (cI (by exact if_pos ((Wg m).2 ⟨‹_›,‹_›,‹_›,‹_›,‹_›,(fun h8=>by exact absurd h8.1 ‹_›),(fun h8=>by exact absurd ‹_› h8.1),(fun h8=>by exact absurd h8.2 ‹_›),(fun h8=>by exact absurd ‹_› h8.1),‹_›⟩))) trivial
   refine cT (cn (dF hq38)) (sR [] (T.ret (rT ?_)))
   exact eRt 2 (Z30) [] pa trivial
  replace hq37:=Bool.eq_false_iff.2 hq37
  by_cases hq39:m.X1≠(Xd.mk 0 0)
  ·refine sR (Xl (hN · true (cn hq30)) [4,5,6] (hP 7 (cn hq30)::(Xl hY0 [9,10,11,12] (Xl (hY · (cn hq31)) [13,14,15,16] (hS 17 (oY (b:=false) rfl rfl rfl rfl (X8 rfl) rfl (Yq (b:=(!(Xh m.X3).Xk)) (av:=(Z36 m)) (X8 rfl) trivial (cn hq31)))::(hP0 18::(Xl (hY · (dF hq36)) [20,21,22,23] (Xl (hY · (cn hq37)) [24,25,26] (hS 27 (oY rfl rfl rfl rfl (X8 rfl) (cn hq37) (Ji (ax:=(Z33 m)) (ay:=Z34) (a:=m.X1) (b:=(Xd.mk 0 0)) Ui ⟨[.int .i64 m.X1.Xs,.int .i64 m.X1.Xo],rfl,rfl⟩ ⟨[.int .i64 0,.int .i64 0],rfl,rfl⟩ (X8 rfl) p1n))::(hS 28 (oY rfl rfl rfl rfl (X8 rfl) (dF hq36) (Yq (b:=(!(Xh m.X3).X1)) (av:=(Z35 m)) (X8 rfl) trivial (cn hq37)))::(hP 29 (dF hq36)::(Xl (hN · false (dT hq39)) [31,32,33,34] (hP 35 (dT hq39)::[]))))))))))))) ?_
   refine cT (b:=true) rfl (sR [] (T.ret (rT ?_)))
   exact eRt 2 (Z30) [] pg trivial
  refine sR (Xl (hN · true (cn hq30)) [4,5,6] (hP 7 (cn hq30)::(Xl hY0 [9,10,11,12] (Xl (hY · (cn hq31)) [13,14,15,16] (hS 17 (oY (b:=false) rfl rfl rfl rfl (X8 rfl) rfl (Yq (b:=(!(Xh m.X3).Xk)) (av:=(Z36 m)) (X8 rfl) trivial (cn hq31)))::(hP0 18::(Xl (hY · (dF hq36)) [20,21,22,23] (Xl (hY · (cn hq37)) [24,25,26] (hS 27 (oY rfl rfl rfl rfl (X8 rfl) (cn hq37) (Ji (ax:=(Z33 m)) (ay:=Z34) (a:=m.X1) (b:=(Xd.mk 0 0)) Ui ⟨[.int .i64 m.X1.Xs,.int .i64 m.X1.Xo],rfl,rfl⟩ ⟨[.int .i64 0,.int .i64 0],rfl,rfl⟩ (X8 rfl) p1n))::(hS 28 (oY rfl rfl rfl rfl (X8 rfl) (dF hq36) (Yq (b:=(!(Xh m.X3).X1)) (av:=(Z35 m)) (X8 rfl) trivial (cn hq37)))::(hP 29 (dF hq36)::(hY 31 (dF hq39)::(hY 32 (dF hq39)::(hS 33 (oY rfl rfl rfl rfl (X8 rfl) (dF hq39) (rCa (Wi tm m (aH.mk (Xh m.X3).Xt (Xh m.X3).Xy (Xh m.X3).Xb (Xh m.X3).Xc (Xh m.X3).Xk (Xh m.X3).X1 (Xh m.X3).Xf (Xh m.X3).Xr (Xh m.X3).X7) ‹_› ‹_› ‹_›) Try.func64 [] [(.tmp 95,(Z2x tm m)),(.tmp 96,(Z31 m))] 0 0))::(hY 34 (dF hq39)::(hP 35 (dF hq39)::[])))))))))))))))) ?_
  by_cases hq40:Fd m (aH.mk (Xh m.X3).Xt (Xh m.X3).Xy (Xh m.X3).Xb (Xh m.X3).Xc (Xh m.X3).Xk (Xh m.X3).X1 (Xh m.X3).Xf (Xh m.X3).Xr (Xh m.X3).X7)
  ·refine cF (cn (dT hq40)) (T.skip (nT (sR [] (T.ret ?_))))
   exact eRt 2 (Z32) [] (cI (by exact if_pos ((Wg m).2 ⟨‹_›,‹_›,‹_›,‹_›,‹_›,(fun h8=>by exact absurd h8.1 ‹_›),(fun h8=>by exact absurd ‹_› h8.1),(fun h8=>by exact absurd h8.2 ‹_›),(fun h8=>by exact absurd h8.2 ‹_›),‹_›⟩))) trivial
  refine cT (cn (dF hq40)) (sR [] (T.ret (rT ?_)))
  exact eRt 2 (Z30) [] pa trivial
 replace hq30:=Bool.eq_false_iff.2 hq30
 by_cases hq41:m.Xc≠[]
 ·refine sR (Xl (hY · (cn hq30)) [4,5,6] (hP 7 (cn hq30)::(Xl (hN · false (dT hq41)) [9,10,11,12] (hU 13::(hU 14::(hU 15::(hU 16::(hN 17 false (dT hq41)::(hP 18 (dT hq41)::(Xl hN0 [20,21,22,23] (hU 24::(hU 25::(hU 26::(hU 27::(hN0 28::(hP1 29::(Xl hN0 [31,32,33,34] (hP1 35::[])))))))))))))))))) (cT (b:=true) rfl (sR [] (T.ret (rT ?_))))
  exact eRt 2 (Z30) [] p36 trivial
 by_cases hq42:(Xh m.X3).Xk=true
 ·by_cases hq43:(Xh m.X3).X1=true
  ·refine sR (Xl (hY · (cn hq30)) [4,5,6] (hP 7 (cn hq30)::(Xl (hY · (dF hq41)) [9,10,11,12] (Xl (hN · true (cn hq42)) [13,14,15,16] (hS 17 (oY rfl rfl rfl rfl (X8 rfl) (dF hq41) (Yz (b:=(!(Xh m.X3).Xk)) (av:=vB false) (X8 rfl) ⟨rfl,trivial⟩ (cn hq42)))::(hP 18 (dF hq41)::(Xl hY0 [20,21,22,23] (Xl (hN · true (cn hq43)) [24,25,26,27] (hS 28 (oY (b:=false) rfl rfl rfl rfl (X8 rfl) rfl (Yz (b:=(!(Xh m.X3).X1)) (av:=vB false) (X8 rfl) ⟨rfl,trivial⟩ (cn hq43)))::(hP0 29::(hY0 31::(hY0 32::(hS 33 (oY (b:=false) rfl rfl rfl rfl (X8 rfl) rfl (rCa (Wi tm m (aH.mk (Xh m.X3).Xt (Xh m.X3).Xy (Xh m.X3).Xb (Xh m.X3).Xc (Xh m.X3).Xk (Xh m.X3).X1 (Xh m.X3).Xf (Xh m.X3).Xr (Xh m.X3).X7) ‹_› ‹_› ‹_›) Try.func64 [] [(.tmp 95,(Z2x tm m)),(.tmp 96,(Z31 m))] 0 0))::(hY0 34::(hP0 35::[]))))))))))))))) ?_
   by_cases hq44:Fd m (aH.mk (Xh m.X3).Xt (Xh m.X3).Xy (Xh m.X3).Xb (Xh m.X3).Xc (Xh m.X3).Xk (Xh m.X3).X1 (Xh m.X3).Xf (Xh m.X3).Xr (Xh m.X3).X7)
   ·refine cF (cn (dT hq44)) (T.skip (nT (sR [] (T.ret ?_))))
    exact eRt 2 (Z32) [] (cI (by exact if_pos ((Wg m).2 ⟨‹_›,‹_›,‹_›,‹_›,‹_›,(fun h8=>by exact absurd h8.1 ‹_›),(fun h8=>by exact absurd h8.2 ‹_›),(fun h8=>by exact absurd ‹_› h8.1),(fun h8=>by exact absurd ‹_› h8.1),‹_›⟩))) trivial
   refine cT (cn (dF hq44)) (sR [] (T.ret (rT ?_)))
   exact eRt 2 (Z30) [] pa trivial
  replace hq43:=Bool.eq_false_iff.2 hq43
  by_cases hq45:m.X1≠(Xd.mk 0 0)
  ·refine sR (Xl (hY · (cn hq30)) [4,5,6] (hP 7 (cn hq30)::(Xl (hY · (dF hq41)) [9,10,11,12] (Xl (hN · true (cn hq42)) [13,14,15,16] (hS 17 (oY rfl rfl rfl rfl (X8 rfl) (dF hq41) (Yz (b:=(!(Xh m.X3).Xk)) (av:=vB false) (X8 rfl) ⟨rfl,trivial⟩ (cn hq42)))::(hP 18 (dF hq41)::(Xl hY0 [20,21,22,23] (Xl (hY · (cn hq43)) [24,25,26] (hS 27 (oY rfl rfl rfl rfl (X8 rfl) (cn hq43) (Ji (ax:=(Z33 m)) (ay:=Z34) (a:=m.X1) (b:=(Xd.mk 0 0)) Ui ⟨[.int .i64 m.X1.Xs,.int .i64 m.X1.Xo],rfl,rfl⟩ ⟨[.int .i64 0,.int .i64 0],rfl,rfl⟩ (X8 rfl) p1n))::(hS 28 (oY (b:=false) rfl rfl rfl rfl (X8 rfl) rfl (Yq (b:=(!(Xh m.X3).X1)) (av:=(Z35 m)) (X8 rfl) trivial (cn hq43)))::(hP0 29::(Xl (hN · false (dT hq45)) [31,32,33,34] (hP 35 (dT hq45)::[]))))))))))))) ?_
   refine cT (b:=true) rfl (sR [] (T.ret (rT ?_)))
   exact eRt 2 (Z30) [] pg trivial
  refine sR (Xl (hY · (cn hq30)) [4,5,6] (hP 7 (cn hq30)::(Xl (hY · (dF hq41)) [9,10,11,12] (Xl (hN · true (cn hq42)) [13,14,15,16] (hS 17 (oY rfl rfl rfl rfl (X8 rfl) (dF hq41) (Yz (b:=(!(Xh m.X3).Xk)) (av:=vB false) (X8 rfl) ⟨rfl,trivial⟩ (cn hq42)))::(hP 18 (dF hq41)::(Xl hY0 [20,21,22,23] (Xl (hY · (cn hq43)) [24,25,26] (hS 27 (oY rfl rfl rfl rfl (X8 rfl) (cn hq43) (Ji (ax:=(Z33 m)) (ay:=Z34) (a:=m.X1) (b:=(Xd.mk 0 0)) Ui ⟨[.int .i64 m.X1.Xs,.int .i64 m.X1.Xo],rfl,rfl⟩ ⟨[.int .i64 0,.int .i64 0],rfl,rfl⟩ (X8 rfl) p1n))::(hS 28 (oY (b:=false) rfl rfl rfl rfl (X8 rfl) rfl (Yq (b:=(!(Xh m.X3).X1)) (av:=(Z35 m)) (X8 rfl) trivial (cn hq43)))::(hP0 29::(hY 31 (dF hq45)::(hY 32 (dF hq45)::(hS 33 (oY rfl rfl rfl rfl (X8 rfl) (dF hq45) (rCa (Wi tm m (aH.mk (Xh m.X3).Xt (Xh m.X3).Xy (Xh m.X3).Xb (Xh m.X3).Xc (Xh m.X3).Xk (Xh m.X3).X1 (Xh m.X3).Xf (Xh m.X3).Xr (Xh m.X3).X7) ‹_› ‹_› ‹_›) Try.func64 [] [(.tmp 95,(Z2x tm m)),(.tmp 96,(Z31 m))] 0 0))::(hY 34 (dF hq45)::(hP 35 (dF hq45)::[])))))))))))))))) ?_
  by_cases hq46:Fd m (aH.mk (Xh m.X3).Xt (Xh m.X3).Xy (Xh m.X3).Xb (Xh m.X3).Xc (Xh m.X3).Xk (Xh m.X3).X1 (Xh m.X3).Xf (Xh m.X3).Xr (Xh m.X3).X7)
  ·refine cF (cn (dT hq46)) (T.skip (nT (sR [] (T.ret ?_))))
   exact eRt 2 (Z32) [] (cI (by exact if_pos ((Wg m).2 ⟨‹_›,‹_›,‹_›,‹_›,‹_›,(fun h8=>by exact absurd h8.1 ‹_›),(fun h8=>by exact absurd h8.2 ‹_›),(fun h8=>by exact absurd ‹_› h8.1),(fun h8=>by exact absurd h8.2 ‹_›),‹_›⟩))) trivial
  refine cT (cn (dF hq46)) (sR [] (T.ret (rT ?_)))
  exact eRt 2 (Z30) [] pa trivial
 replace hq42:=Bool.eq_false_iff.2 hq42
 by_cases hq47:((m.Xk.length:Nat):Int)>0
 ·refine sR (Xl (hY · (cn hq30)) [4,5,6] (hP 7 (cn hq30)::(Xl (hY · (dF hq41)) [9,10,11,12] (Xl (hY · (cn hq42)) [13,14,15,16] (hS 17 (oY rfl rfl rfl rfl (X8 rfl) (dF hq41) (Yq (b:=(!(Xh m.X3).Xk)) (av:=(Z36 m)) (X8 rfl) trivial (cn hq42)))::(hP 18 (dF hq41)::(Xl (hN · false (dT hq47)) [20,21,22,23] (hU 24::(hU 25::(hU 26::(hU 27::(hN 28 false (dT hq47)::(hP 29 (dT hq47)::(Xl hN0 [31,32,33,34] (hP1 35::[]))))))))))))))) (cT (b:=true) rfl (sR [] (T.ret (rT ?_))))
  exact eRt 2 (Z30) [] p1d trivial
 by_cases hq48:(Xh m.X3).X1=true
 ·refine sR (Xl (hY · (cn hq30)) [4,5,6] (hP 7 (cn hq30)::(Xl (hY · (dF hq41)) [9,10,11,12] (Xl (hY · (cn hq42)) [13,14,15,16] (hS 17 (oY rfl rfl rfl rfl (X8 rfl) (dF hq41) (Yq (b:=(!(Xh m.X3).Xk)) (av:=(Z36 m)) (X8 rfl) trivial (cn hq42)))::(hP 18 (dF hq41)::(Xl (hY · (dF hq47)) [20,21,22,23] (Xl (hN · true (cn hq48)) [24,25,26,27] (hS 28 (oY rfl rfl rfl rfl (X8 rfl) (dF hq47) (Yz (b:=(!(Xh m.X3).X1)) (av:=vB false) (X8 rfl) ⟨rfl,trivial⟩ (cn hq48)))::(hP 29 (dF hq47)::(hY0 31::(hY0 32::(hS 33 (oY (b:=false) rfl rfl rfl rfl (X8 rfl) rfl (rCa (Wi tm m (aH.mk (Xh m.X3).Xt (Xh m.X3).Xy (Xh m.X3).Xb (Xh m.X3).Xc (Xh m.X3).Xk (Xh m.X3).X1 (Xh m.X3).Xf (Xh m.X3).Xr (Xh m.X3).X7) ‹_› ‹_› ‹_›) Try.func64 [] [(.tmp 95,(Z2x tm m)),(.tmp 96,(Z31 m))] 0 0))::(hY0 34::(hP0 35::[]))))))))))))))) ?_
  by_cases hq49:Fd m (aH.mk (Xh m.X3).Xt (Xh m.X3).Xy (Xh m.X3).Xb (Xh m.X3).Xc (Xh m.X3).Xk (Xh m.X3).X1 (Xh m.X3).Xf (Xh m.X3).Xr (Xh m.X3).X7)
  ·refine cF (cn (dT hq49)) (T.skip (nT (sR [] (T.ret ?_))))
   exact eRt 2 (Z32) [] (cI (by exact if_pos ((Wg m).2 ⟨‹_›,‹_›,‹_›,‹_›,‹_›,(fun h8=>by exact absurd h8.1 ‹_›),(fun h8=>by exact absurd h8.2 ‹_›),(fun h8=>by exact absurd h8.2 ‹_›),(fun h8=>by exact absurd ‹_› h8.1),‹_›⟩))) trivial
  refine cT (cn (dF hq49)) (sR [] (T.ret (rT ?_)))
  exact eRt 2 (Z30) [] pa trivial
 replace hq48:=Bool.eq_false_iff.2 hq48
 by_cases hq50:m.X1≠(Xd.mk 0 0)
 ·refine sR (Xl (hY · (cn hq30)) [4,5,6] (hP 7 (cn hq30)::(Xl (hY · (dF hq41)) [9,10,11,12] (Xl (hY · (cn hq42)) [13,14,15,16] (hS 17 (oY rfl rfl rfl rfl (X8 rfl) (dF hq41) (Yq (b:=(!(Xh m.X3).Xk)) (av:=(Z36 m)) (X8 rfl) trivial (cn hq42)))::(hP 18 (dF hq41)::(Xl (hY · (dF hq47)) [20,21,22,23] (Xl (hY · (cn hq48)) [24,25,26] (hS 27 (oY rfl rfl rfl rfl (X8 rfl) (cn hq48) (Ji (ax:=(Z33 m)) (ay:=Z34) (a:=m.X1) (b:=(Xd.mk 0 0)) Ui ⟨[.int .i64 m.X1.Xs,.int .i64 m.X1.Xo],rfl,rfl⟩ ⟨[.int .i64 0,.int .i64 0],rfl,rfl⟩ (X8 rfl) p1n))::(hS 28 (oY rfl rfl rfl rfl (X8 rfl) (dF hq47) (Yq (b:=(!(Xh m.X3).X1)) (av:=(Z35 m)) (X8 rfl) trivial (cn hq48)))::(hP 29 (dF hq47)::(Xl (hN · false (dT hq50)) [31,32,33,34] (hP 35 (dT hq50)::[]))))))))))))) ?_
  refine cT (b:=true) rfl (sR [] (T.ret (rT ?_)))
  exact eRt 2 (Z30) [] pg trivial
 refine sR (Xl (hY · (cn hq30)) [4,5,6] (hP 7 (cn hq30)::(Xl (hY · (dF hq41)) [9,10,11,12] (Xl (hY · (cn hq42)) [13,14,15,16] (hS 17 (oY rfl rfl rfl rfl (X8 rfl) (dF hq41) (Yq (b:=(!(Xh m.X3).Xk)) (av:=(Z36 m)) (X8 rfl) trivial (cn hq42)))::(hP 18 (dF hq41)::(Xl (hY · (dF hq47)) [20,21,22,23] (Xl (hY · (cn hq48)) [24,25,26] (hS 27 (oY rfl rfl rfl rfl (X8 rfl) (cn hq48) (Ji (ax:=(Z33 m)) (ay:=Z34) (a:=m.X1) (b:=(Xd.mk 0 0)) Ui ⟨[.int .i64 m.X1.Xs,.int .i64 m.X1.Xo],rfl,rfl⟩ ⟨[.int .i64 0,.int .i64 0],rfl,rfl⟩ (X8 rfl) p1n))::(hS 28 (oY rfl rfl rfl rfl (X8 rfl) (dF hq47) (Yq (b:=(!(Xh m.X3).X1)) (av:=(Z35 m)) (X8 rfl) trivial (cn hq48)))::(hP 29 (dF hq47)::(hY 31 (dF hq50)::(hY 32 (dF hq50)::(hS 33 (oY rfl rfl rfl rfl (X8 rfl) (dF hq50) (rCa (Wi tm m (aH.mk (Xh m.X3).Xt (Xh m.X3).Xy (Xh m.X3).Xb (Xh m.X3).Xc (Xh m.X3).Xk (Xh m.X3).X1 (Xh m.X3).Xf (Xh m.X3).Xr (Xh m.X3).X7) ‹_› ‹_› ‹_›) Try.func64 [] [(.tmp 95,(Z2x tm m)),(.tmp 96,(Z31 m))] 0 0))::(hY 34 (dF hq50)::(hP 35 (dF hq50)::[])))))))))))))))) ?_
 by_cases hq51:Fd m (aH.mk (Xh m.X3).Xt (Xh m.X3).Xy (Xh m.X3).Xb (Xh m.X3).Xc (Xh m.X3).Xk (Xh m.X3).X1 (Xh m.X3).Xf (Xh m.X3).Xr (Xh m.X3).X7)
 ·refine cF (cn (dT hq51)) (T.skip (nT (sR [] (T.ret ?_))))
  exact eRt 2 (Z32) [] (cI (by exact if_pos ((Wg m).2 ⟨‹_›,‹_›,‹_›,‹_›,‹_›,(fun h8=>by exact absurd h8.1 ‹_›),(fun h8=>by exact absurd h8.2 ‹_›),(fun h8=>by exact absurd h8.2 ‹_›),(fun h8=>by exact absurd h8.2 ‹_›),‹_›⟩))) trivial
 refine cT (cn (dF hq51)) (sR [] (T.ret (rT ?_)))
 exact eRt 2 (Z30) [] pa trivial
end Go.Proofs.Ythnefnknoahbkaa.Q
namespace Go.Proofs.Ythnefnknoahbkaa.Q
set_option linter.unusedVariables false
set_option linter.unusedSimpArgs false
set_option maxRecDepth 100000
def Vk (e:aE):List UInt8:=Ym e.X4++Wd e.X9
def H1 (l:List aE):List UInt8:=l.flatMap Vk
def Ul (l:List aE) (k:Nat):List UInt8:=W3 ((l.length:Nat):Int)++H1 (l.take k)
def W5 (l:List aE):List UInt8:=W3 ((l.length:Nat):Int)++H1 l
def Xbr (c:aC):List UInt8:=Vk c.V4++W5 c.Yg
def H6 (l:List aC):List UInt8:=l.flatMap Xbr
def Jl (l:List aC):List UInt8:=W3 ((l.length:Nat):Int)++H6 l
theorem X9z (e:aE):(Vk e).length=12+e.X9.length:=by rw [Vk,List.length_append,Yo,Wk];omega
theorem X3m {α:Type} {z:α} (f:α→List UInt8) {l:List α} {k:Nat} (hk:k<l.length):(l.take (k+1)).flatMap f=(l.take k).flatMap f++f (l.getD k z):=by
  rw [X0h (z:=z) hk,List.flatMap_append];simp
theorem X8p {α:Type} {z:α} (f:α→List UInt8) {l:List α} {k:Nat} (hk:k<l.length):((l.take k).flatMap f).length+(f (l.getD k z)).length≤(l.flatMap f).length:=by
  have h:l.flatMap f=(l.take (k+1)).flatMap f++(l.drop (k+1)).flatMap f:=by rw [← List.flatMap_append,List.take_append_drop]
  rw [h,X3m (z:=z) f hk,List.length_append,List.length_append]
  omega
theorem Xe3 {α:Type} (f:α→List UInt8) (l:List α) (k:Nat):((l.take k).flatMap f).length≤(l.flatMap f).length:=by
  have h:l.flatMap f=(l.take k).flatMap f++(l.drop k).flatMap f:=by rw [← List.flatMap_append,List.take_append_drop]
  rw [h,List.length_append];omega
theorem X6k {l:List aE} {k:Nat} (hk:k<l.length):Ul l (k+1)=Ul l k++Vk (l.getD k zE):=by
  rw [Ul,H1,X3m (z:=zE) Vk hk,← List.append_assoc];rfl
theorem Xe0 {l:List aE} {k:Nat} (hk:l.length≤k):Ul l k=W5 l:=by rw [Ul,List.take_of_length_le hk];rfl
theorem Hl (l:List aE):(W5 l).length=4+(H1 l).length:=by rw [W5,List.length_append,Uh]
theorem Xb6 (l:List aE):l.length≤(W5 l).length:=by
  rw [Hl]
  have:∀ l:List aE,l.length≤(H1 l).length:=by
    intro l
    induction l with
    | nil=>simp
    | cons e r ih=>rw [show H1 (e::r)=Vk e++H1 r from rfl,List.length_append,X9z,List.length_cons];omega
  have:=this l
  omega
theorem lst_le (l:List aE) (k:Nat):(Ul l k).length≤(W5 l).length:=by
  rw [Hl,Ul,List.length_append,Uh]
  have:=Xe3 Vk l k
  unfold H1;omega
theorem Xb5 {l:List aE} {k:Nat} (hk:k<l.length):(Ul l k).length+(Vk (l.getD k zE)).length≤(W5 l).length:=by
  rw [Hl,Ul,List.length_append,Uh]
  have:=X8p (z:=zE) Vk hk
  unfold H1;omega
def Vi (l:List aC) (k:Nat):List UInt8:=H6 (l.take k)
theorem crt_0 (l:List aC):Vi l 0=[]:=by simp [Vi,H6]
theorem crt_succ {l:List aC} {k:Nat} (hk:k<l.length):Vi l (k+1)=Vi l k++(Vk (l.getD k zC).V4++W5 (l.getD k zC).Yg):=X3m (z:=zC) Xbr hk
theorem Xeb {l:List aC} {k:Nat} (hk:l.length≤k):Vi l k=H6 l:=by rw [Vi,List.take_of_length_le hk]
theorem X0v (l:List aC):(Jl l).length=4+(H6 l).length:=by rw [Jl,List.length_append,Uh]
theorem crt_le (l:List aC) (k:Nat):4+(Vi l k).length≤(Jl l).length:=by
  rw [X0v]
  have:=Xe3 Xbr l k
  unfold Vi H6;omega
theorem Xbo {l:List aC} {k:Nat} (hk:k<l.length):4+((Vi l k).length+((Vk (l.getD k zC).V4).length+(W5 (l.getD k zC).Yg).length))≤(Jl l).length:=by
  rw [X0v]
  have h:=X8p (z:=zC) Xbr hk
  have e:(Xbr (l.getD k zC)).length=(Vk (l.getD k zC).V4).length+(W5 (l.getD k zC).Yg).length:=List.length_append
  unfold Vi H6;omega
def Vw (m:aM):Nat→List UInt8
  | 0=>Ym m.Xt
  | 1=>Ym m.Xy
  | 2=>Ym m.Xb++Ym m.Xv
  | 3=>Wd m.Xc
  | 4=>Wd m.Xk
  | 5=>Ym m.X1.Xs++Ym m.X1.Xo
  | 6=>W5 m.Xf
  | 7=>W5 m.Xr
  | 8=>Jl m.X7
  | _=>[]
def Xq (m:aM):Nat→List UInt8
  | 0=>Ym m.X3
  | j+1=>Xq m j++(if Vr (Xh m.X3) j=true then Vw m j else [])
def Yh (m:aM):List UInt8:=if Hd m then Xq m 9 else []
section
variable {m:aM}
theorem Jp {j i:Nat} (h:j=i) (hb:Vr (Xh m.X3) j=true):Xq m (j+1)=Xq m j++Vw m i:=by subst h;rw [Xq,if_pos hb]
theorem Hn {j:Nat} (hb:¬Vr (Xh m.X3) j=true):Xq m (j+1)=Xq m j:=by rw [Xq,if_neg hb,List.append_nil]
theorem Xbi (m:aM) (j:Nat):∀ d,(Xq m j).length≤(Xq m (j+d)).length
  | 0=>Nat.le_refl _
  | d+1=>Nat.le_trans (Xbi m j d) (by rw [← Nat.add_assoc,Xq,List.length_append];omega)
theorem enc_le {j:Nat} (hj:j≤9):(Xq m j).length≤(Xq m 9).length:=by
  have:=Xbi m j (9-j)
  rwa [show j+(9-j)=9 by omega] at this
theorem V9 {j i:Nat} (h:j=i) (hb:Vr (Xh m.X3) j=true) (hj:j≤8):(Xq m j).length+(Vw m i).length≤(Xq m 9).length:=by
  have:=enc_le (m:=m) (show j+1≤9 by omega)
  rwa [Jp h hb,List.length_append] at this
end
end Go.Proofs.Ythnefnknoahbkaa.Q
namespace Go.Proofs.Ythnefnknoahbkaa.Q
open Go Go.RowKit
set_option linter.unusedVariables false
set_option linter.unusedSimpArgs false
set_option maxRecDepth 100000
set_option maxHeartbeats 4000000
theorem E5 (tb:Bool) (nb:Bool) (b:List UInt8) (te:Bool) (e:aE) (hb:b.length+(Vk e).length≤10000000000):Holds Try.prog 72 ⟨[slV tb nb kU8 b,.tv (.agg [dI e.X4,.d (dsl te false kU8 e.X9)])],[],Y3 0 kU8 0 (b++Vk e).length,[.live (Xe 5 kU8 (b++Vk e))]⟩:=by
 refine Holds.of Try.func72 rfl (N:=12) Try.ntmps72 rfl fun w0 B0 S0 U0=>?_
 show T _ (Xz 12 0 w0 S0 U0 B0) ⟨[slV tb nb kU8 b,.tv (.agg [dI e.X4,.d (dsl te false kU8 e.X9)])],[]⟩ _ _
 have hel:=X9z e
 have hi:=Yo e.X4
 refine sR [] ?_
 refine sD [[],[],[1],[0,1,2],[],[4],[0,1,2,3,4,5],[0,1,2,3,4,5,6]] [hR 3 rfl rfl (rCa (Uw tb nb b e.X4 (by omega)) Try.func68 [1] [(.tmp 5,slV tb nb kU8 b),(.tmp 7,vI e.X4)] 0 1),hR 6 rfl rfl (Wm (F3 true false (b++Ym e.X4) te false e.X9 (by (simp [maxLen,-List.getD_eq_getElem?_getD]<;>omega))) Try.func69 rfl (by decide) [2] [1] (l:=[(.tmp 8,Y3 1 kU8 0 (b++Ym e.X4).length),(.tmp 10,slV te false kU8 e.X9)]) [(1,.live (Xe 5 kU8 (b++Ym e.X4)))] rfl 0 1 rfl rfl rfl rfl rfl rfl rfl rfl rfl ⟨.inr (.inl ⟨rfl,Um,rfl,rfl,by simp,5,(b++Ym e.X4).length,We kU8 (b++Ym e.X4),List.Mem.head _,pe,fun i j=>by rw [Nat.zero_add]⟩),⟨.inl ⟨rfl,rfl⟩,trivial⟩⟩ rfl pZ3 pd (X8 rfl) trivial)] ?_
 refine T.ret ?_
 exact eRt 4 (.one (.own 2 kU8.sz 0 (b++Ym e.X4++Wd e.X9).length)) [2] p2p ⟨⟨rfl,p2k⟩,trivial⟩
theorem El (tb:Bool) (nb:Bool) (b:List UInt8) (te:Bool) (e:aE) (hb:b.length+(Vk e).length≤10000000000):Holds Try.prog 51 ⟨[slV tb nb kU8 b,.tv (.agg [dI e.X4,.d (dsl te false kU8 e.X9)])],[],Y3 0 kU8 0 (b++Vk e).length,[.live (Xe 5 kU8 (b++Vk e))]⟩:=by
 refine Holds.of Try.func51 rfl (N:=12) Try.ntmps51 rfl fun w0 B0 S0 U0=>?_
 show T _ (Xz 12 0 w0 S0 U0 B0) ⟨[slV tb nb kU8 b,.tv (.agg [dI e.X4,.d (dsl te false kU8 e.X9)])],[]⟩ _ _
 have hel:=X9z e
 have hi:=Yo e.X4
 refine sR [] ?_
 refine sD [[],[],[1],[0,1,2],[],[4],[0,1,2,3,4,5],[0,1,2,3,4,5,6]] [hR 3 rfl rfl (rCa (I8 tb nb b e.X4 (by omega)) Try.func47 [1] [(.tmp 5,slV tb nb kU8 b),(.tmp 7,vI e.X4)] 0 1),hR 6 rfl rfl (Wm (En true false (b++Ym e.X4) te false e.X9 (by (simp [maxLen,-List.getD_eq_getElem?_getD]<;>omega))) Try.func48 rfl (by decide) [2] [1] (l:=[(.tmp 8,Y3 1 kU8 0 (b++Ym e.X4).length),(.tmp 10,slV te false kU8 e.X9)]) [(1,.live (Xe 5 kU8 (b++Ym e.X4)))] rfl 0 1 rfl rfl rfl rfl rfl rfl rfl rfl rfl ⟨.inr (.inl ⟨rfl,Um,rfl,rfl,by simp,5,(b++Ym e.X4).length,We kU8 (b++Ym e.X4),List.Mem.head _,pe,fun i j=>by rw [Nat.zero_add]⟩),⟨.inl ⟨rfl,rfl⟩,trivial⟩⟩ rfl pZ3 pd (X8 rfl) trivial)] ?_
 refine T.ret ?_
 exact eRt 4 (.one (.own 2 kU8.sz 0 (b++Ym e.X4++Wd e.X9).length)) [2] p2p ⟨⟨rfl,p2k⟩,trivial⟩
section
variable (b:List UInt8) (tl:Bool) (nl:Bool) (sl_:Bool) (l:List aE) (k:Nat)
abbrev Z37:AV:=slV tl nl (kE sl_) l
abbrev Z38:AV:=vI ((l.length:Nat):Int)
abbrev Z39:St:=⟨[Y3 0 kU8 0 (b++Ul l k).length,(Z37 tl nl sl_ l),aa,aa,aa,aa,aa,aa,aa,aa,aa,(Z37 tl nl sl_ l),(Z38 l),vI ((k:Nat):Int)],[.live (Xe 5 kU8 (b++Ul l k))]⟩
abbrev Z3b:AV:=vI ((k+1:Nat):Int)
end
theorem Ev (tb:Bool) (nb:Bool) (b:List UInt8) (tl:Bool) (nl:Bool) (sl_:Bool) (l:List aE) (hb:b.length+(W5 l).length≤10000000000) (hl:l.length≤9223372036854775807):Holds Try.prog 70 ⟨[slV tb nb kU8 b,slV tl nl (kE sl_) l],[],Y3 0 kU8 0 (b++W5 l).length,[.live (Xe 5 kU8 (b++W5 l))]⟩:=by
 refine Holds.of Try.func70 rfl (N:=22) Try.ntmps70 rfl fun w0 B0 S0 U0=>?_
 show T _ (Xz 22 0 w0 S0 U0 B0) ⟨[slV tb nb kU8 b,(Z37 tl nl sl_ l)],[]⟩ _ _
 have hll:=Hl l
 have hcl:=Uh ((l.length:Nat):Int)
 refine sR [] (sR [hR 3 rfl rfl (rCa (F2 tb nb b ((l.length:Nat):Int) (by omega)) Try.func71 [0] [(.tmp 7,slV tb nb kU8 b),(.tmp 9,(Z38 l))] 0 1)] (T.seq (sR [] (T.block ?_))))
 refine T.loop (ι:=Nat) (fun (k:Nat)=>(Z39 b tl nl sl_ l k)) (fun (k:Nat)=>(k≤l.length)) (fun (k:Nat)=>l.length-k) (0) (Nat.zero_le _) (fun _ _ hG=>Yc [0] (bm 14 14339) (t2:=[Y3 0 kU8 0 (b++W3 ((l.length:Nat):Int)).length,(Z37 tl nl sl_ l),aa,aa,aa,aa,aa,aa,aa,aa,aa,(Z37 tl nl sl_ l),(Z38 l),vI 0]) (h2:=[.live (Xe 5 kU8 (b++W3 ((l.length:Nat):Int)))]) (congrArg (fun (q1:Nat)=>([Y3 0 kU8 0 q1,(Z37 tl nl sl_ l),aa,aa,aa,aa,aa,aa,aa,aa,aa,(Z37 tl nl sl_ l),(Z38 l),vI 0]:List AV)) (by rfl)) p2d hG) ?_
 rintro k hk
 show T _ _ (Z39 b tl nl sl_ l k) _ _
 replace hk:k≤l.length:=hk
 have hle:=lst_le l k
 refine sR [] (T.seq ?_)
 by_cases hq1:((k:Nat):Int)<((l.length:Nat):Int)
 ·have hrm:=Xb5 (l:=l) (k:=k) (by omega)
  refine cT (dT hq1) (T.skip (nT (T.seq (T.block (sR [hR 0 rfl rfl (Wc tl nl (kE sl_) l k (k:=.i64) (i:=((k:Nat):Int)) Try.underlying39 Hm rfl rfl (by omega) (X8 rfl) trivial)] ?_)))))
  refine xK [hR 2 rfl rfl (Wm (E5 true false (b++Ul l k) sl_ (l.getD k zE) (by (simp [maxLen,-List.getD_eq_getElem?_getD]<;>omega))) Try.func72 rfl (by decide) [2] [0] (l:=[(.tmp 17,Y3 0 kU8 0 (b++Ul l k).length),(.tmp 18,.tv (.agg [dI (l.getD k zE).X4,.d (dsl sl_ false kU8 (l.getD k zE).X9)]))]) [(0,.live (Xe 5 kU8 (b++Ul l k)))] rfl 0 1 rfl rfl rfl rfl rfl rfl rfl rfl rfl ⟨.inr (.inl ⟨rfl,Um,rfl,rfl,by simp,5,(b++Ul l k).length,We kU8 (b++Ul l k),List.Mem.head _,pe,fun i j=>by rw [Nat.zero_add]⟩),⟨⟨.inl ⟨rfl,rfl⟩,⟨.inl ⟨rfl,rfl⟩,trivial⟩⟩,trivial⟩⟩ rfl pZ3 pd (X8 rfl) trivial)] ?_
  refine nB (nT (xK [hR 0 rfl rfl (Y9 (u1:=.int .i64 ((k:Nat):Int)) (u2:=.int .i64 1) (v:=.int .i64 ((k+1:Nat):Int)) (W6 pZ5) (X8 rfl) ⟨rfl,trivial⟩)] ?_))
  refine nL (k+1) (show (k+1)≤l.length from (by omega)) (show (l.length-(k+1):Nat)<l.length-k from (by omega)) (fun _ _ hG=>Wp [2] (bm 14 14339) (t1:=[Y3 2 kU8 0 (b++Ul l (k+1)).length,(Z37 tl nl sl_ l),aa,aa,aa,aa,aa,aa,aa,aa,aa,(Z37 tl nl sl_ l),(Z38 l),(Z3b k)]) (t2:=[Y3 2 kU8 0 ((b++Ul l k)++Vk (l.getD k zE)).length,(Z37 tl nl sl_ l),aa,aa,aa,aa,aa,aa,aa,aa,aa,(Z37 tl nl sl_ l),(Z38 l),(Z3b k)]) (h1:=[.live (Xe 5 kU8 (b++Ul l (k+1)))]) (h2:=[.live (Xe 5 kU8 ((b++Ul l k)++Vk (l.getD k zE)))]) (by have e1:((b++Ul l (k+1)).length:Nat)=((b++Ul l k)++Vk (l.getD k zE)).length:=(by (rw [X6k (by omega),← List.append_assoc]));have hE:=congrArg (fun (q1:Nat)=>([Y3 2 kU8 0 q1,(Z37 tl nl sl_ l),aa,aa,aa,aa,aa,aa,aa,aa,aa,(Z37 tl nl sl_ l),(Z38 l),(Z3b k)]:List AV)) e1;exact hE) p2c hG)
 refine cF (dF hq1) (T.exit (xT (xT (xH (nT (sR [] (T.ret ?_)))))))
 exact eRt 4 (.one (.own 0 kU8.sz 0 (b++Ul l k).length)) [0] p33 ⟨⟨rfl,p2x⟩,trivial⟩
abbrev Z3c (k:Nat):AV:=vI ((k+1:Nat):Int)
theorem X1l (tb:Bool) (nb:Bool) (b:List UInt8) (tl:Bool) (nl:Bool) (sl_:Bool) (l:List aE) (hb:b.length+(W5 l).length≤10000000000) (hl:l.length≤9223372036854775807):Holds Try.prog 49 ⟨[slV tb nb kU8 b,slV tl nl (kE sl_) l],[],Y3 0 kU8 0 (b++W5 l).length,[.live (Xe 5 kU8 (b++W5 l))]⟩:=by
 refine Holds.of Try.func49 rfl (N:=23) Try.ntmps49 rfl fun w0 B0 S0 U0=>?_
 show T _ (Xz 23 0 w0 S0 U0 B0) ⟨[slV tb nb kU8 b,slV tl nl (kE sl_) l],[]⟩ _ _
 have hll:=Hl l
 have hcl:=Uh ((l.length:Nat):Int)
 refine sR [] (sR [hR 3 rfl rfl (rCa (Em tb nb b ((l.length:Nat):Int) (by omega)) Try.func50 [0] [(.tmp 6,slV tb nb kU8 b),(.tmp 8,vI ((l.length:Nat):Int))] 0 1)] (T.seq (sR [] (T.block ?_))))
 refine T.loop (ι:=Nat) (fun (k:Nat)=>⟨[Y3 0 kU8 0 (b++Ul l k).length,slV tl nl (kE sl_) l,aa,aa,aa,vI ((k:Nat):Int)],[.live (Xe 5 kU8 (b++Ul l k))]⟩) (fun (k:Nat)=>(k≤l.length)) (fun (k:Nat)=>l.length-k) (0) (Nat.zero_le _) (fun _ _ hG=>Yc [0] (bm 6 35) (t2:=[Y3 0 kU8 0 (b++W3 ((l.length:Nat):Int)).length,slV tl nl (kE sl_) l,aa,aa,aa,vI 0]) (h2:=[.live (Xe 5 kU8 (b++W3 ((l.length:Nat):Int)))]) (congrArg (fun (q1:Nat)=>([Y3 0 kU8 0 q1,slV tl nl (kE sl_) l,aa,aa,aa,vI 0]:List AV)) (by rfl)) p2d hG) ?_
 rintro k hk
 show T _ _ ⟨[Y3 0 kU8 0 (b++Ul l k).length,slV tl nl (kE sl_) l,aa,aa,aa,vI ((k:Nat):Int)],[.live (Xe 5 kU8 (b++Ul l k))]⟩ _ _
 replace hk:k≤l.length:=hk
 have hle:=lst_le l k
 refine T.seq (sR [] ?_)
 by_cases hq1:((k:Nat):Int)<((l.length:Nat):Int)
 ·have hrm:=Xb5 (l:=l) (k:=k) (by omega)
  refine cT (dT hq1) (T.skip (nT (T.seq (T.block ?_))))
  refine xR [hR 3 rfl rfl (Wc tl nl (kE sl_) l k (k:=.i64) (i:=((k:Nat):Int)) Try.underlying39 Hm rfl rfl (by omega) (X8 rfl) trivial),hR 5 rfl rfl (Wm (El true false (b++Ul l k) sl_ (l.getD k zE) (by (simp [maxLen,-List.getD_eq_getElem?_getD]<;>omega))) Try.func51 rfl (by decide) [1] [0] (l:=[(.tmp 16,Y3 0 kU8 0 (b++Ul l k).length),(.tmp 20,.tv (.agg [dI (l.getD k zE).X4,.d (dsl sl_ false kU8 (l.getD k zE).X9)]))]) [(0,.live (Xe 5 kU8 (b++Ul l k)))] rfl 0 1 rfl rfl rfl rfl rfl rfl rfl rfl rfl ⟨.inr (.inl ⟨rfl,Um,rfl,rfl,by simp,5,(b++Ul l k).length,We kU8 (b++Ul l k),List.Mem.head _,pe,fun i j=>by rw [Nat.zero_add]⟩),⟨⟨.inl ⟨rfl,rfl⟩,⟨.inl ⟨rfl,rfl⟩,trivial⟩⟩,trivial⟩⟩ rfl pZ3 pd (X8 rfl) trivial)] pZ4 pZ4 ?_
  refine nB (nT (xK [hR 1 rfl rfl (Y9 (u1:=.int .i64 ((k:Nat):Int)) (u2:=.int .i64 1) (v:=.int .i64 ((k+1:Nat):Int)) (W6 pZ5) (X8 rfl) ⟨rfl,trivial⟩)] ?_))
  refine nL (k+1) (show (k+1)≤l.length from (by omega)) (show (l.length-(k+1):Nat)<l.length-k from (by omega)) (fun _ _ hG=>Wp [1] (bm 6 35) (t1:=[Y3 1 kU8 0 (b++Ul l (k+1)).length,slV tl nl (kE sl_) l,aa,aa,aa,(Z3c k)]) (t2:=[Y3 1 kU8 0 ((b++Ul l k)++Vk (l.getD k zE)).length,slV tl nl (kE sl_) l,aa,aa,aa,(Z3c k)]) (h1:=[.live (Xe 5 kU8 (b++Ul l (k+1)))]) (h2:=[.live (Xe 5 kU8 ((b++Ul l k)++Vk (l.getD k zE)))]) (by have e1:((b++Ul l (k+1)).length:Nat)=((b++Ul l k)++Vk (l.getD k zE)).length:=(by (rw [X6k (by omega),← List.append_assoc]));have hE:=congrArg (fun (q1:Nat)=>([Y3 1 kU8 0 q1,slV tl nl (kE sl_) l,aa,aa,aa,(Z3c k)]:List AV)) e1;exact hE) p2c hG)
 refine cF (dF hq1) (T.exit (xT (xT (xH (nT (sR [] (T.ret ?_)))))))
 exact eRt 4 (.one (.own 0 kU8.sz 0 (b++Ul l k).length)) [0] p33 ⟨⟨rfl,p2x⟩,trivial⟩
theorem Xa5:Zero Try.prog 113 [.int .i64 0,.slice none 0 0,.slice none 0 0]:=⟨_,_,I3,rfl,rfl⟩
section
variable (tm:Bool) (m:aM) (j:Nat) (k:Nat)
abbrev Z3d:List SV:=[dI m.X3,dI m.Xt,dI m.Xy,dI m.Xb,dI m.Xv,dS m.Xc,.d (dsl tm false kU8 m.Xk),dI m.X1.Xs,dI m.X1.Xo,.d (dsl tm false (kE tm) m.Xf),.d (dsl tm false (kE tm) m.Xr),.d (dsl tm false (kC tm) m.X7)]
abbrev Z3e:HS:=.live (.box 42 (Z3d tm m))
abbrev Z3f:St:=⟨[.tv (.agg (Z3d tm m)),pv 0 0,dv (.slice none 0 0),aa,aa,aa,aa,aa,aa,aa,aa,vB (decide ((X20 m)≠0))],[(Z3e tm m)]⟩
abbrev Z3g:AV:=Y3 2 kU8 0 (Xq m j).length
abbrev Z3h:AV:=vI ((2 ^ j:Nat):Int)
abbrev Z3i:HS:=.live (.box 128 [dI (Y4 m.X3).V3,dI (Y4 m.X3).Wa,dI (Y4 m.X3).Wq,dI (Y4 m.X3).V6])
abbrev Z3j:HS:=.live (Xe 5 kU8 (Xq m j))
abbrev Z3l:AV:=vI ((2 ^ (j+1):Nat):Int)
abbrev Z3n:List HS:=[(Z3e tm m),(Z3i m),.live (Xe 5 kU8 (Xq m (j+1)))]
abbrev Z3p:AV:=vI (((2 ^ j)*2 ^ 1:Nat):Int)
abbrev Z3q:List AV:=[aa,pv 0 0,aa,pv 1 0,aa,Y3 3 kU8 0 (Xq m (j+1)).length,(Z3l j)]
abbrev Z3r:AV:=vI ((m.X7.length:Nat):Int)
abbrev Z3s:AV:=Y3 2 kU8 0 ((Xq m j)++W3 ((m.X7.length:Nat):Int)++Vi m.X7 k).length
abbrev Z3t:AV:=slV tm false (kC tm) m.X7
abbrev Z3u:HS:=.live (Xe 5 kU8 ((Xq m j)++W3 ((m.X7.length:Nat):Int)++Vi m.X7 k))
abbrev Z3v:St:=⟨[aa,pv 0 0,aa,pv 1 0,aa,(Z3s m j k),(Z3h j),aa,aa,aa,aa,aa,aa,aa,aa,aa,aa,aa,aa,aa,aa,aa,aa,aa,aa,aa,aa,aa,aa,aa,aa,aa,aa,aa,aa,aa,aa,aa,aa,aa,aa,aa,aa,aa,aa,aa,aa,aa,aa,aa,aa,aa,aa,aa,aa,aa,aa,aa,aa,aa,aa,aa,aa,aa,aa,aa,aa,aa,aa,aa,aa,aa,aa,aa,aa,aa,aa,aa,aa,aa,aa,aa,aa,aa,aa,aa,aa,aa,aa,aa,aa,aa,aa,aa,aa,aa,(Z3t tm m),(Z3r m),vI ((k:Nat):Int)],[(Z3e tm m),(Z3i m),(Z3u m j k)]⟩
abbrev Z3w:AV:=vI ((k+1:Nat):Int)
abbrev Z3x:St:=⟨[aa,pv 0 0,(Z3g m j),pv 1 0,aa,(Z3g m j),(Z3h j),aa,aa,aa,aa,aa,aa,aa,aa,aa,aa,aa,aa,aa,aa,aa,vB (decide (((2 ^ j:Nat):Int)≤256))],[(Z3e tm m),(Z3i m),(Z3j m j)]⟩
end
theorem Xco (tm:Bool) (m:aM) (hl:(Xq m 9).length≤1000000000) (hq:m.Xf.length≤9223372036854775807) (hr:m.Xr.length≤9223372036854775807) (hc:m.X7.length≤9223372036854775807) (hd:m.Xk.length≤9223372036854775807) (hg:m.Xc.length≤9223372036854775807):Holds Try.prog 42 ⟨[.tv (.agg [dI m.X3,dI m.Xt,dI m.Xy,dI m.Xb,dI m.Xv,dS m.Xc,.d (dsl tm false kU8 m.Xk),dI m.X1.Xs,dI m.X1.Xo,.d (dsl tm false (kE tm) m.Xf),.d (dsl tm false (kE tm) m.Xr),.d (dsl tm false (kC tm) m.X7)])],[],slV false false kU8 (Yh m),[]⟩:=by
 refine Holds.of Try.func42 rfl (N:=111) Try.ntmps42 rfl fun w0 B0 S0 U0=>?_
 show T _ (Xz 111 0 w0 S0 U0 B0) ⟨[.tv (.agg (Z3d tm m))],[]⟩ _ _
 refine sR [] (T.seq (sR [hR 1 rfl rfl (rCa (X8i tm m ‹_› ‹_› ‹_› ‹_› ‹_›) Try.func66 [] [(.tmp 9,.tv (.agg (Z3d tm m)))] 0 0)] ?_))
 by_cases hq1:(X20 m)≠0
 ·refine cT (dT hq1) (sR [] (T.ret (rT ?_)))
  refine eN (Z3f tm m) ?_
  refine Xm (s':=⟨[.tv (.agg (Z3d tm m)),pv 0 0,slV false false kU8 ([]:List UInt8),aa,aa,aa,aa,aa,aa,aa,aa,vB (decide ((X20 m)≠0))],[(Z3e tm m)]⟩) (fun _ _ hG=>W7 (s:=(Z3f tm m)) p48 ⟨.inl rfl,trivial⟩ hG) ?_
  exact eRt 2 (.one (dU ([]:List UInt8))) [] p3c trivial
 refine cF (dF hq1) (T.skip (nT (sR [hR 2 rfl rfl (rCa (Eu m.X3 ) Try.func67 [] [(.tmp 14,vI m.X3)] 0 0)] ?_)))
 refine sR [hR 2 rfl rfl (rCn (Uw false false ([]:List UInt8) m.X3 (by (simp [maxLen,-List.getD_eq_getElem?_getD]<;>omega))) Try.func68 [2] [(.const (.slice none 0 0),dv (.slice none 0 0)),(.tmp 19,vI m.X3)] 0 1 ⟨.inr pZ9,⟨.inl ⟨rfl,rfl⟩,trivial⟩⟩ ⟨rfl,trivial⟩)] ?_
 refine T.seq (sR [] (T.block ?_))
 refine T.loop (ι:=Nat) (fun (j:Nat)=>⟨[aa,pv 0 0,aa,pv 1 0,aa,(Z3g m j),(Z3h j)],[(Z3e tm m),(Z3i m),(Z3j m j)]⟩) (fun (j:Nat)=>(j≤9)) (fun (j:Nat)=>9-j) (0) (by omega) (fun _ _ hG=>Yc [0,1,2] (bm 7 106) (t2:=[aa,pv 0 0,aa,pv 1 0,aa,Y3 2 kU8 0 (([]:List UInt8)++Ym m.X3).length,vI 1]) (h2:=[(Z3e tm m),(Z3i m),.live (Xe 5 kU8 (([]:List UInt8)++Ym m.X3))]) (cg2 (fun (q1:Nat) (q2:Int)=>([aa,pv 0 0,aa,pv 1 0,aa,Y3 2 kU8 0 q1,vI q2]:List AV)) (by rfl) (by rfl)) (congrArg (fun (q1:List UInt8)=>([(Z3e tm m),(Z3i m),.live (Xe 5 kU8 q1)]:List HS)) (by rfl)) hG) ?_
 rintro j hj
 show T _ _ ⟨[aa,pv 0 0,aa,pv 1 0,aa,(Z3g m j),(Z3h j)],[(Z3e tm m),(Z3i m),(Z3j m j)]⟩ _ _
 replace hj:j≤9:=hj
 have hp9:=Xdo hj
 have hel:=enc_le (m:=m) hj
 refine T.seq (sR [] ?_)
 by_cases hq2:((2 ^ j:Nat):Int)≤256
 rotate_left
 ·have hj9:j=9:=(by have h9:¬j≤8:=fun q=>hq2 ((X9c hj).2 q);omega)
  refine cF (dF hq2) (T.exit (xT (xT (xH (nT (sR [] (T.ret ?_)))))))
  refine eN (Z3x tm m j) ?_
  refine Xm (s':=⟨[aa,pv 0 0,slV false false kU8 (Xq m j),pv 1 0,aa,slV false false kU8 (Xq m j),(Z3h j),aa,aa,aa,aa,aa,aa,aa,aa,aa,aa,aa,aa,aa,aa,aa,vB (decide (((2 ^ j:Nat):Int)≤256))],[(Z3e tm m),(Z3i m),.dead]⟩) (fun _ _ hG=>Gs.freeze (s:=(Z3x tm m j)) 2 (el:=We kU8 (Xq m j)) (sz:=kU8.sz) (n:=(Xq m j).length) rfl (kk2 ⟨(.inr pZ6),(kk2 ⟨(.inr pZ6),⟨.inl rfl,(X6p trivial)⟩⟩)⟩) ⟨pc,⟨pc,⟨(.inl ⟨rfl,rfl⟩),trivial⟩⟩⟩ hG) ?_
  exact eRt 2 (.one (dU (Xq m j))) [] (by have e1:((Yh m):List UInt8)=(Xq m j):=(by (rw [Yh,if_pos (chk0.1 pZ21),hj9]));have hE:=congrArg (fun (q1:List UInt8)=>(slV false false kU8 q1:AV)) e1;exact hE) trivial
 have hj8:j≤8:=(X9c hj).1 hq2
 refine cT (dT hq2) (T.skip (nT (T.seq (T.block (T.seq (sR [hR 3 rfl rfl (Y9 (u1:=.int .i64 (Y4 m.X3).V3) (u2:=.int .i64 ((2 ^ j:Nat):Int)) (v:=.int .i64 (J2 (Y4 m.X3).V3 ((2 ^ j:Nat):Int))) (X75 rfl) (X8 rfl) trivial)] ?_))))))
 by_cases hq3:(J2 (Y4 m.X3).V3 ((2 ^ j:Nat):Int))=0
 ·have hbt:=(X54 hj8).1 hq3
  refine cT (dT hq3) (T.exit (xT (xH (nT (xK [hR 1 rfl rfl (Y9 (u1:=.int .i64 ((2 ^ j:Nat):Int)) (u2:=.int .u64 1) (v:=.int .i64 (((2 ^ j)*2 ^ 1:Nat):Int)) (Ud (n:=1) rfl pj pZ5) (X8 rfl) ⟨rfl,trivial⟩)] ?_)))))
  refine nL (j+1) (show (j+1)≤9 from (by omega)) (show (9-(j+1):Nat)<9-j from (by omega)) (fun _ _ hG=>Yc [0,1,2] (bm 7 106) (t2:=[aa,pv 0 0,aa,pv 1 0,aa,(Z3g m j),(Z3p j)]) (h2:=[(Z3e tm m),(Z3i m),(Z3j m j)]) (by have e1:((Xq m (j+1)).length:Nat)=(Xq m j).length:=(by (rw [Hn hbt]));have e2:(((2 ^ (j+1):Nat):Int):Int)=(((2 ^ j)*2 ^ 1:Nat):Int):=(by rfl);have hE:=congr p3q e2;exact hE) (by have e1:((Xq m (j+1)):List UInt8)=(Xq m j):=(by (rw [Hn hbt]));have hE:=congrArg (fun (q1:List UInt8)=>([(Z3e tm m),(Z3i m),.live (Xe 5 kU8 q1)]:List HS)) e1;exact hE) hG)
 have hbt:Vr (Xh m.X3) j=true:=Classical.byContradiction fun q=>hq3 ((X54 hj8).2 q)
 refine cF (dF hq3) (T.skip (nT (sR [] (T.block (sR [] ?_)))))
 by_cases hq4:((2 ^ j:Nat):Int)=1
 ·have hji:j=0:=Jc (i:=0) hj hq4;have hrm:=V9 hji hbt hj8;simp only [Vw,List.length_append,Yo,Wk] at hrm;have hi1:=Yo m.Xb;have hi2:=Yo m.X1.Xs
  refine cT (dT hq4) (xK [hR 3 rfl rfl (Wm (Uw true false (Xq m j) m.Xt (by omega)) Try.func68 rfl (by decide) [3] [2] (l:=[(.tmp 33,(Z3g m j)),(.tmp 35,vI m.Xt)]) [(2,(Z3j m j))] rfl 0 1 rfl rfl rfl rfl rfl rfl rfl rfl rfl ⟨.inr (.inl ⟨rfl,Um,rfl,rfl,by simp,5,(Xq m j).length,We kU8 (Xq m j),List.Mem.head _,pe,fun i j=>by rw [Nat.zero_add]⟩),⟨.inl ⟨rfl,rfl⟩,trivial⟩⟩ rfl pZ3 pd (X8 rfl) trivial)] (nB (nB (nT ?_))))
  refine xK [hR 1 rfl rfl (Y9 (u1:=.int .i64 ((2 ^ j:Nat):Int)) (u2:=.int .u64 1) (v:=.int .i64 (((2 ^ j)*2 ^ 1:Nat):Int)) (Ud (n:=1) rfl pj pZ5) (X8 rfl) ⟨rfl,trivial⟩)] ?_
  refine nL (j+1) (show (j+1)≤9 from (by omega)) (show (9-(j+1):Nat)<9-j from (by omega)) (fun _ _ hG=>Wp [0,1,3] (bm 7 106) (t1:=(Z3q m j)) (t2:=[aa,pv 0 0,aa,pv 1 0,aa,Y3 3 kU8 0 ((Xq m j)++Ym m.Xt).length,(Z3p j)]) (h1:=(Z3n tm m j)) (h2:=[(Z3e tm m),(Z3i m),.live (Xe 5 kU8 ((Xq m j)++Ym m.Xt))]) (by have e1:((Xq m (j+1)).length:Nat)=((Xq m j)++Ym m.Xt).length:=p1x;have e2:(((2 ^ (j+1):Nat):Int):Int)=(((2 ^ j)*2 ^ 1:Nat):Int):=(by rfl);have hE:=congr pZ18 e2;exact hE) (by have e1:((Xq m (j+1)):List UInt8)=(Xq m j)++Ym m.Xt:=p1x;have hE:=congrArg (fun (q1:List UInt8)=>([(Z3e tm m),(Z3i m),.live (Xe 5 kU8 q1)]:List HS)) e1;exact hE) hG)
 have hn0:j≠0:=(fun q=>hq4 p2l)
 refine cF (dF hq4) (sR [] ?_)
 by_cases hq5:((2 ^ j:Nat):Int)=2
 ·have hji:j=1:=Jc (i:=1) hj hq5;have hrm:=V9 hji hbt hj8;simp only [Vw,List.length_append,Yo,Wk] at hrm;have hi1:=Yo m.Xb;have hi2:=Yo m.X1.Xs
  refine cT (dT hq5) (xK [hR 3 rfl rfl (Wm (Uw true false (Xq m j) m.Xy (by omega)) Try.func68 rfl (by decide) [3] [2] (l:=[(.tmp 39,(Z3g m j)),(.tmp 41,vI m.Xy)]) [(2,(Z3j m j))] rfl 0 1 rfl rfl rfl rfl rfl rfl rfl rfl rfl ⟨.inr (.inl ⟨rfl,Um,rfl,rfl,by simp,5,(Xq m j).length,We kU8 (Xq m j),List.Mem.head _,pe,fun i j=>by rw [Nat.zero_add]⟩),⟨.inl ⟨rfl,rfl⟩,trivial⟩⟩ rfl pZ3 pd (X8 rfl) trivial)] (nB (nB (nT ?_))))
  refine xK [hR 1 rfl rfl (Y9 (u1:=.int .i64 ((2 ^ j:Nat):Int)) (u2:=.int .u64 1) (v:=.int .i64 (((2 ^ j)*2 ^ 1:Nat):Int)) (Ud (n:=1) rfl pj pZ5) (X8 rfl) ⟨rfl,trivial⟩)] ?_
  refine nL (j+1) (show (j+1)≤9 from (by omega)) (show (9-(j+1):Nat)<9-j from (by omega)) (fun _ _ hG=>Wp [0,1,3] (bm 7 106) (t1:=(Z3q m j)) (t2:=[aa,pv 0 0,aa,pv 1 0,aa,Y3 3 kU8 0 ((Xq m j)++Ym m.Xy).length,(Z3p j)]) (h1:=(Z3n tm m j)) (h2:=[(Z3e tm m),(Z3i m),.live (Xe 5 kU8 ((Xq m j)++Ym m.Xy))]) (by have e1:((Xq m (j+1)).length:Nat)=((Xq m j)++Ym m.Xy).length:=p1x;have e2:(((2 ^ (j+1):Nat):Int):Int)=(((2 ^ j)*2 ^ 1:Nat):Int):=(by rfl);have hE:=congr pZ18 e2;exact hE) (by have e1:((Xq m (j+1)):List UInt8)=(Xq m j)++Ym m.Xy:=p1x;have hE:=congrArg (fun (q1:List UInt8)=>([(Z3e tm m),(Z3i m),.live (Xe 5 kU8 q1)]:List HS)) e1;exact hE) hG)
 have hn1:j≠1:=(fun q=>hq5 p2l)
 refine cF (dF hq5) (sR [] ?_)
 by_cases hq6:((2 ^ j:Nat):Int)=4
 ·have hji:j=2:=Jc (i:=2) hj hq6;have hrm:=V9 hji hbt hj8;simp only [Vw,List.length_append,Yo,Wk] at hrm;have hi1:=Yo m.Xb;have hi2:=Yo m.X1.Xs
  refine cT (dT hq6) ?_
  refine xD [[],[],[1],[0,1,2],[],[4],[0,1,2,3,4,5],[0,1,2,3,4,5,6]] [hR 3 rfl rfl (Wm (Uw true false (Xq m j) m.Xb (by omega)) Try.func68 rfl (by decide) [3] [2] (l:=[(.tmp 45,(Z3g m j)),(.tmp 47,vI m.Xb)]) [(2,(Z3j m j))] rfl 0 1 rfl rfl rfl rfl rfl rfl rfl rfl rfl ⟨.inr (.inl ⟨rfl,Um,rfl,rfl,by simp,5,(Xq m j).length,We kU8 (Xq m j),List.Mem.head _,pe,fun i j=>by rw [Nat.zero_add]⟩),⟨.inl ⟨rfl,rfl⟩,trivial⟩⟩ rfl pZ3 pd (X8 rfl) trivial),hR 6 rfl rfl (Wm (Uw true false ((Xq m j)++Ym m.Xb) m.Xv (by (simp [maxLen,-List.getD_eq_getElem?_getD]<;>omega))) Try.func68 rfl (by decide) [4] [3] (l:=[(.tmp 48,Y3 3 kU8 0 ((Xq m j)++Ym m.Xb).length),(.tmp 50,vI m.Xv)]) [(3,.live (Xe 5 kU8 ((Xq m j)++Ym m.Xb)))] rfl 0 1 rfl rfl rfl rfl rfl rfl rfl rfl rfl ⟨.inr (.inl ⟨rfl,Um,rfl,rfl,by simp,5,((Xq m j)++Ym m.Xb).length,We kU8 ((Xq m j)++Ym m.Xb),List.Mem.head _,pe,fun i j=>by rw [Nat.zero_add]⟩),⟨.inl ⟨rfl,rfl⟩,trivial⟩⟩ rfl pZ3 pd (X8 rfl) trivial)] pZ4 pZ4 pZ4 pZ4 pZ4 pZ4 ?_
  refine nB (nB (nT (xK [hR 1 rfl rfl (Y9 (u1:=.int .i64 ((2 ^ j:Nat):Int)) (u2:=.int .u64 1) (v:=.int .i64 (((2 ^ j)*2 ^ 1:Nat):Int)) (Ud (n:=1) rfl pj pZ5) (X8 rfl) ⟨rfl,trivial⟩)] ?_)))
  refine nL (j+1) (show (j+1)≤9 from (by omega)) (show (9-(j+1):Nat)<9-j from (by omega)) (fun _ _ hG=>Wp [0,1,4] (bm 7 106) (t1:=[aa,pv 0 0,aa,pv 1 0,aa,Y3 4 kU8 0 (Xq m (j+1)).length,(Z3l j)]) (t2:=[aa,pv 0 0,aa,pv 1 0,aa,Y3 4 kU8 0 ((Xq m j)++Ym m.Xb++Ym m.Xv).length,(Z3p j)]) (h1:=(Z3n tm m j)) (h2:=[(Z3e tm m),(Z3i m),.live (Xe 5 kU8 ((Xq m j)++Ym m.Xb++Ym m.Xv))]) (by have e1:((Xq m (j+1)).length:Nat)=((Xq m j)++Ym m.Xb++Ym m.Xv).length:=p2r;have e2:(((2 ^ (j+1):Nat):Int):Int)=(((2 ^ j)*2 ^ 1:Nat):Int):=(by rfl);have hE:=congr p3p e2;exact hE) (by have e1:((Xq m (j+1)):List UInt8)=(Xq m j)++Ym m.Xb++Ym m.Xv:=p2r;have hE:=congrArg (fun (q1:List UInt8)=>([(Z3e tm m),(Z3i m),.live (Xe 5 kU8 q1)]:List HS)) e1;exact hE) hG)
 have hn2:j≠2:=(fun q=>hq6 p2l)
 refine cF (dF hq6) (sR [] ?_)
 by_cases hq7:((2 ^ j:Nat):Int)=8
 ·have hji:j=3:=Jc (i:=3) hj hq7;have hrm:=V9 hji hbt hj8;simp only [Vw,List.length_append,Yo,Wk] at hrm;have hi1:=Yo m.Xb;have hi2:=Yo m.X1.Xs
  refine cT (dT hq7) ?_
  refine xR [hR 3 rfl rfl (X8d (l:=m.Xc) Try.underlying35 Try.underlying34 Try.underlying5 (X8 rfl) trivial),hR 4 rfl rfl (Wm (F3 true false (Xq m j) false true m.Xc (by omega)) Try.func69 rfl (by decide) [3] [2] (l:=[(.tmp 54,(Z3g m j)),(.tmp 57,slV false true kU8 m.Xc)]) [(2,(Z3j m j))] rfl 0 1 rfl rfl rfl rfl rfl rfl rfl rfl rfl ⟨.inr (.inl ⟨rfl,Um,rfl,rfl,by simp,5,(Xq m j).length,We kU8 (Xq m j),List.Mem.head _,pe,fun i j=>by rw [Nat.zero_add]⟩),⟨.inl ⟨rfl,rfl⟩,trivial⟩⟩ rfl pZ3 pd (X8 rfl) trivial)] pZ4 pZ4 (nB (nB (nT ?_)))
  refine xK [hR 1 rfl rfl (Y9 (u1:=.int .i64 ((2 ^ j:Nat):Int)) (u2:=.int .u64 1) (v:=.int .i64 (((2 ^ j)*2 ^ 1:Nat):Int)) (Ud (n:=1) rfl pj pZ5) (X8 rfl) ⟨rfl,trivial⟩)] ?_
  refine nL (j+1) (show (j+1)≤9 from (by omega)) (show (9-(j+1):Nat)<9-j from (by omega)) (fun _ _ hG=>Wp [0,1,3] (bm 7 106) (t1:=(Z3q m j)) (t2:=[aa,pv 0 0,aa,pv 1 0,aa,Y3 3 kU8 0 ((Xq m j)++Wd m.Xc).length,(Z3p j)]) (h1:=(Z3n tm m j)) (h2:=[(Z3e tm m),(Z3i m),.live (Xe 5 kU8 ((Xq m j)++Wd m.Xc))]) (by have e1:((Xq m (j+1)).length:Nat)=((Xq m j)++Wd m.Xc).length:=p1x;have e2:(((2 ^ (j+1):Nat):Int):Int)=(((2 ^ j)*2 ^ 1:Nat):Int):=(by rfl);have hE:=congr pZ18 e2;exact hE) (by have e1:((Xq m (j+1)):List UInt8)=(Xq m j)++Wd m.Xc:=p1x;have hE:=congrArg (fun (q1:List UInt8)=>([(Z3e tm m),(Z3i m),.live (Xe 5 kU8 q1)]:List HS)) e1;exact hE) hG)
 have hn3:j≠3:=(fun q=>hq7 p2l)
 refine cF (dF hq7) (sR [] ?_)
 by_cases hq8:((2 ^ j:Nat):Int)=16
 ·have hji:j=4:=Jc (i:=4) hj hq8;have hrm:=V9 hji hbt hj8;simp only [Vw,List.length_append,Yo,Wk] at hrm;have hi1:=Yo m.Xb;have hi2:=Yo m.X1.Xs
  refine cT (dT hq8) (xK [hR 3 rfl rfl (Wm (F3 true false (Xq m j) tm false m.Xk (by omega)) Try.func69 rfl (by decide) [3] [2] (l:=[(.tmp 61,(Z3g m j)),(.tmp 63,slV tm false kU8 m.Xk)]) [(2,(Z3j m j))] rfl 0 1 rfl rfl rfl rfl rfl rfl rfl rfl rfl ⟨.inr (.inl ⟨rfl,Um,rfl,rfl,by simp,5,(Xq m j).length,We kU8 (Xq m j),List.Mem.head _,pe,fun i j=>by rw [Nat.zero_add]⟩),⟨.inl ⟨rfl,rfl⟩,trivial⟩⟩ rfl pZ3 pd (X8 rfl) trivial)] (nB (nB (nT ?_))))
  refine xK [hR 1 rfl rfl (Y9 (u1:=.int .i64 ((2 ^ j:Nat):Int)) (u2:=.int .u64 1) (v:=.int .i64 (((2 ^ j)*2 ^ 1:Nat):Int)) (Ud (n:=1) rfl pj pZ5) (X8 rfl) ⟨rfl,trivial⟩)] ?_
  refine nL (j+1) (show (j+1)≤9 from (by omega)) (show (9-(j+1):Nat)<9-j from (by omega)) (fun _ _ hG=>Wp [0,1,3] (bm 7 106) (t1:=(Z3q m j)) (t2:=[aa,pv 0 0,aa,pv 1 0,aa,Y3 3 kU8 0 ((Xq m j)++Wd m.Xk).length,(Z3p j)]) (h1:=(Z3n tm m j)) (h2:=[(Z3e tm m),(Z3i m),.live (Xe 5 kU8 ((Xq m j)++Wd m.Xk))]) (by have e1:((Xq m (j+1)).length:Nat)=((Xq m j)++Wd m.Xk).length:=p1x;have e2:(((2 ^ (j+1):Nat):Int):Int)=(((2 ^ j)*2 ^ 1:Nat):Int):=(by rfl);have hE:=congr pZ18 e2;exact hE) (by have e1:((Xq m (j+1)):List UInt8)=(Xq m j)++Wd m.Xk:=p1x;have hE:=congrArg (fun (q1:List UInt8)=>([(Z3e tm m),(Z3i m),.live (Xe 5 kU8 q1)]:List HS)) e1;exact hE) hG)
 have hn4:j≠4:=(fun q=>hq8 p2l)
 refine cF (dF hq8) (sR [] ?_)
 by_cases hq9:((2 ^ j:Nat):Int)=32
 ·have hji:j=5:=Jc (i:=5) hj hq9;have hrm:=V9 hji hbt hj8;simp only [Vw,List.length_append,Yo,Wk] at hrm;have hi1:=Yo m.Xb;have hi2:=Yo m.X1.Xs
  refine cT (dT hq9) ?_
  refine xD [[],[],[1],[1,2],[0,1,2,3],[],[5],[5,6],[0,1,2,3,4,5,6,7],[0,1,2,3,4,5,6,7,8]] [hR 4 rfl rfl (Wm (Uw true false (Xq m j) m.X1.Xs (by omega)) Try.func68 rfl (by decide) [3] [2] (l:=[(.tmp 67,(Z3g m j)),(.tmp 70,vI m.X1.Xs)]) [(2,(Z3j m j))] rfl 0 1 rfl rfl rfl rfl rfl rfl rfl rfl rfl ⟨.inr (.inl ⟨rfl,Um,rfl,rfl,by simp,5,(Xq m j).length,We kU8 (Xq m j),List.Mem.head _,pe,fun i j=>by rw [Nat.zero_add]⟩),⟨.inl ⟨rfl,rfl⟩,trivial⟩⟩ rfl pZ3 pd (X8 rfl) trivial),hR 8 rfl rfl (Wm (Uw true false ((Xq m j)++Ym m.X1.Xs) m.X1.Xo (by (simp [maxLen,-List.getD_eq_getElem?_getD]<;>omega))) Try.func68 rfl (by decide) [4] [3] (l:=[(.tmp 71,Y3 3 kU8 0 ((Xq m j)++Ym m.X1.Xs).length),(.tmp 74,vI m.X1.Xo)]) [(3,.live (Xe 5 kU8 ((Xq m j)++Ym m.X1.Xs)))] rfl 0 1 rfl rfl rfl rfl rfl rfl rfl rfl rfl ⟨.inr (.inl ⟨rfl,Um,rfl,rfl,by simp,5,((Xq m j)++Ym m.X1.Xs).length,We kU8 ((Xq m j)++Ym m.X1.Xs),List.Mem.head _,pe,fun i j=>by rw [Nat.zero_add]⟩),⟨.inl ⟨rfl,rfl⟩,trivial⟩⟩ rfl pZ3 pd (X8 rfl) trivial)] pZ4 pZ4 pZ4 pZ4 pZ4 pZ4 ?_
  refine nB (nB (nT (xK [hR 1 rfl rfl (Y9 (u1:=.int .i64 ((2 ^ j:Nat):Int)) (u2:=.int .u64 1) (v:=.int .i64 (((2 ^ j)*2 ^ 1:Nat):Int)) (Ud (n:=1) rfl pj pZ5) (X8 rfl) ⟨rfl,trivial⟩)] ?_)))
  refine nL (j+1) (show (j+1)≤9 from (by omega)) (show (9-(j+1):Nat)<9-j from (by omega)) (fun _ _ hG=>Wp [0,1,4] (bm 7 106) (t1:=[aa,pv 0 0,aa,pv 1 0,aa,Y3 4 kU8 0 (Xq m (j+1)).length,(Z3l j)]) (t2:=[aa,pv 0 0,aa,pv 1 0,aa,Y3 4 kU8 0 ((Xq m j)++Ym m.X1.Xs++Ym m.X1.Xo).length,(Z3p j)]) (h1:=(Z3n tm m j)) (h2:=[(Z3e tm m),(Z3i m),.live (Xe 5 kU8 ((Xq m j)++Ym m.X1.Xs++Ym m.X1.Xo))]) (by have e1:((Xq m (j+1)).length:Nat)=((Xq m j)++Ym m.X1.Xs++Ym m.X1.Xo).length:=p2r;have e2:(((2 ^ (j+1):Nat):Int):Int)=(((2 ^ j)*2 ^ 1:Nat):Int):=(by rfl);have hE:=congr p3p e2;exact hE) (by have e1:((Xq m (j+1)):List UInt8)=(Xq m j)++Ym m.X1.Xs++Ym m.X1.Xo:=p2r;have hE:=congrArg (fun (q1:List UInt8)=>([(Z3e tm m),(Z3i m),.live (Xe 5 kU8 q1)]:List HS)) e1;exact hE) hG)
 have hn5:j≠5:=(fun q=>hq9 p2l)
 refine cF (dF hq9) (sR [] ?_)
 by_cases hq10:((2 ^ j:Nat):Int)=64
 ·have hji:j=6:=Jc (i:=6) hj hq10;have hrm:=V9 hji hbt hj8;simp only [Vw,List.length_append,Yo,Wk] at hrm;have hi1:=Yo m.Xb;have hi2:=Yo m.X1.Xs
  refine cT (dT hq10) (xK [hR 3 rfl rfl (Wm (Ev true false (Xq m j) tm false tm m.Xf (by omega) ‹_›) Try.func70 rfl (by decide) [3] [2] (l:=[(.tmp 78,(Z3g m j)),(.tmp 80,slV tm false (kE tm) m.Xf)]) [(2,(Z3j m j))] rfl 0 1 rfl rfl rfl rfl rfl rfl rfl rfl rfl ⟨.inr (.inl ⟨rfl,Um,rfl,rfl,by simp,5,(Xq m j).length,We kU8 (Xq m j),List.Mem.head _,pe,fun i j=>by rw [Nat.zero_add]⟩),⟨.inl ⟨rfl,rfl⟩,trivial⟩⟩ rfl pZ3 pd (X8 rfl) trivial)] (nB (nB (nT ?_))))
  refine xK [hR 1 rfl rfl (Y9 (u1:=.int .i64 ((2 ^ j:Nat):Int)) (u2:=.int .u64 1) (v:=.int .i64 (((2 ^ j)*2 ^ 1:Nat):Int)) (Ud (n:=1) rfl pj pZ5) (X8 rfl) ⟨rfl,trivial⟩)] ?_
  refine nL (j+1) (show (j+1)≤9 from (by omega)) (show (9-(j+1):Nat)<9-j from (by omega)) (fun _ _ hG=>Wp [0,1,3] (bm 7 106) (t1:=(Z3q m j)) (t2:=[aa,pv 0 0,aa,pv 1 0,aa,Y3 3 kU8 0 ((Xq m j)++W5 m.Xf).length,(Z3p j)]) (h1:=(Z3n tm m j)) (h2:=[(Z3e tm m),(Z3i m),.live (Xe 5 kU8 ((Xq m j)++W5 m.Xf))]) (by have e1:((Xq m (j+1)).length:Nat)=((Xq m j)++W5 m.Xf).length:=p1x;have e2:(((2 ^ (j+1):Nat):Int):Int)=(((2 ^ j)*2 ^ 1:Nat):Int):=(by rfl);have hE:=congr pZ18 e2;exact hE) (by have e1:((Xq m (j+1)):List UInt8)=(Xq m j)++W5 m.Xf:=p1x;have hE:=congrArg (fun (q1:List UInt8)=>([(Z3e tm m),(Z3i m),.live (Xe 5 kU8 q1)]:List HS)) e1;exact hE) hG)
 have hn6:j≠6:=(fun q=>hq10 p2l)
 refine cF (dF hq10) (sR [] ?_)
 by_cases hq11:((2 ^ j:Nat):Int)=128
 ·have hji:j=7:=Jc (i:=7) hj hq11;have hrm:=V9 hji hbt hj8;simp only [Vw,List.length_append,Yo,Wk] at hrm;have hi1:=Yo m.Xb;have hi2:=Yo m.X1.Xs
  refine cT (dT hq11) (xK [hR 3 rfl rfl (Wm (Ev true false (Xq m j) tm false tm m.Xr (by omega) ‹_›) Try.func70 rfl (by decide) [3] [2] (l:=[(.tmp 84,(Z3g m j)),(.tmp 86,slV tm false (kE tm) m.Xr)]) [(2,(Z3j m j))] rfl 0 1 rfl rfl rfl rfl rfl rfl rfl rfl rfl ⟨.inr (.inl ⟨rfl,Um,rfl,rfl,by simp,5,(Xq m j).length,We kU8 (Xq m j),List.Mem.head _,pe,fun i j=>by rw [Nat.zero_add]⟩),⟨.inl ⟨rfl,rfl⟩,trivial⟩⟩ rfl pZ3 pd (X8 rfl) trivial)] (nB (nB (nT ?_))))
  refine xK [hR 1 rfl rfl (Y9 (u1:=.int .i64 ((2 ^ j:Nat):Int)) (u2:=.int .u64 1) (v:=.int .i64 (((2 ^ j)*2 ^ 1:Nat):Int)) (Ud (n:=1) rfl pj pZ5) (X8 rfl) ⟨rfl,trivial⟩)] ?_
  refine nL (j+1) (show (j+1)≤9 from (by omega)) (show (9-(j+1):Nat)<9-j from (by omega)) (fun _ _ hG=>Wp [0,1,3] (bm 7 106) (t1:=(Z3q m j)) (t2:=[aa,pv 0 0,aa,pv 1 0,aa,Y3 3 kU8 0 ((Xq m j)++W5 m.Xr).length,(Z3p j)]) (h1:=(Z3n tm m j)) (h2:=[(Z3e tm m),(Z3i m),.live (Xe 5 kU8 ((Xq m j)++W5 m.Xr))]) (by have e1:((Xq m (j+1)).length:Nat)=((Xq m j)++W5 m.Xr).length:=p1x;have e2:(((2 ^ (j+1):Nat):Int):Int)=(((2 ^ j)*2 ^ 1:Nat):Int):=(by rfl);have hE:=congr pZ18 e2;exact hE) (by have e1:((Xq m (j+1)):List UInt8)=(Xq m j)++W5 m.Xr:=p1x;have hE:=congrArg (fun (q1:List UInt8)=>([(Z3e tm m),(Z3i m),.live (Xe 5 kU8 q1)]:List HS)) e1;exact hE) hG)
 have hn7:j≠7:=(fun q=>hq11 p2l)
 refine cF (dF hq11) (sR [] ?_)
 by_cases hq12:((2 ^ j:Nat):Int)=256
 rotate_left
 ·exact absurd (show j=8 by omega) (fun q=>hq12 p2l)
 have hji:j=8:=Jc (i:=8) hj hq12;have hrm:=V9 hji hbt hj8;simp only [Vw,List.length_append,Yo,Wk] at hrm;have hi1:=Yo m.Xb;have hi2:=Yo m.X1.Xs
 refine cT (dT hq12) (sR [hR 4 rfl rfl (Wm (F2 true false (Xq m j) ((m.X7.length:Nat):Int) (by omega)) Try.func71 rfl (by decide) [3] [2] (l:=[(.tmp 90,(Z3g m j)),(.tmp 93,(Z3r m))]) [(2,(Z3j m j))] rfl 0 1 rfl rfl rfl rfl rfl rfl rfl rfl rfl ⟨.inr (.inl ⟨rfl,Um,rfl,rfl,by simp,5,(Xq m j).length,We kU8 (Xq m j),List.Mem.head _,pe,fun i j=>by rw [Nat.zero_add]⟩),⟨.inl ⟨rfl,rfl⟩,trivial⟩⟩ rfl pZ3 pd (X8 rfl) trivial)] (sR [] (T.block ?_)))
 refine T.loop (ι:=Nat) (fun (k:Nat)=>(Z3v tm m j k)) (fun (k:Nat)=>(k≤m.X7.length)) (fun (k:Nat)=>m.X7.length-k) (0) (Nat.zero_le _) (fun _ _ hG=>Wp [0,1,3] (bm 99 554597137599850363154807652458) (t1:=[aa,pv 0 0,aa,pv 1 0,aa,Y3 3 kU8 0 ((Xq m j)++W3 ((m.X7.length:Nat):Int)++Vi m.X7 0).length,(Z3h j),aa,aa,aa,aa,aa,aa,aa,aa,aa,aa,aa,aa,aa,aa,aa,aa,aa,aa,aa,aa,aa,aa,aa,aa,aa,aa,aa,aa,aa,aa,aa,aa,aa,aa,aa,aa,aa,aa,aa,aa,aa,aa,aa,aa,aa,aa,aa,aa,aa,aa,aa,aa,aa,aa,aa,aa,aa,aa,aa,aa,aa,aa,aa,aa,aa,aa,aa,aa,aa,aa,aa,aa,aa,aa,aa,aa,aa,aa,aa,aa,aa,aa,aa,aa,aa,aa,aa,aa,aa,(Z3t tm m),(Z3r m),vI 0]) (t2:=[aa,pv 0 0,aa,pv 1 0,aa,Y3 3 kU8 0 ((Xq m j)++W3 ((m.X7.length:Nat):Int)).length,(Z3h j),aa,aa,aa,aa,aa,aa,aa,aa,aa,aa,aa,aa,aa,aa,aa,aa,aa,aa,aa,aa,aa,aa,aa,aa,aa,aa,aa,aa,aa,aa,aa,aa,aa,aa,aa,aa,aa,aa,aa,aa,aa,aa,aa,aa,aa,aa,aa,aa,aa,aa,aa,aa,aa,aa,aa,aa,aa,aa,aa,aa,aa,aa,aa,aa,aa,aa,aa,aa,aa,aa,aa,aa,aa,aa,aa,aa,aa,aa,aa,aa,aa,aa,aa,aa,aa,aa,aa,aa,aa,(Z3t tm m),(Z3r m),vI 0]) (h1:=[(Z3e tm m),(Z3i m),.live (Xe 5 kU8 ((Xq m j)++W3 ((m.X7.length:Nat):Int)++Vi m.X7 0))]) (h2:=[(Z3e tm m),(Z3i m),.live (Xe 5 kU8 ((Xq m j)++W3 ((m.X7.length:Nat):Int)))]) (by have e1:(((Xq m j)++W3 ((m.X7.length:Nat):Int)++Vi m.X7 0).length:Nat)=((Xq m j)++W3 ((m.X7.length:Nat):Int)).length:=p3m;have hE:=congrArg (fun (q1:Nat)=>([aa,pv 0 0,aa,pv 1 0,aa,Y3 3 kU8 0 q1,(Z3h j),aa,aa,aa,aa,aa,aa,aa,aa,aa,aa,aa,aa,aa,aa,aa,aa,aa,aa,aa,aa,aa,aa,aa,aa,aa,aa,aa,aa,aa,aa,aa,aa,aa,aa,aa,aa,aa,aa,aa,aa,aa,aa,aa,aa,aa,aa,aa,aa,aa,aa,aa,aa,aa,aa,aa,aa,aa,aa,aa,aa,aa,aa,aa,aa,aa,aa,aa,aa,aa,aa,aa,aa,aa,aa,aa,aa,aa,aa,aa,aa,aa,aa,aa,aa,aa,aa,aa,aa,aa,(Z3t tm m),(Z3r m),vI 0]:List AV)) e1;exact hE) (by have e1:(((Xq m j)++W3 ((m.X7.length:Nat):Int)++Vi m.X7 0):List UInt8)=(Xq m j)++W3 ((m.X7.length:Nat):Int):=p3m;have hE:=congrArg (fun (q1:List UInt8)=>([(Z3e tm m),(Z3i m),.live (Xe 5 kU8 q1)]:List HS)) e1;exact hE) hG) ?_
 rintro k hk
 show T _ _ (Z3v tm m j k) _ _
 replace hk:k≤m.X7.length:=hk
 have hcle:=crt_le m.X7 k
 refine sR [] (T.seq ?_)
 by_cases hq13:((k:Nat):Int)<((m.X7.length:Nat):Int)
 ·have hcr:=Xbo (l:=m.X7) (k:=k) (by omega);have hvc:=Xb6 (m.X7.getD k zC).Yg;have hcl:=Uh ((m.X7.length:Nat):Int)
  refine cT (dT hq13) (T.skip (nT (T.seq (T.block (sR [hR 0 rfl rfl (Wc tm false (kC tm) m.X7 k (k:=.i64) (i:=((k:Nat):Int)) Try.underlying40 I3 rfl rfl (by omega) (X8 rfl) trivial)] ?_)))))
  refine xD [[],[],[1],[0,1,2],[],[4],[0,1,2,3,4,5],[0,1,2,3,4,5,6]] [hR 3 rfl rfl (Wm (E5 true false ((Xq m j)++W3 ((m.X7.length:Nat):Int)++Vi m.X7 k) tm (m.X7.getD k zC).V4 (by (simp [maxLen,-List.getD_eq_getElem?_getD]<;>omega))) Try.func72 rfl (by decide) [4] [2] (l:=[(.tmp 102,(Z3s m j k)),(.tmp 104,.tv (.agg [dI (m.X7.getD k zC).V4.X4,.d (dsl tm false kU8 (m.X7.getD k zC).V4.X9)]))]) [(2,(Z3u m j k))] rfl 0 1 rfl rfl rfl rfl rfl rfl rfl rfl rfl ⟨.inr (.inl ⟨rfl,Um,rfl,rfl,by simp,5,((Xq m j)++W3 ((m.X7.length:Nat):Int)++Vi m.X7 k).length,We kU8 ((Xq m j)++W3 ((m.X7.length:Nat):Int)++Vi m.X7 k),List.Mem.head _,pe,fun i j=>by rw [Nat.zero_add]⟩),⟨⟨.inl ⟨rfl,rfl⟩,⟨.inl ⟨rfl,rfl⟩,trivial⟩⟩,trivial⟩⟩ rfl pZ3 pd (X8 rfl) trivial),hR 6 rfl rfl (Wm (Ev true false (((Xq m j)++W3 ((m.X7.length:Nat):Int)++Vi m.X7 k)++Vk (m.X7.getD k zC).V4) tm false tm (m.X7.getD k zC).Yg (by (simp [maxLen,-List.getD_eq_getElem?_getD]<;>omega)) (by omega)) Try.func70 rfl (by decide) [5] [4] (l:=[(.tmp 105,Y3 4 kU8 0 (((Xq m j)++W3 ((m.X7.length:Nat):Int)++Vi m.X7 k)++Vk (m.X7.getD k zC).V4).length),(.tmp 107,slV tm false (kE tm) (m.X7.getD k zC).Yg)]) [(4,.live (Xe 5 kU8 (((Xq m j)++W3 ((m.X7.length:Nat):Int)++Vi m.X7 k)++Vk (m.X7.getD k zC).V4)))] rfl 0 1 rfl rfl rfl rfl rfl rfl rfl rfl rfl ⟨.inr (.inl ⟨rfl,Um,rfl,rfl,by simp,5,(((Xq m j)++W3 ((m.X7.length:Nat):Int)++Vi m.X7 k)++Vk (m.X7.getD k zC).V4).length,We kU8 (((Xq m j)++W3 ((m.X7.length:Nat):Int)++Vi m.X7 k)++Vk (m.X7.getD k zC).V4),List.Mem.head _,pe,fun i j=>by rw [Nat.zero_add]⟩),⟨.inl ⟨rfl,rfl⟩,trivial⟩⟩ rfl pZ3 pd (X8 rfl) trivial)] pZ4 pZ4 pZ4 pZ4 pZ4 pZ4 ?_
  refine nB (nT (xK [hR 0 rfl rfl (Y9 (u1:=.int .i64 ((k:Nat):Int)) (u2:=.int .i64 1) (v:=.int .i64 ((k+1:Nat):Int)) (W6 pZ5) (X8 rfl) ⟨rfl,trivial⟩)] ?_))
  refine nL (k+1) (show (k+1)≤m.X7.length from (by omega)) (show (m.X7.length-(k+1):Nat)<m.X7.length-k from (by omega)) (fun _ _ hG=>Wp [0,1,5] (bm 99 554597137599850363154807652458) (t1:=[aa,pv 0 0,aa,pv 1 0,aa,Y3 5 kU8 0 ((Xq m j)++W3 ((m.X7.length:Nat):Int)++Vi m.X7 (k+1)).length,(Z3h j),aa,aa,aa,aa,aa,aa,aa,aa,aa,aa,aa,aa,aa,aa,aa,aa,aa,aa,aa,aa,aa,aa,aa,aa,aa,aa,aa,aa,aa,aa,aa,aa,aa,aa,aa,aa,aa,aa,aa,aa,aa,aa,aa,aa,aa,aa,aa,aa,aa,aa,aa,aa,aa,aa,aa,aa,aa,aa,aa,aa,aa,aa,aa,aa,aa,aa,aa,aa,aa,aa,aa,aa,aa,aa,aa,aa,aa,aa,aa,aa,aa,aa,aa,aa,aa,aa,aa,aa,aa,(Z3t tm m),(Z3r m),(Z3w k)]) (t2:=[aa,pv 0 0,aa,pv 1 0,aa,Y3 5 kU8 0 (((Xq m j)++W3 ((m.X7.length:Nat):Int)++Vi m.X7 k)++Vk (m.X7.getD k zC).V4++W5 (m.X7.getD k zC).Yg).length,(Z3h j),aa,aa,aa,aa,aa,aa,aa,aa,aa,aa,aa,aa,aa,aa,aa,aa,aa,aa,aa,aa,aa,aa,aa,aa,aa,aa,aa,aa,aa,aa,aa,aa,aa,aa,aa,aa,aa,aa,aa,aa,aa,aa,aa,aa,aa,aa,aa,aa,aa,aa,aa,aa,aa,aa,aa,aa,aa,aa,aa,aa,aa,aa,aa,aa,aa,aa,aa,aa,aa,aa,aa,aa,aa,aa,aa,aa,aa,aa,aa,aa,aa,aa,aa,aa,aa,aa,aa,aa,aa,(Z3t tm m),(Z3r m),(Z3w k)]) (h1:=[(Z3e tm m),(Z3i m),.live (Xe 5 kU8 ((Xq m j)++W3 ((m.X7.length:Nat):Int)++Vi m.X7 (k+1)))]) (h2:=[(Z3e tm m),(Z3i m),.live (Xe 5 kU8 (((Xq m j)++W3 ((m.X7.length:Nat):Int)++Vi m.X7 k)++Vk (m.X7.getD k zC).V4++W5 (m.X7.getD k zC).Yg))]) (by have e1:(((Xq m j)++W3 ((m.X7.length:Nat):Int)++Vi m.X7 (k+1)).length:Nat)=(((Xq m j)++W3 ((m.X7.length:Nat):Int)++Vi m.X7 k)++Vk (m.X7.getD k zC).V4++W5 (m.X7.getD k zC).Yg).length:=p2w;have hE:=congrArg (fun (q1:Nat)=>([aa,pv 0 0,aa,pv 1 0,aa,Y3 5 kU8 0 q1,(Z3h j),aa,aa,aa,aa,aa,aa,aa,aa,aa,aa,aa,aa,aa,aa,aa,aa,aa,aa,aa,aa,aa,aa,aa,aa,aa,aa,aa,aa,aa,aa,aa,aa,aa,aa,aa,aa,aa,aa,aa,aa,aa,aa,aa,aa,aa,aa,aa,aa,aa,aa,aa,aa,aa,aa,aa,aa,aa,aa,aa,aa,aa,aa,aa,aa,aa,aa,aa,aa,aa,aa,aa,aa,aa,aa,aa,aa,aa,aa,aa,aa,aa,aa,aa,aa,aa,aa,aa,aa,aa,(Z3t tm m),(Z3r m),(Z3w k)]:List AV)) e1;exact hE) (by have e1:(((Xq m j)++W3 ((m.X7.length:Nat):Int)++Vi m.X7 (k+1)):List UInt8)=((Xq m j)++W3 ((m.X7.length:Nat):Int)++Vi m.X7 k)++Vk (m.X7.getD k zC).V4++W5 (m.X7.getD k zC).Yg:=p2w;have hE:=congrArg (fun (q1:List UInt8)=>([(Z3e tm m),(Z3i m),.live (Xe 5 kU8 q1)]:List HS)) e1;exact hE) hG)
 refine cF (dF hq13) (T.exit (xT (xT (xH (nB (nB (nT (xK [hR 1 rfl rfl (Y9 (u1:=.int .i64 ((2 ^ j:Nat):Int)) (u2:=.int .u64 1) (v:=.int .i64 (((2 ^ j)*2 ^ 1:Nat):Int)) (Ud (n:=1) rfl pj pZ5) (X8 rfl) ⟨rfl,trivial⟩)] ?_))))))))
 refine nL (j+1) (show (j+1)≤9 from (by omega)) (show (9-(j+1):Nat)<9-j from (by omega)) (fun _ _ hG=>Yc [0,1,2] (bm 7 106) (t2:=[aa,pv 0 0,aa,pv 1 0,aa,(Z3s m j k),(Z3p j)]) (h2:=[(Z3e tm m),(Z3i m),(Z3u m j k)]) (by have e1:((Xq m (j+1)).length:Nat)=((Xq m j)++W3 ((m.X7.length:Nat):Int)++Vi m.X7 k).length:=p3y;have e2:(((2 ^ (j+1):Nat):Int):Int)=(((2 ^ j)*2 ^ 1:Nat):Int):=(by rfl);have hE:=congr p3q e2;exact hE) (by have e1:((Xq m (j+1)):List UInt8)=((Xq m j)++W3 ((m.X7.length:Nat):Int)++Vi m.X7 k):=p3y;have hE:=congrArg (fun (q1:List UInt8)=>([(Z3e tm m),(Z3i m),.live (Xe 5 kU8 q1)]:List HS)) e1;exact hE) hG)
end Go.Proofs.Ythnefnknoahbkaa.Q
