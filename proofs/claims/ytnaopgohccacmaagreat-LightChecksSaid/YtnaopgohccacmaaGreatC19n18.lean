import Derived.Test.YtnaopgohccacmaaGreatC19n17
namespace Go.Proofs.YtnaopgohccacmaaGreat.Q
open Go Go.RowKit
set_option linter.unusedVariables false
set_option linter.unusedSimpArgs false
set_option maxRecDepth 100000
set_option maxHeartbeats 4000000
section
variable (tm:Bool) (m:aM) (h:aH) (k:Nat)
abbrev Z7n:List SV:=[dI m.X2,dI m.Y1,dI m.Xo,dI m.Xi,dI m.Yj,dS m.X8,.d (dsl tm false kU8 m.Xa),dI m.X1.Xw,dI m.X1.Xn,.d (dsl tm false (kE tm) m.Xp),.d (dsl tm false (kE tm) m.Y5),.d (dsl tm false (kC tm) m.X5)]
abbrev Z7o:AV:=.tv (.agg (Z7n tm m))
abbrev Z7p:List SV:=[dB h.Y1,dB h.Xo,dB h.Xi,dB h.X8,dB h.Xa,dB h.X1,dB h.Xp,dB h.Y5,dB h.X5]
abbrev Z7q:AV:=.tv (.agg (Z7p h))
abbrev Z7r:List AV:=[(Z7o tm m),(Z7q h),pv 0 0,pv 1 0,vB false,vI (if h.Xp=true then 7 else 0),aa,aa,aa,vB h.Xp]
abbrev Z7s:List HS:=[.live (.box 78 (Z7n tm m)),.live (.box 119 (Z7p h))]
abbrev Z7t:List AV:=[(Z7o tm m),(Z7q h),pv 0 0,pv 1 0,vB false,vI 7,aa,aa,aa,vB h.Xp]
abbrev Z7u:List AV:=[(Z7o tm m),(Z7q h),pv 0 0,pv 1 0,vB false,vI 0,aa,aa,aa,vB h.Xp]
abbrev Z7v:AV:=vI (maxB m.X2 h)
abbrev Z7w:AV:=vB (decide (m.X2=2))
abbrev Z7x:List AV:=[(Z7o tm m),(Z7q h),pv 0 0,pv 1 0,vB false,(Z7v m h),aa,aa,aa,vB h.Xp,aa,aa,(Z7w m)]
abbrev Z7y:List AV:=[(Z7o tm m),(Z7q h),pv 0 0,pv 1 0,vB false,vI 4,aa,aa,aa,vB h.Xp,aa,aa,(Z7w m)]
abbrev Z7z:List AV:=[(Z7o tm m),(Z7q h),pv 0 0,pv 1 0,vB false,vI (if h.Xp=true then 7 else 0),aa,aa,aa,vB h.Xp,aa,aa,(Z7w m)]
abbrev Z80:List AV:=[(Z7o tm m),(Z7q h),pv 0 0,pv 1 0,vB false,(Z7v m h),vI (maxP h),aa,aa,vB h.Xp,aa,aa,(Z7w m),aa,vB h.Y5]
abbrev Z81:List AV:=[(Z7o tm m),(Z7q h),pv 0 0,pv 1 0,vB false,(Z7v m h),vI 8,aa,aa,vB h.Xp,aa,aa,(Z7w m),aa,vB h.Y5]
abbrev Z82:List AV:=[(Z7o tm m),(Z7q h),pv 0 0,pv 1 0,vB false,(Z7v m h),vI 0,aa,aa,vB h.Xp,aa,aa,(Z7w m),aa,vB h.Y5]
abbrev Z83:TV:=.one (dB false)
abbrev Z84:AV:=vB (decide (((m.Y5.length:Nat):Int)>(maxP h)))
abbrev Z85:AV:=vB (decide (((m.X5.length:Nat):Int)>8))
abbrev Z86:St:=⟨[(Z7o tm m),(Z7q h),pv 0 0,pv 1 0,vB false,(Z7v m h),vI (maxP h),vI ((k:Nat):Int),aa,vB h.Xp,aa,aa,(Z7w m),aa,vB h.Y5,aa,aa,aa,aa,aa,aa,aa,aa,aa,aa,aa,(Z84 m h),aa,aa,aa,aa,aa,aa,aa,aa,aa,aa,aa,aa,aa,aa,aa,aa,aa,aa,aa,aa,aa,aa,aa,aa,aa,(Z85 m)],(Z7s tm m h)⟩
abbrev Z89:TV:=.one (dB true)
abbrev Z8a:AV:=vB (decide (((m.X5.length:Nat):Int)>0))
end
theorem Wx (tm:Bool) (m:aM) (h:aH) (hq:m.Xp.length≤9223372036854775807) (hr:m.Y5.length≤9223372036854775807) (hc:m.X5.length≤9223372036854775807):Holds Tryz.prog 121 ⟨[.tv (.agg [dI m.X2,dI m.Y1,dI m.Xo,dI m.Xi,dI m.Yj,dS m.X8,.d (dsl tm false kU8 m.Xa),dI m.X1.Xw,dI m.X1.Xn,.d (dsl tm false (kE tm) m.Xp),.d (dsl tm false (kE tm) m.Y5),.d (dsl tm false (kC tm) m.X5)]),.tv (.agg [dB h.Y1,dB h.Xo,dB h.Xi,dB h.X8,dB h.Xa,dB h.X1,dB h.Xp,dB h.Y5,dB h.X5])],[],vB (decide (Eo m h)),[]⟩:=by
 refine Holds.of Tryz.func121 rfl (N:=68) Tryz.ntmps121 rfl fun w0 B0 S0 U0=>?_
 show T _ (Y2 68 0 w0 S0 U0 B0) ⟨[(Z7o tm m),(Z7q h)],[]⟩ _ _
 refine sR [] ?_
 refine sR [] ?_
 refine Uu ⟨(Z7r tm m h),(Z7s tm m h)⟩ ?_ ?_
 ·refine sR [] ?_
  by_cases hq1:h.Xp=true
  ·refine cT hq1 ?_
   refine xK [] ?_
   refine eN ⟨(Z7t tm m h),(Z7s tm m h)⟩ ?_
   refine Xc (s':=⟨(Z7r tm m h),(Z7s tm m h)⟩) (fun _ _ hG=>Yt [0,1] (bm 10 575) (t2:=(Z7t tm m h)) (congrArg (fun (q1:Int)=>([(Z7o tm m),(Z7q h),pv 0 0,pv 1 0,vB false,vI q1,aa,aa,aa,vB h.Xp]:List AV)) (by exact if_pos ‹_›)) rfl hG) ?_
   exact nJ
  replace hq1:=Bool.eq_false_iff.2 hq1
  refine cF hq1 ?_
  refine T.skip ?_
  refine eN ⟨(Z7u tm m h),(Z7s tm m h)⟩ ?_
  refine Xc (s':=⟨(Z7r tm m h),(Z7s tm m h)⟩) (fun _ _ hG=>Yt [0,1] (bm 10 575) (t2:=(Z7u tm m h)) (congrArg (fun (q1:Int)=>([(Z7o tm m),(Z7q h),pv 0 0,pv 1 0,vB false,vI q1,aa,aa,aa,vB h.Xp]:List AV)) (by exact if_neg (nbB ‹_›))) rfl hG) ?_
  exact nJ
 refine Uu ⟨(Z7x tm m h),(Z7s tm m h)⟩ ?_ ?_
 ·refine sR [] ?_
  by_cases hq2:m.X2=2
  ·refine cT (dT hq2) ?_
   refine xK [] ?_
   refine eN ⟨(Z7y tm m h),(Z7s tm m h)⟩ ?_
   refine Xc (s':=⟨(Z7x tm m h),(Z7s tm m h)⟩) (fun _ _ hG=>Yt [0,1] (bm 13 4671) (t2:=(Z7y tm m h)) (congrArg (fun (q1:Int)=>([(Z7o tm m),(Z7q h),pv 0 0,pv 1 0,vB false,vI q1,aa,aa,aa,vB h.Xp,aa,aa,(Z7w m)]:List AV)) (by exact if_pos ‹_›)) rfl hG) ?_
   exact nJ
  refine cF (dF hq2) ?_
  refine T.skip ?_
  refine eN ⟨(Z7z tm m h),(Z7s tm m h)⟩ ?_
  refine Xc (s':=⟨(Z7x tm m h),(Z7s tm m h)⟩) (fun _ _ hG=>Yt [0,1] (bm 13 4671) (t2:=(Z7z tm m h)) (congrArg (fun (q1:Int)=>([(Z7o tm m),(Z7q h),pv 0 0,pv 1 0,vB false,vI q1,aa,aa,aa,vB h.Xp,aa,aa,(Z7w m)]:List AV)) (by exact if_neg ‹_›)) rfl hG) ?_
  exact nJ
 refine sR [] ?_
 refine Uu ⟨(Z80 tm m h),(Z7s tm m h)⟩ ?_ ?_
 ·refine sR [] ?_
  by_cases hq3:h.Y5=true
  ·refine cT hq3 ?_
   refine xK [] ?_
   refine eN ⟨(Z81 tm m h),(Z7s tm m h)⟩ ?_
   refine Xc (s':=⟨(Z80 tm m h),(Z7s tm m h)⟩) (fun _ _ hG=>Yt [0,1] (bm 15 21119) (t2:=(Z81 tm m h)) (congrArg (fun (q1:Int)=>([(Z7o tm m),(Z7q h),pv 0 0,pv 1 0,vB false,(Z7v m h),vI q1,aa,aa,vB h.Xp,aa,aa,(Z7w m),aa,vB h.Y5]:List AV)) (by exact if_pos ‹_›)) rfl hG) ?_
   exact nJ
  replace hq3:=Bool.eq_false_iff.2 hq3
  refine cF hq3 ?_
  refine T.skip ?_
  refine eN ⟨(Z82 tm m h),(Z7s tm m h)⟩ ?_
  refine Xc (s':=⟨(Z80 tm m h),(Z7s tm m h)⟩) (fun _ _ hG=>Yt [0,1] (bm 15 21119) (t2:=(Z82 tm m h)) (congrArg (fun (q1:Int)=>([(Z7o tm m),(Z7q h),pv 0 0,pv 1 0,vB false,(Z7v m h),vI q1,aa,aa,vB h.Xp,aa,aa,(Z7w m),aa,vB h.Y5]:List AV)) (by exact if_neg (nbB ‹_›))) rfl hG) ?_
  exact nJ
 refine T.seq ?_
 by_cases hq4:((m.Xp.length:Nat):Int)>(maxB m.X2 h)
 ·refine sR (Xm (hN · false (dT hq4)) [6,7,8,9,10] (hP 11 (dT hq4)::[])) ?_
  refine cT (b:=true) rfl ?_
  refine sR [] ?_
  refine T.ret (rT ?_)
  exact eRt 4 (Z83) [] (cB (by (refine dF (fun h9=>?_);exact absurd h9.1 (by omega)))) trivial
 refine sR (Xm (hY · (dF hq4)) [6,7,8,9,10] (hP 11 (dF hq4)::[])) ?_
 by_cases hq5:((m.Y5.length:Nat):Int)>(maxP h)
 ·refine cT (dT hq5) ?_
  refine sR [] ?_
  refine T.ret (rT ?_)
  exact eRt 4 (Z83) [] (cB (by (refine dF (fun h9=>?_);exact absurd h9.2.1 (by omega)))) trivial
 refine cF (dF hq5) ?_
 refine T.skip (nT (T.seq ?_))
 by_cases hq6:m.X2=10
 ·by_cases hq7:((m.X5.length:Nat):Int)≠1
  ·refine sR (Xm (hY · (dT hq6)) [4,5,6,7] (hP 8 (dT hq6)::(Xm (hN · false (dT hq7)) [10,11,12,13] (hU 14::(hU 15::(hU 16::(hU 17::(hN 18 false (dT hq7)::(hP 19 (dT hq7)::(Xm hN0 [21,22,23,24] (hP1 25::[]))))))))))) ?_
   refine cT (b:=true) rfl ?_
   refine sR [] ?_
   refine T.ret (rT ?_)
   exact eRt 4 (Z83) [] (cB (by (refine dF (fun h9=>?_);exact h9.2.2.1 ⟨by assumption,by assumption⟩))) trivial
  by_cases hq8:h.X5=true
  ·refine sR (Xm (hY · (dT hq6)) [4,5,6,7] (hP 8 (dT hq6)::(Xm (hY · (dF hq7)) [10,11,12,13] (Xm (hN · true (cn hq8)) [14,15,16,17] (hS 18 (oY rfl rfl rfl rfl (X3 rfl) (dF hq7) (Wi (b:=(!h.X5)) (av:=vB false) (X3 rfl) ⟨rfl,trivial⟩ (cn hq8)))::(hP 19 (dF hq7)::(Xm hY0 [21,22,23,24] (hP0 25::[])))))))) ?_
   by_cases hq9:((m.X5.length:Nat):Int)>8
   ·refine cT (dT hq9) ?_
    refine sR [] ?_
    refine T.ret (rT ?_)
    exact eRt 4 (Z83) [] (cB (by (refine dF (fun h9=>?_);exact absurd h9.2.2.2.2.1 (by omega)))) trivial
   refine cF (dF hq9) ?_
   refine T.skip (nT (T.seq ?_))
   refine sR [] ?_
   refine T.block ?_
   refine T.loop (ι:=Nat) (fun (k:Nat)=>(Z86 tm m h k)) (fun (k:Nat)=>(k≤m.X5.length)∧(∀ j,j<k→(m.X5.getD j zC).Xv.length≤7)) (fun (k:Nat)=>m.X5.length-k) (0) ⟨(Nat.zero_le _),(fun j hj=>absurd hj (Nat.not_lt_zero _))⟩ (fun _ _ hG=>Yt [0,1] (bm 53 4503599694500607) rfl rfl hG) ?_
   rintro k ⟨hk,hb⟩
   show T _ _ (Z86 tm m h k) _ _
   replace hk:k≤m.X5.length:=hk
   replace hb:∀ j,j<k→(m.X5.getD j zC).Xv.length≤7:=hb
   refine T.seq ?_
   refine sR [] ?_
   by_cases hq10:((k:Nat):Int)<((m.X5.length:Nat):Int)
   ·refine cT (dT hq10) ?_
    refine T.skip (nT (T.seq ?_))
    refine T.block ?_
    refine sR [hR 3 rfl rfl (Wd tm false (kC tm) m.X5 k (k:=.i64) (i:=((k:Nat):Int)) Tryz.underlying76 Fr rfl rfl (by omega) (X3 rfl) trivial)] ?_
    by_cases hq11:(((m.X5.getD k zC).Xv.length:Nat):Int)>7
    ·refine cT (dT hq11) ?_
     refine sR [] ?_
     refine T.ret (rB (rT (rT (rB (rT ?_)))))
     exact eRt 4 (Z83) [] (cB (by (refine dF (fun h9=>?_);exact absurd (h9.2.2.2.2.2 _ (J5 (z:=zC) (k:=k) (by omega))) (by omega)))) trivial
    refine cF (dF hq11) ?_
    refine T.skip ?_
    refine nB ?_
    refine nT ?_
    refine xK [hR 1 rfl rfl (Ye (u1:=.int .i64 ((k:Nat):Int)) (u2:=.int .i64 1) (v:=.int .i64 ((k+1:Nat):Int)) (Wa pa) (X3 rfl) ⟨rfl,trivial⟩)] ?_
    refine nL (k+1) ⟨(show (k+1)≤m.X5.length from (by omega)),(show ∀ j,j<(k+1)→(m.X5.getD j zC).Xv.length≤7 from (U5 hb (by omega)))⟩ (show (m.X5.length-(k+1):Nat)<m.X5.length-k from (by omega)) (fun _ _ hG=>Yt [0,1] (bm 53 4503599694500607) rfl rfl hG)
   refine cF (dF hq10) ?_
   refine T.exit ?_
   refine xT ?_
   refine xT ?_
   refine xH ?_
   refine nT ?_
   refine sR [] ?_
   refine T.ret ?_
   exact eRt 4 (Z89) [] (cB (by (refine dT ⟨by omega,by omega,(fun h8=>by exact absurd h8.2 ‹_›),(fun h8=>by exact absurd ‹_› h8.1),by omega,X27 hb (by omega)⟩))) trivial
  replace hq8:=Bool.eq_false_iff.2 hq8
  by_cases hq12:((m.X5.length:Nat):Int)>0
  ·refine sR (Xm (hY · (dT hq6)) [4,5,6,7] (hP 8 (dT hq6)::(Xm (hY · (dF hq7)) [10,11,12,13] (Xm (hY · (cn hq8)) [14,15,16,17] (hS 18 (oY rfl rfl rfl rfl (X3 rfl) (dF hq7) (Wc (b:=(!h.X5)) (av:=(Z8a m)) (X3 rfl) trivial (cn hq8)))::(hP 19 (dF hq7)::(Xm (hN · false (dT hq12)) [21,22,23,24] (hP 25 (dT hq12)::[])))))))) ?_
   refine cT (b:=true) rfl ?_
   refine sR [] ?_
   refine T.ret (rT ?_)
   exact eRt 4 (Z83) [] (cB (by (refine dF (fun h9=>?_);exact h9.2.2.2.1 ⟨(by exact nbB ‹_›),by assumption⟩))) trivial
  refine sR (Xm (hY · (dT hq6)) [4,5,6,7] (hP 8 (dT hq6)::(Xm (hY · (dF hq7)) [10,11,12,13] (Xm (hY · (cn hq8)) [14,15,16,17] (hS 18 (oY rfl rfl rfl rfl (X3 rfl) (dF hq7) (Wc (b:=(!h.X5)) (av:=(Z8a m)) (X3 rfl) trivial (cn hq8)))::(hP 19 (dF hq7)::(Xm (hY · (dF hq12)) [21,22,23,24] (hP 25 (dF hq12)::[])))))))) ?_
  by_cases hq13:((m.X5.length:Nat):Int)>8
  ·refine cT (dT hq13) ?_
   refine sR [] ?_
   refine T.ret (rT ?_)
   exact eRt 4 (Z83) [] (cB (by (refine dF (fun h9=>?_);exact absurd h9.2.2.2.2.1 (by omega)))) trivial
  refine cF (dF hq13) ?_
  refine T.skip (nT (T.seq ?_))
  refine sR [] ?_
  refine T.block ?_
  refine T.loop (ι:=Nat) (fun (k:Nat)=>(Z86 tm m h k)) (fun (k:Nat)=>(k≤m.X5.length)∧(∀ j,j<k→(m.X5.getD j zC).Xv.length≤7)) (fun (k:Nat)=>m.X5.length-k) (0) ⟨(Nat.zero_le _),(fun j hj=>absurd hj (Nat.not_lt_zero _))⟩ (fun _ _ hG=>Yt [0,1] (bm 53 4503599694500607) rfl rfl hG) ?_
  rintro k ⟨hk,hb⟩
  show T _ _ (Z86 tm m h k) _ _
  replace hk:k≤m.X5.length:=hk
  replace hb:∀ j,j<k→(m.X5.getD j zC).Xv.length≤7:=hb
  refine T.seq ?_
  refine sR [] ?_
  by_cases hq14:((k:Nat):Int)<((m.X5.length:Nat):Int)
  ·refine cT (dT hq14) ?_
   refine T.skip (nT (T.seq ?_))
   refine T.block ?_
   refine sR [hR 3 rfl rfl (Wd tm false (kC tm) m.X5 k (k:=.i64) (i:=((k:Nat):Int)) Tryz.underlying76 Fr rfl rfl (by omega) (X3 rfl) trivial)] ?_
   by_cases hq15:(((m.X5.getD k zC).Xv.length:Nat):Int)>7
   ·refine cT (dT hq15) ?_
    refine sR [] ?_
    refine T.ret (rB (rT (rT (rB (rT ?_)))))
    exact eRt 4 (Z83) [] (cB (by (refine dF (fun h9=>?_);exact absurd h9.2.2.2.2.1 (by omega)))) trivial
   refine cF (dF hq15) ?_
   refine T.skip ?_
   refine nB ?_
   refine nT ?_
   refine xK [hR 1 rfl rfl (Ye (u1:=.int .i64 ((k:Nat):Int)) (u2:=.int .i64 1) (v:=.int .i64 ((k+1:Nat):Int)) (Wa pa) (X3 rfl) ⟨rfl,trivial⟩)] ?_
   refine nL (k+1) ⟨(show (k+1)≤m.X5.length from (by omega)),(show ∀ j,j<(k+1)→(m.X5.getD j zC).Xv.length≤7 from (U5 hb (by omega)))⟩ (show (m.X5.length-(k+1):Nat)<m.X5.length-k from (by omega)) (fun _ _ hG=>Yt [0,1] (bm 53 4503599694500607) rfl rfl hG)
  refine cF (dF hq14) ?_
  refine T.exit ?_
  refine xT ?_
  refine xT ?_
  refine xH ?_
  refine nT ?_
  refine sR [] ?_
  refine T.ret ?_
  exact eRt 4 (Z89) [] (cB (by (refine dT ⟨by omega,by omega,(fun h8=>by exact absurd h8.2 ‹_›),(fun h8=>by exact absurd h8.2 ‹_›),by omega,X27 hb (by omega)⟩))) trivial
 by_cases hq16:h.X5=true
 ·refine sR (Xm (hN · true (dF hq6)) [4,5,6,7] (hP 8 (dF hq6)::(Xm hY0 [10,11,12,13] (Xm (hN · true (cn hq16)) [14,15,16,17] (hS 18 (oY (b:=false) rfl rfl rfl rfl (X3 rfl) rfl (Wi (b:=(!h.X5)) (av:=vB false) (X3 rfl) ⟨rfl,trivial⟩ (cn hq16)))::(hP0 19::(Xm hY0 [21,22,23,24] (hP0 25::[])))))))) ?_
  by_cases hq17:((m.X5.length:Nat):Int)>8
  ·refine cT (dT hq17) ?_
   refine sR [] ?_
   refine T.ret (rT ?_)
   exact eRt 4 (Z83) [] (cB (by (refine dF (fun h9=>?_);exact absurd h9.2.2.2.2.1 (by omega)))) trivial
  refine cF (dF hq17) ?_
  refine T.skip (nT (T.seq ?_))
  refine sR [] ?_
  refine T.block ?_
  refine T.loop (ι:=Nat) (fun (k:Nat)=>(Z86 tm m h k)) (fun (k:Nat)=>(k≤m.X5.length)∧(∀ j,j<k→(m.X5.getD j zC).Xv.length≤7)) (fun (k:Nat)=>m.X5.length-k) (0) ⟨(Nat.zero_le _),(fun j hj=>absurd hj (Nat.not_lt_zero _))⟩ (fun _ _ hG=>Yt [0,1] (bm 53 4503599694500607) rfl rfl hG) ?_
  rintro k ⟨hk,hb⟩
  show T _ _ (Z86 tm m h k) _ _
  replace hk:k≤m.X5.length:=hk
  replace hb:∀ j,j<k→(m.X5.getD j zC).Xv.length≤7:=hb
  refine T.seq ?_
  refine sR [] ?_
  by_cases hq18:((k:Nat):Int)<((m.X5.length:Nat):Int)
  ·refine cT (dT hq18) ?_
   refine T.skip (nT (T.seq ?_))
   refine T.block ?_
   refine sR [hR 3 rfl rfl (Wd tm false (kC tm) m.X5 k (k:=.i64) (i:=((k:Nat):Int)) Tryz.underlying76 Fr rfl rfl (by omega) (X3 rfl) trivial)] ?_
   by_cases hq19:(((m.X5.getD k zC).Xv.length:Nat):Int)>7
   ·refine cT (dT hq19) ?_
    refine sR [] ?_
    refine T.ret (rB (rT (rT (rB (rT ?_)))))
    exact eRt 4 (Z83) [] (cB (by (refine dF (fun h9=>?_);exact absurd (h9.2.2.2.2.2 _ (J5 (z:=zC) (k:=k) (by omega))) (by omega)))) trivial
   refine cF (dF hq19) ?_
   refine T.skip ?_
   refine nB ?_
   refine nT ?_
   refine xK [hR 1 rfl rfl (Ye (u1:=.int .i64 ((k:Nat):Int)) (u2:=.int .i64 1) (v:=.int .i64 ((k+1:Nat):Int)) (Wa pa) (X3 rfl) ⟨rfl,trivial⟩)] ?_
   refine nL (k+1) ⟨(show (k+1)≤m.X5.length from (by omega)),(show ∀ j,j<(k+1)→(m.X5.getD j zC).Xv.length≤7 from (U5 hb (by omega)))⟩ (show (m.X5.length-(k+1):Nat)<m.X5.length-k from (by omega)) (fun _ _ hG=>Yt [0,1] (bm 53 4503599694500607) rfl rfl hG)
  refine cF (dF hq18) ?_
  refine T.exit ?_
  refine xT ?_
  refine xT ?_
  refine xH ?_
  refine nT ?_
  refine sR [] ?_
  refine T.ret ?_
  exact eRt 4 (Z89) [] (cB (by (refine dT ⟨by omega,by omega,(fun h8=>by exact absurd h8.1 ‹_›),(fun h8=>by exact absurd ‹_› h8.1),by omega,X27 hb (by omega)⟩))) trivial
 replace hq16:=Bool.eq_false_iff.2 hq16
 by_cases hq20:((m.X5.length:Nat):Int)>0
 ·refine sR (Xm (hN · true (dF hq6)) [4,5,6,7] (hP 8 (dF hq6)::(Xm hY0 [10,11,12,13] (Xm (hY · (cn hq16)) [14,15,16,17] (hS 18 (oY (b:=false) rfl rfl rfl rfl (X3 rfl) rfl (Wc (b:=(!h.X5)) (av:=(Z8a m)) (X3 rfl) trivial (cn hq16)))::(hP0 19::(Xm (hN · false (dT hq20)) [21,22,23,24] (hP 25 (dT hq20)::[])))))))) ?_
  refine cT (b:=true) rfl ?_
  refine sR [] ?_
  refine T.ret (rT ?_)
  exact eRt 4 (Z83) [] (cB (by (refine dF (fun h9=>?_);exact h9.2.2.2.1 ⟨(by exact nbB ‹_›),by assumption⟩))) trivial
 refine sR (Xm (hN · true (dF hq6)) [4,5,6,7] (hP 8 (dF hq6)::(Xm hY0 [10,11,12,13] (Xm (hY · (cn hq16)) [14,15,16,17] (hS 18 (oY (b:=false) rfl rfl rfl rfl (X3 rfl) rfl (Wc (b:=(!h.X5)) (av:=(Z8a m)) (X3 rfl) trivial (cn hq16)))::(hP0 19::(Xm (hY · (dF hq20)) [21,22,23,24] (hP 25 (dF hq20)::[])))))))) ?_
 by_cases hq21:((m.X5.length:Nat):Int)>8
 ·refine cT (dT hq21) ?_
  refine sR [] ?_
  refine T.ret (rT ?_)
  exact eRt 4 (Z83) [] (cB (by (refine dF (fun h9=>?_);exact absurd h9.2.2.2.2.1 (by omega)))) trivial
 refine cF (dF hq21) ?_
 refine T.skip (nT (T.seq ?_))
 refine sR [] ?_
 refine T.block ?_
 refine T.loop (ι:=Nat) (fun (k:Nat)=>(Z86 tm m h k)) (fun (k:Nat)=>(k≤m.X5.length)∧(∀ j,j<k→(m.X5.getD j zC).Xv.length≤7)) (fun (k:Nat)=>m.X5.length-k) (0) ⟨(Nat.zero_le _),(fun j hj=>absurd hj (Nat.not_lt_zero _))⟩ (fun _ _ hG=>Yt [0,1] (bm 53 4503599694500607) rfl rfl hG) ?_
 rintro k ⟨hk,hb⟩
 show T _ _ (Z86 tm m h k) _ _
 replace hk:k≤m.X5.length:=hk
 replace hb:∀ j,j<k→(m.X5.getD j zC).Xv.length≤7:=hb
 refine T.seq ?_
 refine sR [] ?_
 by_cases hq22:((k:Nat):Int)<((m.X5.length:Nat):Int)
 ·refine cT (dT hq22) ?_
  refine T.skip (nT (T.seq ?_))
  refine T.block ?_
  refine sR [hR 3 rfl rfl (Wd tm false (kC tm) m.X5 k (k:=.i64) (i:=((k:Nat):Int)) Tryz.underlying76 Fr rfl rfl (by omega) (X3 rfl) trivial)] ?_
  by_cases hq23:(((m.X5.getD k zC).Xv.length:Nat):Int)>7
  ·refine cT (dT hq23) ?_
   refine sR [] ?_
   refine T.ret (rB (rT (rT (rB (rT ?_)))))
   exact eRt 4 (Z83) [] (cB (by (refine dF (fun h9=>?_);exact absurd h9.2.2.2.2.1 (by omega)))) trivial
  refine cF (dF hq23) ?_
  refine T.skip ?_
  refine nB ?_
  refine nT ?_
  refine xK [hR 1 rfl rfl (Ye (u1:=.int .i64 ((k:Nat):Int)) (u2:=.int .i64 1) (v:=.int .i64 ((k+1:Nat):Int)) (Wa pa) (X3 rfl) ⟨rfl,trivial⟩)] ?_
  refine nL (k+1) ⟨(show (k+1)≤m.X5.length from (by omega)),(show ∀ j,j<(k+1)→(m.X5.getD j zC).Xv.length≤7 from (U5 hb (by omega)))⟩ (show (m.X5.length-(k+1):Nat)<m.X5.length-k from (by omega)) (fun _ _ hG=>Yt [0,1] (bm 53 4503599694500607) rfl rfl hG)
 refine cF (dF hq22) ?_
 refine T.exit ?_
 refine xT ?_
 refine xT ?_
 refine xH ?_
 refine nT ?_
 refine sR [] ?_
 refine T.ret ?_
 exact eRt 4 (Z89) [] (cB (by (refine dT ⟨by omega,by omega,(fun h8=>by exact absurd h8.1 ‹_›),(fun h8=>by exact absurd h8.2 ‹_›),by omega,X27 hb (by omega)⟩))) trivial
end Go.Proofs.YtnaopgohccacmaaGreat.Q
