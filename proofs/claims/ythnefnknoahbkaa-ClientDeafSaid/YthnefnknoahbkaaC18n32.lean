import Derived.Test.YthnefnknoahbkaaC18n31
namespace Go.Proofs.Ythnefnknoahbkaa.Q
open Go Go.RowKit
set_option linter.unusedVariables false
set_option linter.unusedSimpArgs false
set_option maxRecDepth 100000
set_option maxHeartbeats 4000000
section
variable (x:Yx) (l:List Xn) (k:Nat) (L:List aE)
abbrev Zkl:AV:=slV false false (Y2 false) l
abbrev Zkm:SV:=dI (cOf (max 1 x.Xg))
abbrev Zkn:HS:=.live (.box 99 [dI (3*(fOf x.Wj)+1),(Zkm x),.mref 1])
abbrev Zko:SV:=dI 1000
abbrev Zkp:HS:=.live (.box 82 [.ptr 0 0,Zko,dI 0,.d (.val (.pointer none)),.mref 3,.own 4 (X5 false).sz 0 ([]:List Xj).length])
abbrev Zkq:HS:=.live (mpK (W0 .i64) (Xi false) ([]:List (Int×Xd)))
abbrev Zkr:HS:=.live (Xe 78 (X5 false) ([]:List Xj))
abbrev Zks:SV:=dI (fOf x.Wj)
abbrev Zkt:HS:=.live (.box 70 [.ptr 5 0,Zko,dI 0,dB false,dI zE.X4,dU zE.X9,.own 8 (X0 false).sz 0 ([]:List X6).length,.own 9 (X5 false).sz 0 ([]:List Xj).length])
abbrev Zku:HS:=.live (Xe 116 (X0 false) ([]:List X6))
abbrev Zkv:HS:=.live (.box 31 [.ptr 0 0,.ptr 5 0,.ptr 2 0,.ptr 7 0])
abbrev Zkw:HS:=.live (Xe 48 (kE false) ([]:List aE))
abbrev Zkx:HS:=.live (.box 99 [dI (3*(fOf x.Wj)+1),(Zkm x),.mref 2])
abbrev Zky:HS:=.live (.box 82 [.ptr 1 0,Zko,dI 0,.d (.val (.pointer none)),.mref 4,.own 5 (X5 false).sz 0 ([]:List Xj).length])
abbrev Zkz:HS:=.live (.box 106 [dB true,(Zks x),(Zkm x),.own 7 (kE false).sz 0 ([]:List aE).length])
abbrev Zl0:HS:=.live (.box 70 [.ptr 6 0,Zko,dI 0,dB false,dI zE.X4,dU zE.X9,.own 9 (X0 false).sz 0 ([]:List X6).length,.own 10 (X5 false).sz 0 ([]:List Xj).length])
abbrev Zl1:HS:=.live (.box 31 [.ptr 1 0,.ptr 6 0,.ptr 3 0,.ptr 8 0])
abbrev Zl2:List HS:=[(Zkn x),.live (mpK Xa Y5 (Yt L)),Zkp,Zkq,Zkr,.live (.box 106 [dB true,(Zks x),(Zkm x),.own 6 (kE false).sz 0 L.length]),.live (Xe 48 (kE false) L),Zkt,Zku,Zkr,Zkv]
abbrev Zl3:List AV:=[aa,(Zkl l),aa,aa,aa,pv 10 0,vI ((k+1:Nat):Int)]
abbrev Zl4:=(Yj (fOf x.Wj) (cOf (max 1 x.Xg)) L (l.getD k X2) 0)
end
theorem X6n (x:Yx) (l:List Xn) (hl:l.length≤9223372036854775807) (hr:∀ a,a∈l→E4 a):Holds Try.prog 5 ⟨[.tv (.agg [dI x.Wj,dI x.Xg]),slV false false (Y2 false) l],[],vB true,[]⟩:=by
 refine Holds.of Try.func5 rfl (N:=54) Try.ntmps5 rfl fun w0 B0 S0 U0=>?_
 show T _ (Xz 54 0 w0 S0 U0 B0) ⟨[.tv (.agg [dI x.Wj,dI x.Xg]),(Zkl l)],[]⟩ _ _
 have hfx:=X3o x.Wj
 have hux:=X3t (max 1 x.Xg)
 have hcl:=Hc x.Xg
 have hr0:Vj ([]:List (Int×Xd)) ([]:List X6):=X0l
 refine sR [] (T.seq (sR [hR 1 rfl rfl (rCa (X0r false false false l ‹_› ‹_›) Try.func7 [] [(.tmp 9,(Zkl l))] 0 0)] ?_))
 by_cases hq1:X19 l
 rotate_left
 ·refine cT (cn (dF hq1)) (sR [] (T.ret (rT ?_)))
  exact eRt 4 (.one (dB true)) [] rfl trivial
 have hfw:=hq1;have hl60:=hfw.1
 refine cF (cn (dT hq1)) (T.skip (nT (sR [hR 1 rfl rfl (rCa (Hw x ) Try.func8 [1,2,3,4,5,6,7,8,9,10] [(.tmp 12,.tv (.agg [dI x.Wj,dI x.Xg]))] 0 10)] (T.seq (sR [] (T.block ?_))))))
 refine T.loop (ι:=Nat×(List aE)) (fun (x_:Nat×(List aE))=>⟨[aa,(Zkl l),aa,aa,aa,pv 10 0,vI ((x_.1:Nat):Int)],[(Zkn x),.live (mpK Xa Y5 (Yt x_.2)),Zkp,Zkq,Zkr,.live (.box 106 [dB true,(Zks x),(Zkm x),.own 6 (kE false).sz 0 x_.2.length]),.live (Xe 48 (kE false) x_.2),Zkt,Zku,Zkr,Zkv]⟩) (fun (x_:Nat×(List aE))=>(x_.1≤l.length)∧(x_.2.length≤x_.1)) (fun (x_:Nat×(List aE))=>l.length-x_.1) (0,([]:List aE)) ⟨(Nat.zero_le _),(Nat.zero_le _)⟩ (fun _ _ hG=>Wp [1,2,3,4,5,6,7,8,9,10,11] (bm 7 98) (h1:=[(Zkx x),.live (mpK Xa Y5 (Yt ([]:List aE))),Zky,Zkq,Zkr,(Zkz x),Zkw,Zl0,Zku,Zkr,Zl1]) (h2:=[(Zkx x),.live (mpK Xa Y5 ([]:List (Xw×Bool))),Zky,Zkq,Zkr,(Zkz x),Zkw,Zl0,Zku,Zkr,Zl1]) (t1:=[aa,(Zkl l),aa,aa,aa,pv 11 0,vI 0]) rfl (congrArg (fun (q1:List (Xw×Bool))=>([(Zkx x),.live (mpK Xa Y5 q1),Zky,Zkq,Zkr,(Zkz x),Zkw,Zl0,Zku,Zkr,Zl1]:List HS)) (by rfl)) hG) ?_
 rintro ⟨k,L⟩ ⟨hk,hLk⟩
 show T _ _ ⟨[aa,(Zkl l),aa,aa,aa,pv 10 0,vI ((k:Nat):Int)],(Zl2 x L)⟩ _ _
 replace hk:k≤l.length:=hk
 replace hLk:L.length≤k:=hLk
 have hyk:=Fk hfw (k:=k)
 have hok:=fun (q:k<l.length)=>hr _ (Vt (z:=X2) q)
 refine T.seq (sR [] ?_)
 by_cases hq2:((k:Nat):Int)<((l.length:Nat):Int)
 rotate_left
 ·refine cF (dF hq2) (T.exit (xT (xT (xH (nT (sR [hR 0 rfl rfl (rCa (Ux  ) Try.func11 [] [] 0 0)] (T.ret ?_)))))))
  exact eRt 4 (.one (dB true)) [] rfl trivial
 have hkl:k<l.length:=(by omega);have hf9:=hyk hkl;have hy:=hok hkl
 refine cT (dT hq2) (T.skip (nT (T.seq (T.block (T.seq (sR [hR 2 rfl rfl (Wc false false (Y2 false) l k (k:=.i64) (i:=((k:Nat):Int)) Try.underlying24 Jr rfl rfl ‹_› (X8 rfl) trivial)] ?_))))))
 by_cases hq3:(l.getD k X2).X3=0
 ·refine cT (dT hq3) (T.exit (xT (xH (nT (xK [hR 1 rfl rfl (Y9 (u1:=.int .i64 ((k:Nat):Int)) (u2:=.int .i64 1) (v:=.int .i64 ((k+1:Nat):Int)) (W6 pZ5) (X8 rfl) ⟨rfl,trivial⟩)] ?_)))))
  refine nL (k+1,L) ⟨(show (k+1)≤l.length from (by omega)),(show L.length≤(k+1) from (by omega))⟩ (show (l.length-(k+1):Nat)<l.length-k from (by omega)) (fun _ _ hG=>Yc [0,1,2,3,4,5,6,7,8,9,10] (bm 7 98) rfl rfl hG)
 have hns:=nsub18 hq3
 refine cF (dF hq3) (T.skip (nT ?_))
 by_cases hq4:Ef (l.getD k X2)
 ·exact absurd hq4 hns
 refine sD [[],[],[],[1,2],[1,2,3],[0,1,2,3,4]] [hR 3 rfl rfl (Wc false false (Y2 false) l k (k:=.i64) (i:=((k:Nat):Int)) Try.underlying24 Jr rfl rfl ‹_› (X8 rfl) trivial),hR 5 rfl rfl (rCa (X1s (fOf x.Wj) (cOf (max 1 x.Xg)) (Yt L) L 0 ([]:List (Int×Xd)) ([]:List X6) ([]:List Xj) zE (l.getD k X2) ‹_› ‹_› (by rfl) (by omega) (by omega) (by (simp [maxLen,-List.getD_eq_getElem?_getD]<;>omega)) (by (simp [maxLen,-List.getD_eq_getElem?_getD]<;>omega)) (by (simp [maxLen,-List.getD_eq_getElem?_getD]<;>omega)) ‹_› ‹_› ‹_› ‹_› ‹_›) Try.func9 [0,1,2,3,4,5,6,7,8,9,11] [(.tmp 26,.tv (.agg [.ptr 0 0,.ptr 5 0,.ptr 2 0,.ptr 7 0])),(.tmp 30,.tv (.agg [dI (l.getD k X2).X3,dI (l.getD k X2).X4,dI (l.getD k X2).Wv,dU (l.getD k X2).Ys,dI (l.getD k X2).Ya.X3,dI (l.getD k X2).Ya.Xt,dI (l.getD k X2).Ya.Xy,dI (l.getD k X2).Ya.Xb,dI (l.getD k X2).Ya.Xv,dS (l.getD k X2).Ya.Xc,dU (l.getD k X2).Ya.Xk,dI (l.getD k X2).Ya.X1.Xs,dI (l.getD k X2).Ya.X1.Xo,.d (dsl false false (kE false) (l.getD k X2).Ya.Xf),.d (dsl false false (kE false) (l.getD k X2).Ya.Xr),.d (dsl false false (kC false) (l.getD k X2).Ya.X7),dI (l.getD k X2).X1.Xs,dI (l.getD k X2).X1.Xo,dB (l.getD k X2).Yn]))] 10 11)] ?_
 refine sR [hR 2 rfl rfl (rCa (Ib (fOf x.Wj) (cOf (max 1 x.Xg)) (Yt (Yj (fOf x.Wj) (cOf (max 1 x.Xg)) L (l.getD k X2) 0)) 1000 0 ([]:List (Int×Xd)) ([]:List Xj) ) Try.func12 [0,1,2,3,4] [(.tmp 34,pv 2 0)] 5 5)] ?_
 by_cases hq5:((([]:List Xj).length:Nat):Int)≠0
 ·exact absurd rfl hq5
 refine sR [hY0 2,hY0 3,hS 4 (oY (b:=false) rfl rfl rfl rfl (X8 rfl) rfl (rCa (J5 (fOf x.Wj) (cOf (max 1 x.Xg)) (Yt (Yj (fOf x.Wj) (cOf (max 1 x.Xg)) L (l.getD k X2) 0)) 1000 0 ([]:List (Int×Xd)) ([]:List Xj) (by omega)) Try.func13 [0,1,2,3,4] [(.tmp 41,pv 2 0)] 5 5)),hY0 5,hY0 6,hP0 7,hY 9 (dF hq5),hY 10 (dF hq5),hS 11 (oY rfl rfl rfl rfl (X8 rfl) (dF hq5) (rCa (X1b (fOf x.Wj) (cOf (max 1 x.Xg)) (Yt (Yj (fOf x.Wj) (cOf (max 1 x.Xg)) L (l.getD k X2) 0)) 1000 0 ([]:List (Int×Xd)) ([]:List Xj) ) Try.func17 [0,1,2,3,4] [(.tmp 48,pv 2 0)] 5 5)),hY 12 (dF hq5),hY 13 (dF hq5),hP 14 (dF hq5)] ?_
 by_cases hq6:((([]:List Y7).length:Nat):Int)≠0
 ·exact absurd rfl hq6
 refine cF (dF hq6) (T.skip (nB (nT (xK [hR 1 rfl rfl (Y9 (u1:=.int .i64 ((k:Nat):Int)) (u2:=.int .i64 1) (v:=.int .i64 ((k+1:Nat):Int)) (W6 pZ5) (X8 rfl) ⟨rfl,trivial⟩)] ?_))))
 refine nL (k+1,(Yj (fOf x.Wj) (cOf (max 1 x.Xg)) L (l.getD k X2) 0)) ⟨(show (k+1)≤l.length from (by omega)),(show (Yj (fOf x.Wj) (cOf (max 1 x.Xg)) L (l.getD k X2) 0).length≤(k+1) from p1z)⟩ (show (l.length-(k+1):Nat)<l.length-k from (by omega)) (fun _ _ hG=>Wp [0,1,2,3,4,5,11,7,8,9,10] (bm 7 98) (t1:=(Zl3 l k)) (h1:=[(Zkn x),.live (mpK Xa Y5 (Yt (Zl4 x l k L))),Zkp,Zkq,Zkr,.live (.box 106 [dB true,(Zks x),(Zkm x),.own 11 (kE false).sz 0 (Zl4 x l k L).length]),.live (Xe 48 (kE false) (Zl4 x l k L)),Zkt,Zku,Zkr,Zkv]) rfl rfl hG)
end Go.Proofs.Ythnefnknoahbkaa.Q
