import Derived.Test.YthnefnknoahbkaaC18n31
namespace Go.Proofs.Ythnefnknoahbkaa.Q
open Go Go.RowKit
set_option linter.unusedVariables false
set_option linter.unusedSimpArgs false
set_option maxRecDepth 100000
set_option maxHeartbeats 4000000
section
variable (x:Yx) (l:List Xn) (k:Nat) (L:List aE) (s:Int) (R:aE) (d:List Xj) (n:Int) (E:aE)
abbrev Zma:AV:=slV false false (Y2 false) l
abbrev Zmb:=(cOf (max 1 x.Xg))
abbrev Zmc:SV:=dI (Zmb x)
abbrev Zmd:HS:=.live (.box 99 [dI (3*(fOf x.Wj)+1),(Zmc x),.mref 1])
abbrev Zme:SV:=dI 1000
abbrev Zmf:SV:=.d (.val (.pointer none))
abbrev Zmg:HS:=.live (mpK (W0 .i64) (Xi false) ([]:List (Int×Xd)))
abbrev Zmh:SV:=dI (fOf x.Wj)
abbrev Zmi:SV:=.own 8 (X0 false).sz 0 ([]:List X6).length
abbrev Zmj:HS:=.live (Xe 116 (X0 false) ([]:List X6))
abbrev Zmk:HS:=.live (.box 31 [.ptr 0 0,.ptr 5 0,.ptr 2 0,.ptr 7 0])
abbrev Zml:HS:=.live (Xe 78 (X5 false) ([]:List Xj))
abbrev Zmm:HS:=.live (Xe 48 (kE false) ([]:List aE))
abbrev Zmn:HS:=.live (.box 99 [dI (3*(fOf x.Wj)+1),(Zmc x),.mref 2])
abbrev Zmo:HS:=.live (.box 82 [.ptr 1 0,Zme,dI 0,Zmf,.mref 4,.own 5 (X5 false).sz 0 ([]:List Xj).length])
abbrev Zmp:HS:=.live (.box 106 [dB true,(Zmh x),(Zmc x),.own 7 (kE false).sz 0 ([]:List aE).length])
abbrev Zmq:HS:=.live (.box 70 [.ptr 6 0,Zme,dI 0,dB false,dI zE.X4,dU zE.X9,.own 9 (X0 false).sz 0 ([]:List X6).length,.own 10 (X5 false).sz 0 ([]:List Xj).length])
abbrev Zmr:HS:=.live (.box 31 [.ptr 1 0,.ptr 6 0,.ptr 3 0,.ptr 8 0])
abbrev Zms:SV:=.own 4 (X5 false).sz 0 d.length
abbrev Zmt:HS:=.live (.box 82 [.ptr 0 0,Zme,dI s,Zmf,.mref 3,(Zms d)])
abbrev Zmu:HS:=.live (Xe 78 (X5 false) d)
abbrev Zmv:SV:=.own 9 (X5 false).sz 0 d.length
abbrev Zmw:HS:=.live (.box 70 [.ptr 5 0,Zme,dI s,dB false,dI R.X4,dU R.X9,Zmi,(Zmv d)])
abbrev Zmx:AV:=.tv (.agg [.ptr 0 0,.ptr 5 0,.ptr 2 0,.ptr 7 0])
abbrev Zmy:AV:=.tv (.agg [dI (l.getD k X2).X3,dI (l.getD k X2).X4,dI (l.getD k X2).Wv,dU (l.getD k X2).Ys,dI (l.getD k X2).Ya.X3,dI (l.getD k X2).Ya.Xt,dI (l.getD k X2).Ya.Xy,dI (l.getD k X2).Ya.Xb,dI (l.getD k X2).Ya.Xv,dS (l.getD k X2).Ya.Xc,dU (l.getD k X2).Ya.Xk,dI (l.getD k X2).Ya.X1.Xs,dI (l.getD k X2).Ya.X1.Xo,.d (dsl false false (kE false) (l.getD k X2).Ya.Xf),.d (dsl false false (kE false) (l.getD k X2).Ya.Xr),.d (dsl false false (kC false) (l.getD k X2).Ya.X7),dI (l.getD k X2).X1.Xs,dI (l.getD k X2).X1.Xo,dB (l.getD k X2).Yn])
abbrev Zmz:=(Wt (fOf x.Wj) (Zmb x) (l.getD k X2) s)
abbrev Zn0:AV:=vI ((k+1:Nat):Int)
abbrev Zn1:=(U9 (fOf x.Wj) (Zmb x) L (l.getD k X2) s)
abbrev Zn2:List AV:=[aa,(Zma l),aa,aa,aa,pv 10 0,vI n,(Zn0 k)]
abbrev Zn3:=(Yj (fOf x.Wj) (Zmb x) L (l.getD k X2) s)
abbrev Zn4:HS:=.live (mpK Xa Y5 (Yt (Zn3 x l k L s)))
abbrev Zn6:HS:=.live (Xe 48 (kE false) (Zn3 x l k L s))
abbrev Zn7:TV:=.one (dB true)
abbrev Zn8:HS:=.live (.box 82 [.ptr 0 0,Zme,dI s,.ptr 10 0,.mref 3,(Zms d)])
abbrev Zn9:SV:=dI E.X4
abbrev Zna:SV:=dU E.X9
abbrev Znb:=(Ua s (l.getD k X2))
abbrev Znc:AV:=.tv (.agg [dI (Yf 1000 E).X4,dU (Yf 1000 E).X9])
end
theorem X7n (x:Yx) (l:List Xn) (hl:l.length≤9223372036854775807) (hr:∀ a,a∈l→E4 a):Holds Try.prog 4 ⟨[.tv (.agg [dI x.Wj,dI x.Xg]),slV false false (Y2 false) l],[],vB true,[]⟩:=by
 refine Holds.of Try.func4 rfl (N:=123) Try.ntmps4 rfl fun w0 B0 S0 U0=>?_
 show T _ (Xz 123 0 w0 S0 U0 B0) ⟨[.tv (.agg [dI x.Wj,dI x.Xg]),(Zma l)],[]⟩ _ _
 have hfx:=X3o x.Wj
 have hux:=X3t (max 1 x.Xg)
 have hcl:=Hc x.Xg
 have hr0:Vj ([]:List (Int×Xd)) ([]:List X6):=X0l
 refine sR [] (T.seq (sR [hR 1 rfl rfl (rCa (X0r false false false l ‹_› ‹_›) Try.func7 [] [(.tmp 15,(Zma l))] 0 0)] ?_))
 by_cases hq1:X19 l
 rotate_left
 ·refine cT (cn (dF hq1)) (sR [] (T.ret (rT ?_)))
  exact eRt 4 (Zn7) [] rfl trivial
 have hfw:=hq1;have hl60:=hfw.1
 refine cF (cn (dT hq1)) (T.skip (nT (sR [hR 1 rfl rfl (rCa (Hw x ) Try.func8 [1,2,3,4,5,6,7,8,9,10] [(.tmp 18,.tv (.agg [dI x.Wj,dI x.Xg]))] 0 10)] (sR [] (T.seq (sR [] (T.block ?_)))))))
 refine Xep (ι:=Nat×(List aE)×Int×aE×(List Xj)×Int) (κ:=Nat×(List aE)×Int×(List (Int×Xd))×(List X6)×(List Xj)×aE×Int) (fun (x_:Nat×(List aE)×Int×aE×(List Xj)×Int)=>⟨[aa,(Zma l),aa,aa,aa,pv 10 0,vI x_.2.2.2.2.2,vI ((x_.1:Nat):Int)],[(Zmd x),.live (mpK Xa Y5 (Yt x_.2.1)),.live (.box 82 [.ptr 0 0,Zme,dI x_.2.2.1,Zmf,.mref 3,.own 4 (X5 false).sz 0 x_.2.2.2.2.1.length]),Zmg,.live (Xe 78 (X5 false) x_.2.2.2.2.1),.live (.box 106 [dB true,(Zmh x),(Zmc x),.own 6 (kE false).sz 0 x_.2.1.length]),.live (Xe 48 (kE false) x_.2.1),.live (.box 70 [.ptr 5 0,Zme,dI x_.2.2.1,dB false,dI x_.2.2.2.1.X4,dU x_.2.2.2.1.X9,Zmi,.own 9 (X5 false).sz 0 x_.2.2.2.2.1.length]),Zmj,.live (Xe 78 (X5 false) x_.2.2.2.2.1),Zmk]⟩) (fun (x_:Nat×(List aE)×Int×aE×(List Xj)×Int)=>(x_.1≤l.length)∧(x_.2.1.length≤x_.1)∧(0≤x_.2.2.1∧x_.2.2.1≤((x_.1:Nat):Int))∧(x_.2.2.2.2.1.length≤x_.1)∧(x_.2.2.1=((x_.2.2.2.2.1.length:Nat):Int))) (fun (x_:Nat×(List aE)×Int×aE×(List Xj)×Int)=>l.length-x_.1) (fun (x_:Nat×(List aE)×Int×(List (Int×Xd))×(List X6)×(List Xj)×aE×Int)=>⟨[aa,(Zma l),aa,aa,aa,pv 11 0,vI x_.2.2.2.2.2.2.2,vI ((x_.1:Nat):Int)],[(Zmd x),.live (mpK Xa Y5 (Yt x_.2.1)),.live (.box 82 [.ptr 0 0,Zme,dI x_.2.2.1,.ptr 10 0,.mref 3,.own 4 (X5 false).sz 0 x_.2.2.2.2.2.1.length]),.live (mpK (W0 .i64) (Xi false) x_.2.2.2.1),.live (Xe 78 (X5 false) x_.2.2.2.2.2.1),.live (.box 106 [dB true,(Zmh x),(Zmc x),.own 6 (kE false).sz 0 x_.2.1.length]),.live (Xe 48 (kE false) x_.2.1),.live (.box 70 [.ptr 5 0,Zme,dI x_.2.2.1,dB true,dI x_.2.2.2.2.2.2.1.X4,dU x_.2.2.2.2.2.2.1.X9,.own 8 (X0 false).sz 0 x_.2.2.2.2.1.length,.own 9 (X5 false).sz 0 x_.2.2.2.2.2.1.length]),.live (Xe 116 (X0 false) x_.2.2.2.2.1),.live (Xe 78 (X5 false) x_.2.2.2.2.2.1),.live (.box 48 [dI x_.2.2.2.2.2.2.1.X4,dU x_.2.2.2.2.2.2.1.X9]),Zmk]⟩) (fun (x_:Nat×(List aE)×Int×(List (Int×Xd))×(List X6)×(List Xj)×aE×Int)=>(x_.1≤l.length)∧(x_.2.1.length≤x_.1)∧(0≤x_.2.2.1∧x_.2.2.1≤((x_.1:Nat):Int))∧(x_.2.2.2.2.2.1.length≤x_.1)∧(x_.2.2.2.1.length≤x_.1)∧(x_.2.2.2.2.1.length≤x_.1)∧(Vj x_.2.2.2.1 x_.2.2.2.2.1)∧(x_.2.2.2.2.2.2.1.X4=1000∧x_.2.2.2.2.2.2.1.X9.length≤5000)∧(x_.2.2.1=((x_.2.2.2.2.2.1.length:Nat):Int)+1)∧(x_.2.2.2.2.2.2.1∈x_.2.1)∧(X0s x_.2.2.2.2.2.2.1 x_.2.2.1)) (fun (x_:Nat×(List aE)×Int×(List (Int×Xd))×(List X6)×(List Xj)×aE×Int)=>l.length-x_.1) (0,([]:List aE),0,zE,([]:List Xj),0) ⟨(show 0≤l.length from (Nat.zero_le _)),(show ([]:List aE).length≤0 from (Nat.zero_le _)),(show 0≤0∧0≤((0:Nat):Int) from ⟨Int.le_refl _,Int.le_refl _⟩),(show ([]:List Xj).length≤0 from (Nat.zero_le _)),(show 0=((([]:List Xj).length:Nat):Int) from rfl)⟩ (fun _ _ hG=>Wp [1,2,3,4,5,6,7,8,9,10,11] (bm 8 226) (h1:=[(Zmn x),.live (mpK Xa Y5 (Yt ([]:List aE))),Zmo,Zmg,Zml,(Zmp x),Zmm,Zmq,Zmj,Zml,Zmr]) (h2:=[(Zmn x),.live (mpK Xa Y5 ([]:List (Xw×Bool))),Zmo,Zmg,Zml,(Zmp x),Zmm,Zmq,Zmj,Zml,Zmr]) (t1:=[aa,(Zma l),aa,aa,aa,pv 11 0,vI 0,vI 0]) rfl (congrArg (fun (q1:List (Xw×Bool))=>([(Zmn x),.live (mpK Xa Y5 q1),Zmo,Zmg,Zml,(Zmp x),Zmm,Zmq,Zmj,Zml,Zmr]:List HS)) (by rfl)) hG) ?_ ?_
 ·rintro ⟨k,L,s,R,d,n⟩ ⟨hk,hLk,hs,hdk,hsd⟩
  show T _ _ ⟨[aa,(Zma l),aa,aa,aa,pv 10 0,vI n,vI ((k:Nat):Int)],[(Zmd x),.live (mpK Xa Y5 (Yt L)),(Zmt s d),Zmg,(Zmu d),.live (.box 106 [dB true,(Zmh x),(Zmc x),.own 6 (kE false).sz 0 L.length]),.live (Xe 48 (kE false) L),(Zmw s R d),Zmj,(Zmu d),Zmk]⟩ _ _
  replace hk:k≤l.length:=hk
  replace hLk:L.length≤k:=hLk
  replace hs:0≤s∧s≤((k:Nat):Int):=hs
  replace hdk:d.length≤k:=hdk
  replace hsd:s=((d.length:Nat):Int):=hsd
  have hyk:=Fk hfw (k:=k)
  have hok:=fun (q:k<l.length)=>hr _ (Vt (z:=X2) q)
  refine T.seq (sR [] ?_)
  by_cases hq2:((k:Nat):Int)<((l.length:Nat):Int)
  rotate_left
  ·refine cF (dF hq2) (T.exit (xT (xT (xH (nT (sR [hR 0 rfl rfl (rCa (Ux  ) Try.func11 [] [] 0 0)] (T.ret ?_)))))))
   exact eRt 4 (Zn7) [] rfl trivial
  have hkl:k<l.length:=(by omega);have hf9:=hyk hkl;have hy:=hok hkl
  refine cT (dT hq2) (T.skip (nT (T.seq (T.block (sR [hR 2 rfl rfl (rCa (Ib (fOf x.Wj) (cOf (max 1 x.Xg)) (Yt L) 1000 s ([]:List (Int×Xd)) d ) Try.func12 [0,1,2,3,4] [(.tmp 28,pv 2 0)] 5 5)] (sR [hR 2 rfl rfl (rCa (J5 (fOf x.Wj) (cOf (max 1 x.Xg)) (Yt L) 1000 s ([]:List (Int×Xd)) d (by omega)) Try.func13 [0,1,2,3,4] [(.tmp 33,pv 2 0)] 5 5)] ?_))))))
  by_cases hq3:Ef (l.getD k X2)
  ·have hsb:=hq3;have hse:=X7w (f:=(fOf x.Wj)) (st:=s) hcl hsb;have hse1:=hse.1;have hse2:=hse.2;have hsl1:=Xc4 (f:=(fOf x.Wj)) (L:=L) (st:=s) hcl hsb;have hsq:=Xc5 (f:=(fOf x.Wj)) hcl hsb (st:=s) (by omega);have hso:(Yf 1000 (Wt (fOf x.Wj) (cOf (max 1 x.Xg)) (l.getD k X2) s)).X9.length≤100000:=Nat.le_trans hse2 (by decide)
   refine sD [[],[],[],[1,2],[1,2,3],[0,1,2,3,4]] [hR 3 rfl rfl (Wc false false (Y2 false) l k (k:=.i64) (i:=((k:Nat):Int)) Try.underlying24 Jr rfl rfl ‹_› (X8 rfl) trivial),hR 5 rfl rfl (rCa (X6l (fOf x.Wj) (cOf (max 1 x.Xg)) (Yt L) L s ([]:List (Int×Xd)) ([]:List X6) d R (l.getD k X2) ‹_› ‹_› (by rfl) (by omega) (by omega) (by (simp [maxLen,-List.getD_eq_getElem?_getD]<;>omega)) (by (simp [maxLen,-List.getD_eq_getElem?_getD]<;>omega)) (by omega) ‹_› ‹_› ‹_› ‹_› ‹_›) Try.func9 [0,1,2,3,4,5,6,7,8,9,12,13,14] [(.tmp 36,Zmx),(.tmp 40,(Zmy l k))] 10 13)] ?_
   refine sR [hR 2 rfl rfl (rCa (H2 (fOf x.Wj) (cOf (max 1 x.Xg)) (Yt (U9 (fOf x.Wj) (cOf (max 1 x.Xg)) L (l.getD k X2) s)) 1000 (s+1) ([]:List (Int×Xd)) d (Wt (fOf x.Wj) (cOf (max 1 x.Xg)) (l.getD k X2) s) (by omega)) Try.func12 [0,1,2,3,4,14] [(.tmp 44,pv 2 0)] 6 6)] (T.seq (sR [] (cT (b:=true) rfl (sR [hR 2 rfl rfl (rCa (H9 (Yf 1000 (Wt (fOf x.Wj) (cOf (max 1 x.Xg)) (l.getD k X2) s)).X9 (by omega)) Try.func14 [] [(.tmp 51,slV false false kU8 (Yf 1000 (Zmz x l k s)).X9)] 0 0)] (T.seq ?_)))))
   by_cases hq4:(E0 (Yf 1000 (Wt (fOf x.Wj) (cOf (max 1 x.Xg)) (l.getD k X2) s)).X9)≠0
   ·exact absurd hsq.1 hq4
   by_cases hq5:(Y6 (Yf 1000 (Wt (fOf x.Wj) (cOf (max 1 x.Xg)) (l.getD k X2) s)).X9).X3≠1
   ·exact absurd hsq.2.1 hq5
   by_cases hq6:(Yf 1000 (Wt (fOf x.Wj) (cOf (max 1 x.Xg)) (l.getD k X2) s)).X4≠1000
   ·exact absurd rfl hq6
   by_cases hq7:(Wy (fOf x.Wj) (cOf (max 1 x.Xg)) (Yt (U9 (fOf x.Wj) (cOf (max 1 x.Xg)) L (l.getD k X2) s)) (Yf 1000 (Wt (fOf x.Wj) (cOf (max 1 x.Xg)) (l.getD k X2) s)))≠0
   ·exact absurd (X8t hcl hse1 hsl1) hq7
   refine sD [[],[0],[0,1],[0,1,2],[0,1,2,3],[0,1,2,3,4],[0,1,2,3,4,5],[0,1,2,3,4,5,6],[0,1,2,3,4,5,6,7],[0,1,2,3,4,5,6,7,8],[0,1,2,3,4,5,6,7,8,9],[0,1,2,3,4,5,6,7,8,9,10],[0,1,2,3,4,5,6,7,8,9,10,11],[0,1,2,3,4,5,6,7,8,9,10,11,12],[0,1,2,3,4,5,6,7,8,9,10,11,12,13],[0,1,2,3,4,5,6,7,8,9,10,11,12],[0,1,2,3,4,5,6,7,8,9,10,11,12,13,14,15],[0,1,2,3,4,5,6,7,8,9,10,11,12,13,14,15,16],[0,1,2,3,4,5,6,7,8,9,10,11,12,13,14,15,16,17],[0,1,2,3,4,5,6,7,8,9,10,11,12,13,14,15,16,17,18],[0,1,2,3,4,5,6,7,8,9,10,11,12,13,14,15,16,17,18,19],[0,1,2,3,4,5,6,7,8,9,10,11,12,13,14,15,16,17,18,19,20],[0,1,2,3,4,5,6,7,8,9,10,11,12,13,14,15,16,17,18,19],[0,1,2,3,4,5,6,7,8,9,10,11,12,13,14,15,16,17,18,19,22],[0,1,2,3,4,5,6,7,8,9,10,11,12,13,14,15,16,17,18,19,22,23],[0,1,2,3,4,5,6,7,8,9,10,11,12,13,14,15,16,17,18,19,22,23,24],[0,1,2,3,4,5,6,7,8,9,10,11,12,13,14,15,16,17,18,19,22,23,24,25],[0,1,2,3,4,5,6,7,8,9,10,11,12,13,14,15,16,17,18,19,20,21,22,23,24,25,26],[0,1,2,3,4,5,6,7,8,9,10,11,12,13,14,15,16,17,18,19,20,21,22,23,24,25,26,27]] (Xl (hY · (dF hq4)) [3,4,5] (hP 6 (dF hq4)::(Xl (hY · (dF hq5)) [8,9,10] (hP 11 (dF hq5)::(Xl (hY · (dF hq6)) [13,14,15] (hS 16 (oY rfl rfl rfl rfl (X8 rfl) (dF hq6) (rCa (F0 (fOf x.Wj) (cOf (max 1 x.Xg)) (Yt (U9 (fOf x.Wj) (cOf (max 1 x.Xg)) L (l.getD k X2) s)) false (Yf 1000 (Wt (fOf x.Wj) (cOf (max 1 x.Xg)) (l.getD k X2) s)) ‹_› ‹_› (by omega)) Try.func15 [0,1] [(.tmp 69,pv 0 0),(.tmp 70,.tv (.agg [dI (Yf 1000 (Zmz x l k s)).X4,dU (Yf 1000 (Zmz x l k s)).X9]))] 2 2))::(hY 17 (dF hq6)::(hP 18 (dF hq6)::(Xl (hY · (dF hq7)) [20,21,22,23] (hS 24 (oY rfl rfl rfl rfl (X8 rfl) (dF hq7) (rCa (Uf (fOf x.Wj) (cOf (max 1 x.Xg)) (Yt (U9 (fOf x.Wj) (cOf (max 1 x.Xg)) L (l.getD k X2) s)) 1000 (s+1) ([]:List (Int×Xd)) d (Wt (fOf x.Wj) (cOf (max 1 x.Xg)) (l.getD k X2) s) (by omega)) Try.func13 [0,1,2,3,4,14] [(.tmp 78,pv 2 0)] 6 6))::(hY 25 (dF hq7)::(hS 26 (oY rfl rfl rfl rfl (X8 rfl) (dF hq7) (Y9 (u1:=.int .i64 ((d.length:Nat):Int)) (u2:=.int .i64 1) (v:=.int .i64 ((d.length+1:Nat):Int)) (W6 pZ5) (X8 rfl) ⟨rfl,trivial⟩))::(hY 27 (dF hq7)::(hP 28 (dF hq7)::[])))))))))))))) ?_
   by_cases hq8:(Y6 (Yf 1000 (Wt (fOf x.Wj) (cOf (max 1 x.Xg)) (l.getD k X2) s)).X9).Xv≠((d.length+1:Nat):Int)
   ·exact absurd (by rw [hsq.2.2];omega) hq8
   refine cF (dF hq8) (T.skip (nT (xK [hR 3 rfl rfl (Er (k:=.i64) (a:=n) (b:=(Y6 (Yf 1000 (Wt (fOf x.Wj) (cOf (max 1 x.Xg)) (l.getD k X2) s)).X9).Xv) (X8 rfl) trivial)] (nT (sR (hN1 2::(hP0 3::(Xl hN1 [5,6,7,8,9,10] (hP0 11::(Xl hN1 [13,14,15,16] (hP0 17::(hY0 19::(hY0 20::(hN1 21::(hN1 22::(hS 23 (oY (b:=false) rfl rfl rfl rfl (X8 rfl) rfl (Yz (b:=false) (av:=vB false) (X8 rfl) ⟨rfl,trivial⟩ rfl))::(hY0 24::(Xl hN1 [25,26,27,28,29,30,31] (hS 32 (oY (b:=false) rfl rfl rfl rfl (X8 rfl) rfl (Yz (b:=false) (av:=vB false) (X8 rfl) ⟨rfl,trivial⟩ rfl))::(hP0 33::[]))))))))))))))) (cF (b:=false) rfl (T.skip (nB (nT ?_)))))))))
   refine xK [hR 1 rfl rfl (Y9 (u1:=.int .i64 ((k:Nat):Int)) (u2:=.int .i64 1) (v:=.int .i64 ((k+1:Nat):Int)) (W6 pZ5) (X8 rfl) ⟨rfl,trivial⟩)] ?_
   refine nLb (k+1,(U9 (fOf x.Wj) (cOf (max 1 x.Xg)) L (l.getD k X2) s),s+1,([]:List (Int×Xd)),([]:List X6),d,(Wt (fOf x.Wj) (cOf (max 1 x.Xg)) (l.getD k X2) s),max n (Y6 (Yf 1000 (Wt (fOf x.Wj) (cOf (max 1 x.Xg)) (l.getD k X2) s)).X9).Xv) ⟨(show (k+1)≤l.length from (by omega)),(show (U9 (fOf x.Wj) (cOf (max 1 x.Xg)) L (l.getD k X2) s).length≤(k+1) from (by exact Nat.le_trans X7v (by omega))),(show 0≤(s+1)∧(s+1)≤(((k+1):Nat):Int) from (by omega)),(show d.length≤(k+1) from (by omega)),(show ([]:List (Int×Xd)).length≤(k+1) from (by exact Nat.zero_le _)),(show ([]:List X6).length≤(k+1) from (by exact Nat.zero_le _)),(show Vj ([]:List (Int×Xd)) ([]:List X6) from ‹_›),(show (Wt (fOf x.Wj) (cOf (max 1 x.Xg)) (l.getD k X2) s).X4=1000∧(Wt (fOf x.Wj) (cOf (max 1 x.Xg)) (l.getD k X2) s).X9.length≤5000 from ‹_›),(show (s+1)=((d.length:Nat):Int)+1 from (by omega)),(show (Wt (fOf x.Wj) (cOf (max 1 x.Xg)) (l.getD k X2) s)∈(U9 (fOf x.Wj) (cOf (max 1 x.Xg)) L (l.getD k X2) s) from (by exact hsl1)),(show X0s (Wt (fOf x.Wj) (cOf (max 1 x.Xg)) (l.getD k X2) s) (s+1) from (by exact hsq))⟩ (show (l.length-(k+1):Nat)<l.length-k from (by omega)) (fun _ _ hG=>Wp [0,1,2,3,4,5,12,7,13,9,14,10] (bm 8 226) (t1:=[aa,(Zma l),aa,aa,aa,pv 10 0,vI (max n (Y6 (Yf 1000 (Zmz x l k s)).X9).Xv),(Zn0 k)]) (h1:=[(Zmd x),.live (mpK Xa Y5 (Yt (Zn1 x l k L s))),.live (.box 82 [.ptr 0 0,Zme,dI (s+1),.ptr 14 0,.mref 3,(Zms d)]),Zmg,(Zmu d),.live (.box 106 [dB true,(Zmh x),(Zmc x),.own 12 (kE false).sz 0 (Zn1 x l k L s).length]),.live (Xe 48 (kE false) (Zn1 x l k L s)),.live (.box 70 [.ptr 5 0,Zme,dI (s+1),dB true,dI (Zmz x l k s).X4,dU (Zmz x l k s).X9,.own 13 (X0 false).sz 0 ([]:List X6).length,(Zmv d)]),Zmj,(Zmu d),.live (.box 48 [dI (Zmz x l k s).X4,dU (Zmz x l k s).X9]),Zmk]) rfl rfl hG)
  refine sD [[],[],[],[1,2],[1,2,3],[0,1,2,3,4]] [hR 3 rfl rfl (Wc false false (Y2 false) l k (k:=.i64) (i:=((k:Nat):Int)) Try.underlying24 Jr rfl rfl ‹_› (X8 rfl) trivial),hR 5 rfl rfl (rCa (X1s (fOf x.Wj) (cOf (max 1 x.Xg)) (Yt L) L s ([]:List (Int×Xd)) ([]:List X6) d R (l.getD k X2) ‹_› ‹_› (by rfl) (by omega) (by omega) (by (simp [maxLen,-List.getD_eq_getElem?_getD]<;>omega)) (by (simp [maxLen,-List.getD_eq_getElem?_getD]<;>omega)) (by omega) ‹_› ‹_› ‹_› ‹_› ‹_›) Try.func9 [0,1,2,3,4,5,6,7,8,9,12] [(.tmp 36,Zmx),(.tmp 40,(Zmy l k))] 10 11)] ?_
  refine sR [hR 2 rfl rfl (rCa (Ib (fOf x.Wj) (cOf (max 1 x.Xg)) (Yt (Yj (fOf x.Wj) (cOf (max 1 x.Xg)) L (l.getD k X2) s)) 1000 s ([]:List (Int×Xd)) d ) Try.func12 [0,1,2,3,4] [(.tmp 44,pv 2 0)] 5 5)] (T.seq (sR [] (cF (b:=false) rfl (T.skip (nT (sR (hN1 2::(hP0 3::(Xl hN1 [5,6,7,8,9,10] (hP0 11::(Xl hN1 [13,14,15,16] (hP0 17::(hY0 19::(hY0 20::(hN1 21::(hN1 22::(hS 23 (oY (b:=false) rfl rfl rfl rfl (X8 rfl) rfl (Yz (b:=false) (av:=vB false) (X8 rfl) ⟨rfl,trivial⟩ rfl))::(hY0 24::(Xl hN1 [25,26,27,28,29,30,31] (hS 32 (oY (b:=false) rfl rfl rfl rfl (X8 rfl) rfl (Yz (b:=false) (av:=vB false) (X8 rfl) ⟨rfl,trivial⟩ rfl))::(hP0 33::[]))))))))))))))) (cF (b:=false) rfl (T.skip (nB (nT ?_))))))))))
  refine xK [hR 1 rfl rfl (Y9 (u1:=.int .i64 ((k:Nat):Int)) (u2:=.int .i64 1) (v:=.int .i64 ((k+1:Nat):Int)) (W6 pZ5) (X8 rfl) ⟨rfl,trivial⟩)] ?_
  refine nLa (k+1,(Yj (fOf x.Wj) (cOf (max 1 x.Xg)) L (l.getD k X2) s),s,R,d,n) ⟨(show (k+1)≤l.length from (by omega)),(show (Yj (fOf x.Wj) (cOf (max 1 x.Xg)) L (l.getD k X2) s).length≤(k+1) from p1z),(show 0≤s∧s≤(((k+1):Nat):Int) from (by omega)),(show d.length≤(k+1) from (by omega)),(show s=((d.length:Nat):Int) from (by omega))⟩ (show (l.length-(k+1):Nat)<l.length-k from (by omega)) (fun _ _ hG=>Wp [0,1,2,3,4,5,12,7,8,9,10] (bm 8 226) (t1:=(Zn2 l k n)) (h1:=[(Zmd x),(Zn4 x l k L s),(Zmt s d),Zmg,(Zmu d),.live (.box 106 [dB true,(Zmh x),(Zmc x),.own 12 (kE false).sz 0 (Zn3 x l k L s).length]),(Zn6 x l k L s),(Zmw s R d),Zmj,(Zmu d),Zmk]) rfl rfl hG)
 rintro ⟨k,L,s,t,w,d,E,n⟩ ⟨hk,hLk,hs,hdk,htk,hwk,hrw,hE,hsd,hEL,hQ⟩
 show T _ _ ⟨[aa,(Zma l),aa,aa,aa,pv 11 0,vI n,vI ((k:Nat):Int)],[(Zmd x),.live (mpK Xa Y5 (Yt L)),(Zn8 s d),.live (mpK (W0 .i64) (Xi false) t),(Zmu d),.live (.box 106 [dB true,(Zmh x),(Zmc x),.own 6 (kE false).sz 0 L.length]),.live (Xe 48 (kE false) L),.live (.box 70 [.ptr 5 0,Zme,dI s,dB true,(Zn9 E),(Zna E),.own 8 (X0 false).sz 0 w.length,(Zmv d)]),.live (Xe 116 (X0 false) w),(Zmu d),.live (.box 48 [(Zn9 E),(Zna E)]),Zmk]⟩ _ _
 replace hk:k≤l.length:=hk
 replace hLk:L.length≤k:=hLk
 replace hs:0≤s∧s≤((k:Nat):Int):=hs
 replace hdk:d.length≤k:=hdk
 replace htk:t.length≤k:=htk
 replace hwk:w.length≤k:=hwk
 replace hrw:Vj t w:=hrw
 replace hE:E.X4=1000∧E.X9.length≤5000:=hE
 replace hsd:s=((d.length:Nat):Int)+1:=hsd
 replace hEL:E∈L:=hEL
 replace hQ:X0s E s:=hQ
 have hyk:=Fk hfw (k:=k)
 have hok:=fun (q:k<l.length)=>hr _ (Vt (z:=X2) q)
 have hEs:=hE.1
 have hEl:E.X9.length≤100000:=(by have:=hE.2;omega)
 have hEo:(Yf 1000 E).X9.length≤100000:=hEl
 refine T.seq (sR [] ?_)
 by_cases hq9:((k:Nat):Int)<((l.length:Nat):Int)
 rotate_left
 ·refine cF (dF hq9) (T.exit (xT (xT (xH (nT (sR [hR 0 rfl rfl (rCa (Ux  ) Try.func11 [] [] 0 0)] (T.ret ?_)))))))
  exact eRt 4 (Zn7) [] rfl trivial
 have hkl:k<l.length:=(by omega);have hf9:=hyk hkl;have hy:=hok hkl
 refine cT (dT hq9) (T.skip (nT (T.seq (T.block (sR [hR 2 rfl rfl (rCa (H2 (fOf x.Wj) (cOf (max 1 x.Xg)) (Yt L) 1000 s t d E (by omega)) Try.func12 [0,1,2,3,4,10] [(.tmp 28,pv 2 0)] 6 6)] (sR [hR 2 rfl rfl (rCa (Uf (fOf x.Wj) (cOf (max 1 x.Xg)) (Yt L) 1000 s t d E (by omega)) Try.func13 [0,1,2,3,4,10] [(.tmp 33,pv 2 0)] 6 6)] ?_))))))
 by_cases hq10:It (fOf x.Wj) (cOf (max 1 x.Xg)) L s t (l.getD k X2)
 ·refine sD [[],[],[],[1,2],[1,2,3],[0,1,2,3,4]] [hR 3 rfl rfl (Wc false false (Y2 false) l k (k:=.i64) (i:=((k:Nat):Int)) Try.underlying24 Jr rfl rfl ‹_› (X8 rfl) trivial),hR 5 rfl rfl (rCa (X1t (fOf x.Wj) (cOf (max 1 x.Xg)) (Yt L) L s t w d E (l.getD k X2) ‹_› ‹_› (by rfl) (by omega) (by omega) (by omega) (by omega) (by omega) ‹_› ‹_› ‹_› ‹_› ‹_› ‹_›) Try.func9 [0,1,2,3,4,5,6,7,8,9,10,13,14,15,16] [(.tmp 36,Zmx),(.tmp 40,(Zmy l k))] 11 15)] (sR [hR 2 rfl rfl (rCa (Ib (fOf x.Wj) (cOf (max 1 x.Xg)) (Yt (Yj (fOf x.Wj) (cOf (max 1 x.Xg)) L (l.getD k X2) s)) 1000 s ([]:List (Int×Xd)) (d++[(Ua s (l.getD k X2))]) ) Try.func12 [0,1,2,3,15] [(.tmp 44,pv 2 0)] 5 5)] (T.seq (sR [] ?_)))
  refine cF (b:=false) rfl (T.skip (nT ?_))
  refine sR (hY1 2::(hP1 3::(Xl hN1 [5,6,7,8,9,10] (hP0 11::(Xl hN1 [13,14,15,16] (hP0 17::(hY0 19::(hY0 20::(hY1 21::(hY1 22::(hS 23 (oY (b:=false) rfl rfl rfl rfl (X8 rfl) rfl (Yq (b:=true) (av:=vB (!false)) (X8 rfl) trivial rfl))::(hY0 24::(hY1 25::(hY1 26::(hS 27 (oY (b:=true) rfl rfl rfl rfl (X8 rfl) rfl (rCa (J5 (fOf x.Wj) (cOf (max 1 x.Xg)) (Yt (Yj (fOf x.Wj) (cOf (max 1 x.Xg)) L (l.getD k X2) s)) 1000 s ([]:List (Int×Xd)) (d++[(Ua s (l.getD k X2))]) (by (simp [maxLen,-List.getD_eq_getElem?_getD]<;>omega))) Try.func13 [0,1,2,3,15] [(.tmp 114,pv 2 0)] 5 5))::(hY1 28::(hY1 29::(hS 30 (oY (b:=true) rfl rfl rfl rfl (X8 rfl) rfl (Y9 (u1:=.int .i64 ((d.length:Nat):Int)) (u2:=.int .i64 1) (v:=.int .i64 ((d.length+1:Nat):Int)) (W6 pZ5) (X8 rfl) ⟨rfl,trivial⟩))::(hY1 31::(hS 32 (oY (b:=false) rfl rfl rfl rfl (X8 rfl) rfl (Yq (b:=(!false)) (av:=vB (decide ((((d++[(Znb l k s)]).length:Nat):Int)≠((d.length+1:Nat):Int)))) (X8 rfl) trivial rfl))::(hP0 33::[]))))))))))))))))))))) ?_
  by_cases hq11:(((d++[(Ua s (l.getD k X2))]).length:Nat):Int)≠((d.length+1:Nat):Int)
  ·exact absurd (snoc_len _ _) hq11
  refine cF (dF hq11) (T.skip (nB (nT (xK [hR 1 rfl rfl (Y9 (u1:=.int .i64 ((k:Nat):Int)) (u2:=.int .i64 1) (v:=.int .i64 ((k+1:Nat):Int)) (W6 pZ5) (X8 rfl) ⟨rfl,trivial⟩)] ?_))))
  refine nLa (k+1,(Yj (fOf x.Wj) (cOf (max 1 x.Xg)) L (l.getD k X2) s),s,E,(d++[(Ua s (l.getD k X2))]),n) ⟨(show (k+1)≤l.length from (by omega)),(show (Yj (fOf x.Wj) (cOf (max 1 x.Xg)) L (l.getD k X2) s).length≤(k+1) from p1z),(show 0≤s∧s≤(((k+1):Nat):Int) from (by omega)),(show (d++[(Ua s (l.getD k X2))]).length≤(k+1) from (by omega)),(show s=(((d++[(Ua s (l.getD k X2))]).length:Nat):Int) from (by omega))⟩ (show (l.length-(k+1):Nat)<l.length-k from (by omega)) (fun _ _ hG=>Wp [0,1,2,3,15,5,13,7,14,16,11] (bm 8 226) (t1:=[aa,(Zma l),aa,aa,aa,pv 11 0,vI n,(Zn0 k)]) (h1:=[(Zmd x),(Zn4 x l k L s),.live (.box 82 [.ptr 0 0,Zme,dI s,Zmf,.mref 3,.own 15 (X5 false).sz 0 (d++[(Znb l k s)]).length]),Zmg,.live (Xe 78 (X5 false) (d++[(Znb l k s)])),.live (.box 106 [dB true,(Zmh x),(Zmc x),.own 13 (kE false).sz 0 (Zn3 x l k L s).length]),(Zn6 x l k L s),.live (.box 70 [.ptr 5 0,Zme,dI s,dB false,(Zn9 E),(Zna E),.own 14 (X0 false).sz 0 ([]:List X6).length,.own 16 (X5 false).sz 0 (d++[(Znb l k s)]).length]),Zmj,.live (Xe 78 (X5 false) (d++[(Znb l k s)])),Zmk]) rfl rfl hG)
 refine sD [[],[],[],[1,2],[1,2,3],[0,1,2,3,4]] [hR 3 rfl rfl (Wc false false (Y2 false) l k (k:=.i64) (i:=((k:Nat):Int)) Try.underlying24 Jr rfl rfl ‹_› (X8 rfl) trivial),hR 5 rfl rfl (rCa (Fv (fOf x.Wj) (cOf (max 1 x.Xg)) (Yt L) L s t w d E (l.getD k X2) ‹_› ‹_› (by rfl) (by omega) (by omega) (by omega) (by omega) (by omega) ‹_› ‹_› ‹_› ‹_› ‹_› ‹_›) Try.func9 [0,1,2,3,4,5,6,7,8,9,10,13,14] [(.tmp 36,Zmx),(.tmp 40,(Zmy l k))] 11 13)] (sR [hR 2 rfl rfl (rCa (H2 (fOf x.Wj) (cOf (max 1 x.Xg)) (Yt (Yj (fOf x.Wj) (cOf (max 1 x.Xg)) L (l.getD k X2) s)) 1000 s (V0 (fOf x.Wj) (cOf (max 1 x.Xg)) L s t (l.getD k X2)) d E (by omega)) Try.func12 [0,1,2,3,4,10] [(.tmp 44,pv 2 0)] 6 6)] (T.seq (sR [] ?_)))
 refine cT (b:=true) rfl (sR [hR 2 rfl rfl (rCa (H9 (Yf 1000 E).X9 (by omega)) Try.func14 [] [(.tmp 51,slV false false kU8 (Yf 1000 E).X9)] 0 0)] (T.seq ?_))
 by_cases hq12:(E0 (Yf 1000 E).X9)≠0
 ·exact absurd hQ.1 hq12
 by_cases hq13:(Y6 (Yf 1000 E).X9).X3≠1
 ·exact absurd hQ.2.1 hq13
 by_cases hq14:(Yf 1000 E).X4≠1000
 ·exact absurd rfl hq14
 by_cases hq15:(Wy (fOf x.Wj) (cOf (max 1 x.Xg)) (Yt (Yj (fOf x.Wj) (cOf (max 1 x.Xg)) L (l.getD k X2) s)) (Yf 1000 E))≠0
 ·exact absurd (X8t hcl hEs (X89 hEL)) hq15
 refine sD [[],[0],[0,1],[0,1,2],[0,1,2,3],[0,1,2,3,4],[0,1,2,3,4,5],[0,1,2,3,4,5,6],[0,1,2,3,4,5,6,7],[0,1,2,3,4,5,6,7,8],[0,1,2,3,4,5,6,7,8,9],[0,1,2,3,4,5,6,7,8,9,10],[0,1,2,3,4,5,6,7,8,9,10,11],[0,1,2,3,4,5,6,7,8,9,10,11,12],[0,1,2,3,4,5,6,7,8,9,10,11,12,13],[0,1,2,3,4,5,6,7,8,9,10,11,12],[0,1,2,3,4,5,6,7,8,9,10,11,12,13,14,15],[0,1,2,3,4,5,6,7,8,9,10,11,12,13,14,15,16],[0,1,2,3,4,5,6,7,8,9,10,11,12,13,14,15,16,17],[0,1,2,3,4,5,6,7,8,9,10,11,12,13,14,15,16,17,18],[0,1,2,3,4,5,6,7,8,9,10,11,12,13,14,15,16,17,18,19],[0,1,2,3,4,5,6,7,8,9,10,11,12,13,14,15,16,17,18,19,20],[0,1,2,3,4,5,6,7,8,9,10,11,12,13,14,15,16,17,18,19],[0,1,2,3,4,5,6,7,8,9,10,11,12,13,14,15,16,17,18,19,22],[0,1,2,3,4,5,6,7,8,9,10,11,12,13,14,15,16,17,18,19,22,23],[0,1,2,3,4,5,6,7,8,9,10,11,12,13,14,15,16,17,18,19,22,23,24],[0,1,2,3,4,5,6,7,8,9,10,11,12,13,14,15,16,17,18,19,22,23,24,25],[0,1,2,3,4,5,6,7,8,9,10,11,12,13,14,15,16,17,18,19,20,21,22,23,24,25,26],[0,1,2,3,4,5,6,7,8,9,10,11,12,13,14,15,16,17,18,19,20,21,22,23,24,25,26,27]] (Xl (hY · (dF hq12)) [3,4,5] (hP 6 (dF hq12)::(Xl (hY · (dF hq13)) [8,9,10] (hP 11 (dF hq13)::(Xl (hY · (dF hq14)) [13,14,15] (hS 16 (oY rfl rfl rfl rfl (X8 rfl) (dF hq14) (rCa (F0 (fOf x.Wj) (cOf (max 1 x.Xg)) (Yt (Yj (fOf x.Wj) (cOf (max 1 x.Xg)) L (l.getD k X2) s)) false (Yf 1000 E) ‹_› ‹_› (by omega)) Try.func15 [0,1] [(.tmp 69,pv 0 0),(.tmp 70,(Znc E))] 2 2))::(hY 17 (dF hq14)::(hP 18 (dF hq14)::(Xl (hY · (dF hq15)) [20,21,22,23] (hS 24 (oY rfl rfl rfl rfl (X8 rfl) (dF hq15) (rCa (Uf (fOf x.Wj) (cOf (max 1 x.Xg)) (Yt (Yj (fOf x.Wj) (cOf (max 1 x.Xg)) L (l.getD k X2) s)) 1000 s (V0 (fOf x.Wj) (cOf (max 1 x.Xg)) L s t (l.getD k X2)) d E (by omega)) Try.func13 [0,1,2,3,4,10] [(.tmp 78,pv 2 0)] 6 6))::(hY 25 (dF hq15)::(hS 26 (oY rfl rfl rfl rfl (X8 rfl) (dF hq15) (Y9 (u1:=.int .i64 ((d.length:Nat):Int)) (u2:=.int .i64 1) (v:=.int .i64 ((d.length+1:Nat):Int)) (W6 pZ5) (X8 rfl) ⟨rfl,trivial⟩))::(hY 27 (dF hq15)::(hP 28 (dF hq15)::[])))))))))))))) ?_
 by_cases hq16:(Y6 (Yf 1000 E).X9).Xv≠((d.length+1:Nat):Int)
 ·exact absurd (by rw [hQ.2.2];omega) hq16
 refine cF (dF hq16) (T.skip (nT (xK [hR 3 rfl rfl (Er (k:=.i64) (a:=n) (b:=(Y6 (Yf 1000 E).X9).Xv) (X8 rfl) trivial)] (nT ?_))))
 refine sR (hY1 2::(hP1 3::(hY1 5::(hY1 6::(hS 7 (oY (b:=true) rfl rfl rfl rfl (X8 rfl) rfl (rCa (Uf (fOf x.Wj) (cOf (max 1 x.Xg)) (Yt (Yj (fOf x.Wj) (cOf (max 1 x.Xg)) L (l.getD k X2) s)) 1000 s (V0 (fOf x.Wj) (cOf (max 1 x.Xg)) L s t (l.getD k X2)) d E (by omega)) Try.func13 [0,1,2,3,4,10] [(.tmp 94,pv 2 0)] 6 6))::(Xl hY1 [8,9,10] (hP1 11::(hY 13 (show decide (((d.length:Nat):Int)=((d.length:Nat):Int))=true from dT (Eq.refl _))::(hY 14 (show decide (((d.length:Nat):Int)=((d.length:Nat):Int))=true from dT (Eq.refl _))::(hS 15 (oY rfl rfl rfl rfl (X8 rfl) (show decide (((d.length:Nat):Int)=((d.length:Nat):Int))=true from dT (Eq.refl _)) (rCa (X1m false false (Yf 1000 E) (Yf 1000 E) ) Try.func16 [] [(.tmp 101,(Znc E)),(.tmp 102,(Znc E))] 0 0))::(hY 16 (show decide (((d.length:Nat):Int)=((d.length:Nat):Int))=true from dT (Eq.refl _))::(hP 17 (show decide (((d.length:Nat):Int)=((d.length:Nat):Int))=true from dT (Eq.refl _))::(hY 19 (cn (show decide ((Yf 1000 E)=(Yf 1000 E))=true from dT (Eq.refl _)))::(hY 20 (cn (show decide ((Yf 1000 E)=(Yf 1000 E))=true from dT (Eq.refl _)))::(hY1 21::(hY1 22::(hS 23 (oY rfl rfl rfl rfl (X8 rfl) (cn (show decide ((Yf 1000 E)=(Yf 1000 E))=true from dT (Eq.refl _))) (Yq (b:=true) (av:=vB (!true)) (X8 rfl) trivial rfl))::(hY 24 (cn (show decide ((Yf 1000 E)=(Yf 1000 E))=true from dT (Eq.refl _)))::(Xl hN1 [25,26,27,28,29,30,31] (hS 32 (oY rfl rfl rfl rfl (X8 rfl) (cn (show decide ((Yf 1000 E)=(Yf 1000 E))=true from dT (Eq.refl _))) (Yz (b:=(!true)) (av:=vB false) (X8 rfl) ⟨rfl,trivial⟩ rfl))::(hP 33 (cn (show decide ((Yf 1000 E)=(Yf 1000 E))=true from dT (Eq.refl _)))::[]))))))))))))))))))))) ?_
 refine cF (b:=false) rfl (T.skip (nB (nT (xK [hR 1 rfl rfl (Y9 (u1:=.int .i64 ((k:Nat):Int)) (u2:=.int .i64 1) (v:=.int .i64 ((k+1:Nat):Int)) (W6 pZ5) (X8 rfl) ⟨rfl,trivial⟩)] ?_))))
 refine nLb (k+1,(Yj (fOf x.Wj) (cOf (max 1 x.Xg)) L (l.getD k X2) s),s,(V0 (fOf x.Wj) (cOf (max 1 x.Xg)) L s t (l.getD k X2)),(Wu (fOf x.Wj) (cOf (max 1 x.Xg)) L s w (l.getD k X2)),d,E,max n (Y6 (Yf 1000 E).X9).Xv) ⟨(show (k+1)≤l.length from (by omega)),(show (Yj (fOf x.Wj) (cOf (max 1 x.Xg)) L (l.getD k X2) s).length≤(k+1) from p1z),(show 0≤s∧s≤(((k+1):Nat):Int) from (by omega)),(show d.length≤(k+1) from (by omega)),(show (V0 (fOf x.Wj) (cOf (max 1 x.Xg)) L s t (l.getD k X2)).length≤(k+1) from (by exact Nat.le_trans X5d (by omega))),(show (Wu (fOf x.Wj) (cOf (max 1 x.Xg)) L s w (l.getD k X2)).length≤(k+1) from (by exact Nat.le_trans X5a (by omega))),(show Vj (V0 (fOf x.Wj) (cOf (max 1 x.Xg)) L s t (l.getD k X2)) (Wu (fOf x.Wj) (cOf (max 1 x.Xg)) L s w (l.getD k X2)) from (by exact X5z hrw)),(show E.X4=1000∧E.X9.length≤5000 from ‹_›),(show s=((d.length:Nat):Int)+1 from (by omega)),(show E∈(Yj (fOf x.Wj) (cOf (max 1 x.Xg)) L (l.getD k X2) s) from (by exact X89 hEL)),(show X0s E s from (by exact hQ))⟩ (show (l.length-(k+1):Nat)<l.length-k from (by omega)) (fun _ _ hG=>Wp [0,1,2,3,4,5,13,7,14,9,10,11] (bm 8 226) (t1:=[aa,(Zma l),aa,aa,aa,pv 11 0,vI (max n (Y6 (Yf 1000 E).X9).Xv),(Zn0 k)]) (h1:=[(Zmd x),(Zn4 x l k L s),(Zn8 s d),.live (mpK (W0 .i64) (Xi false) (V0 (fOf x.Wj) (Zmb x) L s t (l.getD k X2))),(Zmu d),.live (.box 106 [dB true,(Zmh x),(Zmc x),.own 13 (kE false).sz 0 (Zn3 x l k L s).length]),(Zn6 x l k L s),.live (.box 70 [.ptr 5 0,Zme,dI s,dB true,(Zn9 E),(Zna E),.own 14 (X0 false).sz 0 (Wu (fOf x.Wj) (Zmb x) L s w (l.getD k X2)).length,(Zmv d)]),.live (Xe 116 (X0 false) (Wu (fOf x.Wj) (Zmb x) L s w (l.getD k X2))),(Zmu d),.live (.box 48 [(Zn9 E),(Zna E)]),Zmk]) rfl rfl hG)
end Go.Proofs.Ythnefnknoahbkaa.Q
