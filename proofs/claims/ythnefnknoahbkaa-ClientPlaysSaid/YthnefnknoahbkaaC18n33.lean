import Derived.Test.YthnefnknoahbkaaC18n31
namespace Go.Proofs.Ythnefnknoahbkaa.Q
open Go Go.RowKit
set_option linter.unusedVariables false
set_option linter.unusedSimpArgs false
set_option maxRecDepth 100000
set_option maxHeartbeats 4000000
section
variable (x:Yx) (l:List Xn) (k:Nat) (L:List aE) (s:Int) (R:aE) (d:List Xj) (E:aE)
abbrev Zl5:AV:=slV false false (Y2 false) l
abbrev Zl6:=(cOf (max 1 x.Xg))
abbrev Zl7:SV:=dI (Zl6 x)
abbrev Zl8:HS:=.live (.box 99 [dI (3*(fOf x.Wj)+1),(Zl7 x),.mref 1])
abbrev Zl9:SV:=dI 1000
abbrev Zla:SV:=.d (.val (.pointer none))
abbrev Zlb:HS:=.live (mpK (W0 .i64) (Xi false) ([]:List (Int×Xd)))
abbrev Zlc:SV:=dI (fOf x.Wj)
abbrev Zld:SV:=.own 8 (X0 false).sz 0 ([]:List X6).length
abbrev Zle:HS:=.live (Xe 116 (X0 false) ([]:List X6))
abbrev Zlf:HS:=.live (.box 31 [.ptr 0 0,.ptr 5 0,.ptr 2 0,.ptr 7 0])
abbrev Zlg:HS:=.live (Xe 78 (X5 false) ([]:List Xj))
abbrev Zlh:HS:=.live (Xe 48 (kE false) ([]:List aE))
abbrev Zli:HS:=.live (.box 99 [dI (3*(fOf x.Wj)+1),(Zl7 x),.mref 2])
abbrev Zlj:HS:=.live (.box 82 [.ptr 1 0,Zl9,dI 0,Zla,.mref 4,.own 5 (X5 false).sz 0 ([]:List Xj).length])
abbrev Zlk:HS:=.live (.box 106 [dB true,(Zlc x),(Zl7 x),.own 7 (kE false).sz 0 ([]:List aE).length])
abbrev Zll:HS:=.live (.box 70 [.ptr 6 0,Zl9,dI 0,dB false,dI zE.X4,dU zE.X9,.own 9 (X0 false).sz 0 ([]:List X6).length,.own 10 (X5 false).sz 0 ([]:List Xj).length])
abbrev Zlm:HS:=.live (.box 31 [.ptr 1 0,.ptr 6 0,.ptr 3 0,.ptr 8 0])
abbrev Zln:SV:=.own 4 (X5 false).sz 0 d.length
abbrev Zlo:HS:=.live (.box 82 [.ptr 0 0,Zl9,dI s,Zla,.mref 3,(Zln d)])
abbrev Zlp:HS:=.live (Xe 78 (X5 false) d)
abbrev Zlq:SV:=.own 9 (X5 false).sz 0 d.length
abbrev Zlr:HS:=.live (.box 70 [.ptr 5 0,Zl9,dI s,dB false,dI R.X4,dU R.X9,Zld,(Zlq d)])
abbrev Zls:AV:=.tv (.agg [.ptr 0 0,.ptr 5 0,.ptr 2 0,.ptr 7 0])
abbrev Zlt:AV:=.tv (.agg [dI (l.getD k X2).X3,dI (l.getD k X2).X4,dI (l.getD k X2).Wv,dU (l.getD k X2).Ys,dI (l.getD k X2).Ya.X3,dI (l.getD k X2).Ya.Xt,dI (l.getD k X2).Ya.Xy,dI (l.getD k X2).Ya.Xb,dI (l.getD k X2).Ya.Xv,dS (l.getD k X2).Ya.Xc,dU (l.getD k X2).Ya.Xk,dI (l.getD k X2).Ya.X1.Xs,dI (l.getD k X2).Ya.X1.Xo,.d (dsl false false (kE false) (l.getD k X2).Ya.Xf),.d (dsl false false (kE false) (l.getD k X2).Ya.Xr),.d (dsl false false (kC false) (l.getD k X2).Ya.X7),dI (l.getD k X2).X1.Xs,dI (l.getD k X2).X1.Xo,dB (l.getD k X2).Yn])
abbrev Zlu:List AV:=[aa,(Zl5 l),aa,aa,aa,pv 11 0,vI ((k+1:Nat):Int)]
abbrev Zlv:=(U9 (fOf x.Wj) (Zl6 x) L (l.getD k X2) s)
abbrev Zlw:=(Wt (fOf x.Wj) (Zl6 x) (l.getD k X2) s)
abbrev Zlx:List AV:=[aa,(Zl5 l),aa,aa,aa,pv 10 0,vI ((k+1:Nat):Int)]
abbrev Zly:=(Yj (fOf x.Wj) (Zl6 x) L (l.getD k X2) s)
abbrev Zlz:HS:=.live (mpK Xa Y5 (Yt (Zly x l k L s)))
abbrev Zm1:HS:=.live (Xe 48 (kE false) (Zly x l k L s))
abbrev Zm2:TV:=.one (dB true)
abbrev Zm3:HS:=.live (.box 82 [.ptr 0 0,Zl9,dI s,.ptr 10 0,.mref 3,(Zln d)])
abbrev Zm4:SV:=dI E.X4
abbrev Zm5:SV:=dU E.X9
abbrev Zm6:=(Ua s (l.getD k X2))
end
theorem X4l (x:Yx) (l:List Xn) (hl:l.length≤9223372036854775807) (hr:∀ a,a∈l→E4 a):Holds Try.prog 3 ⟨[.tv (.agg [dI x.Wj,dI x.Xg]),slV false false (Y2 false) l],[],vB true,[]⟩:=by
 refine Holds.of Try.func3 rfl (N:=35) Try.ntmps3 rfl fun w0 B0 S0 U0=>?_
 show T _ (Xz 35 0 w0 S0 U0 B0) ⟨[.tv (.agg [dI x.Wj,dI x.Xg]),(Zl5 l)],[]⟩ _ _
 have hfx:=X3o x.Wj
 have hux:=X3t (max 1 x.Xg)
 have hcl:=Hc x.Xg
 have hr0:Vj ([]:List (Int×Xd)) ([]:List X6):=X0l
 refine sR [] (T.seq (sR [hR 1 rfl rfl (rCa (X0r false false false l ‹_› ‹_›) Try.func7 [] [(.tmp 7,(Zl5 l))] 0 0)] ?_))
 by_cases hq1:X19 l
 rotate_left
 ·refine cT (cn (dF hq1)) (sR [] (T.ret (rT ?_)))
  exact eRt 4 (Zm2) [] rfl trivial
 have hfw:=hq1;have hl60:=hfw.1
 refine cF (cn (dT hq1)) (T.skip (nT (sR [hR 1 rfl rfl (rCa (Hw x ) Try.func8 [1,2,3,4,5,6,7,8,9,10] [(.tmp 10,.tv (.agg [dI x.Wj,dI x.Xg]))] 0 10)] (T.seq (sR [] (T.block ?_))))))
 refine Xep (ι:=Nat×(List aE)×Int×aE×(List Xj)) (κ:=Nat×(List aE)×Int×(List (Int×Xd))×(List X6)×(List Xj)×aE) (fun (x_:Nat×(List aE)×Int×aE×(List Xj))=>⟨[aa,(Zl5 l),aa,aa,aa,pv 10 0,vI ((x_.1:Nat):Int)],[(Zl8 x),.live (mpK Xa Y5 (Yt x_.2.1)),.live (.box 82 [.ptr 0 0,Zl9,dI x_.2.2.1,Zla,.mref 3,.own 4 (X5 false).sz 0 x_.2.2.2.2.length]),Zlb,.live (Xe 78 (X5 false) x_.2.2.2.2),.live (.box 106 [dB true,(Zlc x),(Zl7 x),.own 6 (kE false).sz 0 x_.2.1.length]),.live (Xe 48 (kE false) x_.2.1),.live (.box 70 [.ptr 5 0,Zl9,dI x_.2.2.1,dB false,dI x_.2.2.2.1.X4,dU x_.2.2.2.1.X9,Zld,.own 9 (X5 false).sz 0 x_.2.2.2.2.length]),Zle,.live (Xe 78 (X5 false) x_.2.2.2.2),Zlf]⟩) (fun (x_:Nat×(List aE)×Int×aE×(List Xj))=>(x_.1≤l.length)∧(x_.2.1.length≤x_.1)∧(0≤x_.2.2.1∧x_.2.2.1≤((x_.1:Nat):Int))∧(x_.2.2.2.2.length≤x_.1)) (fun (x_:Nat×(List aE)×Int×aE×(List Xj))=>l.length-x_.1) (fun (x_:Nat×(List aE)×Int×(List (Int×Xd))×(List X6)×(List Xj)×aE)=>⟨[aa,(Zl5 l),aa,aa,aa,pv 11 0,vI ((x_.1:Nat):Int)],[(Zl8 x),.live (mpK Xa Y5 (Yt x_.2.1)),.live (.box 82 [.ptr 0 0,Zl9,dI x_.2.2.1,.ptr 10 0,.mref 3,.own 4 (X5 false).sz 0 x_.2.2.2.2.2.1.length]),.live (mpK (W0 .i64) (Xi false) x_.2.2.2.1),.live (Xe 78 (X5 false) x_.2.2.2.2.2.1),.live (.box 106 [dB true,(Zlc x),(Zl7 x),.own 6 (kE false).sz 0 x_.2.1.length]),.live (Xe 48 (kE false) x_.2.1),.live (.box 70 [.ptr 5 0,Zl9,dI x_.2.2.1,dB true,dI x_.2.2.2.2.2.2.X4,dU x_.2.2.2.2.2.2.X9,.own 8 (X0 false).sz 0 x_.2.2.2.2.1.length,.own 9 (X5 false).sz 0 x_.2.2.2.2.2.1.length]),.live (Xe 116 (X0 false) x_.2.2.2.2.1),.live (Xe 78 (X5 false) x_.2.2.2.2.2.1),.live (.box 48 [dI x_.2.2.2.2.2.2.X4,dU x_.2.2.2.2.2.2.X9]),Zlf]⟩) (fun (x_:Nat×(List aE)×Int×(List (Int×Xd))×(List X6)×(List Xj)×aE)=>(x_.1≤l.length)∧(x_.2.1.length≤x_.1)∧(0≤x_.2.2.1∧x_.2.2.1≤((x_.1:Nat):Int))∧(x_.2.2.2.2.2.1.length≤x_.1)∧(x_.2.2.2.1.length≤x_.1)∧(x_.2.2.2.2.1.length≤x_.1)∧(Vj x_.2.2.2.1 x_.2.2.2.2.1)∧(x_.2.2.2.2.2.2.X4=1000∧x_.2.2.2.2.2.2.X9.length≤5000)) (fun (x_:Nat×(List aE)×Int×(List (Int×Xd))×(List X6)×(List Xj)×aE)=>l.length-x_.1) (0,([]:List aE),0,zE,([]:List Xj)) ⟨(show 0≤l.length from (Nat.zero_le _)),(show ([]:List aE).length≤0 from (Nat.zero_le _)),(show 0≤0∧0≤((0:Nat):Int) from ⟨Int.le_refl _,Int.le_refl _⟩),(show ([]:List Xj).length≤0 from (Nat.zero_le _))⟩ (fun _ _ hG=>Wp [1,2,3,4,5,6,7,8,9,10,11] (bm 7 98) (h1:=[(Zli x),.live (mpK Xa Y5 (Yt ([]:List aE))),Zlj,Zlb,Zlg,(Zlk x),Zlh,Zll,Zle,Zlg,Zlm]) (h2:=[(Zli x),.live (mpK Xa Y5 ([]:List (Xw×Bool))),Zlj,Zlb,Zlg,(Zlk x),Zlh,Zll,Zle,Zlg,Zlm]) (t1:=[aa,(Zl5 l),aa,aa,aa,pv 11 0,vI 0]) rfl (congrArg (fun (q1:List (Xw×Bool))=>([(Zli x),.live (mpK Xa Y5 q1),Zlj,Zlb,Zlg,(Zlk x),Zlh,Zll,Zle,Zlg,Zlm]:List HS)) (by rfl)) hG) ?_ ?_
 ·rintro ⟨k,L,s,R,d⟩ ⟨hk,hLk,hs,hdk⟩
  show T _ _ ⟨[aa,(Zl5 l),aa,aa,aa,pv 10 0,vI ((k:Nat):Int)],[(Zl8 x),.live (mpK Xa Y5 (Yt L)),(Zlo s d),Zlb,(Zlp d),.live (.box 106 [dB true,(Zlc x),(Zl7 x),.own 6 (kE false).sz 0 L.length]),.live (Xe 48 (kE false) L),(Zlr s R d),Zle,(Zlp d),Zlf]⟩ _ _
  replace hk:k≤l.length:=hk
  replace hLk:L.length≤k:=hLk
  replace hs:0≤s∧s≤((k:Nat):Int):=hs
  replace hdk:d.length≤k:=hdk
  have hyk:=Fk hfw (k:=k)
  have hok:=fun (q:k<l.length)=>hr _ (Vt (z:=X2) q)
  refine T.seq (sR [] ?_)
  by_cases hq2:((k:Nat):Int)<((l.length:Nat):Int)
  ·have hkl:k<l.length:=(by omega);have hf9:=hyk hkl;have hy:=hok hkl
   refine cT (dT hq2) (T.skip (nT (T.seq (T.block ?_))))
   by_cases hq3:Ef (l.getD k X2)
   ·have hsb:=hq3;have hse:=X7w (f:=(fOf x.Wj)) (st:=s) hcl hsb;have hse1:=hse.1;have hse2:=hse.2
    refine sD [[],[],[],[1,2],[1,2,3],[0,1,2,3,4],[0,1,2,3,4,5],[0,1,2,3,4,5,6],[0,1,2,3,4,5,6,7],[0,1,2,3,4,5,6,7,8],[0,1,2,3,4,5,6,7,8,9],[0,1,2,3,4,5,6,7,8,9,10]] [hR 3 rfl rfl (Wc false false (Y2 false) l k (k:=.i64) (i:=((k:Nat):Int)) Try.underlying24 Jr rfl rfl ‹_› (X8 rfl) trivial),hR 5 rfl rfl (rCa (X6l (fOf x.Wj) (cOf (max 1 x.Xg)) (Yt L) L s ([]:List (Int×Xd)) ([]:List X6) d R (l.getD k X2) ‹_› ‹_› (by rfl) (by omega) (by omega) (by (simp [maxLen,-List.getD_eq_getElem?_getD]<;>omega)) (by (simp [maxLen,-List.getD_eq_getElem?_getD]<;>omega)) (by omega) ‹_› ‹_› ‹_› ‹_› ‹_›) Try.func9 [0,1,2,3,4,5,6,7,8,9,11,12,13] [(.tmp 18,Zls),(.tmp 22,(Zlt l k))] 10 13),hY0 8,hS 9 (oY (b:=false) rfl rfl rfl rfl (X8 rfl) rfl (rCa (X3k (fOf x.Wj) (cOf (max 1 x.Xg)) (Yt (U9 (fOf x.Wj) (cOf (max 1 x.Xg)) L (l.getD k X2) s)) (U9 (fOf x.Wj) (cOf (max 1 x.Xg)) L (l.getD k X2) s) (s+1) ([]:List (Int×Xd)) ([]:List X6) d (Wt (fOf x.Wj) (cOf (max 1 x.Xg)) (l.getD k X2) s) (by omega) (by omega) ‹_›) Try.func10 [0,1,2,3,4,5,11,7,12,9,13] [(.tmp 26,Zls)] 11 11)),hY0 10,hP0 11] ?_
    refine cF (b:=(!true)) rfl (T.skip (nB (nT (xK [hR 1 rfl rfl (Y9 (u1:=.int .i64 ((k:Nat):Int)) (u2:=.int .i64 1) (v:=.int .i64 ((k+1:Nat):Int)) (W6 pZ5) (X8 rfl) ⟨rfl,trivial⟩)] ?_))))
    refine nLb (k+1,(U9 (fOf x.Wj) (cOf (max 1 x.Xg)) L (l.getD k X2) s),s+1,([]:List (Int×Xd)),([]:List X6),d,(Wt (fOf x.Wj) (cOf (max 1 x.Xg)) (l.getD k X2) s)) ⟨(show (k+1)≤l.length from (by omega)),(show (U9 (fOf x.Wj) (cOf (max 1 x.Xg)) L (l.getD k X2) s).length≤(k+1) from (by exact Nat.le_trans X7v (by omega))),(show 0≤(s+1)∧(s+1)≤(((k+1):Nat):Int) from (by omega)),(show d.length≤(k+1) from (by omega)),(show ([]:List (Int×Xd)).length≤(k+1) from (by exact Nat.zero_le _)),(show ([]:List X6).length≤(k+1) from (by exact Nat.zero_le _)),(show Vj ([]:List (Int×Xd)) ([]:List X6) from ‹_›),(show (Wt (fOf x.Wj) (cOf (max 1 x.Xg)) (l.getD k X2) s).X4=1000∧(Wt (fOf x.Wj) (cOf (max 1 x.Xg)) (l.getD k X2) s).X9.length≤5000 from ‹_›)⟩ (show (l.length-(k+1):Nat)<l.length-k from (by omega)) (fun _ _ hG=>Wp [0,1,2,3,4,5,11,7,12,9,13,10] (bm 7 98) (t1:=(Zlx l k)) (h1:=[(Zl8 x),.live (mpK Xa Y5 (Yt (Zlv x l k L s))),.live (.box 82 [.ptr 0 0,Zl9,dI (s+1),.ptr 13 0,.mref 3,(Zln d)]),Zlb,(Zlp d),.live (.box 106 [dB true,(Zlc x),(Zl7 x),.own 11 (kE false).sz 0 (Zlv x l k L s).length]),.live (Xe 48 (kE false) (Zlv x l k L s)),.live (.box 70 [.ptr 5 0,Zl9,dI (s+1),dB true,dI (Zlw x l k s).X4,dU (Zlw x l k s).X9,.own 12 (X0 false).sz 0 ([]:List X6).length,(Zlq d)]),Zle,(Zlp d),.live (.box 48 [dI (Zlw x l k s).X4,dU (Zlw x l k s).X9]),Zlf]) rfl rfl hG)
   refine sD [[],[],[],[1,2],[1,2,3],[0,1,2,3,4],[0,1,2,3,4,5],[0,1,2,3,4,5,6],[0,1,2,3,4,5,6,7],[0,1,2,3,4,5,6,7,8],[0,1,2,3,4,5,6,7,8,9],[0,1,2,3,4,5,6,7,8,9,10]] [hR 3 rfl rfl (Wc false false (Y2 false) l k (k:=.i64) (i:=((k:Nat):Int)) Try.underlying24 Jr rfl rfl ‹_› (X8 rfl) trivial),hR 5 rfl rfl (rCa (X1s (fOf x.Wj) (cOf (max 1 x.Xg)) (Yt L) L s ([]:List (Int×Xd)) ([]:List X6) d R (l.getD k X2) ‹_› ‹_› (by rfl) (by omega) (by omega) (by (simp [maxLen,-List.getD_eq_getElem?_getD]<;>omega)) (by (simp [maxLen,-List.getD_eq_getElem?_getD]<;>omega)) (by omega) ‹_› ‹_› ‹_› ‹_› ‹_›) Try.func9 [0,1,2,3,4,5,6,7,8,9,11] [(.tmp 18,Zls),(.tmp 22,(Zlt l k))] 10 11),hY0 8,hS 9 (oY (b:=false) rfl rfl rfl rfl (X8 rfl) rfl (rCa (X3j (fOf x.Wj) (cOf (max 1 x.Xg)) (Yt (Yj (fOf x.Wj) (cOf (max 1 x.Xg)) L (l.getD k X2) s)) (Yj (fOf x.Wj) (cOf (max 1 x.Xg)) L (l.getD k X2) s) s ([]:List (Int×Xd)) ([]:List X6) d R (by omega)) Try.func10 [0,1,2,3,4,5,11,7,8,9] [(.tmp 26,Zls)] 10 10)),hY0 10,hP0 11] ?_
   refine cF (b:=(!true)) rfl (T.skip (nB (nT (xK [hR 1 rfl rfl (Y9 (u1:=.int .i64 ((k:Nat):Int)) (u2:=.int .i64 1) (v:=.int .i64 ((k+1:Nat):Int)) (W6 pZ5) (X8 rfl) ⟨rfl,trivial⟩)] ?_))))
   refine nLa (k+1,(Yj (fOf x.Wj) (cOf (max 1 x.Xg)) L (l.getD k X2) s),s,R,d) ⟨(show (k+1)≤l.length from (by omega)),(show (Yj (fOf x.Wj) (cOf (max 1 x.Xg)) L (l.getD k X2) s).length≤(k+1) from p1z),(show 0≤s∧s≤(((k+1):Nat):Int) from (by omega)),(show d.length≤(k+1) from (by omega))⟩ (show (l.length-(k+1):Nat)<l.length-k from (by omega)) (fun _ _ hG=>Wp [0,1,2,3,4,5,11,7,8,9,10] (bm 7 98) (t1:=(Zlx l k)) (h1:=[(Zl8 x),(Zlz x l k L s),(Zlo s d),Zlb,(Zlp d),.live (.box 106 [dB true,(Zlc x),(Zl7 x),.own 11 (kE false).sz 0 (Zly x l k L s).length]),(Zm1 x l k L s),(Zlr s R d),Zle,(Zlp d),Zlf]) rfl rfl hG)
  refine cF (dF hq2) (T.exit (xT (xT (xH (nT (sR [hR 1 rfl rfl (rCa (X3j (fOf x.Wj) (cOf (max 1 x.Xg)) (Yt L) L s ([]:List (Int×Xd)) ([]:List X6) d R (by omega)) Try.func10 [0,1,2,3,4,5,6,7,8,9] [(.tmp 30,Zls)] 10 10),hS 3 (oY (b:=true) rfl rfl rfl rfl (X8 rfl) rfl (rCa (Ux  ) Try.func11 [] [] 0 0)),hP1 4] (T.ret ?_)))))))
  exact eRt 4 (Zm2) [] rfl trivial
 rintro ⟨k,L,s,t,w,d,E⟩ ⟨hk,hLk,hs,hdk,htk,hwk,hrw,hE⟩
 show T _ _ ⟨[aa,(Zl5 l),aa,aa,aa,pv 11 0,vI ((k:Nat):Int)],[(Zl8 x),.live (mpK Xa Y5 (Yt L)),(Zm3 s d),.live (mpK (W0 .i64) (Xi false) t),(Zlp d),.live (.box 106 [dB true,(Zlc x),(Zl7 x),.own 6 (kE false).sz 0 L.length]),.live (Xe 48 (kE false) L),.live (.box 70 [.ptr 5 0,Zl9,dI s,dB true,(Zm4 E),(Zm5 E),.own 8 (X0 false).sz 0 w.length,(Zlq d)]),.live (Xe 116 (X0 false) w),(Zlp d),.live (.box 48 [(Zm4 E),(Zm5 E)]),Zlf]⟩ _ _
 replace hk:k≤l.length:=hk
 replace hLk:L.length≤k:=hLk
 replace hs:0≤s∧s≤((k:Nat):Int):=hs
 replace hdk:d.length≤k:=hdk
 replace htk:t.length≤k:=htk
 replace hwk:w.length≤k:=hwk
 replace hrw:Vj t w:=hrw
 replace hE:E.X4=1000∧E.X9.length≤5000:=hE
 have hyk:=Fk hfw (k:=k)
 have hok:=fun (q:k<l.length)=>hr _ (Vt (z:=X2) q)
 have hEs:=hE.1
 have hEl:E.X9.length≤100000:=(by have:=hE.2;omega)
 have hEo:(Yf 1000 E).X9.length≤100000:=hEl
 refine T.seq (sR [] ?_)
 by_cases hq4:((k:Nat):Int)<((l.length:Nat):Int)
 ·have hkl:k<l.length:=(by omega);have hf9:=hyk hkl;have hy:=hok hkl
  refine cT (dT hq4) (T.skip (nT (T.seq (T.block ?_))))
  by_cases hq5:It (fOf x.Wj) (cOf (max 1 x.Xg)) L s t (l.getD k X2)
  ·refine sD [[],[],[],[1,2],[1,2,3],[0,1,2,3,4],[0,1,2,3,4,5],[0,1,2,3,4,5,6],[0,1,2,3,4,5,6,7],[0,1,2,3,4,5,6,7,8],[0,1,2,3,4,5,6,7,8,9],[0,1,2,3,4,5,6,7,8,9,10]] [hR 3 rfl rfl (Wc false false (Y2 false) l k (k:=.i64) (i:=((k:Nat):Int)) Try.underlying24 Jr rfl rfl ‹_› (X8 rfl) trivial),hR 5 rfl rfl (rCa (X1t (fOf x.Wj) (cOf (max 1 x.Xg)) (Yt L) L s t w d E (l.getD k X2) ‹_› ‹_› (by rfl) (by omega) (by omega) (by omega) (by omega) (by omega) ‹_› ‹_› ‹_› ‹_› ‹_› ‹_›) Try.func9 [0,1,2,3,4,5,6,7,8,9,10,12,13,14,15] [(.tmp 18,Zls),(.tmp 22,(Zlt l k))] 11 15),hY0 8,hS 9 (oY (b:=false) rfl rfl rfl rfl (X8 rfl) rfl (rCa (X3j (fOf x.Wj) (cOf (max 1 x.Xg)) (Yt (Yj (fOf x.Wj) (cOf (max 1 x.Xg)) L (l.getD k X2) s)) (Yj (fOf x.Wj) (cOf (max 1 x.Xg)) L (l.getD k X2) s) s ([]:List (Int×Xd)) ([]:List X6) (d++[(Ua s (l.getD k X2))]) E (by (simp [maxLen,-List.getD_eq_getElem?_getD]<;>omega))) Try.func10 [0,1,2,3,14,5,12,7,13,15] [(.tmp 26,Zls)] 10 10)),hY0 10,hP0 11] ?_
   refine cF (b:=(!true)) rfl (T.skip (nB (nT (xK [hR 1 rfl rfl (Y9 (u1:=.int .i64 ((k:Nat):Int)) (u2:=.int .i64 1) (v:=.int .i64 ((k+1:Nat):Int)) (W6 pZ5) (X8 rfl) ⟨rfl,trivial⟩)] ?_))))
   refine nLa (k+1,(Yj (fOf x.Wj) (cOf (max 1 x.Xg)) L (l.getD k X2) s),s,E,(d++[(Ua s (l.getD k X2))])) ⟨(show (k+1)≤l.length from (by omega)),(show (Yj (fOf x.Wj) (cOf (max 1 x.Xg)) L (l.getD k X2) s).length≤(k+1) from p1z),(show 0≤s∧s≤(((k+1):Nat):Int) from (by omega)),(show (d++[(Ua s (l.getD k X2))]).length≤(k+1) from (by (rw [List.length_append];simp only [List.length_singleton];omega)))⟩ (show (l.length-(k+1):Nat)<l.length-k from (by omega)) (fun _ _ hG=>Wp [0,1,2,3,14,5,12,7,13,15,11] (bm 7 98) (t1:=(Zlu l k)) (h1:=[(Zl8 x),(Zlz x l k L s),.live (.box 82 [.ptr 0 0,Zl9,dI s,Zla,.mref 3,.own 14 (X5 false).sz 0 (d++[(Zm6 l k s)]).length]),Zlb,.live (Xe 78 (X5 false) (d++[(Zm6 l k s)])),.live (.box 106 [dB true,(Zlc x),(Zl7 x),.own 12 (kE false).sz 0 (Zly x l k L s).length]),(Zm1 x l k L s),.live (.box 70 [.ptr 5 0,Zl9,dI s,dB false,(Zm4 E),(Zm5 E),.own 13 (X0 false).sz 0 ([]:List X6).length,.own 15 (X5 false).sz 0 (d++[(Zm6 l k s)]).length]),Zle,.live (Xe 78 (X5 false) (d++[(Zm6 l k s)])),Zlf]) rfl rfl hG)
  refine sD [[],[],[],[1,2],[1,2,3],[0,1,2,3,4],[0,1,2,3,4,5],[0,1,2,3,4,5,6],[0,1,2,3,4,5,6,7],[0,1,2,3,4,5,6,7,8],[0,1,2,3,4,5,6,7,8,9],[0,1,2,3,4,5,6,7,8,9,10]] [hR 3 rfl rfl (Wc false false (Y2 false) l k (k:=.i64) (i:=((k:Nat):Int)) Try.underlying24 Jr rfl rfl ‹_› (X8 rfl) trivial),hR 5 rfl rfl (rCa (Fv (fOf x.Wj) (cOf (max 1 x.Xg)) (Yt L) L s t w d E (l.getD k X2) ‹_› ‹_› (by rfl) (by omega) (by omega) (by omega) (by omega) (by omega) ‹_› ‹_› ‹_› ‹_› ‹_› ‹_›) Try.func9 [0,1,2,3,4,5,6,7,8,9,10,12,13] [(.tmp 18,Zls),(.tmp 22,(Zlt l k))] 11 13),hY0 8,hS 9 (oY (b:=false) rfl rfl rfl rfl (X8 rfl) rfl (rCa (X3k (fOf x.Wj) (cOf (max 1 x.Xg)) (Yt (Yj (fOf x.Wj) (cOf (max 1 x.Xg)) L (l.getD k X2) s)) (Yj (fOf x.Wj) (cOf (max 1 x.Xg)) L (l.getD k X2) s) s (V0 (fOf x.Wj) (cOf (max 1 x.Xg)) L s t (l.getD k X2)) (Wu (fOf x.Wj) (cOf (max 1 x.Xg)) L s w (l.getD k X2)) d E (by omega) ‹_› ‹_›) Try.func10 [0,1,2,3,4,5,12,7,13,9,10] [(.tmp 26,Zls)] 11 11)),hY0 10,hP0 11] ?_
  refine cF (b:=(!true)) rfl (T.skip (nB (nT (xK [hR 1 rfl rfl (Y9 (u1:=.int .i64 ((k:Nat):Int)) (u2:=.int .i64 1) (v:=.int .i64 ((k+1:Nat):Int)) (W6 pZ5) (X8 rfl) ⟨rfl,trivial⟩)] ?_))))
  refine nLb (k+1,(Yj (fOf x.Wj) (cOf (max 1 x.Xg)) L (l.getD k X2) s),s,(V0 (fOf x.Wj) (cOf (max 1 x.Xg)) L s t (l.getD k X2)),(Wu (fOf x.Wj) (cOf (max 1 x.Xg)) L s w (l.getD k X2)),d,E) ⟨(show (k+1)≤l.length from (by omega)),(show (Yj (fOf x.Wj) (cOf (max 1 x.Xg)) L (l.getD k X2) s).length≤(k+1) from p1z),(show 0≤s∧s≤(((k+1):Nat):Int) from (by omega)),(show d.length≤(k+1) from (by omega)),(show (V0 (fOf x.Wj) (cOf (max 1 x.Xg)) L s t (l.getD k X2)).length≤(k+1) from (by exact Nat.le_trans X5d (by omega))),(show (Wu (fOf x.Wj) (cOf (max 1 x.Xg)) L s w (l.getD k X2)).length≤(k+1) from (by exact Nat.le_trans X5a (by omega))),(show Vj (V0 (fOf x.Wj) (cOf (max 1 x.Xg)) L s t (l.getD k X2)) (Wu (fOf x.Wj) (cOf (max 1 x.Xg)) L s w (l.getD k X2)) from (by exact X5z hrw)),(show E.X4=1000∧E.X9.length≤5000 from ‹_›)⟩ (show (l.length-(k+1):Nat)<l.length-k from (by omega)) (fun _ _ hG=>Wp [0,1,2,3,4,5,12,7,13,9,10,11] (bm 7 98) (t1:=(Zlu l k)) (h1:=[(Zl8 x),(Zlz x l k L s),(Zm3 s d),.live (mpK (W0 .i64) (Xi false) (V0 (fOf x.Wj) (Zl6 x) L s t (l.getD k X2))),(Zlp d),.live (.box 106 [dB true,(Zlc x),(Zl7 x),.own 12 (kE false).sz 0 (Zly x l k L s).length]),(Zm1 x l k L s),.live (.box 70 [.ptr 5 0,Zl9,dI s,dB true,(Zm4 E),(Zm5 E),.own 13 (X0 false).sz 0 (Wu (fOf x.Wj) (Zl6 x) L s w (l.getD k X2)).length,(Zlq d)]),.live (Xe 116 (X0 false) (Wu (fOf x.Wj) (Zl6 x) L s w (l.getD k X2))),(Zlp d),.live (.box 48 [(Zm4 E),(Zm5 E)]),Zlf]) rfl rfl hG)
 refine cF (dF hq4) (T.exit (xT (xT (xH (nT (sR [hR 1 rfl rfl (rCa (X3k (fOf x.Wj) (cOf (max 1 x.Xg)) (Yt L) L s t w d E (by omega) ‹_› ‹_›) Try.func10 [0,1,2,3,4,5,6,7,8,9,10] [(.tmp 30,Zls)] 11 11),hS 3 (oY (b:=true) rfl rfl rfl rfl (X8 rfl) rfl (rCa (Ux  ) Try.func11 [] [] 0 0)),hP1 4] (T.ret ?_)))))))
 exact eRt 4 (Zm2) [] rfl trivial
end Go.Proofs.Ythnefnknoahbkaa.Q
